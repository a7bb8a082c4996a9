/- Parts. -/
import Derived.Test.YtaddadondmaeaaaDoorSb4
set_option linter.unusedVariables false
set_option linter.unusedSimpArgs false
set_option linter.unusedSectionVars false
namespace Go.Sx
theorem row_more (g:LL)(v:Nat):row (g++[[]]) v=row g v:=by
 unfold row
 rw[List.getD_eq_getElem?_getD,List.getD_eq_getElem?_getD]
 by_cases h:v<g.length
 ·rw[List.getElem?_append_left h]
 ·rw[List.getElem?_append_right (by omega),List.getElem?_eq_none (show g.length≤v by omega)]
  by_cases h2:v-g.length=0
  ·rw[h2];rfl
  ·rw[List.getElem?_eq_none (by simp;omega)]
theorem GOk.more {g:LL}(hg:GOk g)(h16:g.length<16):GOk (g++[[]]):=by
 have hl:(g++[[]]).length=g.length+1:=by simp
 have hadj:∀u v,adj (g++[[]]) u v↔adj g u v:=λu v=>by unfold adj;rw[row_more]
 have hn:∀u v,adj g u v→u<g.length:=λu v h=>by
  apply Classical.byContradiction
  intro hc
  unfold adj row at h
  rw[List.getD_eq_getElem?_getD,List.getElem?_eq_none (by omega)] at h
  simp at h
 refine⟨by omega,by omega,λv _=> ?_,λv _ h=> ?_,λu v _ h=> ?_⟩
 ·rw[row_more]
  by_cases hv:v<g.length
  ·exact⟨(hg.rows v hv).1,λx hx=>by have:=(hg.rows v hv).2 x hx;omega⟩
  ·unfold row
   rw[List.getD_eq_getElem?_getD,List.getElem?_eq_none (by omega)]
   exact⟨by simp[Inc],by simp⟩
 ·rw[hadj] at h;exact hg.irr v (hn v v h) h
 ·rw[hadj] at h ⊢;exact hg.sym u v (hn u v h) h
theorem AddedVertex_ok {g:LL}(hg:GOk g)(h16:g.length<16){x:LI}(hx:SetOf x (g.length:Int)):
  ∃y,D.w0 g x=some y∧(GOk y.1∧y.1.length=g.length+1∧∀u w:Nat,adj y.1 u w↔adj g u w∨(u=g.length∧(w:Int)∈x)∨(w=g.length∧(u:Int)∈x)):=by
 have hxl:=hx.length_le (by omega)
 unfold D.w0 D.b
 rw[spec_SetOk_eq g x hg.sh2 (by unfold Sh;omega),Cx hg,(Dm _ _).2 hx,bs]
 simp only[Bool.and_self,Bool.not_true,cond_false,bs]
 rw[show ((g.length:Int)==16)=false by simp;omega,cond_false,CV hg,bs,A7 (by simp;omega),bs]
 refine Bn (λs=>∃i:Nat,s.1=(i:Int)∧i≤x.length∧GOk s.2∧s.2.length=g.length+1∧∀u w:Nat,adj s.2 u w↔adj g u w∨(u=g.length∧(w:Int)∈x.take i)∨(w=g.length∧(u:Int)∈x.take i)) (λs=>x.length-s.1.toNat)
  (λG=>GOk G∧G.length=g.length+1∧∀u w:Nat,adj G u w↔adj g u w∨(u=g.length∧(w:Int)∈x)∨(w=g.length∧(u:Int)∈x)) ?_ ⟨0,rfl,by omega,hg.more h16,by simp,λu w=>by unfold adj;rw[row_more];simp⟩ (λG hG=>⟨_,rfl,hG⟩)
 ·rintro⟨_,G⟩ ⟨i,rfl,hi,hG,hGl,hA⟩
  dsimp only at hG hGl hA ⊢
  by_cases hil:i<x.length
  ·skip
   have hr:=hx.2 _ (List.getElem_mem hil)
   obtain⟨u,hu⟩:∃u:Nat,x[i]=(u:Int):=⟨x[i].toNat,by omega⟩
   obtain⟨G',e,k1,k2,k3⟩:=Cr hG (u:=u) (v:=g.length) (by omega) (by omega) (by omega)
   rw[dlt hil,cond_true,AJ hil,bs,hu,e,bs,wi (by omega)]
   refine⟨_,rfl,⟨i+1,rfl,by omega,k1,by dsimp only;omega,λa b=> ?_⟩,by dsimp only;omega⟩
   dsimp only
   rw[k3,hA,List.take_succ_eq_append_getElem hil,hu]
   simp only[List.mem_append,List.mem_singleton,Int.natCast_inj]
   constructor
   ·rintro((h|⟨h1,h2⟩|⟨h1,h2⟩)|⟨h1,h2⟩|⟨h1,h2⟩)
    ·exact .inl h
    ·exact .inr (.inl ⟨h1,.inl h2⟩)
    ·exact .inr (.inr ⟨h1,.inl h2⟩)
    ·exact .inr (.inr ⟨h2,.inr h1⟩)
    ·exact .inr (.inl ⟨h1,.inr h2⟩)
   ·rintro(h|⟨h1,h2|h2⟩|⟨h1,h2|h2⟩)
    ·exact .inl (.inl h)
    ·exact .inl (.inr (.inl ⟨h1,h2⟩))
    ·exact .inr (.inr ⟨h1,h2⟩)
    ·exact .inl (.inr (.inr ⟨h1,h2⟩))
    ·exact .inr (.inl ⟨h2,h1⟩)
  ·obtain rfl:i=x.length:=by omega
   simp only[Bm,cond_false]
   rw[List.take_length] at hA
   exact⟨_,rfl,hG,hGl,hA⟩
theorem l2Of_ok {g:LL}(hg:GOk g){L:LI}(h1:1≤L.length)(h16:L.length≤16)(hr:∀x∈L,0≤x∧x<g.length):
  ∃y,D.H0 g L=some y∧(GOk y∧y.length=L.length∧∀i j,adj y i j↔i<L.length∧j<L.length∧adj g (L.getD i 0).toNat (L.getD j 0).toNat):=by
 have hat:∀i (hi:i<L.length),∃v:Nat,L[i]=(v:Int)∧v<g.length∧(L.getD i 0).toNat=v:=λi hi=>by
  have:=hr _ (List.getElem_mem hi)
  exact⟨L[i].toNat,by omega,by omega,by rw[AY hi]⟩
 unfold D.H0
 rw[l1Empty_eq _ h16,bs]
 refine Bn (λs=>∃v:Nat,s.1=(v:Int)∧v≤L.length∧GOk s.2∧s.2.length=L.length∧∀x y,adj s.2 x y↔(x<v∧y<v)∧adj g (L.getD x 0).toNat (L.getD y 0).toNat) (λs=>L.length-s.1.toNat)
  (λy=>GOk y∧y.length=L.length∧∀i j,adj y i j↔i<L.length∧j<L.length∧adj g (L.getD i 0).toNat (L.getD j 0).toNat) ?_ ⟨0,rfl,by omega,GOk.empty h1 h16,by simp,λx y=>⟨λh=> ?_,λh=>by omega⟩⟩ (λr hr=>⟨r,rfl,hr⟩)
 ·rintro⟨_,G⟩ ⟨v,rfl,hv,hG,hl,hA⟩
  dsimp only at hG hl hA ⊢
  by_cases hvn:v<L.length
  ·rw[dlt hvn,cond_true]
   obtain⟨a,ea,han,ea'⟩:=hat v hvn
   refine Bn (λs=>∃t:Nat,s.1=(t:Int)∧t≤v∧GOk s.2∧s.2.length=L.length∧∀x y,adj s.2 x y↔((x<v∧y<v)∨(x=v∧y<t)∨(y=v∧x<t))∧adj g (L.getD x 0).toNat (L.getD y 0).toNat) (λs=>v-s.1.toNat)
    (λr=>GOk r∧r.length=L.length∧∀x y,adj r x y↔(x<v+1∧y<v+1)∧adj g (L.getD x 0).toNat (L.getD y 0).toNat) ?_ ⟨0,rfl,by omega,hG,hl,λx y=>by rw[hA];simp⟩ (λr hr=>⟨_,rfl,⟨v+1,wi (by omega),by omega,hr⟩,?_⟩)
   ·rintro⟨_,G⟩ ⟨t,rfl,ht,hG,hl,hA⟩
    dsimp only at hG hl hA ⊢
    by_cases htv:t<v
    ·have htL:t<L.length:=by omega
     obtain⟨b,eb,hbn,eb'⟩:=hat t htL
     rw[dlt htv,cond_true,AJ hvn,bs,AJ htL,bs,ea,eb,C4 g hg han,bs,wq t]
     by_cases hc:(b:Int)∈row g a
     ·have c1:adj g a b:=hc
      have c2:adj g b a:=hg.sym a b han c1
      obtain⟨G',e,k1,k2,k3⟩:=Cr hG (u:=t) (v:=v) (by omega) (by omega) (by omega)
      rw[decide_eq_true hc,cond_true,e,bs]
      refine⟨_,rfl,⟨t+1,rfl,by omega,k1,by dsimp only;omega,λx y=> ?_⟩,by dsimp only;omega⟩
      dsimp only
      rw[k3,hA]
      constructor
      ·rintro(⟨h3,h4⟩|⟨rfl,rfl⟩|⟨rfl,rfl⟩)
       ·exact⟨by omega,h4⟩
       ·exact⟨by omega,by rw[ea',eb'];exact c2⟩
       ·exact⟨by omega,by rw[ea',eb'];exact c1⟩
      ·rintro⟨h3,h4⟩
       by_cases d1:x=v∧y=t
       ·exact .inr (.inr d1)
       ·by_cases d2:x=t∧y=v
        ·exact .inr (.inl d2)
        ·exact .inl ⟨by omega,h4⟩
     ·have c1:¬adj g a b:=hc
      have c2:¬adj g b a:=λh=>c1 (hg.sym b a hbn h)
      rw[decide_eq_false hc,cond_false]
      refine⟨_,rfl,⟨t+1,rfl,by omega,hG,hl,λx y=> ?_⟩,by dsimp only;omega⟩
      dsimp only
      rw[hA]
      constructor
      ·rintro⟨h3,h4⟩;exact⟨by omega,h4⟩
      ·rintro⟨h3,h4⟩
       refine⟨?_,h4⟩
       by_cases d1:x=v∧y=t
       ·obtain⟨rfl,rfl⟩:=d1
        rw[ea',eb'] at h4;exact absurd h4 c1
       ·by_cases d2:x=t∧y=v
        ·obtain⟨rfl,rfl⟩:=d2
         rw[ea',eb'] at h4;exact absurd h4 c2
        ·omega
    ·obtain rfl:t=v:=by omega
     simp only[Bm,cond_false]
     refine⟨_,rfl,hG,hl,λx y=> ?_⟩
     rw[hA]
     constructor
     ·rintro⟨h3,h4⟩;exact⟨by omega,h4⟩
     ·rintro⟨h3,h4⟩
      refine⟨?_,h4⟩
      by_cases d:x=t∧y=t
      ·obtain⟨rfl,rfl⟩:=d
       rw[ea'] at h4;exact absurd h4 (hg.irr a han)
      ·omega
   ·dsimp only
    rw[wi (by omega)];omega
  ·obtain rfl:v=L.length:=by omega
   simp only[Bm,cond_false]
   refine⟨_,rfl,hG,hl,λx y=> ?_⟩
   rw[hA,and_assoc]
 ·unfold adj row at h
  rw[List.getD_eq_getElem?_getD,List.getElem?_replicate] at h
  split at h<;>simp at h
def lf (xs:List (Int×Int))(v:Nat):Int:=(xs.getD v (0,0)).1
def rt (xs:List (Int×Int))(v:Nat):Int:=(xs.getD v (0,0)).2
def meetB (xs:List (Int×Int))(u v:Nat):Bool:=decide (lf xs u≤rt xs v)&&decide (lf xs v≤rt xs u)
structure IvL (xs:List (Int×Int)):Prop where
 n1:1≤xs.length
 n16:xs.length≤16
 ok:∀x∈xs,0≤x.1∧x.1≤x.2∧x.2≤100
def rowI (xs:List (Int×Int))(v m:Nat):LI:=((List.range m).filter λu=>decide (u≠v)&&meetB xs u v).map Int.ofNat
def gI (xs:List (Int×Int)):LL:=(List.range xs.length).map λv=>rowI xs v xs.length
section
variable {xs : List (Int × Int)} (h : IvL xs)
include h
end
end Go.Sx

namespace Go.Sx
section
variable {g : LL} (hg : GOk g) {l o : LI} (hl : GC g l) (h16 : l.length ≤ 16) (ho : Goes l 0 o) (hol : o.length ≤ 32)
include hg hl h16 ho hol
end
end Go.Sx

namespace Go.Sx
section
variable {g : LL} (hg : GOk g)
include hg
end
end Go.Sx

namespace Go.Sx
section
variable {g : LL} (hg : GOk g)
include hg
end
end Go.Sx

namespace Go.Sx
abbrev ap (a b:Nat):Int×Int:=((a:Int),(b:Int))
section
variable {g : LL} (hg : GOk g)
include hg
end
end Go.Sx

namespace Go.Sx
section
variable {g : LL} (hg : GOk g)
include hg
end
end Go.Sx

namespace Go.Sx
abbrev Vx (n at' x:Nat):Prop:=x<n∧x≠at'
def PP (F:LI)(n:Nat)(S:Nat→Prop):Prop:=∀c x,S c→S x→x≠c→(∀w,Ad F c w→Cn (Ad F) (Vx n c) x w→S w)∧∀y,S y→y≠c→Cn (Ad F) (Vx n c) x y→Cn (Ad F) (λz=>S z∧z≠c) x y
def Two (S:Int):Prop:=∃x y,El S x∧El S y∧x≠y
section
variable {F : LI} {n : Nat} (hn : n ≤ 16) (hF : FOk F n)
include hn hF
end
end Go.Sx

namespace Go.Sx
section
variable {g : LL} (hg : GOk g)
include hg
end
end Go.Sx

namespace Go.Sx
def pr (a b:Nat):LI:=[(a:Int),(b:Int)]
def Clo (g:LL)(u v a b:Nat):Prop:=∀T:Nat→Nat→Prop,T u v→T v u→(∀a b w,T a b→adj g a w→Cn (adj g) (Vx g.length a) b w→T a w∧T w a)→T a b
section
variable {g : LL} (hg : GOk g) {u v : Nat}
include hg
end
end Go.Sx

namespace Go.Sx
section
variable {g : LL} (hg : GOk g) {u v : Nat}
include hg
end
end Go.Sx

namespace Go.Sx
section
variable {g : LL} (hg : GOk g)
include hg
end
end Go.Sx

namespace Go.Sx
section
variable {g : LL} (hg : GOk g)
include hg
end
end Go.Sx

namespace Go.Sx
section
variable {g : LL} {o F L : LI} (hg : GOk g) (ho : OOk g o) (hF : Fill g o F L)
include hg ho hF
end
end Go.Sx

namespace Go.Sx
section
variable {g : LL} {o F L : LI} (hg : GOk g) (ho : OOk g o) (hF : Fill g o F L)
include hg ho hF
end
end Go.Sx

namespace Go.Sx
structure PB (g bags:LL):Prop where
 n16:bags.length≤16
 sets:∀i,i<bags.length→SetOf (bags.getD i []) g.length
 some:∀i,i<bags.length→bags.getD i []≠[]
 all:∀v:Nat,v<g.length→∃i,i<bags.length∧(v:Int)∈bags.getD i []
 edge:∀u v:Nat,u<g.length→adj g u v→∃i,i<bags.length∧(u:Int)∈bags.getD i []∧(v:Int)∈bags.getD i []
 run:∀(v:Nat) (i j k:Nat),i<j→j<k→k<bags.length→(v:Int)∈bags.getD i []→(v:Int)∈bags.getD k []→(v:Int)∈bags.getD j []
section
variable {g : LL} {o : LI} (hg : GOk g) (ho : OOk g o)
include hg ho
end
section
variable {g : LL} {o : LI} (hg : GOk g) (ho : OOk g o)
include hg ho
end
section
variable {g bags : LL} (hg : GOk g) (h : PB g bags)
include hg h
end
section
variable {g : LL} {o : LI} (hg : GOk g) (ho : OOk g o)
include hg ho
end
end Go.Sx

namespace Go.Sx
section
variable {B K : LL} (hB : Sh2 B) (hK : Sh2 K)
include hB hK
end
theorem D3 {α:Type}(p:Nat→Bool)(f:Nat→α)(s0:List α)(x:α):∀n,x∈(List.range n).foldl (λs i=>if p i then s++[f i] else s) s0↔x∈s0∨∃i,i<n∧p i=true∧x=f i
 |0=>by simp
 |n+1=>by
  rw[List.range_succ,List.foldl_append,List.foldl_cons,List.foldl_nil]
  have ih:=D3 p f s0 x n
  by_cases hp:p n=true
  ·rw[if_pos hp,List.mem_append,ih]
   constructor
   ·rintro((h|⟨i,h1,h2⟩)|h)
    ·exact .inl h
    ·exact .inr ⟨i,by omega,h2⟩
    ·simp at h;exact .inr ⟨n,by omega,hp,h⟩
   ·rintro(h|⟨i,h1,h2,h3⟩)
    ·exact .inl (.inl h)
    ·by_cases e:i=n
     ·subst e;exact .inr (by simp[h3])
     ·exact .inl (.inr ⟨i,by omega,h2,h3⟩)
  ·rw[if_neg hp,ih]
   constructor
   ·rintro(h|⟨i,h1,h2⟩)
    ·exact .inl h
    ·exact .inr ⟨i,by omega,h2⟩
   ·rintro(h|⟨i,h1,h2,h3⟩)
    ·exact .inl h
    ·by_cases e:i=n
     ·subst e;exact absurd h2 hp
     ·exact .inr ⟨i,by omega,h2,h3⟩
theorem mem_rowF (r:LI)(u:Nat)(s:LL)(x:LI):x∈rowF r u s↔x∈s∨∃v∈r,(u:Int)<v∧x=[(u:Int),v]:=by
 unfold rowF
 have:=D3 (λi=>decide ((u:Int)<r.getD i 0)) (λi=>[(u:Int),r.getD i 0]) s x r.length
 simp only[decide_eq_true_eq] at this
 rw[this]
 constructor
 ·rintro(h|⟨i,h1,h2,h3⟩)
  ·exact .inl h
  ·rw[AY h1] at h2 h3
   exact .inr ⟨r[i],List.getElem_mem h1,h2,h3⟩
 ·rintro(h|⟨v,h1,h2,h3⟩)
  ·exact .inl h
  ·obtain⟨i,hi,rfl⟩:=List.getElem_of_mem h1
   exact .inr ⟨i,hi,by rw[AY hi];exact h2,by rw[AY hi];exact h3⟩
theorem mem_edgesF {g:LL}(hg:GOk g)(x:LI):x∈Ca g↔∃u v:Nat,u<g.length∧adj g u v∧u<v∧x=[(u:Int),(v:Int)]:=by
 have key:∀n,n≤g.length→(x∈(List.range n).foldl (λs u=>rowF (row g u) u s) []↔∃u v:Nat,u<n∧adj g u v∧u<v∧x=[(u:Int),(v:Int)]):=by
  intro n
  induction n with
  |zero=>intro _;simp
  |succ n ih=>
   intro hn
   rw[List.range_succ,List.foldl_append,List.foldl_cons,List.foldl_nil,mem_rowF,ih (by omega)]
   constructor
   ·rintro(⟨u,v,h1,h2⟩|⟨v,h1,h2,h3⟩)
    ·exact⟨u,v,by omega,h2⟩
    ·obtain⟨w,rfl,hw,ha⟩:=hg.mem (by omega) h1
     exact⟨n,w,by omega,ha,by omega,h3⟩
   ·rintro⟨u,v,h1,h2,h3,h4⟩
    by_cases e:u=n
    ·subst e;exact .inr ⟨v,h2,by omega,h4⟩
    ·exact .inl ⟨u,v,by omega,h2,h3,h4⟩
 exact key g.length (Nat.le_refl _)
section
variable {g B K : LL} (hg : GOk g) (hB : Sh2 B) (hK : Sh2 K)
include hg hB hK
end
end Go.Sx

namespace Go.Sx
section
variable {g B K : LL} (hg : GOk g) (hs : ∀ b ∈ B, SetOf b (g.length : Int)) (hBl : B.length ≤ 16)
include hg hs hBl
end
section
variable {g B K : LL} (hg : GOk g) (hB : Sh2 B) (hK : Sh2 K)
include hg hB hK
end
end Go.Sx

namespace Go.Sx
def prt (s t:Int):Bool:=(iandNot .u32 s t)==0
structure TS (M:LI)(K:LL):Prop where
 n16:M.length≤16
 vs:∀s∈M,VS s
 lk:∀l∈K,LinkIn M.length l
 k16:K.length≤16
section
variable {M : LI} {K : LL} (h : TS M K) {g k : Nat} (hg : g < M.length) (hk : k < M.length) (hgk : g ≠ k)
include h hg hk hgk
end
def spareM (M:LI)(l:LI):Option (Nat×Nat):=
 if prt (M.getD (l.getD 1 0).toNat 0) (M.getD (l.getD 0 0).toNat 0) then some ((l.getD 1 0).toNat,(l.getD 0 0).toNat)
 else if prt (M.getD (l.getD 0 0).toNat 0) (M.getD (l.getD 1 0).toNat 0) then some ((l.getD 0 0).toNat,(l.getD 1 0).toNat) else none
def spare (M:LI)(K:LL):Option (Nat×Nat):=(List.range K.length).findSome? (λi=>spareM M (K.getD i []))
section
variable {M : LI} {K : LL} (h : TS M K)
include h
end
end Go.Sx

namespace Go.Sx
section
variable {G : LL} {M : LI} {K : LL} (h : TS M K) (hT : TB G (M.map Ax) K) {g k : Nat} (hg : g < M.length) (hk : k < M.length) (hgk : g ≠ k)
include h hT hg hk hgk
end
end Go.Sx

namespace Go.Sx
section
variable {g : LL} (hg : GOk g)
include hg
end
end Go.Sx

namespace Go.Sx
section
variable {g : LL} (hg : GOk g)
include hg
def prs (P:List (Nat×Nat)):LL:=P.map λp=>pr p.1 p.2
end
end Go.Sx

namespace Go.Sx
section
variable {g : LL} (hg : GOk g)
include hg
end
end Go.Sx

namespace Go.Sx
section
variable {g : LL} (hg : GOk g)
include hg
end
end Go.Sx

namespace Go.Sx
section
variable {g : LL} (hg : GOk g)
include hg
end
end Go.Sx

namespace Go.Sx
section
variable {g : LL} (hg : GOk g)
include hg
end
end Go.Sx

namespace Go.Sx
section
variable {g : LL} (hg : GOk g)
include hg
end
end Go.Sx

namespace Go.Sx
section
variable {g : LL} (hg : GOk g)
include hg
end
end Go.Sx

namespace Go.Sx
theorem sumN_upd {f f':Nat→Nat}{i0 d:Nat}:∀{m:Nat},i0<m→(∀i,i≠i0→f' i=f i)→f' i0=f i0+d→BD f' m=BD f m+d
 |0,h,_,_=>absurd h (Nat.not_lt_zero _)
 |m+1,h,h1,h2=>by
  simp only[BD]
  by_cases hm:m=i0
  ·subst hm
   rw[h2,BW (n:=m) (λi hi=>h1 i (by omega))]
   omega
  ·rw[sumN_upd (show i0<m by omega) h1 h2,h1 m hm]
   omega
theorem sumN_le {f g:Nat→Nat}:∀{m:Nat},(∀i,i<m→f i≤g i)→BD f m≤BD g m
 |0,_=>Nat.le_refl _
 |m+1,h=>by simp only[BD];have:=sumN_le (m:=m) (λi hi=>h i (by omega));have:=h m (by omega);omega
def wst (A:Nat→Nat→Bool)(s v u:Nat):Bool:=A v u&& !s.testBit u
def wcnF (A:Nat→Nat→Bool)(n:Nat)(L:Nat→Bool):Nat→Nat→Nat→Nat
 |0,_,_=>0
 |k+1,s,v=>if s=2^n-1 then bit (L v) else BD (λu=>bit (wst A s v u)*wcnF A n L k (s|||2^u) u) n
def wcn (A:Nat→Nat→Bool)(n:Nat)(L:Nat→Bool)(s v:Nat):Nat:=wcnF A n L (2^n) s v
def rm (n:Nat)(m:Int):Int:=iandNot .u32 (full n) m
theorem DA {v w:Nat}{m:Int}(hm:VS m)(hv:v<32):has (ior .u32 m (ishl .u32 1 (v:Int))) w=(has m w||decide (w=v)):=by
 rw[Df hm (VS.ishl _ _),CT hv]
noncomputable def bh (F:LI)(m v:Int):Int:=(D.k1 F m v).getD 0
noncomputable def Cb (p:Prop):Nat:=by classical exact if p then 1 else 0
theorem C5 {p:Prop}(h:p):Cb p=1:=by unfold Cb;rw[if_pos h]
theorem CR {p:Prop}(h:¬p):Cb p=0:=by unfold Cb;rw[if_neg h]
theorem indP_le {p q:Prop}(h:p→q):Cb p≤Cb q:=by
 by_cases hp:p
 ·rw[C5 hp,C5 (h hp)];exact Nat.le_refl _
 ·rw[CR hp];exact Nat.zero_le _
noncomputable def CN (n:Nat)(p:Nat→Prop):Nat:=BD (λv=>Cb (p v)) n
theorem cntP_le {n:Nat}{p q:Nat→Prop}(h:∀v,v<n→p v→q v):CN n p≤CN n q:=sumN_le (λv hv=>indP_le (h v hv))
theorem sumN_lt {f g:Nat→Nat}{i m:Nat}(h:∀j,j<m→f j≤g j)(hi:i<m)(hlt:f i<g i):BD f m<BD g m:=by
 induction m with
 |zero=>omega
 |succ m ih=>
  simp only[BD]
  have h1:=h m (by omega)
  by_cases e:i=m
  ·subst e
   have:=sumN_le (f:=f) (g:=g) (m:=i) (λj hj=>h j (by omega))
   omega
  ·have:=ih (λj hj=>h j (by omega)) (by omega)
   omega
theorem exists_min {α:Type}{P:α→Prop}(f:α→Nat)(h:∃x,P x):∃x,P x∧∀y,P y→f x≤f y:=by
 obtain⟨x,hx⟩:=h
 generalize hk:f x=k
 induction k using Nat.strongRecOn generalizing x with
 |_ k ih=>
  by_cases hc:∃y,P y∧f y<k
  ·obtain⟨y,hy,hlt⟩:=hc
   exact ih _ hlt y hy rfl
  ·refine⟨x,hx,λy hy=> ?_⟩
   apply Classical.byContradiction
   intro h
   exact hc ⟨y,hy,by omega⟩
section
variable (A : Nat → Nat → Prop) (n : Nat)
def EdI (e:Nat):Prop:=e<n*n∧(e/n=e%n∨A (e/n) (e%n))
def AtI (v:Nat)(P:Nat→Prop):Prop:=∃e,EdI A n e∧P e∧(e/n=v∨e%n=v)
def TI (X:BitVec (n*n))(v:Nat):Prop:=AtI A n v λe=>X.getLsbD e=true
def BdI (X:BitVec (n*n))(v:Nat):Prop:=TI A n X v∧TI A n (~~~X) v
def DelI (m:List (BitVec (n*n)))(v:Nat):Prop:=∃X∈m,BdI A n X v
end
def DisI {N:Nat}(X Y:BitVec N):Prop:=∀e,¬(X.getLsbD e=true∧Y.getLsbD e=true)
def PartI {N:Nat}(m:List (BitVec N)):Prop:=m.Pairwise DisI∧∀e,e<N→∃X∈m,X.getLsbD e=true
section
variable {A : Nat → Nat → Prop} {n k : Nat}
end
end Go.Sx

namespace Go.Sx
def PermN (m:Nat)(f:Nat→Nat):Prop:=(∀x,x<m→f x<m)∧∀x y,x<m→y<m→f x=f y→x=y
section
variable {m : Nat} {f : Nat → Nat}
variable {da : Nat → Prop}
variable (h : PermN m f) (hc : ∀ x, x < m → da x → da (f x)) {S : Nat → Prop} {b d : Nat}
include h hc
variable {face : Nat → LI} {out : LL}
end
end Go.Sx

namespace Go.Sx
def nx (t:LI)(x:Int):Int:=t.getD ((t.idxOf x+1)%t.length) 0
theorem nodup_idx {t:LI}(hn:t.Nodup){i j:Nat}(hi:i<t.length)(hj:j<t.length)(e:t[i]=t[j]):i=j:=by
 rw[List.nodup_iff_pairwise_ne,List.pairwise_iff_getElem] at hn
 rcases Nat.lt_trichotomy i j with h|h|h
 ·exact absurd e (hn i j hi hj h)
 ·exact h
 ·exact absurd e.symm (hn j i hj hi h)
structure Rot (g T:LL):Prop where
 ok:GOk g
 len:T.length=g.length
 rows:∀v,v<g.length→RowOk (row T v) (row g v)
section
variable {g T : LL} (R : Rot g T)
include R
end
section
variable {g T : LL} (R : Rot g T)
include R
end
end Go.Sx

namespace Go.Sx
section
variable {g T : LL} (R : Rot g T)
include R
end
end Go.Sx

namespace Go.Sx
section
variable {g T : LL} (R : Rot g T)
include R
end
end Go.Sx

namespace Go.Sx
section
variable {g T : LL} (R : Rot g T)
include R
end
end Go.Sx

namespace Go.Sx
def Pot (n:Nat)(h w:Nat→Nat→Nat)(a:Nat):Nat:=BD (λk=>BD (λu=>(if a≤k then w k u else 0)*h k u) n) (2^n)
def zer (n s:Nat):Nat:=BD (λu=>bit (!s.testBit u)) n
section
variable {F : LI} {n : Nat} (hF : FOk F n) (h1 : 1 ≤ n) (h16 : n ≤ 16)
include hF h1 h16
end
end Go.Sx

namespace Go.Sx
section
variable {F : LI} {n : Nat} (hF : FOk F n) (h1 : 1 ≤ n) (h16 : n ≤ 16)
include hF h1 h16
end
end Go.Sx

namespace Go.Sx
section
variable {g : LL} (hg : GOk g)
include hg
end
end Go.Sx

namespace Go.Sx
section
variable {g : LL} (hg : GOk g)
include hg
end
end Go.Sx

namespace Go.Sx
section
variable {g : LL} (hg : GOk g)
include hg
end
end Go.Sx

namespace Go.Sx
theorem some_of {α:Type}{e:Option α}{x:α}(h:∃r,e=some r∧r=x):e=some x:=by
 obtain⟨r,h,rfl⟩:=h
 exact h
section
variable {g : LL} (hg : GOk g)
include hg
end
end Go.Sx

namespace Go.Sx
section
variable {g : LL} (hg : GOk g)
include hg
end
end Go.Sx

namespace Go.Sx
theorem cntP_none {n:Nat}{p:Nat→Prop}(h:∀v,v<n→¬p v):CN n p=0:=by
 unfold CN
 rw[BW (g:=λ_=>0) (λv hv=>CR (h v hv)),sumN_zero]
noncomputable def wv (F:LI)(rec:Int→Int)(m v:Int):Int:=if((Ax (bh F m v)).length:Int)<rec (ior .u32 m (ishl .u32 1 v)) then rec (ior .u32 m (ishl .u32 1 v)) else((Ax (bh F m v)).length:Int)
noncomputable def wd (F:LI)(n:Nat):Nat→Int→Int
 |0,_=>0
 |k+1,m=>(Ax (rm n m)).foldl (λb v=>if wv F (wd F n k) m v<b then wv F (wd F n k) m v else b) 16
theorem elems_cnt {n:Nat}{K:Int}(hn:n≤16)(h:In n K):(Ax K).length=CN n λv=>has K v=true:=by
 have h1:(Ax K)=((List.range n).filter (has K)).map Int.ofNat:=Inc.ext (BY _) (by
  unfold Inc
  rw[List.pairwise_map]
  refine List.Pairwise.imp (fun{a b} h=> ?_) (List.Pairwise.filter _ List.pairwise_lt_range)
  show (a:Int)<(b:Int)
  omega) (λx=>by
  rw[mem_elems,List.mem_map]
  constructor
  ·rintro⟨v,_,hv,rfl⟩
   exact⟨v,List.mem_filter.2 ⟨List.mem_range.2 (h.2 v hv),hv⟩,rfl⟩
  ·rintro⟨v,hv,rfl⟩
   rw[List.mem_filter,List.mem_range] at hv
   exact⟨v,by omega,hv.2,rfl⟩)
 rw[h1,List.length_map]
 have:∀m,((List.range m).filter (has K)).length=BD (λv=>Cb (has K v=true)) m:=by
  intro m
  induction m with
  |zero=>rfl
  |succ m ih=>
   rw[List.range_succ,List.filter_append,List.length_append,ih]
   simp only[BD]
   congr 1
   cases hk:has K m
   ·rw[CR (by simp),List.filter_cons,hk];rfl
   ·rw[C5 rfl,List.filter_cons,hk];rfl
 exact this n
section
variable {F : LI} {n k : Nat} (hn : n ≤ 16) (hF : FOk F n)
include hn hF
end
section
variable {A : Nat → Nat → Prop} {n k : Nat}
end
section
variable {F : LI} {n k : Nat} (hn : n ≤ 16) (hF : FOk F n)
include hn hF
end
end Go.Sx

namespace Go.Sx
def Tch (F:LI)(s t:Int):Prop:=∃x y,El s x∧El t y∧(x=y∨nb F x y=true)
section
variable {F : LI} {n k : Nat} (hn : n ≤ 16) (hF : FOk F n)
include hn hF
end
end Go.Sx

namespace Go.Sx
section
variable {g : LL} (hg : GOk g)
include hg
end
end Go.Sx

namespace Go.Sx
section
variable {g : LL} (hg : GOk g)
include hg
end
end Go.Sx

namespace Go.Sx
theorem Pick.inn {n a k:Nat}{c t:Int}(hn:n≤16)(h:Pick n a k c t):In n c→In n t:=by
 induction h with
 |done=>exact λh=>h
 |more h1 h2 _ ih=>
  intro hc
  refine ih ⟨VS.ior _ _,λw hw=> ?_⟩
  rw[Df hc.1 (VS.ishl _ _),CT (by omega),Bool.or_eq_true,decide_eq_true_eq] at hw
  rcases hw with hw|rfl
  ·exact hc.2 w hw
  ·exact h2
section
variable {g : LL} (hg : GOk g)
include hg
end
end Go.Sx

namespace Go.Sx
theorem cntP_add {n:Nat}{c:Int}{v:Nat}(hn:n≤16)(hc:VS c)(hv:v<n)(h:has c v=false):CN n (λu=>has (ior .u32 c (ishl .u32 1 (v:Int))) u=true)=CN n (λu=>has c u=true)+1:=
 sumN_upd (f:=λu=>Cb (has c u=true)) (f':=λu=>Cb (has (ior .u32 c (ishl .u32 1 (v:Int))) u=true)) (d:=1) hv (λi hi=>by
  show Cb (has (ior .u32 c (ishl .u32 1 (v:Int))) i=true)=Cb (has c i=true)
  rw[DA hc (by omega),decide_eq_false hi,Bool.or_false]) (by
  show Cb (has (ior .u32 c (ishl .u32 1 (v:Int))) v=true)=Cb (has c v=true)+1
  rw[C5 (by rw[DA hc (by omega),decide_eq_true rfl,Bool.or_true]),CR (by rw[h];simp)])
theorem Pick.size {n a k:Nat}{c t:Int}(hn:n≤16)(h:Pick n a k c t):In n c→(∀v,has c v=true→v<a)→CN n (λu=>has t u=true)=CN n (λu=>has c u=true)+k:=by
 induction h with
 |done=>exact λ_ _=>rfl
 | @more a k v c t h1 h2 _ ih=>
  intro hc hca
  have hno:has c v=false:=by
   cases h:has c v
   ·rfl
   ·have:=hca v h;omega
  rw[ih ⟨VS.ior _ _,λw hw=> ?_⟩ (λw hw=> ?_),cntP_add hn hc.1 h2 hno]
  ·omega
  ·rw[DA hc.1 (by omega),Bool.or_eq_true,decide_eq_true_eq] at hw
   rcases hw with hw|rfl
   ·exact hc.2 w hw
   ·exact h2
  ·rw[DA hc.1 (by omega),Bool.or_eq_true,decide_eq_true_eq] at hw
   rcases hw with hw|rfl
   ·have:=hca w hw;omega
   ·omega
theorem pick_of {n:Nat}(hn:n≤16):∀(k a:Nat) (c t:Int),In n t→In n c→(∀v,has c v=true→has t v=true)→(∀v,has t v=true→has c v=false→a≤v)→(∀v,has c v=true→v<a)→CN n (λu=>has t u=true)=CN n (λu=>has c u=true)+k→Pick n a k c t:=by
 intro k
 induction k with
 |zero=>
  intro a c t ht hc hsub _ _ hcnt
  have:c=t:=hc.1.ext ht.1 (λv _=>Bool.eq_iff_iff.2 ⟨hsub v,λhv=>by
   cases hcv:has c v
   ·have:=sumN_lt (f:=λu=>Cb (has c u=true)) (g:=λu=>Cb (has t u=true)) (i:=v) (m:=n) (λj _=>indP_le (hsub j)) (ht.2 v hv) (by
     show Cb (has c v=true)<Cb (has t v=true)
     rw[C5 hv,CR (by rw[hcv];simp)]
     exact Nat.one_pos)
    have h2:BD (λu=>Cb (has t u=true)) n=BD (λu=>Cb (has c u=true)) n+0:=hcnt
    omega
   ·rfl⟩)
  rw[this]
  exact .done
 |succ k ih=>
  intro a c t ht hc hsub hge hlt hcnt
  have hex:∃v,has t v=true∧has c v=false:=by
   apply Classical.byContradiction
   intro hno
   have:CN n (λu=>has t u=true)≤CN n (λu=>has c u=true):=cntP_le (λv _ hv=>by
    cases hcv:has c v
    ·exact absurd ⟨v,hv,hcv⟩ hno
    ·rfl)
   omega
  obtain⟨v,⟨hv,hcv⟩,hmin⟩:=exists_min (P:=λv=>has t v=true∧has c v=false) id hex
  have hvn:=ht.2 v hv
  have hadd:∀u,has (ior .u32 c (ishl .u32 1 (v:Int))) u=true↔has c u=true∨u=v:=λu=>by
   rw[DA hc.1 (by omega),Bool.or_eq_true,decide_eq_true_eq]
  refine .more (hge v hv hcv) hvn (ih (v+1) _ t ht ⟨VS.ior _ _,λw hw=> ?_⟩ (λw hw=> ?_) (λw hw hcw=> ?_) (λw hw=> ?_) ?_)
  ·rcases(hadd w).1 hw with h|rfl
   ·exact hc.2 w h
   ·exact hvn
  ·rcases(hadd w).1 hw with h|rfl
   ·exact hsub w h
   ·exact hv
  ·have h1:has c w=false:=by
    cases h:has c w
    ·rfl
    ·rw[(hadd w).2 (.inl h)] at hcw;cases hcw
   have h2:=hmin w ⟨hw,h1⟩
   have h3:w≠v:=λe=>by rw[(hadd w).2 (.inr e)] at hcw;cases hcw
   have h2':v≤w:=h2
   omega
  ·rcases(hadd w).1 hw with h|rfl
   ·have:=hlt w h
    have:=hge v hv hcv
    omega
   ·omega
  ·rw[cntP_add hn hc.1 hvn hcv];omega
theorem in_zero {n:Nat}:In n 0:=⟨VS.zero,λw hw=>by rw[BT] at hw;cases hw⟩
theorem DO {n k:Nat}{t:Int}(hn:n≤16):Pick n 0 k 0 t↔In n t∧(Ax t).length=k:=by
 have h0:CN n (λu=>has 0 u=true)=0:=cntP_none (λv _ h=>by rw[BT] at h;cases h)
 constructor
 ·intro h
  have hin:=h.inn hn in_zero
  refine⟨hin,?_⟩
  rw[elems_cnt hn hin,h.size hn in_zero (λv hv=>by rw[BT] at hv;cases hv),h0,Nat.zero_add]
 ·rintro⟨hin,hl⟩
  rw[elems_cnt hn hin] at hl
  exact pick_of hn k 0 0 t hin in_zero (λv hv=>by rw[BT] at hv;cases hv) (λv _ _=>Nat.zero_le _) (λv hv=>by rw[BT] at hv;cases hv) (by rw[h0,hl,Nat.zero_add])
section
variable {g B K : LL} (hg : GOk g) (h : TB g B K)
include hg h
end
end Go.Sx

namespace Go.Sx
noncomputable def bo (F:LI)(n:Nat)(most:Int):Nat→Int→LI
 |0,_=>[]
 |k+1,m=>match(Ax (rm n m)).find? (λv=>decide (wv F (wd F n k) m v≤most)) with
  |some v=>v::bo F n most k (ior .u32 m (ishl .u32 1 v))
  |none=>[]
section
variable {g : LL} {o F L : LI} (hg : GOk g) (ho : OOk g o) (hF : Fill g o F L)
include hg ho hF
end
end Go.Sx

namespace Go.Sx
section
variable {g : LL} (hg : GOk g)
include hg
end
end Go.Sx

namespace Go.Sx
section
variable {F : LI} {n : Nat} (hn : n ≤ 16) (hF : FOk F n)
include hn hF
end
section
variable {g : LL} (hg : GOk g)
include hg
end
end Go.Sx

namespace Go.Sx
section
variable {F : LI} {n : Nat} (hn : n ≤ 16) (hF : FOk F n)
include hn hF
end
section
variable {g : LL} (hg : GOk g)
include hg
end
end Go.Sx

namespace Go.Sx
section
variable {F : LI} {n : Nat} (hn : n ≤ 16) (hF : FOk F n)
include hn hF
end
section
variable {F : LI} {n : Nat} (hn : n ≤ 16) (hF : FOk F n)
include hn hF
end
end Go.Sx

namespace Go.Sx
section
variable {g T : LL} (R : Rot g T)
include R
end
end Go.Sx

namespace Go.Sx
def adI (g:LL)(x y:Int):Prop:=∃u v:Nat,x=u∧y=v∧u<g.length∧adj g u v
def ChI (g:LL):Int→LI→Int→Prop
 |u,[],w=>adI g u w
 |u,x::q,w=>adI g u x∧ChI g x q w
def PtI (g:LL):Int→LI→Int→Prop
 |u,[],w=>u=w
 |u,x::q,w=>adI g u x∧PtI g x q w
theorem D7 {g:LL}:∀{u v w:Int} {p q:LI},PtI g u p v→(ChI g u (p++q) w↔ChI g v q w)
 |_,_,_,[],_,rfl=>Iff.rfl
 |u,v,w,x::p,q,h=>by
  show adI g u x∧ChI g x (p++q) w↔_
  rw[D7 h.2]
  exact⟨λh=>h.2,λh'=>⟨h.1,h'⟩⟩
theorem ptI_snoc {g:LL}:∀{u v x:Int} {p:LI},PtI g u p v→adI g v x→PtI g u (p++[x]) x
 |_,_,_,[],rfl,h=>⟨h,rfl⟩
 |_,_,_,_::_,h,h'=>⟨h.1,ptI_snoc h.2 h'⟩
def InW (g:LL)(U:Int→Prop)(u w:Int)(q:LI):Prop:=q.Nodup∧(∀x∈q,¬U x)∧ChI g u q w
theorem InW.congr {g:LL}{U U':Int→Prop}{u w:Int}{q:LI}(h:∀x,U x↔U' x):InW g U u w q↔InW g U' u w q:=
 ⟨fun⟨a,b,c⟩=>⟨a,λx hx hu=>b x hx ((h x).2 hu),c⟩,fun⟨a,b,c⟩=>⟨a,λx hx hu=>b x hx ((h x).1 hu),c⟩⟩
def LkW (g:LL)(hub:Int→Int):List (Int×Int)→(Int→Prop)→LL→Prop
 |[],_,l=>l=[]
 |e::ps,U,l=>∃q rest,l=(hub e.1::(q++[hub e.2]))::rest∧InW g U (hub e.1) (hub e.2) q∧LkW g hub ps (λx=>U x∨x∈q) rest
theorem LkW.congr {g:LL}{hub:Int→Int}:∀{ps:List (Int×Int)} {U U':Int→Prop} {l:LL},(∀x,U x↔U' x)→LkW g hub ps U l→LkW g hub ps U' l
 |[],_,_,_,_,h=>h
 |_::_,_,_,_,hU,⟨q,rest,h1,h2,h3⟩=>⟨q,rest,h1,(InW.congr hU).1 h2,LkW.congr (λx=>or_congr (hU x) Iff.rfl) h3⟩
def Nfr (s:Int)(x:Int):Prop:=¬∃v:Nat,x=(v:Int)∧El s v
theorem Dy {g:LL}:∀{u v:Int} {q:LI},PtI g u q v→idx (u::q) (q.length:Int)=some v
 |u,v,[],h=>by rw[show (([]:LI).length:Int)=((0:Nat):Int) from rfl,AJ (by simp)];exact congrArg some h
 |u,v,x::q,h=>by
  have ih:=Dy (u:=x) (q:=q) h.2
  rw[AJ (by simp)] at ih ⊢
  rw[←ih];rfl
theorem InW.len {g:LL}{free:Int}(hf:VS free){u w:Int}{q:LI}(h:InW g (Nfr free) u w q):q.length≤(Ax free).length:=
 DJ h.1 λx hx=>by
  obtain⟨v,rfl,hv⟩:=Classical.byContradiction λhn=>h.2.1 x hx hn
  exact(BI hf).2 hv
theorem cloneI_eq (l:LI)(h:l.length≤64):D.l0 l=some l:=by
 unfold D.l0
 rw[A7 (by simp;omega)];simp
section
variable {g : LL} (hg : GOk g)
include hg
theorem ext_ok {rec:LI→LI→List (Int×Int)→LL→Int→Int→Option (Bool×LL)}{hubs:LI}{pairs:List (Int×Int)}{kk:Int}{u w:Nat}(hu:u<g.length)(hw:w<g.length){free0:Int}(hf0:In g.length free0)(s0:LL)(G:LI→Prop)(Q:LI→LL→Prop){L:Nat}(hL:L≤32)
  (hf:∀q fr,q.length=L→InW g (Nfr free0) u w q→In g.length fr→(∀v,El fr v↔El free0 v∧(v:Int)∉q)→∃r,D.U0 rec ((u:Int)::(q++[(w:Int)])) fr (g.map mk) hubs pairs s0 kk=some r∧(r.1=false→r.2=s0∧¬G q)∧(r.1=true→G q∧Q q r.2)):
  ∀(k fuel:Nat) (q0:LI) (v:Nat) (fr:Int),k<fuel→q0.length+k=L→PtI g u q0 v→v<g.length→q0.Nodup→(∀x∈q0,¬Nfr free0 x)→In g.length fr→(∀v,El fr v↔El free0 v∧(v:Int)∉q0)→
   ∃r,D.a0 rec fuel (g.map mk) hubs pairs s0 ((u:Int)::q0) ((L+2:Nat):Int) w fr kk=some r∧(r.1=false→r.2=s0∧∀q,q.length=k→InW g (Nfr free0) u w (q0++q)→¬G (q0++q))∧(r.1=true→∃q,q.length=k∧InW g (Nfr free0) u w (q0++q)∧G (q0++q)∧Q (q0++q) r.2):=by
 have h16:=hg.n16
 intro k
 induction k with
 |zero=>
  intro fuel q0 v fr hk hlen hp hv hnd hfree hfr hfre
  obtain⟨m,rfl⟩:∃m,fuel=m+1:=⟨fuel-1,by omega⟩
  have hidx:=Dy hp
  unfold D.a0
  have hlc:(((u:Int)::q0).length:Int)=((L+1:Nat):Int):=by simp;omega
  rw[w64 (x:=(((u:Int)::q0).length:Int)-1) (by omega) (by omega),show (((u:Int)::q0).length:Int)-1=(q0.length:Int) by simp,hidx,bs,w64 (by omega) (by omega)]
  have he:((((u:Int)::q0).length:Int)==((L+2:Nat):Int)-1)=true:=by rw[beq_iff_eq];omega
  rw[he,cond_true,idx_nets hv,bs,vset_has_eq (VS.mk _) (show w<32 by omega),bs,Do (λx hx=>by have:=(hg.rows v hv).2 x hx;omega)]
  have hadI:adI g (v:Int) (w:Int)↔(w:Int)∈row g v:=by
   constructor
   ·rintro⟨a,b,h1,h2,h3,h4⟩
    obtain rfl:v=a:=by omega
    obtain rfl:w=b:=by omega
    exact h4
   ·exact λh=>⟨v,w,rfl,rfl,hv,h⟩
  by_cases ha:(w:Int)∈row g v
  ·have hin:InW g (Nfr free0) u w q0:=⟨hnd,hfree,by
    have:=(D7 (q:=[]) (w:=(w:Int)) hp).2 (hadI.2 ha)
    rwa [List.append_nil] at this⟩
   obtain⟨r,e,h1,h2⟩:=hf q0 fr (by omega) hin hfr hfre
   rw[decide_eq_true ha,cond_true,cloneI_eq _ (by simp;omega),bs,A7 (by simp;omega),bs,List.cons_append,e,bs,bs]
   refine⟨r,rfl,λh=>⟨(h1 h).1,λq hq _=> ?_⟩,λh=>⟨[],rfl,?_⟩⟩
   ·obtain rfl:=List.eq_nil_of_length_eq_zero hq
    rw[List.append_nil];exact(h1 h).2
   ·rw[List.append_nil];exact⟨hin,h2 h⟩
  ·rw[decide_eq_false ha,cond_false]
   refine⟨_,rfl,λ_=>⟨rfl,λq hq hin=> ?_⟩,λh=>(by cases h)⟩
   obtain rfl:=List.eq_nil_of_length_eq_zero hq
   exact(ha (hadI.1 ((D7 hp).1 hin.2.2))).elim
 |succ k ih=>
  intro fuel q0 v fr hk hlen hp hv hnd hfree hfr hfre
  obtain⟨m,rfl⟩:∃m,fuel=m+1:=⟨fuel-1,by omega⟩
  have hidx:=Dy hp
  unfold D.a0
  have hlc:(((u:Int)::q0).length:Int)=((q0.length+1:Nat):Int):=by simp
  rw[w64 (x:=(((u:Int)::q0).length:Int)-1) (by omega) (by omega),show (((u:Int)::q0).length:Int)-1=(q0.length:Int) by simp,hidx,bs,w64 (by omega) (by omega)]
  have he:((((u:Int)::q0).length:Int)==((L+2:Nat):Int)-1)=false:=by rw[beq_eq_false_iff_ne];omega
  have hvs:=VS.iand (mk (row g v)) fr
  have hel:=Dr (iand .u32 (mk (row g v)) fr)
  rw[he,cond_false,idx_nets hv,bs,D9 _ hvs,bs]
  have hmem:∀x:Nat,(x:Int)∈Ax (iand .u32 (mk (row g v)) fr)↔adj g v x∧El free0 x∧(x:Int)∉q0:=λx=>by
   rw[BI hvs,has_iand (VS.mk _) hfr.1,Do (λx hx=>by have:=(hg.rows v hv).2 x hx;omega),Bool.and_eq_true,decide_eq_true_eq]
   exact and_congr Iff.rfl (hfre x)
  generalize hus:Ax (iand .u32 (mk (row g v)) fr)=us at hmem hel
  have hnat:∀x∈us,∃a:Nat,x=a:=λx hx=>by
   rw[←hus] at hx
   obtain⟨a,_,_,e⟩:=mem_elems.1 hx
   exact⟨a,e⟩
  refine Bn (λs:Int×LL=>s.2=s0∧∃i:Nat,s.1=(i:Int)∧i≤us.length∧∀x∈us.take i,∀q,q.length=k→InW g (Nfr free0) u w (q0++x::q)→¬G (q0++x::q)) (λs=>us.length-s.1.toNat)
   (λz:LL ⊕ (Bool×LL)=>match z with
    | .inl l=>l=s0∧∀x∈us,∀q,q.length=k→InW g (Nfr free0) u w (q0++x::q)→¬G (q0++x::q)
    | .inr r=>r.1=true∧∃x q,q.length=k∧InW g (Nfr free0) u w (q0++x::q)∧G (q0++x::q)∧Q (q0++x::q) r.2) ?_ ⟨rfl,0,rfl,Nat.zero_le _,by simp⟩ ?_
  ·rintro⟨_,s⟩ ⟨hs,i,rfl,hi,hall⟩
   dsimp only at hs hall ⊢
   subst hs
   by_cases hil:i<us.length
   ·obtain⟨x,ex⟩:=hnat _ (List.getElem_mem hil)
    have hx:=(hmem x).1 (by rw[←ex];exact List.getElem_mem hil)
    have hxn:=hg.lt hv hx.1
    have hone:D.f (x:Int)=some (ishl .u32 1 (x:Int)):=C2 x
    have hfr2:∀v,El (iandNot .u32 fr (ishl .u32 1 (x:Int))) v↔El free0 v∧(v:Int)∉q0++[(x:Int)]:=λv=>by
     have:=hfre v
     unfold El at this ⊢
     rw[Dv hfr.1 (VS.ishl _ _),CT (by omega),Bool.and_eq_true,this,List.mem_append,List.mem_singleton]
     simp only[Bool.not_eq_true',decide_eq_false_iff_not]
     constructor
     ·rintro⟨⟨h1,h2⟩,h3⟩;exact⟨h1,λh=>h.elim h2 (λh=>h3 (by omega))⟩
     ·rintro⟨h1,h2⟩;exact⟨⟨h1,λh=>h2 (.inl h)⟩,λh=>h2 (.inr (by omega))⟩
    have hadx:adI g (v:Int) (x:Int):=⟨v,x,rfl,rfl,hv,hx.1⟩
    obtain⟨r,er,h1,h2⟩:=ih m (q0++[(x:Int)]) x (iandNot .u32 fr (ishl .u32 1 (x:Int))) (by omega) (by simp;omega) (ptI_snoc hp hadx) hxn (by
      rw[List.nodup_append]
      refine⟨hnd,by simp,λa ha b hb e=> ?_⟩
      rw[List.mem_singleton] at hb
      subst hb;subst e
      exact hx.2.2 ha) (λy hy=>by
      rcases List.mem_append.1 hy with h|h
      ·exact hfree y h
      ·rw[List.mem_singleton] at h;subst h
       exact λhn=>hn ⟨x,rfl,hx.2.1⟩) ⟨VS.iandNot _ _,λv hv=>hf0.2 v ((hfr2 v).1 hv).1⟩ hfr2
    have hap:∀q,q0++[(x:Int)]++q=q0++(x:Int)::q:=λq=>by simp
    rw[dlt hil,cond_true,AJ hil,ex,bs,cloneI_eq _ (by simp;omega),bs,A7 (by simp;omega),bs,hone,bs,List.cons_append,er,bs]
    cases hb:r.1 with
    |true=>
     obtain⟨q,k1,k2,k3,k4⟩:=h2 hb
     rw[hap] at k2 k3 k4
     exact⟨_,rfl,rfl,x,q,k1,k2,k3,k4⟩
    |false=>
     obtain⟨k1,k2⟩:=h1 hb
     refine⟨_,rfl,⟨k1,i+1,by dsimp only;rw[wi (by omega)],hil,λy hy q hq hin=> ?_⟩,?_⟩
     ·rw[List.take_succ_eq_append_getElem hil,List.mem_append,List.mem_singleton,ex] at hy
      rcases hy with hy|rfl
      ·exact hall y hy q hq hin
      ·have:=k2 q hq
       rw[hap] at this
       exact this hin
     ·dsimp only;rw[wi (by omega)];omega
   ·obtain rfl:i=us.length:=by omega
    rw[Bm,cond_false]
    rw[List.take_length] at hall
    exact⟨_,rfl,rfl,hall⟩
  ·rintro(l|r) hr
   ·dsimp only at hr ⊢
    refine⟨_,rfl,λ_=>⟨hr.1,λq hq hin=> ?_⟩,λh=>(by cases h)⟩
    cases q with
    |nil=>simp at hq
    |cons x q=>
     have hc:=(D7 hp).1 hin.2.2
     obtain⟨a,b,h1,h2,h3,h4⟩:=hc.1
     obtain rfl:v=a:=by omega
     subst h2
     refine hr.2 _ ((hmem b).2 ⟨h4,?_,?_⟩) q (by simpa using hq) hin
     ·obtain⟨c,h5,h6⟩:=Classical.byContradiction λhn=>hin.2.1 (b:Int) (by simp) hn
      obtain rfl:b=c:=by omega
      exact h6
     ·intro hq0
      have:=hin.1
      rw[List.nodup_append] at this
      exact this.2.2 _ hq0 _ List.mem_cons_self rfl
   ·dsimp only at hr ⊢
    obtain⟨h0,x,q,k1,k2,k3,k4⟩:=hr
    exact⟨_,rfl,λh=>(by rw[h0] at h;cases h),λ_=>⟨x::q,by simp[k1],k2,k3,k4⟩⟩
theorem nfr_step {free fr:Int}{q:LI}(hfre:∀v,El fr v↔El free v∧(v:Int)∉q)(x:Int):(Nfr free x∨x∈q)↔Nfr fr x:=by
 constructor
 ·rintro h ⟨v,rfl,hv⟩
  have:=(hfre v).1 hv
  exact h.elim (λh=>h ⟨v,rfl,this.1⟩) this.2
 ·intro h
  refine Classical.byContradiction λhn=> ?_
  have h1:∃v:Nat,x=(v:Int)∧El free v:=Classical.byContradiction λh'=>hn (.inl h')
  obtain⟨v,rfl,hv⟩:=h1
  exact h ⟨v,rfl,(hfre v).2 ⟨hv,λhq=>hn (.inr hq)⟩⟩
def PrsOk (g:LL)(hubs:LI)(pairs:List (Int×Int)):Prop:=∀e∈pairs,∃a b u w:Nat,e=((a:Int),(b:Int))∧hubs[a]? =some (u:Int)∧hubs[b]? =some (w:Int)∧u<g.length∧w<g.length
def Bg (hubs:LI)(i:Int):Int:=hubs.getD i.toNat 0
theorem join_ok {hubs:LI}{pairs:List (Int×Int)}(hp:PrsOk g hubs pairs)(hpl:pairs.length≤100):
  ∀(d k fuel:Nat) (free:Int) (P:LL),k+d=pairs.length→d<fuel→In g.length free→P.length=pairs.length→
   ∃r,D.L fuel (g.map mk) hubs pairs P (k:Int) free=some r∧(r.1=false→r.2=P∧∀l,¬LkW g (Bg hubs) (pairs.drop k) (Nfr free) l)∧(r.1=true→r.2.length=P.length∧LkW g (Bg hubs) (pairs.drop k) (Nfr free) (r.2.drop k)):=by
 have h16:=hg.n16
 intro d
 induction d with
 |zero=>
  intro k fuel free P hk hfu hfree hP
  obtain⟨m,rfl⟩:∃m,fuel=m+1:=⟨fuel-1,by omega⟩
  unfold D.L
  have he:((k:Int)==(pairs.length:Int))=true:=by rw[beq_iff_eq];omega
  rw[he,cond_true]
  refine⟨_,rfl,λh=>(by cases h),λ_=>⟨rfl,?_⟩⟩
  rw[List.drop_of_length_le (by omega),List.drop_of_length_le (by dsimp only;omega)]
  rfl
 |succ d ih=>
  intro k fuel free P hk hfu hfree hP
  obtain⟨m,rfl⟩:∃m,fuel=m+1:=⟨fuel-1,by omega⟩
  have hkl:k<pairs.length:=by omega
  unfold D.L
  have he:((k:Int)==(pairs.length:Int))=false:=by rw[beq_eq_false_iff_ne];omega
  obtain⟨a,b,u,w,ee,ha,hb,hu,hw⟩:=hp _ (List.getElem_mem hkl)
  obtain⟨ha1,ha2⟩:=List.getElem?_eq_some_iff.1 ha
  obtain⟨hb1,hb2⟩:=List.getElem?_eq_some_iff.1 hb
  have hua:Bg hubs (a:Int)=(u:Int):=by unfold Bg;rw[Int.toNat_natCast,AY ha1,ha2]
  have hwb:Bg hubs (b:Int)=(w:Int):=by unfold Bg;rw[Int.toNat_natCast,AY hb1,hb2]
  rw[he,cond_false,AJ hkl,ee,bs,AJ ha1,ha2,bs,bs,AJ hb1,hb2,bs,List.drop_eq_getElem_cons hkl,ee]
  have hlk:∀l,LkW g (Bg hubs) (((a:Int),(b:Int))::pairs.drop (k+1)) (Nfr free) l↔∃q rest,l=((u:Int)::(q++[(w:Int)]))::rest∧InW g (Nfr free) u w q∧LkW g (Bg hubs) (pairs.drop (k+1)) (λx=>Nfr free x∨x∈q) rest:=λl=>by
   show (∃q rest,l=(Bg hubs (a:Int)::(q++[Bg hubs (b:Int)]))::rest∧InW g (Nfr free) (Bg hubs (a:Int)) (Bg hubs (b:Int)) q∧LkW g (Bg hubs) (pairs.drop (k+1)) (λx=>Nfr free x∨x∈q) rest)↔_
   rw[hua,hwb]
  have hsz:=size_eq hfree.1
  have hel:=Dr free
  refine Bn (λs:Int×LL=>s.2=P∧∃L:Nat,s.1=((L+2:Nat):Int)∧L≤(Ax free).length+1∧∀q,q.length<L→InW g (Nfr free) u w q→¬∃l,LkW g (Bg hubs) (pairs.drop (k+1)) (λx=>Nfr free x∨x∈q) l) (λs=>(Ax free).length+3-s.1.toNat)
   (λz:LL ⊕ (Bool×LL)=>match z with
    | .inl l=>l=P∧∀l,¬LkW g (Bg hubs) (((a:Int),(b:Int))::pairs.drop (k+1)) (Nfr free) l
    | .inr r=>r.1=true∧r.2.length=P.length∧LkW g (Bg hubs) (((a:Int),(b:Int))::pairs.drop (k+1)) (Nfr free) (r.2.drop k)) ?_ ⟨rfl,0,rfl,Nat.zero_le _,λq hq=>absurd hq (Nat.not_lt_zero _)⟩ ?_
  ·rintro⟨_,s⟩ ⟨hs,L,rfl,hL,hall⟩
   dsimp only at hs hall ⊢
   subst hs
   rw[hsz,bs,w64 (x:=((Ax free).length:Int)+2) (by omega) (by omega)]
   by_cases hLl:L≤(Ax free).length
   ·rw[decide_eq_true (show ((L+2:Nat):Int)≤((Ax free).length:Int)+2 by omega),cond_true]
    obtain⟨r,er,h1,h2⟩:=ext_ok hg (rec:=D.L m) (hubs:=hubs) (pairs:=pairs) (kk:=(k:Int)) hu hw hfree s (λq=>∃l,LkW g (Bg hubs) (pairs.drop (k+1)) (λx=>Nfr free x∨x∈q) l) (λq P'=>P'.length=s.length∧∃rest,P'.drop k=((u:Int)::(q++[(w:Int)]))::rest∧LkW g (Bg hubs) (pairs.drop (k+1)) (λx=>Nfr free x∨x∈q) rest) (L:=L) (by omega) (by
     intro q fr hq hin hfr hfre
     obtain⟨r,er,h1,h2⟩:=ih (k+1) m fr s (by omega) (by omega) hfr hP
     unfold D.U0
     rw[wi (by omega),er,bs]
     cases hb:r.1 with
     |false=>
      rw[Bool.not_false,cond_true]
      refine⟨_,rfl,λ_=>⟨(h1 hb).1,fun⟨l,hl⟩=>(h1 hb).2 l (LkW.congr (λx=>nfr_step hg hfre x) hl)⟩,λh=>(by cases h)⟩
     |true=>
      obtain⟨k1,k2⟩:=h2 hb
      have hkr:k<r.2.length:=by omega
      rw[Bool.not_true,cond_false,AJ hkr,bs,Int.toNat_natCast]
      have k3:=LkW.congr (λx=>(nfr_step hg hfre x).symm) k2
      refine⟨_,rfl,λh=>(by cases h),λ_=>⟨⟨_,k3⟩,by dsimp only;rw[List.length_set];exact k1,r.2.drop (k+1),?_,k3⟩⟩
      dsimp only
      rw[List.drop_eq_getElem_cons (by rw[List.length_set];exact hkr),List.getElem_set_self,List.drop_set,if_pos (by omega)]) L BA [] u free (Nat.lt_of_lt_of_le (by omega) Cg) (by simp) rfl hu List.nodup_nil (by simp) hfree (λv=>by simp)
    unfold D.u
    rw[er,bs]
    cases hb:r.1 with
    |true=>
     obtain⟨q,k1,k2,k3,k4,rest,k5,k6⟩:=h2 hb
     exact⟨_,rfl,rfl,k4,(hlk _).2 ⟨q,rest,k5,k2,k6⟩⟩
    |false=>
     obtain⟨k1,k2⟩:=h1 hb
     refine⟨_,rfl,⟨k1,L+1,by dsimp only;rw[wi (by omega)],by omega,λq hq hin=> ?_⟩,?_⟩
     ·by_cases c:q.length=L
      ·exact k2 q c hin
      ·exact hall q (by omega) hin
     ·dsimp only;rw[wi (by omega)];omega
   ·rw[decide_eq_false (show¬((L+2:Nat):Int)≤((Ax free).length:Int)+2 by omega),cond_false]
    refine⟨_,rfl,rfl,λl hl=> ?_⟩
    obtain⟨q,rest,_,h2,h3⟩:=(hlk l).1 hl
    have:=h2.len hfree.1
    exact hall q (by omega) h2 ⟨_,h3⟩
  ·rintro(l|r) hr
   ·exact⟨_,rfl,λ_=>hr,λh=>(by cases h)⟩
   ·exact⟨_,rfl,λh=>(by have:=hr.1;rw[h] at this;cases this),λ_=>hr.2⟩
end
end Go.Sx

namespace Go.Sx
noncomputable def chG {σ:Type}(f:Int→σ→Option (Bool×σ)):Nat→Int→Int→Int→Int→σ→Option (Bool×σ)
 |0,_,_,_,_,_=>none
 |fuel+1,n,frm,many,chosen,s=>cond (many==0) (f chosen s) ((AC (σ:=Int×σ) (ρ:=σ ⊕ (Bool×σ)) (λq=>cond (decide (IntKind.i64.wrap (q.1+many)≤n)) ((D.f q.1).bind λo=>(chG f fuel n (IntKind.i64.wrap (q.1+1)) (IntKind.i64.wrap (many-1)) (ior .u32 chosen o) q.2).bind λr=>cond r.1 (some (.inr (.inr (true,r.2)))) (some (.inl (IntKind.i64.wrap (q.1+1),r.2)))) (some (.inr (.inl q.2)))) (frm,s)).bind λzz=>match zz with| .inl s=>some (false,s)| .inr z=>some z)
theorem bind_eta3 {α β γ:Type}(x:Option (α×β×γ)):(x.bind λy=>some (y.1,y.2.1,y.2.2))=x:=by cases x<;>rfl
theorem ch11_eq (s0 kind:Int)(F:LI)(pairs:List (Int×Int))(F2 pat:LI):∀(fuel:Nat) (n frm many chosen:Int) (H:LI) (P:LL),
  D.X fuel n frm many chosen s0 kind F H pairs P F2 pat=chG (λc q=>D.Y c s0 kind F q.1 pairs q.2 F2 pat) fuel n frm many chosen (H,P)
 |0,_,_,_,_,_,_=>rfl
 |fuel+1,n,frm,many,chosen,H,P=>by
  unfold D.X chG
  rw[bind_eta3]
  congr 1
  have h1:(fun(s_73:Int×LI×LL)=>match s_73 with|(x_76,l_77,l_80)=>cond (decide ((IntKind.i64.wrap (x_76+many))≤n)) ((D.f x_76).bind λy_119=>(D.X fuel n (IntKind.i64.wrap (x_76+1)) (IntKind.i64.wrap (many-1)) (ior .u32 chosen y_119) s0 kind F l_77 pairs l_80 F2 pat).bind λy_126=>cond y_126.1 (some (Sum.inr (Sum.inr (α:=LI×LL) (true,y_126.2.1,y_126.2.2)))) (some (Sum.inl ((IntKind.i64.wrap (x_76+1)),y_126.2.1,y_126.2.2)))) (some (Sum.inr (Sum.inl (l_77,l_80)))))
   =λq:Int×(LI×LL)=>cond (decide (IntKind.i64.wrap (q.1+many)≤n)) ((D.f q.1).bind λo=>(chG (λc q=>D.Y c s0 kind F q.1 pairs q.2 F2 pat) fuel n (IntKind.i64.wrap (q.1+1)) (IntKind.i64.wrap (many-1)) (ior .u32 chosen o) q.2).bind λr=>cond r.1 (some (Sum.inr (Sum.inr (α:=LI×LL) (true,r.2)))) (some (Sum.inl (IntKind.i64.wrap (q.1+1),r.2)))) (some (Sum.inr (Sum.inl q.2))):=by
   funext ⟨v,h,p⟩
   dsimp only
   congr 1
   congr 1
   funext o
   rw[ch11_eq s0 kind F pairs F2 pat fuel]
  rw[h1]
  congr 1
  funext zz
  rcases zz with⟨a,b⟩|z<;>rfl
theorem ch1_eq (F0:LI)(second kind:Int)(F:LI)(pairs:List (Int×Int))(pat:LI):∀(fuel:Nat) (n frm many chosen:Int) (H:LI) (P:LL),
  D.Q fuel n frm many chosen F0 second kind F H pairs P pat=chG (λc q=>D.o c F0 second kind F q.1 pairs q.2 pat) fuel n frm many chosen (H,P)
 |0,_,_,_,_,_,_=>rfl
 |fuel+1,n,frm,many,chosen,H,P=>by
  unfold D.Q chG
  rw[bind_eta3]
  congr 1
  have h1:(fun(s_73:Int×LI×LL)=>match s_73 with|(x_76,l_77,l_80)=>cond (decide ((IntKind.i64.wrap (x_76+many))≤n)) ((D.f x_76).bind λy_119=>(D.Q fuel n (IntKind.i64.wrap (x_76+1)) (IntKind.i64.wrap (many-1)) (ior .u32 chosen y_119) F0 second kind F l_77 pairs l_80 pat).bind λy_126=>cond y_126.1 (some (Sum.inr (Sum.inr (α:=LI×LL) (true,y_126.2.1,y_126.2.2)))) (some (Sum.inl ((IntKind.i64.wrap (x_76+1)),y_126.2.1,y_126.2.2)))) (some (Sum.inr (Sum.inl (l_77,l_80)))))
   =λq:Int×(LI×LL)=>cond (decide (IntKind.i64.wrap (q.1+many)≤n)) ((D.f q.1).bind λo=>(chG (λc q=>D.o c F0 second kind F q.1 pairs q.2 pat) fuel n (IntKind.i64.wrap (q.1+1)) (IntKind.i64.wrap (many-1)) (ior .u32 chosen o) q.2).bind λr=>cond r.1 (some (Sum.inr (Sum.inr (α:=LI×LL) (true,r.2)))) (some (Sum.inl (IntKind.i64.wrap (q.1+1),r.2)))) (some (Sum.inr (Sum.inl q.2))):=by
   funext ⟨v,h,p⟩
   dsimp only
   congr 1
   congr 1
   funext o
   rw[ch1_eq F0 second kind F pairs pat fuel]
  rw[h1]
  congr 1
  funext zz
  rcases zz with⟨a,b⟩|z<;>rfl
theorem chG_ok {σ:Type}{f:Int→σ→Option (Bool×σ)}{n:Nat}(hn:n≤16)(I:σ→Prop)(F T:Int→Prop)(Q:Int→σ→Prop)(hf:∀c s,T c→I s→∃r,f c s=some r∧I r.2∧(r.1=false→¬F c)∧(r.1=true→F c∧Q c r.2)):
  ∀(k fuel a:Nat) (c:Int) (s:σ),(∀t,Pick n a k c t→T t)→k<fuel→k≤16→In n c→a≤n+1→I s→∃r,chG f fuel (n:Int) (a:Int) (k:Int) c s=some r∧I r.2∧(r.1=false→∀t,Pick n a k c t→¬F t)∧(r.1=true→∃t,Pick n a k c t∧F t∧Q t r.2):=by
 intro k
 induction k with
 |zero=>
  intro fuel a c s hT hk _ hc _ hI
  obtain⟨m,rfl⟩:∃m,fuel=m+1:=⟨fuel-1,by omega⟩
  obtain⟨r,e,h1,h2,h3⟩:=hf c s (hT c .done) hI
  refine⟨r,?_,h1,λh t ht=> ?_,λh=>⟨c,.done,h3 h⟩⟩
  ·unfold chG
   simp only[Int.natCast_zero,beq_self_eq_true,cond_true,e]
  ·cases ht
   exact h2 h
 |succ k ih=>
  intro fuel a0 c s hT hk hk16 hc ha hI
  obtain⟨m,rfl⟩:∃m,fuel=m+1:=⟨fuel-1,by omega⟩
  unfold chG
  have h0:(((k+1:Nat):Int)==0)=false:=by rw[beq_eq_false_iff_ne];omega
  rw[h0,cond_false]
  refine Bn (λq:Int×σ=>I q.2∧∃a:Nat,q.1=(a:Int)∧a0≤a∧a≤n+1∧∀v t,a0≤v→v<a→v<n→Pick n (v+1) k (ior .u32 c (ishl .u32 1 (v:Int))) t→¬F t) (λq=>n+1-q.1.toNat)
   (λz:σ ⊕ (Bool×σ)=>match z with
    | .inl s=>I s∧∀v t,a0≤v→v<n→Pick n (v+1) k (ior .u32 c (ishl .u32 1 (v:Int))) t→¬F t
    | .inr r=>r.1=true∧I r.2∧∃v t,a0≤v∧v<n∧Pick n (v+1) k (ior .u32 c (ishl .u32 1 (v:Int))) t∧F t∧Q t r.2) ?_ ⟨hI,a0,rfl,Nat.le_refl _,ha,λv t h1 h2=>absurd h2 (by omega)⟩ ?_
  ·rintro⟨_,s⟩ ⟨hI,a,rfl,haa,ha,hall⟩
   dsimp only at hI hall ⊢
   by_cases hle:a+(k+1)≤n
   ·have hdec:decide (IntKind.i64.wrap ((a:Int)+((k+1:Nat):Int))≤(n:Int))=true:=by rw[w64 (by omega) (by omega)];simp;omega
    have hone:=CT (v:=a) (by omega)
    have hc':In n (ior .u32 c (ishl .u32 1 (a:Int))):=⟨VS.ior _ _,λv hv=>by
     rw[Df hc.1 (VS.ishl _ _),hone,Bool.or_eq_true,decide_eq_true_eq] at hv
     rcases hv with hv|rfl
     ·exact hc.2 v hv
     ·omega⟩
    obtain⟨r,e,h1,h2,h3⟩:=ih m (a+1) _ s (λt ht=>hT t (.more haa (by omega) ht)) (by omega) (by omega) hc' (by omega) hI
    have ek:IntKind.i64.wrap (((k+1:Nat):Int)-1)=(k:Int):=by rw[w64 (by omega) (by omega)];omega
    rw[hdec,cond_true,C2,bs,wi (by omega),ek,e,bs]
    cases hb:r.1 with
    |true=>
     obtain⟨t,k1,k2,k3⟩:=h3 hb
     exact⟨_,rfl,rfl,h1,a,t,haa,by omega,k1,k2,k3⟩
    |false=>
     refine⟨_,rfl,⟨h1,a+1,rfl,by omega,by omega,λv t g1 g2 g3 hp=> ?_⟩,by dsimp only;omega⟩
     by_cases hva:v=a
     ·subst hva;exact h2 hb t hp
     ·exact hall v t g1 (by omega) g3 hp
   ·have hdec:decide (IntKind.i64.wrap ((a:Int)+((k+1:Nat):Int))≤(n:Int))=false:=by rw[w64 (by omega) (by omega)];simp;omega
    rw[hdec,cond_false]
    refine⟨_,rfl,hI,λv t g1 g2 hp=> ?_⟩
    by_cases hva:v<a
    ·exact hall v t g1 hva g2 hp
    ·have:=hp.le
     omega
  ·rintro(s|r) hz
   ·exact⟨_,rfl,hz.1,λ_ t ht=>by
     cases ht with
     |more p1 p2 p3=>exact hz.2 _ _ p1 p2 p3,λh=>(by cases h)⟩
   ·obtain⟨h0,h1,v,t,g1,g2,g3,g4,g5⟩:=hz
    exact⟨_,rfl,h1,λh=>(by rw[h0] at h;cases h),λ_=>⟨t,.more g1 g2 g3,g4,g5⟩⟩
theorem DH {α β:Type}{step:List α×Int→Option ((List α×Int) ⊕ List α)}(f:Nat→α)(l0:List α)(i0 m:Nat)(hi:i0≤m)(hl:l0.length+m≤1000000)
  (hstep:∀(l:List α) (i:Nat),i0≤i→i<m→step (l,(i:Int))=(AM l [f i]).bind λl'=>some (.inl (l',((i+1:Nat):Int)))) (hend:∀l,step (l,(m:Int))=some (.inr l)) {s0:List α×Int} (h0:s0=(l0,(i0:Int))) (k:List α→Option β):
  (AC step s0).bind k=k (l0++(List.range' i0 (m-i0)).map f):=by
 subst h0
 refine BZ (λj=>(l0++(List.range' i0 j).map f,((i0+j:Nat):Int))) (m-i0) _ (by simp) (λj hj=> ?_) ?_
 ·rw[hstep _ _ (by omega) (by omega),A7 (by simp;omega),bs,List.range'_concat,List.map_append,List.append_assoc]
  simp[Nat.add_assoc]
 ·rw[show i0+(m-i0)=m by omega];exact hend _
def prI {α:Type}(c:Nat→Nat→α)(a b i:Nat):List α:=(if b=0 then(List.range' (i+1) (a-(i+1))).map (c i) else [])++(List.range' 0 b).map λx=>c i (a+x)
def prL {α:Type}(c:Nat→Nat→α)(a b:Nat):Nat→List α
 |0=>[]
 |i+1=>prL c a b i++prI c a b i
theorem prI_len {α:Type}(c:Nat→Nat→α)(a b i:Nat):(prI c a b i).length≤a+b:=by
 unfold prI
 split<;>simp<;>omega
theorem prL_len {α:Type}(c:Nat→Nat→α)(a b:Nat):∀i,(prL c a b i).length≤i*(a+b)
 |0=>by simp[prL]
 |i+1=>by
  have:=prL_len c a b i
  have:=prI_len c a b i
  unfold prL
  rw[List.length_append,Nat.succ_mul];omega
theorem prI_map {α β:Type}(h:α→β)(c:Nat→Nat→α)(a b i:Nat):(prI c a b i).map h=prI (λx y=>h (c x y)) a b i:=by
 unfold prI
 split<;>simp[Function.comp_def]
theorem prL_map {α β:Type}(h:α→β)(c:Nat→Nat→α)(a b:Nat):∀i,(prL c a b i).map h=prL (λx y=>h (c x y)) a b i
 |0=>rfl
 |i+1=>by unfold prL;rw[List.map_append,prL_map h c a b i,prI_map]
def ppI (x y:Nat):Int×Int:=((x:Int),(y:Int))
def plI (x y:Nat):LI:=[(x:Int),(y:Int)]
theorem Dh (k:Int):∃a b:Nat,D.v k=some ((a:Int),(b:Int))∧D.q k=some ((a:Int),(b:Int))∧((k=1∧a=5∧b=0)∨(k=2∧a=3∧b=3)∨(k=3∧a=4∧b=0)∨(k=4∧a=2∧b=3)∨(a=0∧b=0∧(k<1∨4<k))):=by
 unfold D.v D.q
 by_cases h1:k=1
 ·subst h1;exact⟨5,0,rfl,rfl,.inl ⟨rfl,rfl,rfl⟩⟩
 ·by_cases h2:k=2
  ·subst h2;exact⟨3,3,rfl,rfl,.inr (.inl ⟨rfl,rfl,rfl⟩)⟩
  ·by_cases h3:k=3
   ·subst h3;exact⟨4,0,rfl,rfl,.inr (.inr (.inl ⟨rfl,rfl,rfl⟩))⟩
   ·by_cases h4:k=4
    ·subst h4;exact⟨2,3,rfl,rfl,.inr (.inr (.inr (.inl ⟨rfl,rfl,rfl⟩)))⟩
    ·refine⟨0,0,?_,?_,.inr (.inr (.inr (.inr ⟨rfl,rfl,by omega⟩)))⟩<;>
      rw[beq_eq_false_iff_ne.2 h1,beq_eq_false_iff_ne.2 h2,beq_eq_false_iff_ne.2 h3,beq_eq_false_iff_ne.2 h4]<;>rfl
theorem Dx {k:Int}{a b:Nat}(h:(k=1∧a=5∧b=0)∨(k=2∧a=3∧b=3)∨(k=3∧a=4∧b=0)∨(k=4∧a=2∧b=3)∨(a=0∧b=0∧(k<1∨4<k))):a≤5∧b≤3:=by omega
theorem CP {k:Int}{a b:Nat}(h:D.v k=some ((a:Int),(b:Int)))(ha:a≤5∧b≤3):D.F k=some (prL ppI a b a):=by
 unfold D.F
 rw[h,bs]
 dsimp only
 refine BZ (λi=>(prL ppI a b i,(i:Int))) a (prL ppI a b a) rfl (λi hi=> ?_) ?_
 ·have hl:=prL_len ppI a b i
  have hl2:i*(a+b)≤5*8:=Nat.mul_le_mul (by omega) (by omega)
  dsimp only
  rw[dlt hi,cond_true]
  have hin:(cond ((b:Int)==0) ((AC (σ:=(List (Int×Int))×Int) (ρ:=((List (Int×Int)))) (fun(s_883:(List (Int×Int))×Int)=>match s_883 with|(l_886,x_891)=>cond (decide (x_891<(a:Int))) ((AM l_886 ([((i:Int),x_891)]:List (Int×Int))).bind λl_918=>some (.inl (l_918,(IntKind.i64.wrap (x_891+1))))) (some (.inr l_886))) (prL ppI a b i,(IntKind.i64.wrap ((i:Int)+1)))).bind λl_906=>some l_906) (some (prL ppI a b i)):Option ((List (Int×Int))))=some (prL ppI a b i++if b=0 then(List.range' (i+1) (a-(i+1))).map (ppI i) else []):=by
   by_cases hb:b=0
   ·have:((b:Int)==0)=true:=by rw[beq_iff_eq];omega
    rw[this,cond_true,if_pos hb]
    refine DH (ppI i) _ (i+1) a (by omega) (by omega) (λl x h1 h2=> ?_) (λl=> ?_) (by rw[wi (by omega)]) _
    ·dsimp only
     rw[dlt h2,cond_true,wi (by omega)];rfl
    ·dsimp only
     rw[Bm,cond_false]
   ·have:((b:Int)==0)=false:=by rw[beq_eq_false_iff_ne];omega
    rw[this,cond_false,if_neg hb,List.append_nil]
  rw[hin,bs]
  refine(DH (λx=>ppI i (a+x)) _ 0 b (Nat.zero_le _) (by
    rw[List.length_append]
    have:(if b=0 then(List.range' (i+1) (a-(i+1))).map (ppI i) else []).length≤5:=by split<;>simp;omega
    omega) (λl x _ h2=> ?_) (λl=> ?_) rfl _).trans ?_
  ·dsimp only
   rw[dlt h2,cond_true,wi (by omega),w64 (by omega) (by omega)];rfl
  ·dsimp only
   rw[Bm,cond_false]
  ·rw[wi (by omega),show prL ppI a b (i+1)=prL ppI a b i++prI ppI a b i from rfl,Nat.sub_zero]
   unfold prI
   rw[List.append_assoc]
 ·dsimp only
  rw[Bm,cond_false]
theorem C6 {k:Int}{a b:Nat}(h:D.q k=some ((a:Int),(b:Int)))(ha:a≤5∧b≤3):D.E k=some (prL plI a b a):=by
 unfold D.E
 rw[h,bs]
 dsimp only
 refine BZ (λi=>(prL plI a b i,(i:Int))) a (prL plI a b a) rfl (λi hi=> ?_) ?_
 ·have hl:=prL_len plI a b i
  have hl2:i*(a+b)≤5*8:=Nat.mul_le_mul (by omega) (by omega)
  dsimp only
  rw[dlt hi,cond_true]
  have hin:(cond ((b:Int)==0) ((AC (σ:=LL×Int) (ρ:=(LL)) (fun(s_883:LL×Int)=>match s_883 with|(l_886,x_891)=>cond (decide (x_891<(a:Int))) ((AM l_886 ([([(i:Int),x_891]:LI)]:LL)).bind λl_918=>some (.inl (l_918,(IntKind.i64.wrap (x_891+1))))) (some (.inr l_886))) (prL plI a b i,(IntKind.i64.wrap ((i:Int)+1)))).bind λl_906=>some l_906) (some (prL plI a b i)):Option (LL))=some (prL plI a b i++if b=0 then(List.range' (i+1) (a-(i+1))).map (plI i) else []):=by
   by_cases hb:b=0
   ·have:((b:Int)==0)=true:=by rw[beq_iff_eq];omega
    rw[this,cond_true,if_pos hb]
    refine DH (plI i) _ (i+1) a (by omega) (by omega) (λl x h1 h2=> ?_) (λl=> ?_) (by rw[wi (by omega)]) _
    ·dsimp only
     rw[dlt h2,cond_true,wi (by omega)];rfl
    ·dsimp only
     rw[Bm,cond_false]
   ·have:((b:Int)==0)=false:=by rw[beq_eq_false_iff_ne];omega
    rw[this,cond_false,if_neg hb,List.append_nil]
  rw[hin,bs]
  refine(DH (λx=>plI i (a+x)) _ 0 b (Nat.zero_le _) (by
    rw[List.length_append]
    have:(if b=0 then(List.range' (i+1) (a-(i+1))).map (plI i) else []).length≤5:=by split<;>simp;omega
    omega) (λl x _ h2=> ?_) (λl=> ?_) rfl _).trans ?_
  ·dsimp only
   rw[dlt h2,cond_true,wi (by omega),w64 (by omega) (by omega)];rfl
  ·dsimp only
   rw[Bm,cond_false]
  ·rw[wi (by omega),show prL plI a b (i+1)=prL plI a b i++prI plI a b i from rfl,Nat.sub_zero]
   unfold prI
   rw[List.append_assoc]
 ·dsimp only
  rw[Bm,cond_false]
def prN (a b:Nat):List (Nat×Nat):=prL Prod.mk a b a
theorem prL_ppI (a b:Nat):prL ppI a b a=(prN a b).map λe=>((e.1:Int),(e.2:Int)):=(prL_map (λe:Nat×Nat=>((e.1:Int),(e.2:Int))) Prod.mk a b a).symm
theorem prL_plI (a b:Nat):prL plI a b a=(prN a b).map λe=>[(e.1:Int),(e.2:Int)]:=(prL_map (λe:Nat×Nat=>[(e.1:Int),(e.2:Int)]) Prod.mk a b a).symm
def PrsLt (L:List (Nat×Nat))(n:Nat):Prop:=∀e∈L,e.1<e.2∧e.2<n
theorem CM {k:Int}{a b:Nat}(h:(k=1∧a=5∧b=0)∨(k=2∧a=3∧b=3)∨(k=3∧a=4∧b=0)∨(k=4∧a=2∧b=3)∨(a=0∧b=0∧(k<1∨4<k))):PrsLt (prN a b) (a+b)∧(prN a b).length≤10:=by
 unfold PrsLt
 rcases h with⟨_,rfl,rfl⟩|⟨_,rfl,rfl⟩|⟨_,rfl,rfl⟩|⟨_,rfl,rfl⟩|⟨rfl,rfl,_⟩<;>decide
theorem joins_ok {n:Nat}(hn:n≤16){L:List (Nat×Nat)}(hL:PrsLt L n)(hl:L.length≤1000){β:Type}(k:LI→Option β){Q:β→Prop}(hk:∀F,FOk F n→(∀u w,u<n→(nb F u w=true↔(u,w)∈L∨(w,u)∈L))→∃y,k F=some y∧Q y):
  ∃y,(AC (σ:=LI×(List (Int×Int))×Int) (ρ:=(LI)) (fun(s_80:LI×(List (Int×Int))×Int)=>match s_80 with|(l_86,l_89,x_92)=>cond (decide (x_92<((L.map λe=>((e.1:Int),(e.2:Int))).length:Int))) ((idx l_89 x_92).bind λe_116=>(D.o0 l_86 e_116.1 e_116.2).bind λy_122=>some (.inl (y_122,l_89,(IntKind.i64.wrap (x_92+1))))) (some (.inr l_86))) (List.replicate n 0,L.map λe=>((e.1:Int),(e.2:Int)),0)).bind k=some y∧Q y:=by
 refine Bn (λs:LI×List (Int×Int)×Int=>s.2.1=(L.map λe=>((e.1:Int),(e.2:Int)))∧∃i:Nat,s.2.2=(i:Int)∧i≤L.length∧s.1.length=n∧(∀u,u<n→VS (s.1.getD u 0))∧∀u w,u<n→(nb s.1 u w=true↔(u,w)∈L.take i∨(w,u)∈L.take i)) (λs=>L.length-s.2.2.toNat)
  (λF=>FOk F n∧∀u w,u<n→(nb F u w=true↔(u,w)∈L∨(w,u)∈L)) ?_ ⟨rfl,0,rfl,Nat.zero_le _,List.length_replicate,λu hu=> ?_,λu w hu=> ?_⟩ (λF hF=>hk F hF.1 hF.2)
 ·rintro⟨F,_,_⟩ ⟨hs,i,rfl,hi,h1,h2,h3⟩
  dsimp only at hs h1 h2 h3 ⊢
  subst hs
  have hml:(L.map λe=>((e.1:Int),(e.2:Int))).length=L.length:=List.length_map _
  by_cases hil:i<L.length
  ·have he:=hL _ (List.getElem_mem hil)
   have hil':i<(L.map λe=>((e.1:Int),(e.2:Int))).length:=by rw[hml];exact hil
   obtain⟨y,ey,y1,y2,y3⟩:=nets_join_ok hn h1 h2 (v:=L[i].1) (t:=L[i].2) (by omega) he.2 (by omega)
   rw[dlt hil',cond_true,AJ hil',List.getElem_map,bs]
   dsimp only
   rw[ey,bs,wi (by omega)]
   refine⟨_,rfl,⟨rfl,i+1,rfl,hil,y1,y2,λu w hu=> ?_⟩,by dsimp only;omega⟩
   dsimp only
   rw[y3 u w hu,List.take_succ_eq_append_getElem hil,Bool.or_eq_true,Bool.or_eq_true,h3 u w hu,Bool.and_eq_true,Bool.and_eq_true,decide_eq_true_eq,decide_eq_true_eq,decide_eq_true_eq,decide_eq_true_eq,List.mem_append,List.mem_append,List.mem_singleton,List.mem_singleton]
   have e1:∀x y,(x,y)=L[i]↔x=L[i].1∧y=L[i].2:=λx y=>by
    rw[Prod.ext_iff]
   rw[e1,e1]
   constructor
   ·rintro((h|h)|h)
    ·exact h.elim (λh=> .inl (.inl h)) (λh=> .inr (.inl h))
    ·exact .inl (.inr h)
    ·exact .inr (.inr ⟨h.2,h.1⟩)
   ·rintro((h|h)|(h|h))
    ·exact .inl (.inl (.inl h))
    ·exact .inl (.inr h)
    ·exact .inl (.inl (.inr h))
    ·exact .inr ⟨h.2,h.1⟩
  ·obtain rfl:i=L.length:=by omega
   rw[hml,Bm,cond_false]
   rw[List.take_length] at h3
   refine⟨_,rfl,⟨h1,h2,λu w hu h=> ?_,λu hu=> ?_,λu w hu h=> ?_⟩,h3⟩
   ·rcases(h3 u w hu).1 h with h|h
    ·exact(hL _ h).2
    ·have:=hL _ h;dsimp only at this;omega
   ·rw[←Bool.not_eq_true,h3 u u hu]
    rintro(h|h)<;>(have:=hL _ h;dsimp only at this;omega)
   ·have hw:w<n:=by
     rcases(h3 u w hu).1 h with h|h
     ·exact(hL _ h).2
     ·have:=hL _ h;dsimp only at this;omega
    rw[h3 w u hw]
    exact((h3 u w hu).1 h).symm
 ·dsimp only
  rw[List.getD_eq_getElem?_getD,List.getElem?_replicate]
  split<;>exact VS.zero
 ·dsimp only
  unfold nb
  rw[List.getD_eq_getElem?_getD,List.getElem?_replicate,if_pos hu,Option.getD_some,BT]
  simp
theorem C9 {k:Int}{a b:Nat}(h0:D.v k=some ((a:Int),(b:Int)))(h:(k=1∧a=5∧b=0)∨(k=2∧a=3∧b=3)∨(k=3∧a=4∧b=0)∨(k=4∧a=2∧b=3)∨(a=0∧b=0∧(k<1∨4<k)))(ha:a≠0):
  ∃y,D.i0 k=some y∧∃F,y=grow F∧FOk F (a+b)∧∀u w,u<a+b→(nb F u w=true↔(u,w)∈prN a b∨(w,u)∈prN a b):=by
 have hs:=Dx h
 have hp:=CM h
 have h1:((a:Int)==0)=false:=by rw[beq_eq_false_iff_ne];omega
 unfold D.i0
 rw[h0,bs]
 dsimp only
 rw[h1,cond_false,w64 (by omega) (by omega),show (a:Int)+(b:Int)=((a+b:Nat):Int) from rfl,makeD_ok (Int.le_refl _) (by omega),bs,CP h0 hs,bs,prL_ppI]
 refine joins_ok (by omega) hp.1 (by omega) _ λF hF hnb=> ?_
 rw[nets_graph_eq F (by have:=hF.len;omega) (λu hu=>hF.vs u (by have:=hF.len;omega)),bs]
 exact⟨_,rfl,F,rfl,hF,hnb⟩
theorem Ee {k:Int}{a b:Nat}(h0:D.q k=some ((a:Int),(b:Int)))(h:(k=1∧a=5∧b=0)∨(k=2∧a=3∧b=3)∨(k=3∧a=4∧b=0)∨(k=4∧a=2∧b=3)∨(a=0∧b=0∧(k<1∨4<k)))(ha:a≠0):
  ∃y,D.J0 k=some y∧GOk y∧y.length=a+b∧∀u w,adj y u w↔(u,w)∈prN a b∨(w,u)∈prN a b:=by
 have hs:=Dx h
 have hp:=CM h
 have h1:((a:Int)==0)=false:=by rw[beq_eq_false_iff_ne];omega
 unfold D.J0
 rw[h0,bs]
 dsimp only
 rw[h1,cond_false,w64 (by omega) (by omega),show (a:Int)+(b:Int)=((a+b:Nat):Int) from rfl,l1Empty_eq _ (by omega),bs,C6 h0 hs,bs,prL_plI]
 have hml:((prN a b).map λe=>[(e.1:Int),(e.2:Int)]).length=(prN a b).length:=List.length_map _
 refine Bn (λs:Int×LL=>∃i:Nat,s.1=(i:Int)∧i≤(prN a b).length∧GOk s.2∧s.2.length=a+b∧∀u w,adj s.2 u w↔(u,w)∈(prN a b).take i∨(w,u)∈(prN a b).take i) (λs=>(prN a b).length-s.1.toNat)
  (λy=>GOk y∧y.length=a+b∧∀u w,adj y u w↔(u,w)∈prN a b∨(w,u)∈prN a b) ?_ ⟨0,rfl,Nat.zero_le _,GOk.empty (by omega) (by omega),List.length_replicate,λu w=> ?_⟩ (λy hy=>⟨y,rfl,hy⟩)
 ·rintro⟨_,y⟩ ⟨i,rfl,hi,hG,hl,hadj⟩
  dsimp only at hG hl hadj ⊢
  by_cases hil:i<(prN a b).length
  ·have he:=hp.1 _ (List.getElem_mem hil)
   have hil':i<((prN a b).map λe=>[(e.1:Int),(e.2:Int)]).length:=by rw[hml];exact hil
   obtain⟨y',ey,y1,y2,y3⟩:=Cr hG (u:=(prN a b)[i].1) (v:=(prN a b)[i].2) (by omega) (by omega) (by omega)
   have i0:idx [((prN a b)[i].1:Int),((prN a b)[i].2:Int)] 0=some ((prN a b)[i].1:Int):=rfl
   have i1:idx [((prN a b)[i].1:Int),((prN a b)[i].2:Int)] 1=some ((prN a b)[i].2:Int):=rfl
   rw[dlt hil',cond_true,AJ hil',List.getElem_map,bs,i0,bs,bs,i1,bs,ey,bs,wi (by omega)]
   refine⟨_,rfl,⟨i+1,rfl,hil,y1,by rw[y2];exact hl,λu w=> ?_⟩,by dsimp only;omega⟩
   dsimp only
   rw[y3 u w,List.take_succ_eq_append_getElem hil,hadj u w,List.mem_append,List.mem_append,List.mem_singleton,List.mem_singleton]
   have e1:∀x y,(x,y)=(prN a b)[i]↔x=(prN a b)[i].1∧y=(prN a b)[i].2:=λx y=>by rw[Prod.ext_iff]
   rw[e1,e1]
   constructor
   ·rintro((h|h)|h|h)
    ·exact .inl (.inl h)
    ·exact .inr (.inl h)
    ·exact .inl (.inr h)
    ·exact .inr (.inr ⟨h.2,h.1⟩)
   ·rintro((h|h)|(h|h))
    ·exact .inl (.inl h)
    ·exact .inr (.inl h)
    ·exact .inl (.inr h)
    ·exact .inr (.inr ⟨h.2,h.1⟩)
  ·obtain rfl:i=(prN a b).length:=by omega
   rw[hml,Bm,cond_false]
   rw[List.take_length] at hadj
   exact⟨_,rfl,hG,hl,hadj⟩
 ·dsimp only
  constructor
  ·intro h
   unfold adj row at h
   rw[List.getD_eq_getElem?_getD,List.getElem?_replicate] at h
   split at h<;>cases h
  ·rintro(h|h)<;>simp at h
def nd (a b i:Nat):Nat:=((List.range (a+b)).filter λw=>decide ((i,w)∈prN a b∨(w,i)∈prN a b)).length
def BJ (a b:Nat):List (Int×Int):=(prN a b).map λe=>((e.1:Int),(e.2:Int))
def B3 (g:LL)(k:Int)(a b:Nat)(H:LI):Prop:=
 (k=2→H.getD 0 0<H.getD 3 0)∧(∀i,i<H.length→nd a b i≤(row g (H.getD i 0).toNat).length)∧∃l,LkW g (Bg H) (BJ a b) (λx=>x∈H) l
def Hub2 (n a b:Nat)(s t:Int):Prop:=In n s∧In n t∧(Ax s).length=a∧(Ax t).length=b∧∀v,¬(El s v∧El t v)
theorem pat_size {a b:Nat}{F:LI}(hab:a+b≤16)(hF:FOk F (a+b))(hnb:∀u w,u<a+b→(nb F u w=true↔(u,w)∈prN a b∨(w,u)∈prN a b)){i:Nat}(hi:i<a+b):(Ax (F.getD i 0)).length=nd a b i:=by
 rw[elems_sum (n:=a+b) (by omega) (λv hv=>hF.lt i v hi hv)]
 unfold nd
 rw[Db]
 refine BW λw _=> ?_
 have:=hnb i w hi
 unfold nb at this
 congr 1
 rw[Bool.eq_iff_iff,this,decide_eq_true_eq]
theorem Dz {g:LL}(hg:GOk g):∀{u w:Int} {q:LI},ChI g u q w→∀x∈q,∃v:Nat,x=(v:Int)∧v<g.length
 |_,_,[],_,_,hx=>by cases hx
 |_,_,_::_,h,x,hx=>by
  rcases List.mem_cons.1 hx with rfl|hx
  ·obtain⟨a,b,_,h2,h3,h4⟩:=h.1
   exact⟨b,h2,hg.lt h3 h4⟩
  ·exact Dz hg h.2 x hx
theorem InW.congr' {g:LL}(hg:GOk g){U U':Int→Prop}{u w:Int}{q:LI}(h:∀v:Nat,v<g.length→(U v↔U' v)):InW g U u w q→InW g U' u w q:=
 fun⟨a,b,c⟩=>⟨a,λx hx hu=>by
  obtain⟨v,rfl,hv⟩:=Dz hg c x hx
  exact b _ hx ((h v hv).2 hu),c⟩
theorem LkW.congr' {g:LL}(hg:GOk g){hub:Int→Int}:∀{ps:List (Int×Int)} {U U':Int→Prop} {l:LL},(∀v:Nat,v<g.length→(U v↔U' v))→LkW g hub ps U l→LkW g hub ps U' l
 |[],_,_,_,_,h=>h
 |_::_,_,_,_,hU,⟨q,rest,h1,h2,h3⟩=>⟨q,rest,h1,h2.congr' hg hU,LkW.congr' hg (λv hv=>or_congr (hU v hv) Iff.rfl) h3⟩
theorem InW.len' {g:LL}(hg:GOk g){U:Int→Prop}{u w:Int}{q:LI}(h:InW g U u w q):q.length≤g.length:=by
 have:=DJ (m:=(List.range g.length).map Int.ofNat) h.1 (λx hx=>by
  obtain⟨v,rfl,hv⟩:=Dz hg h.2.2 x hx
  exact List.mem_map.2 ⟨v,List.mem_range.2 hv,rfl⟩)
 simpa using this
theorem LkW.lens {g:LL}(hg:GOk g){hub:Int→Int}:∀{ps:List (Int×Int)} {U:Int→Prop} {l:LL},LkW g hub ps U l→l.length=ps.length∧∀p∈l,p.length≤18
 |[],_,_,h=>by
  have:_=[]:=h
  subst this;exact⟨rfl,λp hp=>(by cases hp)⟩
 |_::_,_,_,⟨q,rest,h1,h2,h3⟩=>by
  subst h1
  have ih:=LkW.lens hg h3
  have:=h2.len' hg
  have:=hg.n16
  refine⟨by simp[ih.1],λp hp=> ?_⟩
  rcases List.mem_cons.1 hp with rfl|hp
  ·simp;omega
  ·exact ih.2 p hp
section
variable {g : LL} (hg : GOk g)
include hg
theorem prs_ok {a b:Nat}(hp:PrsLt (prN a b) (a+b)){H:LI}(hl:H.length=a+b)(hH:∀x∈H,∃v:Nat,x=(v:Int)∧v<g.length):PrsOk g H (BJ a b):=by
 intro e he
 obtain⟨e',he',rfl⟩:=List.mem_map.1 he
 have h1:=hp e' he'
 have k1:e'.1<H.length:=by omega
 have k2:e'.2<H.length:=by omega
 obtain⟨u,hu,hun⟩:=hH _ (List.getElem_mem k1)
 obtain⟨w,hw,hwn⟩:=hH _ (List.getElem_mem k2)
 exact⟨e'.1,e'.2,u,w,rfl,by rw[List.getElem?_eq_getElem k1,hu],by rw[List.getElem?_eq_getElem k2,hw],hun,hwn⟩
theorem find11_ok {k:Int}{a b:Nat}(h:(k=1∧a=5∧b=0)∨(k=2∧a=3∧b=3)∨(k=3∧a=4∧b=0)∨(k=4∧a=2∧b=3)){F2:LI}(hF2:FOk F2 (a+b))(hnb:∀u w,u<a+b→(nb F2 u w=true↔(u,w)∈prN a b∨(w,u)∈prN a b))
  {s t:Int} (hs:In g.length s) (ht:In g.length t) (hsl:(Ax s).length=a) (htl:(Ax t).length=b) (Hold:LI) {P:LL} (hP:P.length=(BJ a b).length):
  ∃r,D.Y t s k (g.map mk) Hold (BJ a b) P (g.map mk) F2=some r∧r.2.2.length=(BJ a b).length∧(r.1=false→¬(Hub2 g.length a b s t∧B3 g k a b (Ax s++Ax t)))∧
   (r.1=true→(Hub2 g.length a b s t∧B3 g k a b (Ax s++Ax t))∧r.2.1=Ax s++Ax t∧LkW g (Bg (Ax s++Ax t)) (BJ a b) (λx=>x∈Ax s++Ax t) r.2.2):=by
 have h16:=hg.n16
 have hab:a+b≤8:=by omega
 have hpl:=CM (k:=k) (a:=a) (b:=b) (by omega)
 have hHl:(Ax s++Ax t).length=a+b:=by rw[List.length_append,hsl,htl]
 have hHm:∀v:Nat,(v:Int)∈Ax s++Ax t↔El s v∨El t v:=λv=>by rw[List.mem_append,BI hs.1,BI ht.1]
 have hHn:∀x∈Ax s++Ax t,∃v:Nat,x=(v:Int)∧v<g.length:=λx hx=>by
  rcases List.mem_append.1 hx with hx|hx
  ·obtain⟨v,_,hv,rfl⟩:=mem_elems.1 hx
   exact⟨v,rfl,hs.2 v hv⟩
  ·obtain⟨v,_,hv,rfl⟩:=mem_elems.1 hx
   exact⟨v,rfl,ht.2 v hv⟩
 unfold D.Y
 by_cases hdis:∀v,¬(El s v∧El t v)
 ·have h0:iand .u32 s t=0:=(VS.eq_zero (VS.iand _ _)).2 λv _=>by
   rw[has_iand hs.1 ht.1,←Bool.not_eq_true,Bool.and_eq_true];exact hdis v
  have hcond:((cond (k==2) ((D.B s).bind λy_133=>(D.B t).bind λy_140=>some (decide (y_140<y_133))) (some false)).bind λb_131=>some b_131)=some (decide (¬(k=2→(Ax s++Ax t).getD 0 0<(Ax s++Ax t).getD 3 0))):=by
   by_cases hk:k=2
   ·obtain⟨rfl,rfl⟩:a=3∧b=3:=by omega
    have hs0:s≠0:=λe=>by rw[e,Dc] at hsl;simp at hsl
    have ht0:t≠0:=λe=>by rw[e,Dc] at htl;simp at htl
    obtain⟨x,hx1,hx2,hx3,hx4,_⟩:=least_eq hs.1 hs0
    obtain⟨y,hy1,hy2,hy3,hy4,_⟩:=least_eq ht.1 ht0
    obtain⟨ts,hts⟩:=elems_head hs.1 hx3 hx4
    obtain⟨tt,htt⟩:=elems_head ht.1 hy3 hy4
    have hxy:x≠y:=λe=>hdis x ⟨hx3,e▸hy3⟩
    have g0:(Ax s++Ax t).getD 0 0=(x:Int):=by rw[hts];rfl
    have g3:(Ax s++Ax t).getD 3 0=(y:Int):=by
     rw[List.getD_eq_getElem?_getD,List.getElem?_append_right (by omega),hsl,htt];rfl
    rw[beq_iff_eq.2 hk,cond_true,hx2,bs,hy2,bs,bs,g0,g3]
    congr 1
    rw[Bool.eq_iff_iff,decide_eq_true_eq,decide_eq_true_eq]
    constructor
    ·intro h1 h2;have:=h2 hk;omega
    ·intro h1
     refine Classical.byContradiction λh2=>h1 λ_=>by omega
   ·rw[beq_eq_false_iff_ne.2 hk,cond_false,bs,decide_eq_false (λhh=>hh λh'=>absurd h' hk)]
  have hb0:(iand .u32 s t !=0)=false:=by rw[h0];rfl
  rw[hb0,cond_false,hcond,bs]
  by_cases hord:k=2→(Ax s++Ax t).getD 0 0<(Ax s++Ax t).getD 3 0
  ·rw[decide_eq_false (λhh=>hh hord),cond_false,D9 _ hs.1,bs,D9 _ ht.1,bs,A7 (by rw[hsl,htl];omega),bs]
   generalize hHe:Ax s++Ax t=H at hHl hHm hHn hord
   refine Bn (λi:Int=>∃j:Nat,i=(j:Int)∧j≤H.length∧∀i,i<j→nd a b i≤(row g (H.getD i 0).toNat).length) (λi=>H.length-i.toNat)
    (λz:Unit ⊕ (Bool×LI×LL)=>match z with
     | .inl _=>∀i,i<H.length→nd a b i≤(row g (H.getD i 0).toNat).length
     | .inr r=>r=(false,H,P)∧¬∀i,i<H.length→nd a b i≤(row g (H.getD i 0).toNat).length) ?_ ⟨0,rfl,Nat.zero_le _,λi hi=>absurd hi (Nat.not_lt_zero _)⟩ ?_
   ·rintro _ ⟨j,rfl,hj,hall⟩
    by_cases hjl:j<H.length
    ·obtain⟨v,ev,hv⟩:=hHn _ (List.getElem_mem hjl)
     have hjF:j<F2.length:=by rw[hF2.len];omega
     have hrow:Ax (mk (row g v))=row g v:=elems_mk h16 (hg.rows v hv).1 (hg.rows v hv).2
     have hvs2:=hF2.vs j (by omega)
     rw[dlt hjl,cond_true,AJ hjl,ev,bs,idx_nets hv,bs,size_eq (VS.mk _),bs,AJ hjF,←AY hjF 0,bs,size_eq hvs2,bs,hrow,pat_size (by omega) hF2 hnb (show j<a+b by omega),wi (by omega)]
     have hgd:(row g (H.getD j 0).toNat).length=(row g v).length:=by rw[AY hjl,ev];rfl
     by_cases hc:nd a b j≤(row g v).length
     ·rw[decide_eq_false (by omega),cond_false]
      refine⟨_,rfl,⟨j+1,rfl,hjl,λi hi=> ?_⟩,by dsimp only;omega⟩
      by_cases e:i=j
      ·subst e;rw[hgd];exact hc
      ·exact hall i (by omega)
     ·rw[decide_eq_true (by omega),cond_true]
      exact⟨_,rfl,rfl,λhh=>hc (by have:=hh j hjl;rwa [hgd] at this)⟩
    ·obtain rfl:j=H.length:=by omega
     rw[Bm,cond_false]
     exact⟨_,rfl,hall⟩
   ·rintro(_|r) hz
    ·dsimp only at hz ⊢
     have hFl:(g.map mk).length=g.length:=by simp
     have hfv:∀v:Nat,El (iandNot .u32 (iandNot .u32 (full g.length) s) t) v↔v<g.length∧(v:Int)∉H:=λv=>by
      unfold El
      rw[Dv (VS.iandNot _ _) ht.1,Dv (full_vs _) hs.1,has_full h16,hHm]
      unfold El
      cases has s v<;>cases has t v<;>simp
     obtain⟨r,er,h1,h2⟩:=join_ok hg (prs_ok hg hpl.1 hHl hHn) (by unfold BJ;rw[List.length_map];omega) (BJ a b).length 0 BA (iandNot .u32 (iandNot .u32 (full g.length) s) t) P (by omega) (Nat.lt_of_lt_of_le (by unfold BJ;rw[List.length_map];omega) Cg) ⟨VS.iandNot _ _,λv hv=>((hfv v).1 hv).1⟩ hP
     have hU:∀v:Nat,v<g.length→(Nfr (iandNot .u32 (iandNot .u32 (full g.length) s) t) (v:Int)↔(v:Int)∈H):=λv hv=>by
      constructor
      ·intro hn
       exact Classical.byContradiction λhc=>hn ⟨v,rfl,(hfv v).2 ⟨hv,hc⟩⟩
      ·rintro hm ⟨w,e,hw⟩
       obtain rfl:v=w:=by omega
       exact((hfv v).1 hw).2 hm
     unfold D.k
     rw[nets_all_full,bs,hFl,show (0:Int)=((0:Nat):Int) from rfl,er,bs]
     rw[List.drop_zero] at h1 h2
     refine⟨_,rfl,?_,λhb hf=> ?_,λhb=> ?_⟩
     ·dsimp only
      cases hb:r.1 with
      |false=>rw[(h1 hb).1];exact hP
      |true=>rw[(h2 hb).1];exact hP
     ·obtain⟨_,_,_,l,hl⟩:=hf
      exact(h1 hb).2 l (hl.congr' hg λv hv=>(hU v hv).symm)
     ·have h3:=(h2 hb).2
      rw[List.drop_zero] at h3
      have h4:=h3.congr' hg hU
      exact⟨⟨⟨hs,ht,hsl,htl,hdis⟩,hord,hz,_,h4⟩,rfl,h4⟩
    ·obtain⟨rfl,hn⟩:=hz
     exact⟨_,rfl,hP,λ_ hf=>hn hf.2.2.1,λhb=>(by cases hb)⟩
  ·rw[decide_eq_true hord,cond_true]
   exact⟨_,rfl,hP,λ_ hf=>hord hf.2.1,λhb=>(by cases hb)⟩
 ·have h0:(iand .u32 s t !=0)=true:=by
   rw[bne_iff_ne]
   intro e
   refine hdis λv hv=> ?_
   have h1:has (iand .u32 s t) v=true:=by rw[has_iand hs.1 ht.1,Bool.and_eq_true];exact hv
   rw[e,BT] at h1;cases h1
  rw[h0,cond_true,bs,cond_true]
  exact⟨_,rfl,hP,λ_ hf=>hdis hf.1.2.2.2.2,λhb=>(by cases hb)⟩
end
end Go.Sx

namespace Go.Sx
section
variable {g : LL} (hg : GOk g)
include hg
theorem find1_ok {k:Int}{a b:Nat}(h:(k=1∧a=5∧b=0)∨(k=2∧a=3∧b=3)∨(k=3∧a=4∧b=0)∨(k=4∧a=2∧b=3)){F2:LI}(hF2:FOk F2 (a+b))(hnb:∀u w,u<a+b→(nb F2 u w=true↔(u,w)∈prN a b∨(w,u)∈prN a b))
  {s:Int} (hs:In g.length s) (hsl:(Ax s).length=a) (H:LI) {P:LL} (hP:P.length=(BJ a b).length):
  ∃r,D.o s (g.map mk) (b:Int) k (g.map mk) H (BJ a b) P F2=some r∧r.2.2.length=(BJ a b).length∧(r.1=false→¬∃t,Hub2 g.length a b s t∧B3 g k a b (Ax s++Ax t))∧
   (r.1=true→∃t,(Hub2 g.length a b s t∧B3 g k a b (Ax s++Ax t))∧r.2.1=Ax s++Ax t∧LkW g (Bg (Ax s++Ax t)) (BJ a b) (λx=>x∈Ax s++Ax t) r.2.2):=by
 have h16:=hg.n16
 have hFl:(g.map mk).length=g.length:=by simp
 have hIn0:In g.length 0:=⟨VS.zero,λv hv=>by rw[BT] at hv;cases hv⟩
 obtain⟨r,er,h1,h2,h3⟩:=chG_ok (f:=λc (q:LI×LL)=>D.Y c s k (g.map mk) q.1 (BJ a b) q.2 (g.map mk) F2) h16 (λq:LI×LL=>q.2.length=(BJ a b).length) (λt=>Hub2 g.length a b s t∧B3 g k a b (Ax s++Ax t)) (λt=>In g.length t∧(Ax t).length=b) (λt q=>q.1=Ax s++Ax t∧LkW g (Bg (Ax s++Ax t)) (BJ a b) (λx=>x∈Ax s++Ax t) q.2)
  (λc q hc hq=>find11_ok hg h hF2 hnb hs hc.1 hsl hc.2 q.1 hq) b BA 0 0 (H,P) (λt ht=>(DO h16).1 ht) (Nat.lt_of_lt_of_le (by omega) Cg) (by omega) hIn0 (by omega) hP
 unfold D.o D.y
 rw[Int.natCast_zero] at er
 rw[ch11_eq,hFl,er,bs]
 refine⟨r,rfl,h1,λhb ⟨t,ht⟩=>h2 hb t ((DO h16).2 ⟨ht.1.2.1,ht.1.2.2.2.1⟩) ht,λhb=> ?_⟩
 obtain⟨t,_,h4,h5⟩:=h3 hb
 exact⟨t,h4,h5⟩
theorem isSmall_eq' :D.p0 g=some (decide (g.length≤8)):=by
 unfold D.p0
 rw[Dq g hg.sh2,Cx hg,bs,Bool.true_and]
 congr 1
 rw[Bool.eq_iff_iff,decide_eq_true_eq,decide_eq_true_eq];omega
theorem impl_find_ok {k:Int}{a b:Nat}(h:(k=1∧a=5∧b=0)∨(k=2∧a=3∧b=3)∨(k=3∧a=4∧b=0)∨(k=4∧a=2∧b=3))(h0:D.v k=some ((a:Int),(b:Int)))(h8:g.length≤8):
  ∃r,D.C g k=some r∧(r.2.2.2=false→¬∃s t,Hub2 g.length a b s t∧B3 g k a b (Ax s++Ax t))∧
   (r.2.2.2=true→r.1=k∧∃s t,(Hub2 g.length a b s t∧B3 g k a b (Ax s++Ax t))∧r.2.1=Ax s++Ax t∧LkW g (Bg (Ax s++Ax t)) (BJ a b) (λx=>x∈Ax s++Ax t) r.2.2.1):=by
 have h16:=hg.n16
 have hFl:(g.map mk).length=g.length:=by simp
 have hIn0:In g.length 0:=⟨VS.zero,λv hv=>by rw[BT] at hv;cases hv⟩
 have hpl:=CM (k:=k) (a:=a) (b:=b) (by omega)
 obtain⟨y,ey,F2,rfl,hF2,hnb⟩:=C9 (k:=k) h0 (by omega) (by omega)
 have hG2:=GOk.grow hF2 (by omega) (by omega)
 have hPl:(BJ a b).length≤10:=by unfold BJ;rw[List.length_map];exact hpl.2
 have ha0:((a:Int)==0)=false:=by rw[beq_eq_false_iff_ne];omega
 unfold D.C
 rw[h0,bs,isSmall_eq' hg,decide_eq_true h8,bs]
 dsimp only
 rw[ha0,Bool.not_true,Bool.or_self,cond_false,netsOf_eq g hg,bs]
 unfold D.h
 rw[h0,bs,ey,bs,netsOf_eq _ hG2,grow_mk hF2,bs,CP h0 (by omega),bs,bs,prL_ppI]
 show∃r,(((CC ([]:LI) ((BJ a b).length:Int) ((BJ a b).length:Int)).bind λl_119=>(D.d ((g.map mk).length:Int) 0 (a:Int) 0 (g.map mk) (b:Int) k (g.map mk) ([]:LI) (BJ a b) l_119 F2).bind λy_134=>cond (!y_134.1) (some ((0:Int),([]:LI),([]:LL),false)) ((((D.A y_134.2.1).bind λy_195=>some y_195:Option (LI))).bind λl_186=>(AC (σ:=Int×LL) (ρ:=(LL)) (fun(s_309:Int×LL)=>match s_309 with|(x_315,l_316)=>cond (decide (x_315<(y_134.2.2.length:Int))) ((idx y_134.2.2 x_315).bind λe_369=>(D.A e_369).bind λy_378=>(AM l_316 ([y_378]:LL)).bind λl_401=>some (.inl ((IntKind.i64.wrap (x_315+1)),l_401))) (some (.inr l_316))) (0,([]:LL))).bind λl_362=>some (k,l_186,l_362,true))).bind λy_45=>some (y_45.1,y_45.2.1,y_45.2.2.1,y_45.2.2.2))=some r∧_
 rw[makeD_ok (Int.le_refl _) (by omega),bs]
 obtain⟨r,er,h1,h2,h3⟩:=chG_ok (f:=λc (q:LI×LL)=>D.o c (g.map mk) (b:Int) k (g.map mk) q.1 (BJ a b) q.2 F2) h16 (λq:LI×LL=>q.2.length=(BJ a b).length) (λs=>∃t,Hub2 g.length a b s t∧B3 g k a b (Ax s++Ax t)) (λs=>In g.length s∧(Ax s).length=a) (λs q=>∃t,(Hub2 g.length a b s t∧B3 g k a b (Ax s++Ax t))∧q.1=Ax s++Ax t∧LkW g (Bg (Ax s++Ax t)) (BJ a b) (λx=>x∈Ax s++Ax t) q.2)
  (λc q hc hq=>by
   obtain⟨r,e,k1,k2,k3⟩:=find1_ok hg h hF2 hnb hc.1 hc.2 q.1 hq
   refine⟨r,e,k1,k2,λhb=> ?_⟩
   obtain⟨t,k4⟩:=k3 hb
   exact⟨⟨t,k4.1⟩,t,k4⟩) a BA 0 0 ([],List.replicate (BJ a b).length []) (λt ht=>(DO h16).1 ht) (Nat.lt_of_lt_of_le (by omega) Cg) (by omega) hIn0 (by omega) List.length_replicate
 unfold D.d
 rw[Int.natCast_zero] at er
 rw[ch1_eq,hFl,er,bs]
 cases hb:r.1 with
 |false=>
  rw[Bool.not_false,cond_true,bs]
  refine⟨_,rfl,λ_ ⟨s,t,hst⟩=> ?_,λhh=>(by cases hh)⟩
  exact h2 hb s ((DO h16).2 ⟨hst.1.1,hst.1.2.2.1⟩) ⟨t,hst⟩
 |true=>
  obtain⟨s,_,_,t,h4,h5,h6⟩:=h3 hb
  have hlens:=h6.lens hg
  have hHl:r.2.1.length≤64:=by
   rw[h5,List.length_append,h4.1.2.2.1,h4.1.2.2.2.1];omega
  rw[Bool.not_true,cond_false,wide_eq _ (by unfold Sh;omega),bs,bs]
  have hloop:=BZ (step:=fun(s_309:Int×LL)=>match s_309 with|(x_315,l_316)=>cond (decide (x_315<(r.2.2.length:Int))) ((idx r.2.2 x_315).bind λe_369=>(D.A e_369).bind λy_378=>(AM l_316 ([y_378]:LL)).bind λl_401=>some (.inl ((IntKind.i64.wrap (x_315+1)),l_401))) (some (.inr l_316))) (k:=λl_362=>(some (k,r.2.1,l_362,true):Option (Int×LI×LL×Bool))) (s0:=((0:Int),([]:LL))) (λi=>((i:Int),r.2.2.take i)) r.2.2.length r.2.2 (by simp) (λi hi=>by
    have:=hlens.2 _ (List.getElem_mem hi)
    dsimp only
    rw[dlt hi,cond_true,AJ hi,bs,wide_eq _ (by unfold Sh;omega),bs,A7 (by simp;omega),bs,wi (by omega),List.take_succ_eq_append_getElem hi]) (by
    dsimp only
    rw[Bm,cond_false,List.take_length])
  rw[hloop,bs]
  exact⟨_,rfl,λhh=>(by cases hh),λ_=>⟨rfl,s,t,h4,h5,h6⟩⟩
end
theorem impl_find_not {g:LL}(hs:Sh2 g){k:Int}(h:¬(GOk g∧g.length≤8∧1≤k∧k≤4)):D.C g k=some (0,[],[],false):=by
 obtain⟨a,b,h0,_,h1⟩:=Dh k
 unfold D.C
 rw[h0,bs]
 unfold D.p0
 rw[Dq g hs,bs,bs]
 dsimp only
 have:(!(gB g&&decide ((g.length:Int)≤8))||((a:Int)==0))=true:=by
  rw[Bool.or_eq_true,Bool.not_eq_true',←Bool.not_eq_true,Bool.and_eq_true,gB_iff,decide_eq_true_eq,beq_iff_eq]
  refine Classical.byContradiction λhn=>h ?_
  rw[not_or,Classical.not_not] at hn
  exact⟨hn.1.1,by omega,by omega⟩
 rw[this,cond_true]
end Go.Sx

namespace Go.Sx
theorem Cs (l:LI)(h:l.length≤4294967295):D.c l=some l:=by
 unfold D.c
 rw[A7 (by simp;omega)];simp
section
variable {g : LL} (hg : GOk g)
include hg
def WayR (g:LL)(path used:LI)(v w:Int)(q:LI):Prop:=ChI g v q w∧q.Nodup∧∀x∈q,x≠w∧x∉used∧x∉path
theorem ways_ok (h8:g.length≤8){u w:Nat}(hu:u<g.length)(hw:w<g.length){used:LI}(hul:used.length≤64):
  ∀(k fuel:Nat) (q0:LI) (v:Nat),k<fuel→k≤9→q0.length+k≤64→PtI g u q0 v→v<g.length→
   ∃W,D.S fuel g ((u:Int)::q0) w ((k+1:Nat):Int) used=some W∧(W.length≤8^k∧∀p,p∈W↔∃q,q.length=k∧p=((u:Int)::q0)++(q++[(w:Int)])∧WayR g ((u:Int)::q0) used v w q):=by
 have h16:=hg.n16
 have hadI:∀v:Nat,v<g.length→∀x:Int,adI g (v:Int) x↔x∈row g v:=λv hv x=>by
  constructor
  ·rintro⟨a,b,h1,h2,h3,h4⟩
   obtain rfl:v=a:=by omega
   subst h2;exact h4
  ·intro h
   obtain⟨b,rfl,hb,_⟩:=hg.mem hv h
   exact⟨v,b,rfl,rfl,hv,h⟩
 intro k
 induction k with
 |zero=>
  intro fuel q0 v hk _ hlen hp hv
  obtain⟨m,rfl⟩:∃m,fuel=m+1:=⟨fuel-1,by omega⟩
  have hidx:=Dy hp
  have hrl:=hg.row_len hv
  unfold D.S
  have hlc:(((u:Int)::q0).length:Int)=((q0.length+1:Nat):Int):=by simp
  rw[w64 (x:=(((u:Int)::q0).length:Int)-1) (by omega) (by omega),show (((u:Int)::q0).length:Int)-1=(q0.length:Int) by simp,hidx,bs]
  have he:(((0+1:Nat):Int)==1)=true:=rfl
  rw[he,cond_true,BM hv,bs,B7 _ _ (by unfold Sh;omega),bs]
  by_cases ha:(w:Int)∈row g v
  ·rw[decide_eq_true ha,cond_true,Cs _ (by simp;omega),bs,A7 (by simp;omega),bs,A7 (by simp),bs,bs]
   refine⟨_,rfl,by simp,λp=> ?_⟩
   rw[List.nil_append,List.mem_singleton]
   constructor
   ·rintro rfl
    exact⟨[],rfl,rfl,(hadI v hv _).2 ha,List.nodup_nil,λx hx=>(by cases hx)⟩
   ·rintro⟨q,hq,rfl,_⟩
    obtain rfl:=List.eq_nil_of_length_eq_zero hq
    rfl
  ·rw[decide_eq_false ha,cond_false,bs]
   refine⟨_,rfl,Nat.zero_le _,λp=>⟨λh=>(by cases h),?_⟩⟩
   rintro⟨q,hq,_,h1,_⟩
   obtain rfl:=List.eq_nil_of_length_eq_zero hq
   exact absurd ((hadI v hv _).1 h1) ha
 |succ k ih=>
  intro fuel q0 v hk hk9 hlen hp hv
  obtain⟨m,rfl⟩:∃m,fuel=m+1:=⟨fuel-1,by omega⟩
  have hidx:=Dy hp
  have hrl:=hg.row_len hv
  have hrl8:(row g v).length≤8:=by
   have:=(hg.rows v hv).length_le (by omega)
   omega
  have hpow:8^(k+1)≤8^9:=Nat.pow_le_pow_right (by omega) hk9
  have hpow9:8^9=134217728:=by decide
  unfold D.S
  have hlc:(((u:Int)::q0).length:Int)=((q0.length+1:Nat):Int):=by simp
  rw[w64 (x:=(((u:Int)::q0).length:Int)-1) (by omega) (by omega),show (((u:Int)::q0).length:Int)-1=(q0.length:Int) by simp,hidx,bs]
  have he:(((k+1+1:Nat):Int)==1)=false:=by rw[beq_eq_false_iff_ne];omega
  rw[he,cond_false]
  refine Bn (λs:LL×Int=>∃i:Nat,s.2=(i:Int)∧i≤(row g v).length∧s.1.length≤i*8^k∧∀p,p∈s.1↔∃x∈(row g v).take i,∃q,(x::q).length=k+1∧p=((u:Int)::q0)++(x::q++[(w:Int)])∧WayR g ((u:Int)::q0) used v w (x::q)) (λs=>(row g v).length-s.2.toNat)
   (λW=>W.length≤8^(k+1)∧∀p,p∈W↔∃q,q.length=k+1∧p=((u:Int)::q0)++(q++[(w:Int)])∧WayR g ((u:Int)::q0) used v w q) ?_ ⟨0,rfl,Nat.zero_le _,Nat.zero_le _,λp=>by simp⟩ (λW hW=>⟨W,rfl,hW⟩)
  rintro⟨acc,_⟩ ⟨i,rfl,hi,hal,hmem⟩
  dsimp only at hal hmem ⊢
  rw[BM hv,bs]
  by_cases hil:i<(row g v).length
  ·obtain⟨x,ex,hxn,hax⟩:=hg.mem hv (List.getElem_mem hil)
   have hadx:adI g (v:Int) (x:Int):=(hadI v hv _).2 hax
   have htk:∀y,y∈(row g v).take (i+1)↔y∈(row g v).take i∨y=(x:Int):=λy=>by
    rw[List.take_succ_eq_append_getElem hil,List.mem_append,List.mem_singleton,ex]
   rw[dlt hil,cond_true,bs,AJ hil,ex,bs,wi (by omega)]
   have hc1:(cond ((x:Int) !=(w:Int)) ((D.g used (x:Int)).bind λy_745=>some (!y_745)) (some false))=some (decide ((x:Int)≠w∧(x:Int)∉used)):=by
    by_cases hxw:(x:Int)=w
    ·rw[hxw,bne_self_eq_false,cond_false,decide_eq_false (λh=>h.1 rfl)]
    ·rw[(bne_iff_ne).2 hxw,cond_true,B7 _ _ (by unfold Sh;omega),bs]
     congr 1
     by_cases hxu:(x:Int)∈used
     ·rw[decide_eq_true hxu,decide_eq_false (λh=>h.2 hxu)];rfl
     ·rw[decide_eq_false hxu,decide_eq_true ⟨hxw,hxu⟩];rfl
   have hc2:∀b:Bool,(cond b ((D.g ((u:Int)::q0) (x:Int)).bind λy_771=>some (!y_771)) (some false))=some (b&&decide ((x:Int)∉(u:Int)::q0)):=λb=>by
    cases b with
    |false=>rfl
    |true=>
     rw[cond_true,B7 _ _ (by unfold Sh;simp;omega),bs,Bool.true_and]
     congr 1
     by_cases hxu:(x:Int)∈(u:Int)::q0
     ·rw[decide_eq_true hxu,decide_eq_false (λh=>h hxu)];rfl
     ·rw[decide_eq_false hxu,decide_eq_true hxu];rfl
   rw[hc1,bs,hc2,bs]
   by_cases hgo:((x:Int)≠w∧(x:Int)∉used)∧(x:Int)∉(u:Int)::q0
   ·obtain⟨W,eW,hWl,hW⟩:=ih m (q0++[(x:Int)]) x (by omega) (by omega) (by simp;omega) (ptI_snoc hp hadx) hxn
    have hsum:i*8^k+8^k≤8^(k+1):=by
     rw[←Nat.succ_mul,Nat.pow_succ,Nat.mul_comm (8^k)]
     exact Nat.mul_le_mul_right _ (by omega)
    have hsum2:=Nat.le_trans (Nat.add_le_add hal hWl) hsum
    rw[decide_eq_true hgo.1,decide_eq_true hgo.2,Bool.and_self,cond_true,Cs _ (by simp;omega),bs,A7 (by simp;omega),bs,List.cons_append,w64 (by omega) (by omega),show ((k+1+1:Nat):Int)-1=((k+1:Nat):Int) by omega,eW,bs,A7 (by omega),bs,bs]
    refine⟨_,rfl,⟨i+1,rfl,hil,by dsimp only;rw[List.length_append,Nat.succ_mul];exact Nat.add_le_add hal hWl,λp=> ?_⟩,by dsimp only;omega⟩
    dsimp only
    rw[List.mem_append,hmem,hW]
    constructor
    ·rintro(⟨y,hy,h⟩|⟨q,hq,rfl,h1,h2,h3⟩)
     ·exact⟨y,(htk y).2 (.inl hy),h⟩
     ·refine⟨x,(htk _).2 (.inr rfl),q,by simp[hq],by simp,⟨hadx,h1⟩,?_,λy hy=> ?_⟩
      ·rw[List.nodup_cons]
       exact⟨λhx=>(h3 _ hx).2.2 (by simp),h2⟩
      ·rcases List.mem_cons.1 hy with rfl|hy
       ·exact⟨hgo.1.1,hgo.1.2,hgo.2⟩
       ·obtain⟨k1,k2,k3⟩:=h3 y hy
        exact⟨k1,k2,λhm=>k3 (by
         rcases List.mem_cons.1 hm with h|h
         ·simp[h]
         ·simp[h])⟩
    ·rintro⟨y,hy,q,hq,rfl,⟨h1,h1'⟩,h2,h3⟩
     rcases(htk y).1 hy with hy|rfl
     ·exact .inl ⟨y,hy,q,hq,rfl,⟨h1,h1'⟩,h2,h3⟩
     ·rw[List.nodup_cons] at h2
      refine .inr ⟨q,by simpa using hq,by simp,h1',h2.2,λz hz=> ?_⟩
      obtain⟨k1,k2,k3⟩:=h3 z (List.mem_cons_of_mem _ hz)
      refine⟨k1,k2,λhm=> ?_⟩
      rcases List.mem_cons.1 hm with h|h
      ·exact k3 (h▸List.mem_cons_self)
      ·rcases List.mem_append.1 h with h|h
       ·exact k3 (List.mem_cons_of_mem _ h)
       ·rw[List.mem_singleton] at h;subst h;exact h2.1 hz
   ·have hb:(decide ((x:Int)≠w∧(x:Int)∉used)&&decide ((x:Int)∉(u:Int)::q0))=false:=by
     rw[←Bool.not_eq_true,Bool.and_eq_true,decide_eq_true_eq,decide_eq_true_eq];exact hgo
    rw[hb,cond_false]
    refine⟨_,rfl,⟨i+1,rfl,hil,by dsimp only;rw[Nat.succ_mul];exact Nat.le_trans hal (Nat.le_add_right _ _),λp=> ?_⟩,by dsimp only;omega⟩
    dsimp only
    rw[hmem]
    constructor
    ·rintro⟨y,hy,h⟩;exact⟨y,(htk y).2 (.inl hy),h⟩
    ·rintro⟨y,hy,q,hq,h1,h2⟩
     rcases(htk y).1 hy with hy|rfl
     ·exact⟨y,hy,q,hq,h1,h2⟩
     ·have:=h2.2.2 _ List.mem_cons_self
      exact absurd ⟨⟨this.1,this.2.1⟩,this.2.2⟩ hgo
  ·obtain rfl:i=(row g v).length:=by omega
   rw[Bm,cond_false]
   rw[List.take_length] at hmem
   refine⟨_,rfl,Nat.le_trans hal (by rw[Nat.pow_succ,Nat.mul_comm (8^k)];exact Nat.mul_le_mul_right _ hrl8),λp=> ?_⟩
   rw[hmem]
   constructor
   ·rintro⟨x,_,q,h⟩;exact⟨x::q,h⟩
   ·rintro⟨q,hq,h1,h2⟩
    cases q with
    |nil=>simp at hq
    |cons x q=>exact⟨x,(hadI v hv x).1 h2.1.1,q,hq,h1,h2⟩
end
end Go.Sx

namespace Go.Sx
theorem slice_inner (u w:Int)(q:LI)(h:q.length≤1000):Bt (u::(q++[w])) 1 (IntKind.i64.wrap (((u::(q++[w])).length:Int)-1))=some q:=by
 have hl:((u::(q++[w])).length:Int)=((q.length+2:Nat):Int):=by simp;omega
 rw[hl,w64 (by omega) (by omega),show ((q.length+2:Nat):Int)-1=((q.length+1:Nat):Int) by omega]
 unfold Bt
 rw[if_pos ⟨by omega,by omega,by simp;omega⟩]
 simp
theorem slice_tail {α:Type}(x:α)(l:List α):Bt (x::l) 1 ((x::l).length:Int)=some l:=by
 have:=C1 (xs:=x::l) (i:=1) (by simp)
 rwa [List.drop_one] at this
def CS (e:Nat×Nat):Int×Int:=((e.1:Int),(e.2:Int))
def BG (e:Nat×Nat):LI:=[(e.1:Int),(e.2:Int)]
section
variable {g : LL} (hg : GOk g)
include hg
theorem all_lt {l:LI}(hn:l.Nodup)(h:∀x∈l,∃v:Nat,x=(v:Int)∧v<g.length):l.length≤g.length:=by
 have:=DJ (m:=(List.range g.length).map Int.ofNat) hn (λx hx=>by
  obtain⟨v,rfl,hv⟩:=h x hx
  exact List.mem_map.2 ⟨v,List.mem_range.2 hv,rfl⟩)
 simpa using this
theorem paths_ok (h8:g.length≤8){hubs:LI}:∀(L:List (Nat×Nat)) (fuel:Nat) (used:LI),L.length<fuel→L.length≤20→used.Nodup→(∀x∈used,∃v:Nat,x=(v:Int)∧v<g.length)→
  (∀e∈L,∃u w:Nat,hubs[e.1]? =some (u:Int)∧hubs[e.2]? =some (w:Int)∧u<g.length∧w<g.length∧(u:Int)∈used∧(w:Int)∈used)→
  ∃r,D.N fuel g hubs (L.map BG) used=some r∧r.1.length≤L.length∧(r.2=true↔∃l,LkW g (Bg hubs) (L.map CS) (λx=>x∈used) l)
 |[],fuel,used,hf,_,_,_,_=>by
  obtain⟨m,rfl⟩:∃m,fuel=m+1:=⟨fuel-1,by omega⟩
  unfold D.N
  exact⟨_,rfl,Nat.le_refl _,λ_=>⟨[],rfl⟩,λ_=>rfl⟩
 |e::L,fuel,used,hf,h20,hnd,hlt,hL=>by
  obtain⟨m,rfl⟩:∃m,fuel=m+1:=⟨fuel-1,by omega⟩
  simp only[List.length_cons] at hf h20
  have h16:=hg.n16
  have hul:=all_lt hg hnd hlt
  obtain⟨u,w,ha,hb,hu,hw,huu,hwu⟩:=hL e List.mem_cons_self
  obtain⟨ha1,ha2⟩:=List.getElem?_eq_some_iff.1 ha
  obtain⟨hb1,hb2⟩:=List.getElem?_eq_some_iff.1 hb
  have hua:Bg hubs (e.1:Int)=(u:Int):=by unfold Bg;rw[Int.toNat_natCast,AY ha1,ha2]
  have hwb:Bg hubs (e.2:Int)=(w:Int):=by unfold Bg;rw[Int.toNat_natCast,AY hb1,hb2]
  have hlk:(∃l,LkW g (Bg hubs) ((e::L).map CS) (λx=>x∈used) l)↔∃q,InW g (λx=>x∈used) u w q∧∃l,LkW g (Bg hubs) (L.map CS) (λx=>x∈used∨x∈q) l:=by
   rw[List.map_cons]
   show (∃l,∃q rest,l=(Bg hubs (e.1:Int)::(q++[Bg hubs (e.2:Int)]))::rest∧InW g (λx=>x∈used) (Bg hubs (e.1:Int)) (Bg hubs (e.2:Int)) q∧LkW g (Bg hubs) (L.map CS) (λx=>x∈used∨x∈q) rest)↔_
   rw[hua,hwb]
   constructor
   ·rintro⟨l,q,rest,_,h2,h3⟩;exact⟨q,h2,rest,h3⟩
   ·rintro⟨q,h2,rest,h3⟩;exact⟨_,q,rest,rfl,h2,h3⟩
  have hway:∀q,WayR g ([(u:Int)]) used u w q↔InW g (λx=>x∈used) u w q:=λq=>by
   constructor
   ·rintro⟨h1,h2,h3⟩;exact⟨h2,λx hx=>(h3 x hx).2.1,h1⟩
   ·rintro⟨h2,h3,h1⟩
    exact⟨h1,h2,λx hx=>⟨λh=>h3 x hx (h▸hwu),h3 x hx,λh=>h3 x hx (by rw[List.mem_singleton] at h;exact h▸huu)⟩⟩
  have hqn:∀q,InW g (λx=>x∈used) u w q→(used++q).Nodup∧(∀x∈used++q,∃v:Nat,x=(v:Int)∧v<g.length)∧used.length+q.length≤g.length:=λq hq=>by
   have h1:(used++q).Nodup:=by
    rw[List.nodup_append]
    exact⟨hnd,hq.1,λa ha b hb e=>hq.2.1 b hb (e▸ha)⟩
   have h2:∀x∈used++q,∃v:Nat,x=(v:Int)∧v<g.length:=λx hx=>by
    rcases List.mem_append.1 hx with h|h
    ·exact hlt x h
    ·exact Dz hg hq.2.2 x h
   have h3:=all_lt hg h1 h2
   rw[List.length_append] at h3
   exact⟨h1,h2,h3⟩
  have hrec:∀q,InW g (λx=>x∈used) u w q→∃r,D.N m g hubs (L.map BG) (used++q)=some r∧r.1.length≤L.length∧(r.2=true↔∃l,LkW g (Bg hubs) (L.map CS) (λx=>x∈used∨x∈q) l):=λq hq=>by
   obtain⟨h1,h2,h3⟩:=hqn q hq
   obtain⟨r,er,k1,k2⟩:=paths_ok h8 (hubs:=hubs) L m (used++q) (by omega) (by omega) h1 h2 (λe' he'=>by
    obtain⟨u',w',g1,g2,g3,g4,g5,g6⟩:=hL e' (List.mem_cons_of_mem _ he')
    exact⟨u',w',g1,g2,g3,g4,List.mem_append_left _ g5,List.mem_append_left _ g6⟩)
   refine⟨r,er,k1,k2.trans ?_⟩
   constructor
   ·rintro⟨l,hl⟩;exact⟨l,hl.congr λx=>List.mem_append⟩
   ·rintro⟨l,hl⟩;exact⟨l,hl.congr λx=>List.mem_append.symm⟩
  unfold D.N
  have he0:(((e::L).map BG).length:Int)=((L.length+1:Nat):Int):=by simp
  have he1:((((e::L).map BG).length:Int)==0)=false:=by rw[beq_eq_false_iff_ne];omega
  have hi0:idx ((e::L).map BG) 0=some (BG e):=rfl
  have hj0:idx (BG e) 0=some (e.1:Int):=rfl
  have hj1:idx (BG e) 1=some (e.2:Int):=rfl
  rw[he1,cond_false,hi0,bs,hj0,bs,AJ ha1,ha2,bs,bs,hj1,bs,AJ hb1,hb2,bs,hlk]
  refine Bn (λi:Int=>∃s:Nat,i=((s+1:Nat):Int)∧s+used.length≤g.length+1∧∀q,q.length<s→InW g (λx=>x∈used) u w q→¬∃l,LkW g (Bg hubs) (L.map CS) (λx=>x∈used∨x∈q) l) (λi=>100-i.toNat)
   (λz:Unit ⊕ (LL×Bool)=>match z with
    | .inl _=>∀q,InW g (λx=>x∈used) u w q→¬∃l,LkW g (Bg hubs) (L.map CS) (λx=>x∈used∨x∈q) l
    | .inr r=>r.2=true∧r.1.length≤L.length+1∧∃q,InW g (λx=>x∈used) u w q∧∃l,LkW g (Bg hubs) (L.map CS) (λx=>x∈used∨x∈q) l) ?_ ⟨0,rfl,by omega,λq hq=>absurd hq (Nat.not_lt_zero _)⟩ ?_
  ·rintro _ ⟨s,rfl,hsu,hall⟩
   rw[w64 (x:=(g.length:Int)-(used.length:Int)) (by omega) (by omega),w64 (x:=(g.length:Int)-(used.length:Int)+1) (by omega) (by omega)]
   by_cases hsl:s+used.length≤g.length
   ·obtain⟨W,eW,_,hW⟩:=ways_ok hg h8 hu hw (used:=used) (by omega) s BA [] u (Nat.lt_of_lt_of_le (by omega) Cg) (by omega) (by simp;omega) rfl hu
    have hWl:W.length≤8^8:=Nat.le_trans (by assumption) (Nat.pow_le_pow_right (by omega) (by omega))
    have hp8:8^8=16777216:=by decide
    rw[decide_eq_true (show ((s+1:Nat):Int)≤(g.length:Int)-(used.length:Int)+1 by omega),cond_true]
    unfold D.x
    rw[eW,bs]
    refine Bn (λi:Int=>∃j:Nat,i=(j:Int)∧j≤W.length∧∀p∈W.take j,∀q,p=(u:Int)::(q++[(w:Int)])→¬∃l,LkW g (Bg hubs) (L.map CS) (λx=>x∈used∨x∈q) l) (λi=>W.length-i.toNat)
     (λz:Unit ⊕ (LL×Bool)=>match z with
      | .inl _=>∀p∈W,∀q,p=(u:Int)::(q++[(w:Int)])→¬∃l,LkW g (Bg hubs) (L.map CS) (λx=>x∈used∨x∈q) l
      | .inr r=>r.2=true∧r.1.length≤L.length+1∧∃q,InW g (λx=>x∈used) u w q∧∃l,LkW g (Bg hubs) (L.map CS) (λx=>x∈used∨x∈q) l) ?_ ⟨0,rfl,Nat.zero_le _,by simp⟩ ?_
    ·rintro _ ⟨j,rfl,hj,hallW⟩
     by_cases hjl:j<W.length
     ·obtain⟨q,hq,ep,hwq⟩:=(hW _).1 (List.getElem_mem hjl)
      have hin:=(hway q).1 hwq
      obtain⟨h1,h2,h3⟩:=hqn q hin
      obtain⟨r,er,k1,k2⟩:=hrec q hin
      have ep':W[j]=(u:Int)::(q++[(w:Int)]):=ep
      rw[dlt hjl,cond_true,AJ hjl,ep',bs,List.map_cons,slice_tail,bs,slice_inner _ _ _ (by omega),bs,Cs _ (by omega),bs,A7 (by omega),bs,er,bs,wi (by omega)]
      cases hbr:r.2 with
      |true=>
       rw[cond_true,A7 (by simp;omega),bs]
       exact⟨_,rfl,rfl,by simp;omega,q,hin,k2.1 hbr⟩
      |false=>
       rw[cond_false]
       refine⟨_,rfl,⟨j+1,rfl,hjl,λp hp q' hq' hex=> ?_⟩,by dsimp only;omega⟩
       rw[List.take_succ_eq_append_getElem hjl,List.mem_append,List.mem_singleton] at hp
       rcases hp with hp|rfl
       ·exact hallW p hp q' hq' hex
       ·rw[ep'] at hq'
        have:q=q':=by
         have:=List.cons.inj hq'
         exact List.append_cancel_right this.2
        subst this
        have:=k2.2 hex
        rw[hbr] at this;cases this
     ·obtain rfl:j=W.length:=by omega
      rw[Bm,cond_false]
      rw[List.take_length] at hallW
      exact⟨_,rfl,hallW⟩
    ·rintro(_|r) hz
     ·dsimp only at hz ⊢
      rw[wi (by omega)]
      refine⟨_,rfl,⟨s+1,rfl,by omega,λq hq hin hex=> ?_⟩,by dsimp only;omega⟩
      by_cases c:q.length=s
      ·exact hz ((u:Int)::(q++[(w:Int)])) ((hW _).2 ⟨q,c,rfl,(hway q).2 hin⟩) q rfl hex
      ·exact hall q (by omega) hin hex
     ·exact⟨_,rfl,hz⟩
   ·rw[decide_eq_false (show¬((s+1:Nat):Int)≤(g.length:Int)-(used.length:Int)+1 by omega),cond_false]
    refine⟨_,rfl,λq hin hex=> ?_⟩
    have:=(hqn q hin).2.2
    exact hall q (by omega) hin hex
  ·rintro(_|r) hz
   ·refine⟨_,rfl,Nat.zero_le _,λh=>(by cases h),fun⟨q,hin,hex⟩=>absurd hex (hz q hin)⟩
   ·exact⟨_,rfl,hz.2.1,λ_=>hz.2.2,λ_=>hz.1⟩
end
end Go.Sx

namespace Go.Sx
theorem inc_adj {xs:LI}(h:∀i (hi:i+1<xs.length),xs[i]<xs[i+1]):Inc xs:=by
 unfold Inc
 rw[List.pairwise_iff_getElem]
 intro i j hi hj hij
 obtain⟨d,rfl⟩:∃d,j=i+1+d:=⟨j-(i+1),by omega⟩
 clear hij
 induction d with
 |zero=>exact h i hj
 |succ d ih=>exact Int.lt_trans (ih (by omega)) (h (i+1+d) hj)
theorem rises_ok {xs:LI}(hs:xs.length≤1000):∃b,D.k0 xs=some b∧(b=true↔Inc xs):=by
 unfold D.k0
 refine Bn (λi:Int=>∃j:Nat,i=((j+1:Nat):Int)∧(j=0∨j<xs.length)∧∀i (hi:i+1<xs.length),i<j→xs[i]<xs[i+1]) (λi=>2000-i.toNat)
  (λz:Unit ⊕ Bool=>match z with
   | .inl _=>Inc xs
   | .inr b=>b=false∧¬Inc xs) ?_ ⟨0,rfl,.inl rfl,λi _ hi=>absurd hi (Nat.not_lt_zero _)⟩ ?_
 ·rintro _ ⟨j,rfl,hj,hall⟩
  by_cases hjl:j+1<xs.length
  ·rw[dlt hjl,cond_true,AJ hjl,bs,w64 (by omega) (by omega),show ((j+1:Nat):Int)-1=(j:Int) by omega,AJ (show j<xs.length by omega),bs]
   by_cases hc:xs[j+1]≤xs[j]
   ·rw[decide_eq_true hc,cond_true]
    refine⟨_,rfl,rfl,λhi=> ?_⟩
    have:=List.pairwise_iff_getElem.1 hi j (j+1) (by omega) hjl (by omega)
    omega
   ·rw[decide_eq_false hc,cond_false,wi (by omega)]
    refine⟨_,rfl,⟨j+1,rfl,.inr hjl,λi hi hij=> ?_⟩,by dsimp only;omega⟩
    by_cases e:i=j
    ·subst e;omega
    ·exact hall i hi (by omega)
  ·rw[decide_eq_false (by omega),cond_false]
   exact⟨_,rfl,inc_adj λi hi=>hall i hi (by omega)⟩
 ·rintro(_|b) hz
  ·exact⟨_,rfl,λ_=>hz,λ_=>rfl⟩
  ·obtain⟨rfl,h⟩:=hz
   exact⟨_,rfl,λh'=>(by cases h'),λh'=>absurd h' h⟩
def Cj (n:Nat)(k:Int)(a b:Nat)(H:LI):Prop:=H.length=a+b∧Inc (H.take a)∧Inc (H.drop a)∧(k=2→H.getD 0 0<H.getD 3 0)∧H.Nodup∧∀x∈H,0≤x∧x<(n:Int)
theorem nodup_takes {l:LI}:l.Nodup↔∀i (hi:i<l.length),l[i]∉l.take i:=by
 rw[List.nodup_iff_pairwise_ne,List.pairwise_iff_getElem]
 constructor
 ·intro h i hi hm
  obtain⟨j,hj,e⟩:=List.mem_take_iff_getElem.1 hm
  exact h j i (by omega) hi (by omega) e
 ·intro h i j hi hj hij e
  exact h j hj (List.mem_take_iff_getElem.2 ⟨i,by omega,e⟩)
theorem hubs_ok {g:LL}(hg:GOk g){k:Int}{a b:Nat}(h0:D.q k=some ((a:Int),(b:Int)))(hab:a≤5∧b≤3)(ha:a≠0)(hk:k=2→a=3∧b=3){H:LI}(hH:H.length≤100):
  ∃r,D.j0 g k H=some r∧(r=true↔Cj g.length k a b H):=by
 have h16:=hg.n16
 unfold D.j0
 have ha0:((a:Int)==0)=false:=by rw[beq_eq_false_iff_ne];omega
 rw[h0,bs]
 dsimp only
 rw[ha0,w64 (by omega) (by omega),Bool.false_or]
 by_cases hl:H.length=a+b
 ·have hl1:((H.length:Int) !=(a:Int)+(b:Int))=false:=by rw[hl];exact bne_self_eq_false _
  obtain⟨r1,e1,k1⟩:=rises_ok (xs:=H.take a) (by simp;omega)
  obtain⟨r2,e2,k2⟩:=rises_ok (xs:=H.drop a) (by simp;omega)
  rw[hl1,cond_false,Cz (by omega),bs,e1,bs,bs]
  cases r1 with
  |false=>
   rw[Bool.not_false,cond_true,bs,cond_true,bs,cond_true]
   exact⟨_,rfl,λh=>(by cases h),λh=>(by have:=k1.2 h.2.1;cases this)⟩
  |true=>
   rw[Bool.not_true,cond_false,C1 (by omega),bs,e2,bs,bs]
   cases r2 with
   |false=>
    rw[Bool.not_false,cond_true,bs,cond_true]
    exact⟨_,rfl,λh=>(by cases h),λh=>(by have:=k2.2 h.2.2.1;cases this)⟩
   |true=>
    have hc:((cond (k==2) ((idx H 0).bind λe_96=>(idx H 3).bind λe_102=>some (decide (e_102≤e_96))) (some false)).bind λb_94=>some b_94)=some (decide (¬(k=2→H.getD 0 0<H.getD 3 0))):=by
     by_cases hk2:k=2
     ·obtain⟨rfl,rfl⟩:=hk hk2
      rw[beq_iff_eq.2 hk2,cond_true,show (0:Int)=((0:Nat):Int) from rfl,AJ (show 0<H.length by omega),bs,show (3:Int)=((3:Nat):Int) from rfl,AJ (show 3<H.length by omega),bs,bs]
      congr 1
      rw[Bool.eq_iff_iff,decide_eq_true_eq,decide_eq_true_eq,AY (show 0<H.length by omega),AY (show 3<H.length by omega)]
      constructor
      ·intro h1 h2;have:=h2 hk2;omega
      ·intro h1;refine Classical.byContradiction λh2=>h1 λ_=>by omega
     ·rw[beq_eq_false_iff_ne.2 hk2,cond_false,bs,decide_eq_false (λhh=>hh λh'=>absurd h' hk2)]
    rw[Bool.not_true,cond_false,hc,bs]
    by_cases hord:k=2→H.getD 0 0<H.getD 3 0
    ·rw[decide_eq_false (λhh=>hh hord),cond_false]
     refine⟨_,Ci H.length (λi=>decide (0≤H.getD i 0∧H.getD i 0<(g.length:Int))&& !decide (H.getD i 0∈H.take i)) false (λi hi=> ?_) ?_ rfl rfl,?_⟩
     ·rw[dlt hi,cond_true,AJ hi,bs,AY hi]
      unfold D.m
      rw[show D.b g=some (g.length:Int) from rfl,bs,CX,bs,bs,w64 (x:=(g.length:Int)-1) (by omega) (by omega)]
      by_cases hr:0≤H[i]∧H[i]<(g.length:Int)
      ·rw[decide_eq_true hr.1,decide_eq_true (show H[i]≤(g.length:Int)-1 by omega),decide_eq_true hr,Bool.and_self,Bool.not_true,cond_false,Cz (by omega),bs,bs,B7 _ _ (by unfold Sh;rw[List.length_take];omega),bs,bs,wi (by omega)]
       cases decide (H[i]∈H.take i)<;>rfl
      ·have:(decide (0≤H[i])&&decide (H[i]≤(g.length:Int)-1))=false:=by
        rw[←Bool.not_eq_true,Bool.and_eq_true,decide_eq_true_eq,decide_eq_true_eq];omega
       rw[this,decide_eq_false hr];rfl
     ·rw[Bm,cond_false]
     ·rw[Cw]
      constructor
      ·intro h
       refine⟨hl,k1.1 rfl,k2.1 rfl,hord,nodup_takes.2 λi hi=> ?_,λx hx=> ?_⟩
       ·have:=h i hi
        rw[AY hi,Bool.and_eq_true,Bool.not_eq_true',decide_eq_false_iff_not] at this
        exact this.2
       ·obtain⟨i,hi,rfl⟩:=List.mem_iff_getElem.1 hx
        have:=h i hi
        rw[AY hi,Bool.and_eq_true,decide_eq_true_eq] at this
        exact this.1
      ·rintro⟨_,_,_,_,h1,h2⟩ i hi
       rw[AY hi,Bool.and_eq_true,decide_eq_true_eq,Bool.not_eq_true',decide_eq_false_iff_not]
       exact⟨h2 _ (List.getElem_mem hi),nodup_takes.1 h1 i hi⟩
    ·rw[decide_eq_true hord,cond_true]
     exact⟨_,rfl,λh=>(by cases h),λh=>absurd h.2.2.2.1 hord⟩
 ·have hl1:((H.length:Int) !=(a:Int)+(b:Int))=true:=by rw[bne_iff_ne];omega
  rw[hl1,cond_true,bs,cond_true,bs,cond_true,bs,cond_true]
  exact⟨_,rfl,λh=>(by cases h),λh=>absurd h.1 hl⟩
theorem hubB_iff {n:Nat}(hn:n≤16){k:Int}{a b:Nat}{H:LI}:Cj n k a b H↔(k=2→H.getD 0 0<H.getD 3 0)∧∃s t,Hub2 n a b s t∧H=Ax s++Ax t:=by
 constructor
 ·rintro⟨h1,h2,h3,h4,h5,h6⟩
  have hp:∀x∈H.take a,0≤x∧x<(n:Int):=λx hx=>h6 x (List.mem_of_mem_take hx)
  have hq:∀x∈H.drop a,0≤x∧x<(n:Int):=λx hx=>h6 x (List.mem_of_mem_drop hx)
  have e1:=elems_mk hn h2 hp
  have e2:=elems_mk hn h3 hq
  have m1:∀v,El (mk (H.take a)) v↔(v:Int)∈H.take a:=λv=>by
   unfold El;rw[Do (λx hx=>by have:=hp x hx;omega),decide_eq_true_eq]
  have m2:∀v,El (mk (H.drop a)) v↔(v:Int)∈H.drop a:=λv=>by
   unfold El;rw[Do (λx hx=>by have:=hq x hx;omega),decide_eq_true_eq]
  refine⟨h4,mk (H.take a),mk (H.drop a),⟨⟨VS.mk _,λv hv=>by have:=hp _ ((m1 v).1 hv);omega⟩,⟨VS.mk _,λv hv=>by have:=hq _ ((m2 v).1 hv);omega⟩,by rw[e1,List.length_take];omega,by rw[e2,List.length_drop];omega,λv ⟨g1,g2⟩=> ?_⟩,by rw[e1,e2,List.take_append_drop]⟩
  rw[←List.take_append_drop a H,List.nodup_append] at h5
  exact h5.2.2 _ ((m1 v).1 g1) _ ((m2 v).1 g2) rfl
 ·rintro⟨h4,s,t,⟨hs,ht,hsl,htl,hd⟩,rfl⟩
  refine⟨by rw[List.length_append,hsl,htl],by rw[List.take_append_of_le_length (by omega),←hsl,List.take_length];exact BY s,by rw[List.drop_append_of_le_length (by omega),←hsl,List.drop_length,List.nil_append];exact BY t,h4,?_,λx hx=> ?_⟩
  ·rw[List.nodup_append]
   refine⟨(BY s).nodup,(BY t).nodup,λx hx y hy e=> ?_⟩
   subst e
   obtain⟨v,_,hv,rfl⟩:=mem_elems.1 hx
   exact hd v ⟨hv,(BI ht.1).1 hy⟩
  ·rcases List.mem_append.1 hx with h|h
   ·obtain⟨v,_,hv,rfl⟩:=mem_elems.1 h
    have:=hs.2 v hv;omega
   ·obtain⟨v,_,hv,rfl⟩:=mem_elems.1 h
    have:=ht.2 v hv;omega
theorem nd_pairs {k:Int}{a b:Nat}(h:(k=1∧a=5∧b=0)∨(k=2∧a=3∧b=3)∨(k=3∧a=4∧b=0)∨(k=4∧a=2∧b=3)):∀i,i<a+b→((prN a b).filter λe=>e.1==i||e.2==i).length=nd a b i:=by
 rcases h with⟨_,rfl,rfl⟩|⟨_,rfl,rfl⟩|⟨_,rfl,rfl⟩|⟨_,rfl,rfl⟩<;>decide
theorem enough_ok {g:LL}(hg:GOk g){k:Int}{a b:Nat}(h:(k=1∧a=5∧b=0)∨(k=2∧a=3∧b=3)∨(k=3∧a=4∧b=0)∨(k=4∧a=2∧b=3)){H:LI}(hl:H.length=a+b)(hH:∀x∈H,0≤x∧x<(g.length:Int)):
  ∃r,D.s0 g ((prN a b).map BG) H=some r∧(r=true↔∀i,i<H.length→nd a b i≤(row g (H.getD i 0).toNat).length):=by
 have h16:=hg.n16
 have hpl:=CM (k:=k) (a:=a) (b:=b) (by omega)
 have hml:((prN a b).map BG).length=(prN a b).length:=List.length_map _
 unfold D.s0
 refine⟨_,Ci H.length (λi=>decide (nd a b i≤(row g (H.getD i 0).toNat).length)) false (λi hi=> ?_) ?_ rfl rfl,?_⟩
 ·have hcnt:∀{β:Type} (kk:Int→Option β),(AC (σ:=Int×Int) (ρ:=(Int)) (fun(s_890:Int×Int)=>match s_890 with|(x_893,x_894)=>cond (decide (x_894<(((prN a b).map BG).length:Int))) ((idx ((prN a b).map BG) x_894).bind λe_955=>(idx e_955 0).bind λe_961=>(cond (e_961==(i:Int)) (some true) ((idx ((prN a b).map BG) x_894).bind λe_996=>(idx e_996 1).bind λe_1002=>some (e_1002==(i:Int)))).bind λb_994=>cond b_994 (some (.inl ((IntKind.i64.wrap (x_893+1)),(IntKind.i64.wrap (x_894+1))))) (some (.inl (x_893,(IntKind.i64.wrap (x_894+1)))))) (some (.inr x_893))) (0,0)).bind kk=kk ((nd a b i:Nat):Int):=fun{β} kk=>by
   refine BZ (λj=>(((((prN a b).take j).filter λe=>e.1==i||e.2==i).length:Int),(j:Int))) (prN a b).length _ rfl (λj hj=> ?_) ?_
   ·have hjm:j<((prN a b).map BG).length:=by rw[hml];exact hj
    have hfl:=List.length_filter_le (λe:Nat×Nat=>e.1==i||e.2==i) ((prN a b).take j)
    rw[List.length_take] at hfl
    have j0:idx (BG (prN a b)[j]) 0=some ((prN a b)[j].1:Int):=rfl
    have j1:idx (BG (prN a b)[j]) 1=some ((prN a b)[j].2:Int):=rfl
    dsimp only
    rw[dlt hjm,cond_true,AJ hjm,List.getElem_map,bs,j0,bs,bs,j1,bs,wi (by omega),wi (by omega),List.take_succ_eq_append_getElem hj,List.filter_append,List.length_append]
    have c1:(((prN a b)[j].1:Int)==(i:Int))=((prN a b)[j].1==i):=by rw[Bool.eq_iff_iff,beq_iff_eq,beq_iff_eq];omega
    have c2:(((prN a b)[j].2:Int)==(i:Int))=((prN a b)[j].2==i):=by rw[Bool.eq_iff_iff,beq_iff_eq,beq_iff_eq];omega
    rw[c1,c2]
    cases d1:(prN a b)[j].1==i<;>cases d2:(prN a b)[j].2==i<;>simp[d1,d2,List.filter_cons]
   ·dsimp only
    rw[hml,Bm,cond_false,List.take_length,nd_pairs h i (by omega)]
  have hr:=hH _ (List.getElem_mem hi)
  have hrow:idx g H[i]=some (row g (H[i]).toNat):=by
   rw[show H[i]=(((H[i]).toNat:Nat):Int) by omega,BM (show (H[i]).toNat<g.length by omega),Int.toNat_natCast]
  rw[dlt hi,cond_true,hcnt,AJ hi,bs,hrow,bs,AY hi]
  by_cases hc:nd a b i≤(row g (H[i]).toNat).length
  ·rw[decide_eq_false (by omega),cond_false,decide_eq_true hc,if_pos rfl,wi (by omega)]
  ·rw[decide_eq_true (by omega),cond_true,decide_eq_false hc];rfl
 ·rw[Bm,cond_false]
 ·rw[Cw]
  exact⟨λh i hi=>of_decide_eq_true (h i hi),λh i hi=>decide_eq_true (h i hi)⟩
def BP (n:Nat)(H:LI):Nat:=H.foldl (λs x=>s*n+x.toNat) 0
theorem Cp (n:Nat)(P:LI)(h:Int):BP n (P++[h])=BP n P*n+h.toNat:=by
 unfold BP;rw[List.foldl_append];rfl
def BelB (n:Nat)(H:LI):Prop:=∀x∈H,0≤x∧x<(n:Int)
theorem BelB.app {n:Nat}{P Q:LI}:BelB n (P++Q)↔BelB n P∧BelB n Q:=by
 unfold BelB
 constructor
 ·exact λh=>⟨λx hx=>h x (List.mem_append_left _ hx),λx hx=>h x (List.mem_append_right _ hx)⟩
 ·rintro⟨h1,h2⟩ x hx
  exact(List.mem_append.1 hx).elim (h1 x) (h2 x)
theorem Ed {H:LI}{m:Nat}(h:H.length=m+1):∃P x,H=P++[x]∧P.length=m:=by
 refine⟨H.dropLast,H.getLast (λe=>by rw[e] at h;simp at h),(List.dropLast_concat_getLast _).symm,by rw[List.length_dropLast];omega⟩
theorem valB_lt {n:Nat}:∀{m:Nat} {H:LI},H.length=m→BelB n H→BP n H<n^m
 |0,H,h,_=>by
  obtain rfl:=List.eq_nil_of_length_eq_zero h
  simp[BP]
 |m+1,H,h,hb=>by
  obtain⟨P,x,rfl,hP⟩:=Ed h
  have h1:=BelB.app.1 hb
  have ih:=valB_lt hP h1.1
  have hx:=h1.2 x (by simp)
  rw[Cp,Nat.pow_succ]
  have:(BP n P+1)*n≤n^m*n:=Nat.mul_le_mul_right _ ih
  rw[Nat.succ_mul] at this
  omega
theorem valB_inj {n:Nat}:∀{m:Nat} {H H':LI},H.length=m→H'.length=m→BelB n H→BelB n H'→BP n H=BP n H'→H=H'
 |0,H,H',h,h',_,_,_=>by rw[List.eq_nil_of_length_eq_zero h,List.eq_nil_of_length_eq_zero h']
 |m+1,H,H',h,h',hb,hb',e=>by
  obtain⟨P,x,rfl,hP⟩:=Ed h
  obtain⟨P',x',rfl,hP'⟩:=Ed h'
  have h1:=BelB.app.1 hb
  have h2:=BelB.app.1 hb'
  have hx:=h1.2 x (by simp)
  have hx':=h2.2 x' (by simp)
  rw[Cp,Cp] at e
  have hn:0<n:=by omega
  have e1:=congrArg (·/n) e
  have e2:=congrArg (·%n) e
  simp only[Nat.mul_comm _ n,Nat.mul_add_div hn,Nat.mul_add_mod] at e1 e2
  rw[Nat.div_eq_of_lt (by omega),Nat.div_eq_of_lt (by omega)] at e1
  rw[Nat.mod_eq_of_lt (by omega),Nat.mod_eq_of_lt (by omega)] at e2
  have:=valB_inj hP hP' h1.1 h2.1 (by omega)
  rw[this,show x=x' by omega]
theorem DX (n:Nat)(P:LI):∀j,BP n (P++List.replicate j 0)=BP n P*n^j
 |0=>by simp
 |j+1=>by rw[List.replicate_succ',←List.append_assoc,Cp,DX n P j,Nat.pow_succ,Nat.mul_assoc];simp
theorem valB_top {n:Nat}(hn:0<n)(P:LI):∀j,BP n (P++List.replicate j ((n:Int)-1))+1=(BP n P+1)*n^j
 |0=>by simp
 |j+1=>by
  have ih:=valB_top hn P j
  rw[List.replicate_succ',←List.append_assoc,Cp,Nat.pow_succ,←Nat.mul_assoc,←ih,Nat.succ_mul]
  have:((n:Int)-1).toNat=n-1:=by omega
  rw[this];omega
theorem next_ok {n m:Nat}(hn:0<n)(hn2:n≤1000)(hm:m≤100){H:LI}(hl:H.length=m)(hb:BelB n H):∃r,D.T H (n:Int)=some r∧r.1.length=m∧BelB n r.1∧(r.2=true→BP n r.1=BP n H+1)∧(r.2=false→BP n H+1=n^m):=by
 unfold D.T
 rw[Cs _ (by omega),bs]
 refine Bn (λs:LI×Int=>∃(P:LI) (j:Nat),H=P++List.replicate j ((n:Int)-1)∧s.1=P++List.replicate j 0∧s.2=(P.length:Int)-1) (λs=>(s.2+1).toNat)
  (λz:LI ⊕ (LI×Bool)=>match z with
   | .inl l=>l.length=m∧BelB n l∧BP n H+1=n^m
   | .inr r=>r.2=true∧r.1.length=m∧BelB n r.1∧BP n r.1=BP n H+1) ?_ ⟨H,0,by simp,by simp,by rw[w64 (by omega) (by omega)]⟩ ?_
 ·rintro⟨_,_⟩ ⟨P,j,hH,rfl,rfl⟩
  dsimp only
  have hlen:P.length+j=m:=by rw[←hl,hH];simp
  by_cases hP:P.length=0
  ·obtain rfl:=List.eq_nil_of_length_eq_zero hP
   rw[decide_eq_false (show¬(0:Int)≤((([]:LI).length:Nat):Int)-1 by simp),cond_false]
   refine⟨_,rfl,by simp;simpa using hlen,λx hx=> ?_,?_⟩
   ·rw[List.nil_append] at hx
    have:=List.eq_of_mem_replicate hx
    omega
   ·have:=valB_top hn [] j
    rw[←hH] at this
    rw[this]
    simp[BP]
    simp at hlen
    rw[hlen]
  ·obtain⟨Q,x,rfl,hQ⟩:=Ed (m:=P.length-1) (H:=P) (by omega)
   have hQl:((Q++[x]).length:Int)-1=(Q.length:Int):=by simp
   have hx:0≤x∧x<(n:Int):=hb x (by rw[hH];simp)
   have hl0:Q.length<(Q++[x]++List.replicate j 0).length:=by simp
   have g0:(Q++[x]++List.replicate j 0)[Q.length]=x:=by simp
   have hset:∀y:Int,(Q++[x]++List.replicate j 0).set Q.length y=Q++[y]++List.replicate j 0:=λy=>by
    rw[List.append_assoc,List.set_append_right _ _ (Nat.le_refl _),Nat.sub_self];simp
   have hl1:∀y:Int,Q.length<(Q++[y]++List.replicate j 0).length:=λy=>by simp
   have g1:∀y:Int,(Q++[y]++List.replicate j 0)[Q.length]'(hl1 y)=y:=λy=>by simp
   rw[hQl,decide_eq_true (by omega),cond_true,AJ hl0,bs,bs,g0,w64 (x:=x+1) (by omega) (by omega),Int.toNat_natCast,hset,AJ (hl1 _),g1,bs]
   have hbQ:BelB n Q:=λy hy=>hb y (by rw[hH];simp[hy])
   by_cases hlt:x+1<(n:Int)
   ·rw[decide_eq_true hlt,cond_true]
    refine⟨_,rfl,rfl,by simp at hlen ⊢;omega,?_,?_⟩
    ·rw[BelB.app,BelB.app]
     refine⟨⟨hbQ,λy hy=> ?_⟩,λy hy=> ?_⟩
     ·rw[List.mem_singleton] at hy;omega
     ·have:=List.eq_of_mem_replicate hy;omega
    ·dsimp only
     have h1:=valB_top hn (Q++[x]) j
     rw[←hH] at h1
     rw[DX,Cp,h1,Cp]
     congr 1;omega
   ·rw[decide_eq_false hlt,cond_false,bs]
    have hxe:x=(n:Int)-1:=by omega
    have hset2:(Q++[x+1]++List.replicate j 0).set Q.length 0=Q++List.replicate (j+1) 0:=by
     rw[List.append_assoc,List.set_append_right _ _ (Nat.le_refl _),Nat.sub_self];simp[List.replicate_succ]
    rw[hset2,w64 (by omega) (by omega)]
    refine⟨_,rfl,⟨Q,j+1,?_,rfl,rfl⟩,by dsimp only;omega⟩
    rw[hH,hxe,List.append_assoc];rfl
 ·rintro(l|r) hz
  ·exact⟨_,rfl,hz.1,hz.2.1,λh=>(by cases h),λ_=>hz.2.2⟩
  ·exact⟨_,rfl,hz.2.1,hz.2.2.1,λ_=>hz.2.2.2,λh=>(by have:=hz.1;rw[h] at this;cases this)⟩
section
variable {g : LL} (hg : GOk g)
include hg
theorem D2 {k:Int}{a b:Nat}(h:(k=1∧a=5∧b=0)∨(k=2∧a=3∧b=3)∨(k=3∧a=4∧b=0)∨(k=4∧a=2∧b=3))(h0:D.q k=some ((a:Int),(b:Int)))(h8:g.length≤8):
  ∃r,D.R g k=some r∧(r.2.2.2=true↔∃H,Cj g.length k a b H∧B3 g k a b H):=by
 have h16:=hg.n16
 have h1:=hg.n1
 have hpl:=CM (k:=k) (a:=a) (b:=b) (by omega)
 have hsz:D.b g=some (g.length:Int):=rfl
 have ha0:((a:Int)==0)=false:=by rw[beq_eq_false_iff_ne];omega
 have hfnd:∀H,Cj g.length k a b H→(B3 g k a b H↔(∀i,i<H.length→nd a b i≤(row g (H.getD i 0).toNat).length)∧∃l,LkW g (Bg H) (BJ a b) (λx=>x∈H) l):=λH hH=>⟨λhf=>hf.2,λhf=>⟨hH.2.2.2.1,hf⟩⟩
 unfold D.R D.I0
 rw[h0,bs,BE g hg.sh2,Cx hg,bs,bs]
 dsimp only
 rw[ha0,decide_eq_true (show (g.length:Int)≤8 by omega),Bool.true_and,Bool.not_true,Bool.or_self,cond_false,C6 h0 (by omega),bs,prL_plI,w64 (by omega) (by omega),show (a:Int)+(b:Int)=((a+b:Nat):Int) from rfl,makeD_ok (Int.le_refl _) (by omega),bs]
 refine Bn (λs:LL×LI×Bool=>s.1=(prN a b).map BG∧s.2.1.length=a+b∧BelB g.length s.2.1∧(s.2.2=true→∀H,H.length=a+b→BelB g.length H→BP g.length H<BP g.length s.2.1→¬(Cj g.length k a b H∧B3 g k a b H))∧(s.2.2=false→∀H,¬(Cj g.length k a b H∧B3 g k a b H)))
  (λs=>if s.2.2 then g.length^(a+b)+1-BP g.length s.2.1 else 0)
  (λz:Unit ⊕ (Int×LI×LL×Bool)=>match z with
   | .inl _=>∀H,¬(Cj g.length k a b H∧B3 g k a b H)
   | .inr r=>r.2.2.2=true∧∃H,Cj g.length k a b H∧B3 g k a b H) ?_ ⟨rfl,List.length_replicate,λx hx=> ?_,λ_ H _ _ hv=> ?_,λhb=>(by cases hb)⟩ ?_
 ·rintro⟨_,H,more⟩ ⟨hp,hl,hb,hall,hnone⟩
  dsimp only at hp hl hb hall hnone ⊢
  subst hp
  cases more with
  |false=>exact⟨_,rfl,hnone rfl⟩
  |true=>
   have hall:=hall rfl
   have hvl:=valB_lt hl hb
   obtain⟨r1,e1,k1⟩:=hubs_ok hg h0 (by omega) (by omega) (by omega) (H:=H) (by omega)
   have hgo:¬(Cj g.length k a b H∧B3 g k a b H)→∃y,((D.b g).bind λy_477=>(D.T H y_477).bind λy_484=>(some (.inl ((prN a b).map BG,y_484.1,y_484.2)):Option ((LL×LI×Bool) ⊕ (Unit ⊕ (Int×LI×LL×Bool)))))=some y∧Stp (λs:LL×LI×Bool=>s.1=(prN a b).map BG∧s.2.1.length=a+b∧BelB g.length s.2.1∧(s.2.2=true→∀H,H.length=a+b→BelB g.length H→BP g.length H<BP g.length s.2.1→¬(Cj g.length k a b H∧B3 g k a b H))∧(s.2.2=false→∀H,¬(Cj g.length k a b H∧B3 g k a b H)))
     (λs=>if s.2.2 then g.length^(a+b)+1-BP g.length s.2.1 else 0)
     (λz:Unit ⊕ (Int×LI×LL×Bool)=>match z with
      | .inl _=>∀H,¬(Cj g.length k a b H∧B3 g k a b H)
      | .inr r=>r.2.2.2=true∧∃H,Cj g.length k a b H∧B3 g k a b H) ((prN a b).map BG,H,true) y:=λhno=>by
    obtain⟨r,er,g1,g2,g3,g4⟩:=next_ok (n:=g.length) (m:=a+b) h1 (by omega) (by omega) hl hb
    rw[hsz,bs,er,bs]
    have hle:∀H',H'.length=a+b→BelB g.length H'→BP g.length H'<BP g.length H+1→¬(Cj g.length k a b H'∧B3 g k a b H'):=λH' hl' hb' hv'=>by
     by_cases e:BP g.length H'=BP g.length H
     ·obtain rfl:=valB_inj hl' hl hb' hb e
      exact hno
     ·exact hall H' hl' hb' (by omega)
    refine⟨_,rfl,⟨rfl,g1,g2,λhr H' hl' hb' hv'=> ?_,λhr H' hH'=> ?_⟩,?_⟩
    ·dsimp only at hr hv'
     rw[g3 hr] at hv'
     exact hle H' hl' hb' hv'
    ·dsimp only at hr
     have hb':BelB g.length H':=hH'.1.2.2.2.2.2
     have hv':=valB_lt hH'.1.1 hb'
     exact hle H' hH'.1.1 hb' (by have:=g4 hr;omega) hH'
    ·dsimp only
     cases hr:r.2 with
     |false=>simp;omega
     |true=>have:=g3 hr;simp;omega
   rw[cond_true,e1,bs]
   by_cases hH:Cj g.length k a b H
   ·have hr1:=k1.2 hH
    subst hr1
    obtain⟨r2,e2,k2⟩:=enough_ok hg h hl hb
    rw[Bool.not_true,cond_false]
    have e2':D.s0 g ((prN a b).map BG) H=some r2:=e2
    rw[e2',bs,bs]
    cases r2 with
    |false=>
     rw[Bool.not_false,cond_true]
     exact hgo λhc=>by have:=k2.2 hc.2.2.1;cases this
    |true=>
     have hex:∀x∈H,∃v:Nat,x=(v:Int)∧v<g.length:=λx hx=>⟨x.toNat,by have:=hb x hx;omega,by have:=hb x hx;omega⟩
     obtain⟨r3,e3,_,k3⟩:=paths_ok hg h8 (hubs:=H) (prN a b) BA H (Nat.lt_of_lt_of_le (by omega) Cg) (by omega) hH.2.2.2.2.1 hex (λe he=>by
      have hp:=hpl.1 e he
      obtain⟨u,hu,hun⟩:=hex _ (List.getElem_mem (show e.1<H.length by omega))
      obtain⟨w,hw,hwn⟩:=hex _ (List.getElem_mem (show e.2<H.length by omega))
      exact⟨u,w,by rw[List.getElem?_eq_getElem (show e.1<H.length by omega),hu],by rw[List.getElem?_eq_getElem (show e.2<H.length by omega),hw],hun,hwn,hu▸List.getElem_mem _,hw▸List.getElem_mem _⟩)
     have e3':D.s g H ((prN a b).map BG) H=some r3:=e3
     rw[Bool.not_true,cond_false,e3',bs]
     cases hb3:r3.2 with
     |true=>
      rw[cond_true,Cs _ (by omega),bs]
      exact⟨_,rfl,rfl,H,hH,(hfnd H hH).2 ⟨k2.1 rfl,k3.1 hb3⟩⟩
     |false=>
      rw[cond_false]
      exact hgo λhc=>by
       have:=k3.2 hc.2.2.2
       rw[hb3] at this;cases this
   ·have hr1:r1=false:=by
     rw[←Bool.not_eq_true];exact λh=>hH (k1.1 h)
    subst hr1
    rw[Bool.not_false,cond_true,bs,cond_true]
    exact hgo λhc=>hH hc.1
 ·dsimp only at hx
  have:=List.eq_of_mem_replicate hx
  omega
 ·dsimp only at hv
  have:=DX g.length [] (a+b)
  rw[List.nil_append] at this
  rw[this] at hv
  simp[BP] at hv
 ·rintro(_|r) hz
  ·exact⟨_,rfl,λhh=>(by cases hh),fun⟨H,hH⟩=>absurd hH (hz H)⟩
  ·exact⟨_,rfl,λ_=>hz.2,λ_=>hz.1⟩
end
theorem spec_find_not {g:LL}(hs:Sh2 g){k:Int}(h:¬(GOk g∧g.length≤8∧1≤k∧k≤4)):∃r,D.R g k=some r∧r.2.2.2=false:=by
 obtain⟨a,b,_,h0,h1⟩:=Dh k
 unfold D.R D.I0
 rw[h0,bs,BE g hs,bs,bs]
 dsimp only
 have:(!(gB g&&decide ((g.length:Int)≤8))||((a:Int)==0))=true:=by
  rw[Bool.or_eq_true,Bool.not_eq_true',←Bool.not_eq_true,Bool.and_eq_true,gB_iff,decide_eq_true_eq,beq_iff_eq]
  refine Classical.byContradiction λhn=>h ?_
  rw[not_or,Classical.not_not] at hn
  exact⟨hn.1.1,by omega,by omega⟩
 rw[this,cond_true]
 exact⟨_,rfl,rfl⟩
end Go.Sx

namespace Go.Sx
theorem chI_step {g:LL}{w:Int}:∀{u:Int} {q:LI},ChI g u q w→∀i (hi:i+1<(u::(q++[w])).length),adI g (u::(q++[w]))[i] (u::(q++[w]))[i+1]
 |u,[],h,i,hi=>by
  simp at hi
  obtain rfl:i=0:=by omega
  exact h
 |u,x::q,h,0,hi=>h.1
 |u,x::q,h,i+1,hi=>by
  have:=chI_step (u:=x) (q:=q) h.2 i (by simpa using hi)
  simpa using this
section
variable {g : LL} (hg : GOk g)
include hg
theorem path3_ok {p:LI}(hn:p.Nodup)(hlt:∀x∈p,∃v:Nat,x=(v:Int)∧v<g.length)(hst:∀i (hi:i+1<p.length),adI g p[i] p[i+1]):D.Q0 g p=some true:=by
 have h16:=hg.n16
 have hl:=all_lt hg hn hlt
 unfold D.Q0
 refine(BZ (λi=>(i:Int)) p.length (.inl ()) rfl (λi hi=> ?_) ?_).trans rfl
 ·obtain⟨v,ev,hv⟩:=hlt _ (List.getElem_mem hi)
  have hns:decide ((v:Int)∈p.take i)=false:=by
   rw[decide_eq_false_iff_not,←ev];exact nodup_takes.1 hn i hi
  have e4:(cond (decide ((0:Int)<(i:Int))) ((idx p (IntKind.i64.wrap ((i:Int)-1))).bind λe_458=>(idx p (i:Int)).bind λe_464=>(D.i g e_458 e_464).bind λy_470=>some (!y_470)) (some false))=some false:=by
   by_cases h0:i=0
   ·subst h0;rfl
   ·have d:decide ((0:Int)<(i:Int))=true:=by simp;omega
    obtain⟨a,b,h1,h2,h3,h4⟩:=hst (i-1) (by omega)
    have h2':p[i]=(b:Int):=by
     have e:i-1+1=i:=by omega
     simpa only[e] using h2
    obtain rfl:v=b:=by omega
    have:decide ((v:Int)∈row g a)=true:=decide_eq_true h4
    rw[d,cond_true,w64 (by omega) (by omega),show (i:Int)-1=((i-1:Nat):Int) by omega,AJ (show i-1<p.length by omega),h1,bs,AJ hi,h2',bs,C4 g hg h3,bs,this];rfl
  rw[dlt hi,cond_true,AJ hi,ev,bs,DM hg hv,bs,Bool.not_true,cond_false,Cz (by omega),bs,bs,B7 _ _ (by unfold Sh;rw[List.length_take];omega),bs,hns,bs,cond_false]
  rw[AJ hi,ev] at e4
  rw[e4,bs,bs,cond_false,wi (by omega)]
 ·rw[Bm,cond_false]
theorem subOk_ok {k:Int}{a b:Nat}(h:(k=1∧a=5∧b=0)∨(k=2∧a=3∧b=3)∨(k=3∧a=4∧b=0)∨(k=4∧a=2∧b=3))(h0:D.q k=some ((a:Int),(b:Int))){H:LI}(hH:Cj g.length k a b H){l:LL}(hl:LkW g (Bg H) (BJ a b) (λx=>x∈H) l):
  D.I g k H l=some true:=by
 have h16:=hg.n16
 have hpl:=CM (k:=k) (a:=a) (b:=b) (by omega)
 have hml:((prN a b).map BG).length=(prN a b).length:=List.length_map _
 have hHl:=hH.1
 have hex:∀x∈H,∃v:Nat,x=(v:Int)∧v<g.length:=λx hx=>⟨x.toNat,by have:=hH.2.2.2.2.2 x hx;omega,by have:=hH.2.2.2.2.2 x hx;omega⟩
 have hlens:=hl.lens hg
 have hll:l.length=(prN a b).length:=by rw[hlens.1];unfold BJ;rw[List.length_map]
 obtain⟨r1,e1,k1⟩:=hubs_ok hg h0 (by omega) (by omega) (by omega) (H:=H) (by omega)
 have hr1:=k1.2 hH
 subst hr1
 have hsp:=C6 h0 (by omega)
 rw[prL_plI] at hsp
 have hsp':D.E k=some ((prN a b).map BG):=hsp
 unfold D.I
 rw[hsp',bs,BE g hg.sh2,Cx hg,bs,Bool.not_true,cond_false,e1,bs,bs,Bool.not_true,Bool.false_or]
 have hne:((l.length:Int) !=(((prN a b).map BG).length:Int))=false:=by rw[hml,hll];exact bne_self_eq_false _
 rw[hne,cond_false,Cs _ (by omega),bs]
 refine some_of ?_
 refine Bn (λs:LI×Int=>∃i:Nat,s.2=(i:Int)∧i≤(prN a b).length∧s.1.length≤8+16*i∧(∀x∈H,x∈s.1)∧LkW g (Bg H) ((BJ a b).drop i) (λx=>x∈s.1) (l.drop i)) (λs=>(prN a b).length-s.2.toNat)
  (λz:Unit ⊕ Bool=>z= .inl ()) ?_ ⟨0,rfl,Nat.zero_le _,by dsimp only;omega,λx hx=>hx,hl⟩ (λz hz=>by subst hz;exact⟨_,rfl,rfl⟩)
 rintro⟨used,_⟩ ⟨i,rfl,hi,hul,hHu,hlk⟩
 dsimp only at hul hHu hlk ⊢
 by_cases hil:i<(prN a b).length
 ·have hil2:i<((prN a b).map BG).length:=by rw[hml];exact hil
  have hilp:i<(BJ a b).length:=by unfold BJ;rw[List.length_map];exact hil
  have hill:i<l.length:=by omega
  have hp:=hpl.1 _ (List.getElem_mem hil)
  have k1':(prN a b)[i].1<H.length:=by omega
  have k2':(prN a b)[i].2<H.length:=by omega
  have hu0:Bg H (((prN a b)[i].1:Nat):Int)=H[(prN a b)[i].1]:=by unfold Bg;rw[Int.toNat_natCast,AY k1']
  have hw0:Bg H (((prN a b)[i].2:Nat):Int)=H[(prN a b)[i].2]:=by unfold Bg;rw[Int.toNat_natCast,AY k2']
  have hpi:(BJ a b)[i]=(((prN a b)[i].1:Int),((prN a b)[i].2:Int)):=by simp[BJ]
  rw[List.drop_eq_getElem_cons hilp,List.drop_eq_getElem_cons hill,hpi] at hlk
  obtain⟨q,rest,e,hin,hrest⟩:=hlk
  dsimp only at e hin
  rw[hu0,hw0] at e hin
  obtain⟨e1,e2⟩:=List.cons.inj e
  rw[←e2] at hrest
  have hql:=hin.len' hg
  obtain⟨u,hu,hun⟩:=hex _ (List.getElem_mem k1')
  obtain⟨w,hw,hwn⟩:=hex _ (List.getElem_mem k2')
  have huU:=hHu _ (List.getElem_mem k1')
  have hwU:=hHu _ (List.getElem_mem k2')
  have huw:H[(prN a b)[i].1]≠H[(prN a b)[i].2]:=λe=>by have:=nodup_idx hH.2.2.2.2.1 k1' k2' e;omega
  have hnd:(H[(prN a b)[i].1]::(q++[H[(prN a b)[i].2]])).Nodup:=by
   rw[List.nodup_cons,List.nodup_append]
   refine⟨λhm=> ?_,hin.1,by simp,λx hx y hy e=> ?_⟩
   ·rcases List.mem_append.1 hm with hm|hm
    ·exact hin.2.1 _ hm huU
    ·rw[List.mem_singleton] at hm;exact huw hm
   ·rw[List.mem_singleton] at hy
    subst hy;subst e
    exact hin.2.1 _ hx hwU
  have hpl3:∀x∈H[(prN a b)[i].1]::(q++[H[(prN a b)[i].2]]),∃v:Nat,x=(v:Int)∧v<g.length:=λx hx=>by
   rcases List.mem_cons.1 hx with rfl|hx
   ·exact⟨u,hu,hun⟩
   ·rcases List.mem_append.1 hx with hx|hx
    ·exact Dz hg hin.2.2 x hx
    ·rw[List.mem_singleton] at hx;subst hx;exact⟨w,hw,hwn⟩
  have hlp:=all_lt hg hnd hpl3
  have h3:=path3_ok hg hnd hpl3 (chI_step hin.2.2)
  have hlen:((H[(prN a b)[i].1]::(q++[H[(prN a b)[i].2]])).length:Int)=((q.length+2:Nat):Int):=by simp;omega
  have hlen':q.length+2≤g.length:=by simpa using hlp
  have j0:idx (BG (prN a b)[i]) 0=some ((prN a b)[i].1:Int):=rfl
  have j1:idx (BG (prN a b)[i]) 1=some ((prN a b)[i].2:Int):=rfl
  have p0:idx (H[(prN a b)[i].1]::(q++[H[(prN a b)[i].2]])) 0=some H[(prN a b)[i].1]:=rfl
  have pl:idx (H[(prN a b)[i].1]::(q++[H[(prN a b)[i].2]])) ((q.length+1:Nat):Int)=some H[(prN a b)[i].2]:=by
   rw[AJ (by simp)]
   congr 1
   rw[List.getElem_cons_succ,List.getElem_append_right (Nat.le_refl _)];simp
  rw[dlt hil2,cond_true,AJ hill,e1,bs,hlen,decide_eq_false (show¬((q.length+2:Nat):Int)<2 by omega),decide_eq_false (show¬(16:Int)<((q.length+2:Nat):Int) by omega),Bool.or_self,cond_false,h3,bs,bs,Bool.not_true,cond_false,p0,bs,AJ hil2,List.getElem_map,bs,j0,bs,AJ k1',bs,bs,bne_self_eq_false,cond_false,w64 (by omega) (by omega),show ((q.length+2:Nat):Int)-1=((q.length+1:Nat):Int) by omega,pl,bs,bs,j1,bs,AJ k2',bs,bs,bne_self_eq_false,cond_false]
  have hinl:∀{β:Type} (kk:LI ⊕ Bool→Option β),(AC (σ:=LI×Int) (ρ:=(LI) ⊕ (Bool)) (fun(s_1162:LI×Int)=>match s_1162 with|(l_1165,x_1170)=>cond (decide ((IntKind.i64.wrap (x_1170+1))<((q.length+2:Nat):Int))) ((idx (H[(prN a b)[i].1]::(q++[H[(prN a b)[i].2]])) x_1170).bind λe_1214=>(D.g l_1165 e_1214).bind λy_1220=>cond y_1220 (some (.inr (.inr false))) ((idx (H[(prN a b)[i].1]::(q++[H[(prN a b)[i].2]])) x_1170).bind λe_1231=>(AM l_1165 ([e_1231]:LI)).bind λl_1241=>some (.inl (l_1241,(IntKind.i64.wrap (x_1170+1)))))) (some (.inr (.inl l_1165)))) (used,1)).bind kk=kk (.inl (used++q)):=fun{β} kk=>by
   refine BZ (λj=>(used++q.take j,((j+1:Nat):Int))) q.length _ (by simp) (λj hj=> ?_) ?_
   ·have hx:idx (H[(prN a b)[i].1]::(q++[H[(prN a b)[i].2]])) ((j+1:Nat):Int)=some q[j]:=by
     rw[AJ (by simp;omega)]
     congr 1
     rw[List.getElem_cons_succ,List.getElem_append_left hj]
    have hnot:decide (q[j]∈used++q.take j)=false:=by
     rw[decide_eq_false_iff_not,List.mem_append]
     rintro(hm|hm)
     ·exact hin.2.1 _ (List.getElem_mem hj) hm
     ·exact nodup_takes.1 hin.1 j hj hm
    dsimp only
    rw[wi (by omega),decide_eq_true (show ((j+1+1:Nat):Int)<((q.length+2:Nat):Int) by omega),cond_true,hx,bs,B7 _ _ (by unfold Sh;rw[List.length_append,List.length_take];omega),bs,hnot,cond_false,bs,A7 (by rw[List.length_append,List.length_take];simp;omega),bs,List.append_assoc,List.take_succ_eq_append_getElem hj]
   ·dsimp only
    rw[wi (by omega),decide_eq_false (by omega),cond_false,List.take_length]
  rw[hinl]
  dsimp only
  rw[wi (by omega)]
  refine⟨_,rfl,⟨i+1,rfl,hil,by dsimp only;rw[List.length_append];omega,λx hx=>List.mem_append_left _ (hHu x hx),hrest.congr λx=>List.mem_append.symm⟩,by dsimp only;omega⟩
 ·obtain rfl:i=(prN a b).length:=by omega
  rw[hml,Bm,cond_false]
  exact⟨_,rfl,rfl⟩
end
end Go.Sx

namespace Go.Sx
theorem without_eq (xs:LI)(v:Int)(h:xs.length≤1000):D.m0 xs v=some (xs.filter λx=>x !=v):=by
 unfold D.m0
 refine(BZ (λi=>((xs.take i).filter (λx=>x !=v),(i:Int))) xs.length (xs.filter λx=>x !=v) (by simp) (λi hi=> ?_) ?_).trans rfl
 ·have hfl:=List.length_filter_le (λx=>x !=v) (xs.take i)
  rw[List.length_take] at hfl
  dsimp only
  rw[dlt hi,cond_true,AJ hi,bs,wi (by omega),List.take_succ_eq_append_getElem hi,List.filter_append]
  cases hc:xs[i] !=v with
  |true=>rw[cond_true,bs,A7 (by simp;omega),bs];simp[hc]
  |false=>rw[cond_false];simp[hc]
 ·dsimp only
  rw[Bm,cond_false,List.take_length]
section
variable {g : LL} (hg : GOk g)
include hg
theorem pair_ok {x y:Int}:D.d0 g x y=some (decide (0≤x∧x<(g.length:Int)∧0≤y∧y<(g.length:Int)∧x≠y)):=by
 have h16:=hg.n16
 have ht:∀x:Int,D.m g x=some (decide (0≤x∧x<(g.length:Int))):=λx=>by
  unfold D.m
  rw[show D.b g=some (g.length:Int) from rfl,bs,CX,bs,w64 (by omega) (by omega)]
  congr 1
  rw[Bool.eq_iff_iff,Bool.and_eq_true,decide_eq_true_eq,decide_eq_true_eq,decide_eq_true_eq];omega
 unfold D.d0
 rw[BE g hg.sh2,Cx hg,bs,cond_true,ht,bs,bs,ht]
 by_cases hx:0≤x∧x<(g.length:Int)
 ·rw[decide_eq_true hx,cond_true,bs,bs]
  congr 1
  rw[Bool.eq_iff_iff,Bool.and_eq_true,decide_eq_true_eq,decide_eq_true_eq,bne_iff_ne]
  exact⟨λh=>⟨hx.1,hx.2,h.1.1,h.1.2,h.2⟩,λh=>⟨⟨h.2.2.1,h.2.2.2.1⟩,h.2.2.2.2⟩⟩
 ·rw[decide_eq_false hx,cond_false,bs,Bool.false_and,decide_eq_false (λh=>hx ⟨h.1,h.2.1⟩)]
theorem cut_ok {u v:Nat}(hu:u<g.length)(ha:adj g u v):∃g',D.U g (u:Int) (v:Int)=some (g',true)∧GOk g'∧g'.length=g.length∧∀a b,adj g' a b↔adj g a b∧¬((a=u∧b=v)∨(a=v∧b=u)):=by
 have h16:=hg.n16
 have hv:=hg.lt hu ha
 have huv:u≠v:=λe=>hg.irr u hu (by rw[←e] at ha;exact ha)
 have hlu:=hg.row_len hu;have hlv:=hg.row_len hv
 have hrow:∀w,row ((g.set u ((row g u).filter λx=>x !=(v:Int))).set v ((row g v).filter λx=>x !=(u:Int))) w=if w=v then(row g v).filter (λx=>x !=(u:Int)) else if w=u then(row g u).filter (λx=>x !=(v:Int)) else row g w:=λw=>by
  rw[De (by simpa using hv),De hu]
 have hadj:∀a b,adj ((g.set u ((row g u).filter λx=>x !=(v:Int))).set v ((row g v).filter λx=>x !=(u:Int))) a b↔adj g a b∧¬((a=u∧b=v)∨(a=v∧b=u)):=λa b=>by
  unfold adj
  rw[hrow]
  by_cases h1:a=v
  ·subst h1
   rw[if_pos rfl,List.mem_filter,bne_iff_ne]
   exact and_congr Iff.rfl ⟨λh h'=>h'.elim (λh'=>huv h'.1.symm) (λh'=>h (by omega)),λh h'=>h (.inr ⟨rfl,by omega⟩)⟩
  ·rw[if_neg h1]
   by_cases h2:a=u
   ·subst h2
    rw[if_pos rfl,List.mem_filter,bne_iff_ne]
    exact and_congr Iff.rfl ⟨λh h'=>h'.elim (λh'=>h (by omega)) (λh'=>h1 h'.1),λh h'=>h (.inl ⟨rfl,by omega⟩)⟩
   ·rw[if_neg h2]
    exact⟨λh=>⟨h,λh'=>h'.elim (λh'=>h2 h'.1) (λh'=>h1 h'.1)⟩,λh=>h.1⟩
 refine⟨_,?_,⟨by simpa using hg.n1,by simpa using h16,λw hw=> ?_,λw hw hc=> ?_,λa b hA h=> ?_⟩,by simp,hadj⟩
 ·unfold D.U
  have hva:decide ((v:Int)∈row g u)=true:=decide_eq_true ha
  have e1:row (g.set u ((row g u).filter λx=>x !=(v:Int))) v=row g v:=by rw[De hu,if_neg (Ne.symm huv)]
  rw[pair_ok hg,decide_eq_true (by omega),bs,Bool.not_true,cond_false,C4 g hg hu,hva,bs,bs,Bool.not_true,cond_false,CV hg,bs,BM hu,bs,without_eq _ _ (by omega),bs,bs,Int.toNat_natCast,BM (show v<(g.set u ((row g u).filter λx=>x !=(v:Int))).length by simpa using hv),e1,bs,without_eq _ _ (by omega),bs,bs,Int.toNat_natCast]
 ·have hw':w<g.length:=by simpa using hw
  have hr:=hg.rows w hw'
  have hsub:∀(z:Int),SetOf ((row g w).filter λx=>x !=z) (g.length:Int):=λz=>⟨List.Pairwise.filter _ hr.1,λx hx=>hr.2 x (List.mem_filter.1 hx).1⟩
  rw[hrow]
  simp only[List.length_set]
  split
  ·rename_i e;subst e;exact hsub _
  ·split
   ·rename_i e;subst e;exact hsub _
   ·exact hr
 ·exact hg.irr w (by simpa using hw) ((hadj w w).1 hc).1
 ·obtain⟨h1,h2⟩:=(hadj a b).1 h
  exact(hadj b a).2 ⟨hg.sym a b (by simpa using hA) h1,λh'=>h2 (h'.elim (λh'=> .inr ⟨h'.2,h'.1⟩) (λh'=> .inl ⟨h'.2,h'.1⟩))⟩
theorem split_ok (h15:g.length<16){u v:Nat}(hu:u<g.length)(ha:adj g u v)(huv:u<v):∃y,D.t0 g (u:Int) (v:Int)=some y∧(GOk y.1∧y.1.length=g.length+1∧∀a b,adj y.1 a b↔(adj g a b∧¬((a=u∧b=v)∨(a=v∧b=u)))∨(a=g.length∧(b=u∨b=v))∨(b=g.length∧(a=u∨a=v))):=by
 have hv:=hg.lt hu ha
 obtain⟨g',e1,hg',hl',hadj'⟩:=cut_ok hg hu ha
 obtain⟨y,ey,hy,hyl,hya⟩:=AddedVertex_ok hg' (by omega) (x:=[(u:Int),(v:Int)]) (by
  refine⟨?_,λx hx=> ?_⟩
  ·unfold Inc;simp;omega
  ·rw[hl']
   rcases List.mem_cons.1 hx with rfl|hx
   ·omega
   ·rw[List.mem_singleton] at hx;subst hx;omega)
 have hmin:D.O (u:Int) (v:Int)=some (u:Int):=by
  unfold D.O
  rw[decide_eq_true (by omega)];rfl
 have hmax:D.N0 (u:Int) (v:Int)=some (v:Int):=by
  unfold D.N0
  first
   |rw[decide_eq_true (by omega)];rfl
   |rw[decide_eq_false (by omega)];rfl
 have hei:=Ej hg hu ha
 unfold D.t0
 rw[show D.b g=some (g.length:Int) from rfl,bs,hei,bs,decide_eq_false (by omega),Bool.not_true,Bool.or_self,cond_false,e1,bs,hmin,bs,hmax,bs,ey,bs]
 refine⟨_,rfl,hy,by rw[hyl,hl'],λa b=> ?_⟩
 dsimp only
 rw[hya,hadj',hl']
 refine or_congr Iff.rfl (or_congr (and_congr Iff.rfl ?_) (and_congr Iff.rfl ?_))<;>
 ·simp only[List.mem_cons,List.not_mem_nil,or_false];omega
theorem added_ok {x y:Int}:∃r,D.u0 g x y=some r∧(r.2=true→GOk r.1∧r.1.length=g.length∧∀a b,adj g a b→adj r.1 a b):=by
 unfold D.u0
 rw[pair_ok hg,bs]
 by_cases h:0≤x∧x<(g.length:Int)∧0≤y∧y<(g.length:Int)∧x≠y
 ·obtain⟨u,rfl⟩:∃u:Nat,x=u:=⟨x.toNat,by omega⟩
  obtain⟨v,rfl⟩:∃v:Nat,y=v:=⟨y.toNat,by omega⟩
  rw[decide_eq_true h,Bool.not_true,cond_false,C4 g hg (by omega),bs,bs]
  cases decide ((v:Int)∈row g u) with
  |true=>exact⟨_,rfl,λh=>(by cases h)⟩
  |false=>
   obtain⟨g',e,h1,h2,h3⟩:=Cr hg (u:=u) (v:=v) (by omega) (by omega) (by omega)
   rw[cond_false,CV hg,bs,e,bs]
   exact⟨_,rfl,λ_=>⟨h1,h2,λa b hab=>(h3 a b).2 (.inl hab)⟩⟩
 ·rw[decide_eq_false h]
  exact⟨_,rfl,λh=>(by cases h)⟩
theorem renamed_few {o:LI}(ho:o.length≤17):∃r,D.b0 g o=some r∧(r.2=true→GOk r.1):=by
 have h16:=hg.n16
 unfold D.b0
 rw[En g o hg.sh2 (by unfold Sh;omega),Cx hg,Bool.true_and,bs]
 cases hb:ordB g o with
 |false=>exact⟨_,rfl,λh=>(by cases h)⟩
 |true=>
  have hO:=(ordB_iff g o).1 hb
  obtain⟨y,e,h1,_⟩:=l2Of_ok hg (L:=o) (by have:=hO.len;have:=hg.n1;omega) (by have:=hO.len;omega) hO.rng
  rw[Bool.not_true,cond_false,e,bs]
  exact⟨_,rfl,λ_=>h1⟩
end
end Go.Sx

namespace Go.Sx
def HasE (g:LL):Prop:=∃u v,u<g.length∧adj g u v∧u<v
theorem HasE.ne {g:LL}(hg:GOk g)(h:HasE g):0<(Ca g).length:=by
 obtain⟨u,v,hu,ha,huv⟩:=h
 exact List.length_pos_of_mem ((mem_edgesF hg _).2 ⟨u,v,hu,ha,huv,rfl⟩)
theorem drawn_edge {g:LL}(hg:GOk g){r:Int}(h0:0≤r)(h1:r<((Ca g).length:Int)):∃u v:Nat,idx (Ca g) r=some [(u:Int),(v:Int)]∧u<g.length∧adj g u v∧u<v:=by
 have hlt:r.toNat<(Ca g).length:=by omega
 obtain⟨u,v,hu,ha,huv,e⟩:=(mem_edgesF hg _).1 (List.getElem_mem hlt)
 exact⟨u,v,by rw[Dg h0 h1,e],hu,ha,huv⟩
theorem l23Draw_dw {b:LI}{i:Int}(h:DK b i)(z:Int):Dw b Few (D.y0 b i z):=by
 have hsz:∀g:LL,D.b g=some (g.length:Int):=λg=>rfl
 unfold D.y0
 refine(Ct h z 2).then λt i0 z0 _ hk=> ?_
 dsimp only
 cases t with
 |true=>
  rw[cond_true]
  exact(DrawAny_dw hk z0).then λg i1 z1 hg hk=>⟨_,rfl,hg,rfl,hk⟩
 |false=>
  rw[cond_false]
  refine(Bx hk z0 4 (by omega)).then λq i1 z1 hq hk=> ?_
  dsimp only
  rw[w64 (by omega) (by omega)]
  obtain⟨A,B,_,hs,hcase⟩:=Dh (1+q)
  have hA:A≠0:=by omega
  obtain⟨p,ep,hp,hpl,hpa⟩:=Ee hs hcase hA
  have hAB:=Dx hcase
  have hpE:HasE p:=by
   rcases hcase with⟨_,rfl,rfl⟩|⟨_,rfl,rfl⟩|⟨_,rfl,rfl⟩|⟨_,rfl,rfl⟩|⟨hc,_⟩
   ·exact⟨0,1,by omega,(hpa 0 1).2 (.inl (by decide)),by omega⟩
   ·exact⟨0,3,by omega,(hpa 0 3).2 (.inl (by decide)),by omega⟩
   ·exact⟨0,1,by omega,(hpa 0 1).2 (.inl (by decide)),by omega⟩
   ·exact⟨0,2,by omega,(hpa 0 2).2 (.inl (by decide)),by omega⟩
   ·exact absurd hc hA
  have hp7:p.length≤7:=by omega
  rw[ep,bs]
  refine(Bx hk z1 3 (by omega)).then λq2 i2 z2 hq2 hk=> ?_
  dsimp only
  refine Bn (λs:Int×LI×Int×Int×LL=>0≤s.1∧s.1≤3∧s.2.1=b∧DK b s.2.2.1∧GOk s.2.2.2.2∧HasE s.2.2.2.2∧s.2.2.2.2.length≤7) (λs=>s.1.toNat) (λr:LI×Int×Int×LL=>r.1=b∧DK b r.2.1∧GOk r.2.2.2∧HasE r.2.2.2) ?_ ⟨hq2.1,by dsimp only;omega,rfl,hk,hp,hpE,hp7⟩ ?_
  ·rintro⟨x,b2,i,z,g⟩ ⟨hx0,hx3,rfl,hk,hg,hE,hg7⟩
   dsimp only at hx0 hx3 hk hg hE hg7 ⊢
   have hcond:((cond (decide ((0:Int)<x)) ((D.b g).bind λy_609=>some (decide (y_609<7))) (some false)))=some (decide (0<x∧g.length<7)):=by
    by_cases h0:0<x
    ·rw[decide_eq_true h0,cond_true,hsz,bs]
     congr 1
     rw[Bool.eq_iff_iff,decide_eq_true_eq,decide_eq_true_eq];omega
    ·rw[decide_eq_false h0,cond_false,decide_eq_false (λh=>h0 h.1)]
   rw[hcond,bs]
   by_cases hgo:0<x∧g.length<7
   ·have hpos:=hE.ne hg
    rw[decide_eq_true hgo,cond_true,DN g hg,bs]
    refine(Bx hk z ((Ca g).length:Int) (by omega)).then λr i2 z2 hr hk=> ?_
    dsimp only
    obtain⟨u,v,e1,hu,ha,huv⟩:=drawn_edge hg hr.1 hr.2
    obtain⟨y,ey,hy,hyl,hya⟩:=split_ok hg (by omega) hu ha huv
    have j0:idx [(u:Int),(v:Int)] 0=some (u:Int):=rfl
    have j1:idx [(u:Int),(v:Int)] 1=some (v:Int):=rfl
    rw[e1,bs,j0,bs,j1,bs,ey,bs,bs,w64 (by omega) (by omega)]
    exact⟨_,rfl,⟨by dsimp only;omega,by dsimp only;omega,rfl,hk,hy,⟨u,g.length,by dsimp only;omega,(hya _ _).2 (.inr (.inr ⟨rfl,.inl rfl⟩)),hu⟩,by dsimp only;omega⟩,by dsimp only;omega⟩
   ·rw[decide_eq_false hgo,cond_false]
    exact⟨_,rfl,rfl,hk,hg,hE⟩
  ·rintro⟨b2,i,z,g⟩ ⟨rfl,hk,hg,hE⟩
   dsimp only at hk hg hE ⊢
   have hn1:=hg.n1
   refine(Ct hk z 3).then λt i3 z3 _ hk=> ?_
   dsimp only
   refine Co (λs:LI×Int×Int×LL=>s.1=b2∧DK b2 s.2.1∧GOk s.2.2.2∧HasE s.2.2.2) ?_ ?_
   ·cases t with
    |false=>exact⟨_,rfl,rfl,hk,hg,hE⟩
    |true=>
     rw[cond_true,hsz,bs]
     refine(Bx hk z3 (g.length:Int) (by omega)).then λx i4 z4 hx hk=> ?_
     dsimp only
     rw[bs]
     refine(Bx hk z4 (g.length:Int) (by omega)).then λy i5 z5 hy hk=> ?_
     dsimp only
     obtain⟨r,er,hr⟩:=added_ok hg (x:=x) (y:=y)
     rw[er,bs]
     cases hb:r.2 with
     |false=>exact⟨_,rfl,rfl,hk,hg,hE⟩
     |true=>
      obtain⟨h1,h2,h3⟩:=hr hb
      obtain⟨u,v,hu,ha,huv⟩:=hE
      exact⟨_,rfl,rfl,hk,h1,u,v,by dsimp only;omega,h3 _ _ ha,huv⟩
   ·rintro⟨b3,i,z,g⟩ ⟨rfl,hk,hg,hE⟩
    dsimp only at hk hg hE ⊢
    refine(Ct hk z 3).then λt i3 z3 _ hk=> ?_
    dsimp only
    refine Co (λs:LI×Int×Int×LL=>s.1=b3∧DK b3 s.2.1∧GOk s.2.2.2) ?_ ?_
    ·cases t with
     |false=>exact⟨_,rfl,rfl,hk,hg⟩
     |true=>
      have hpos:=hE.ne hg
      rw[cond_true,DN g hg,bs]
      refine(Bx hk z3 ((Ca g).length:Int) (by omega)).then λr i4 z4 hr hk=> ?_
      dsimp only
      obtain⟨u,v,e1,hu,ha,huv⟩:=drawn_edge hg hr.1 hr.2
      obtain⟨y,ey,hy,_⟩:=cut_ok hg hu ha
      have j0:idx [(u:Int),(v:Int)] 0=some (u:Int):=rfl
      have j1:idx [(u:Int),(v:Int)] 1=some (v:Int):=rfl
      rw[e1,bs,j0,bs,j1,bs,ey,bs,bs]
      exact⟨_,rfl,rfl,hk,hy⟩
    ·rintro⟨b4,i,z,g⟩ ⟨rfl,hk,hg⟩
     dsimp only at hk hg ⊢
     refine(Ct hk z 2).then λt i3 z3 _ hk=> ?_
     dsimp only
     cases t with
     |false=>exact⟨_,rfl,hg.few,rfl,hk⟩
     |true=>
      rw[cond_true]
      refine Co (λs:LL×Bool×LI×Int×Int=>s.2.2.1=b4∧DK b4 s.2.2.2.1∧(s.2.1=true→GOk s.1)) ?_ ?_
      ·refine(DrawOrder_dw hk z3 hg.few).then λo i4 z4 ho hk=> ?_
       dsimp only
       obtain⟨r,er,hr⟩:=renamed_few hg ho
       rw[er,bs]
       exact⟨_,rfl,rfl,hk,hr⟩
      ·rintro⟨y,t,b5,i,z⟩ ⟨hb5,hk',hy⟩
       dsimp only at hb5 hk' hy ⊢
       subst hb5
       cases t with
       |false=>exact⟨_,rfl,hg.few,rfl,hk'⟩
       |true=>exact⟨_,rfl,(hy rfl).few,rfl,hk'⟩
theorem DrawFindSub_ok (code:LI)(h:∀x∈code,0≤x∧x≤255)(hl:code.length≤4096):∃y,D.E0 code=some y∧Few y.1:=by
 obtain⟨z,e,hk⟩:=new_ok code h hl
 unfold D.E0
 rw[e,bs]
 refine(l23Draw_dw hk z).then λg i z hg hk=> ?_
 dsimp only
 refine(Ct hk z 12).then λt i1 z1 _ hk=> ?_
 dsimp only
 cases t with
 |true=>
  rw[cond_true]
  exact(from_dw hk z1 (-1) 6).then λr i2 z2 _ _=>⟨_,rfl,hg⟩
 |false=>
  rw[cond_false]
  exact(CY hk z1 4).then λr i2 z2 _ _=>⟨_,rfl,hg⟩
theorem find_same {g:LL}(hs:Sh2 g)(k:Int):∃r w,D.C g k=some r∧D.R g k=some w∧r.2.2.2=w.2.2.2∧(r.2.2.2=true→r.1=k∧D.I g k r.2.1 r.2.2.1=some true):=by
 by_cases hall:GOk g∧g.length≤8∧1≤k∧k≤4
 ·obtain⟨hg,h8,hk1,hk4⟩:=hall
  obtain⟨a,b,h0,h0',hc⟩:=Dh k
  have hc':(k=1∧a=5∧b=0)∨(k=2∧a=3∧b=3)∨(k=3∧a=4∧b=0)∨(k=4∧a=2∧b=3):=by omega
  obtain⟨r,e1,h1,h2⟩:=impl_find_ok hg hc' h0 h8
  obtain⟨w,e2,h3⟩:=D2 hg hc' h0' h8
  refine⟨r,w,e1,e2,?_,λhr=> ?_⟩
  ·rw[Bool.eq_iff_iff,h3]
   constructor
   ·intro hr
    obtain⟨_,s,t,hst,_⟩:=h2 hr
    exact⟨_,(hubB_iff hg.n16).2 ⟨hst.2.1,s,t,hst.1,rfl⟩,hst.2⟩
   ·rintro⟨H,hH,hf⟩
    obtain⟨_,s,t,hst,rfl⟩:=(hubB_iff hg.n16).1 hH
    cases hr:r.2.2.2 with
    |true=>rfl
    |false=>exact absurd ⟨s,t,hst,hf⟩ (h1 hr)
  ·obtain⟨hk,s,t,hst,h5,h6⟩:=h2 hr
   refine⟨hk,?_⟩
   rw[h5]
   exact subOk_ok hg hc' h0' ((hubB_iff hg.n16).2 ⟨hst.2.1,s,t,hst.1,rfl⟩) h6
 ·obtain⟨w,e,hw⟩:=spec_find_not hs hall
  exact⟨_,w,impl_find_not hs hall,e,hw.symm,λh=>(by cases h)⟩
theorem pattern_has {F:LI}{k:Int}{a b:Nat}(h:(k=1∧a=5∧b=0)∨(k=2∧a=3∧b=3)∨(k=3∧a=4∧b=0)∨(k=4∧a=2∧b=3))(hF:FOk F (a+b))(hnb:∀u w,u<a+b→(nb F u w=true↔(u,w)∈prN a b∨(w,u)∈prN a b)):
  ∃H,Cj (grow F).length k a b H∧B3 (grow F) k a b H:=by
 have hpl:=CM (k:=k) (a:=a) (b:=b) (by omega)
 have hGl:(grow F).length=a+b:=by unfold grow;rw[List.length_map,hF.len]
 have hat:∀i,i<a+b→((List.range (a+b)).map Int.ofNat).getD i 0=(i:Int):=λi hi=>by
  rw[AY (by simpa using hi)];simp
 have hhub:∀i,i<a+b→Bg ((List.range (a+b)).map Int.ofNat) (i:Int)=(i:Int):=λi hi=>by
  unfold Bg;rw[Int.toNat_natCast,hat i hi]
 refine⟨(List.range (a+b)).map Int.ofNat,⟨by simp,?_,?_,?_,?_,λx hx=> ?_⟩,?_,λi hi=> ?_,?_⟩
 ·rw[←List.map_take]
  exact List.pairwise_map.2 ((List.Pairwise.sublist (List.take_sublist _ _) List.pairwise_lt_range).imp λh=>Int.ofNat_lt.2 h)
 ·rw[←List.map_drop]
  exact List.pairwise_map.2 ((List.Pairwise.sublist (List.drop_sublist _ _) List.pairwise_lt_range).imp λh=>Int.ofNat_lt.2 h)
 ·intro hk
  rw[hat 0 (by omega),hat 3 (by omega)];omega
 ·rw[List.nodup_iff_pairwise_ne]
  exact List.pairwise_map.2 (List.pairwise_lt_range.imp λh e=>by have:=Int.ofNat.inj e;omega)
 ·obtain⟨v,hv,rfl⟩:=List.mem_map.1 hx
  rw[List.mem_range] at hv
  rw[hGl]
  show 0≤(v:Int)∧(v:Int)<((a+b:Nat):Int)
  omega
 ·intro hk
  rw[hat 0 (by omega),hat 3 (by omega)];omega
 ·have hi':i<a+b:=by simpa using hi
  rw[hat i hi',Int.toNat_natCast,CZ,pat_size (by omega) hF hnb hi']
  exact Nat.le_refl _
 ·have key:∀L:List (Nat×Nat),(∀e∈L,e∈prN a b)→∃l,LkW (grow F) (Bg ((List.range (a+b)).map Int.ofNat)) (L.map λe=>((e.1:Int),(e.2:Int))) (λx=>x∈(List.range (a+b)).map Int.ofNat) l:=by
   intro L
   induction L with
   |nil=>exact λ_=>⟨[],rfl⟩
   |cons e L ih=>
    intro hL
    obtain⟨l,hl⟩:=ih λe' he'=>hL e' (List.mem_cons_of_mem _ he')
    have he:=hL e List.mem_cons_self
    have hlt:=hpl.1 e he
    refine⟨_,[],l,rfl,⟨List.nodup_nil,λx hx=>(by cases hx),?_⟩,hl.congr λx=>by simp⟩
    show adI (grow F) (Bg _ (e.1:Int)) (Bg _ (e.2:Int))
    rw[hhub e.1 (by omega),hhub e.2 (by omega)]
    refine⟨e.1,e.2,rfl,rfl,by omega,?_⟩
    have hn:=(hnb e.1 e.2 (by omega)).2 (.inl he)
    unfold adj
    rw[CZ,BI (hF.vs _ (by omega))]
    exact hn
  exact key (prN a b) λe he=>he
theorem FnSubs_true (code:LI)(hb:∀x∈code,0≤x∧x≤255):D.f1 code=some true:=by
 unfold D.f1 D.d1
 rw[bs]
 by_cases hl:(4096:Int)<(code.length:Int)
 ·rw[decide_eq_true hl,cond_true]
 ·obtain⟨⟨g,k⟩,e,hg⟩:=DrawFindSub_ok code hb (by omega)
  dsimp only at hg
  obtain⟨r,w,e1,e2,h1,h2⟩:=find_same hg.sh2 k
  rw[decide_eq_false hl,cond_false,e,bs]
  dsimp only
  rw[e1,bs,e2,bs]
  have hfirst:((cond (r.2.2.2 !=w.2.2.2) (some true) ((cond r.2.2.2 ((cond (r.1 !=k) (some true) ((D.I g r.1 r.2.1 r.2.2.1).bind λy_457=>some (!y_457))).bind λb_455=>some b_455) (some false)).bind λb_424=>some b_424)))=some false:=by
   rw[h1,bne_self_eq_false,cond_false]
   cases hr:w.2.2.2 with
   |false=>rfl
   |true=>
    obtain⟨hk,hsub⟩:=h2 (by rw[h1];exact hr)
    rw[cond_true,hk,bne_self_eq_false,cond_false,hsub];rfl
  rw[hfirst,bs,cond_false]
  refine(BZ (λi=>((i+1:Nat):Int)) 4 (.inl ()) rfl (λi hi=> ?_) rfl).trans rfl
  obtain⟨a,b,h0,h0',hc⟩:=Dh ((i+1:Nat):Int)
  have hc':(((i+1:Nat):Int)=1∧a=5∧b=0)∨(((i+1:Nat):Int)=2∧a=3∧b=3)∨(((i+1:Nat):Int)=3∧a=4∧b=0)∨(((i+1:Nat):Int)=4∧a=2∧b=3):=by omega
  obtain⟨y,ey,F,rfl,hF,hnb⟩:=C9 h0 hc (by omega)
  have hG:=GOk.grow hF (by omega) (by omega)
  have hGl:(grow F).length=a+b:=by unfold grow;rw[List.length_map,hF.len]
  obtain⟨r',w',e1',e2',h1',h2'⟩:=find_same hG.sh2 ((i+1:Nat):Int)
  obtain⟨w2,e3,h3⟩:=D2 hG hc' h0' (by omega)
  rw[e2'] at e3
  obtain rfl:=Option.some.inj e3
  have hw:w'.2.2.2=true:=h3.2 (pattern_has hc' hF hnb)
  have hr:r'.2.2.2=true:=by rw[h1'];exact hw
  obtain⟨hk',hsub'⟩:=h2' hr
  have hedge:((Ca (grow F)).length:Int)=((prL ppI a b a).length:Int):=by
   rw[edges_grow hF (by omega),prL_ppI,List.length_map]
   congr 1
   have hcnt:S2 (a+b) (λu w=>nb F u w&&decide (u<w))=S2 (a+b) (λu w=>decide ((u,w)∈prN a b)):=S2_congr λu w hu _=>by
    rw[Bool.eq_iff_iff,Bool.and_eq_true,hnb u w hu,decide_eq_true_eq,decide_eq_true_eq]
    have hpl:=CM hc
    constructor
    ·rintro⟨h|h,hlt⟩
     ·exact h
     ·have:=hpl.1 _ h;dsimp only at this;omega
    ·intro h;exact⟨.inl h,(hpl.1 _ h).1⟩
   rw[hcnt]
   rcases hc' with⟨_,rfl,rfl⟩|⟨_,rfl,rfl⟩|⟨_,rfl,rfl⟩|⟨_,rfl,rfl⟩<;>decide
  have hpm:D.x0 ((i+1:Nat):Int)=some ((prL ppI a b a).length:Int):=by
   unfold D.x0
   rw[CP h0 (by omega)];rfl
  rw[decide_eq_true (show ((i+1:Nat):Int)≤4 by omega),cond_true,ey,bs,e1',bs,BE _ hG.sh2,Cx hG,bs,hr,Bool.not_true,Bool.or_self,cond_false,hk',hsub',bs,bs,Bool.not_true,cond_false,Ef _ hG,bs,hpm,bs,hedge,bne_self_eq_false,bs,cond_false,wi (by omega)]
end Go.Sx
