/- Parts. -/
import Derived.Test.YtfmaahgchbfbiaaDoorL4
set_option linter.unusedVariables false
set_option linter.unusedSimpArgs false
set_option linter.unusedSectionVars false
namespace Go.Sx
abbrev ap (a b:Nat):Int×Int:=((a:Int),(b:Int))
section
variable {g : LL} (hg : GOk g)
include hg
end
end Go.Sx

namespace Go.Sx
section
variable {g : LL} (hg : GOk g)
include hg
structure Fnd (g:LL)(u v:Nat)(M:ArM)(L:ArL):Prop where
 eq:L=M.map (·.1)
 nd:L.Nodup
 kl:∀x∈L,∃c d:Nat,x=ap c d∧Kl (adj g) u v c d
 st:ap u v∈L
end
end Go.Sx

namespace Go.Sx
abbrev Vx (n at' x:Nat):Prop:=x<n∧x≠at'
def PP (F:LI)(n:Nat)(S:Nat→Prop):Prop:=∀c x,S c→S x→x≠c→(∀w,Ad F c w→Cn (Ad F) (Vx n c) x w→S w)∧∀y,S y→y≠c→Cn (Ad F) (Vx n c) x y→Cn (Ad F) (λz=>S z∧z≠c) x y
structure Leaf (F:LI)(n:Nat)(S:Int):Prop where
 i:In n S
 ne:∃v,El S v
 j:Joint (Ad F) (El S)
 cut:∀v,El S v→Joint (Ad F) (Mn S v)
 p:PP F n (El S)
def Two (S:Int):Prop:=∃x y,El S x∧El S y∧x≠y
section
variable {F : LI} {n : Nat} (hn : n ≤ 16) (hF : FOk F n)
include hn hF
structure Side (F:LI)(n:Nat)(T Q:Nat→Prop)(v:Nat):Prop where
 tn:∀x,T x→x<n
 me:T v
 sub:∀x,Q x→T x∧x≠v
 cn:∀x y,Q x→(Q y↔Cn (Ad F) (λz=>T z∧z≠v) x y)
 ne:∃x,Q x
omit hn in
theorem Side.nb {T Q:Nat→Prop}{v:Nat}(h:Side F n T Q v){a b:Nat}(ha:Q a)(hb:T b)(hbv:b≠v)(hab:Ad F a b):Q b:=(h.cn a b ha).2 (Cn.refl.step hab ⟨hb,hbv⟩)
structure Blk (F:LI)(n:Nat)(T:Int)(L:LI):Prop where
 lf:∀S∈L,Leaf F n S∧∀x,El S x→El T x
 two:Two T→∀S∈L,Two S
 edge:∀u w,El T u→El T w→Ad F u w→∃S∈L,El S u∧El S w
 one:¬Two T→L=[T]
end
end Go.Sx

namespace Go.Sx
section
variable {g : LL} (hg : GOk g)
include hg
end
end Go.Sx

namespace Go.Sx
def pr (a b:Nat):LI:=[(a:Int),(b:Int)]
theorem bnd_eq {α β:Type}{e:Option α}{a:α}{k:α→Option β}(h:e=some a):e.bind k=k a:=by rw[h];rfl
def Clo (g:LL)(u v a b:Nat):Prop:=∀T:Nat→Nat→Prop,T u v→T v u→(∀a b w,T a b→adj g a w→Cn (adj g) (Vx g.length a) b w→T a w∧T w a)→T a b
theorem Clo.base {g:LL}{u v:Nat}:Clo g u v u v:=λ_ h _ _=>h
theorem Clo.next {g:LL}{u v a b w:Nat}(h:Clo g u v a b)(ha:adj g a w)(hc:Cn (adj g) (Vx g.length a) b w):Clo g u v a w:=λT h1 h2 h3=>(h3 _ _ _ (h T h1 h2 h3) ha hc).1
theorem Clo.sym {g:LL}{u v a b:Nat}(h:Clo g u v a b):Clo g u v b a:=
 (h (λa b=>Clo g u v a b∧Clo g u v b a) ⟨Clo.base,λ_ _ h _=>h⟩ ⟨λ_ _ h _=>h,Clo.base⟩ (λa b w ⟨p,_⟩ q r=>⟨⟨p.next q r,λT h1 h2 h3=>(h3 _ _ _ (p T h1 h2 h3) q r).2⟩,⟨λT h1 h2 h3=>(h3 _ _ _ (p T h1 h2 h3) q r).2,p.next q r⟩⟩)).2
structure BI (g:LL)(u v:Nat)(E Sn:LL):Prop where
 e1:∀e∈E,∃a b:Nat,e=pr a b∧a<g.length∧adj g a b∧Clo g u v a b
 e2:∀a b:Nat,pr a b∈Sn↔pr a b∈E∨pr b a∈E
 e3:∀s∈Sn,∃a b:Nat,s=pr a b
 nd:E.Nodup
 e4:pr u v∈E
 sl:Sn.length=2*E.length
section
variable {g : LL} (hg : GOk g) {u v : Nat}
include hg
theorem BI.short {E Sn:LL}(h:BI g u v E Sn):E.length≤256:=by
 have h16:=hg.n16
 have hinj:(E.map λe=>e.getD 0 0*16+e.getD 1 0).Nodup:=by
  unfold List.Nodup
  rw[List.pairwise_map]
  refine List.Pairwise.imp_of_mem (fun{x y} hx hy hxy he=> ?_) h.nd
  obtain⟨a,b,rfl,ha,hab,_⟩:=h.e1 x hx
  obtain⟨c,d,rfl,hc,hcd,_⟩:=h.e1 y hy
  have hb:=hg.lt ha hab;have hd:=hg.lt hc hcd
  apply hxy
  have he':(a:Int)*16+(b:Int)=(c:Int)*16+(d:Int):=he
  obtain rfl:a=c:=by omega
  obtain rfl:b=d:=by omega
  rfl
 have:=Bq (m:=(List.range 256).map Int.ofNat) hinj (λx hx=>by
  obtain⟨e,he,rfl⟩:=List.mem_map.1 hx
  obtain⟨a,b,rfl,ha,hab,_⟩:=h.e1 e he
  have hb:=hg.lt ha hab
  refine List.mem_map.2 ⟨a*16+b,List.mem_range.2 (by omega),?_⟩
  show ((a*16+b:Nat):Int)=(a:Int)*16+(b:Int)
  omega)
 simpa using this
end
end Go.Sx

namespace Go.Sx
section
variable {g : LL} (hg : GOk g) {u v : Nat}
include hg
end
end Go.Sx

namespace Go.Sx
theorem l19Ahead_eq (x y:LI)(hx:x.length≤100000):∃r,D.j1 x y=some r∧(r=true↔cz x y<0):=by
 have key:∀(d i:Nat),x.length≤i+d→i≤x.length→i≤y.length→
   (Ar (σ:=Int) (ρ:=(Unit) ⊕ (Bool)) (fun(x_76:Int)=>cond ((decide (x_76<(x.length:Int)))&&(decide (x_76<(y.length:Int)))) ((idx x x_76).bind λe_117=>(idx y x_76).bind λe_123=>cond (e_117 !=e_123) ((idx x x_76).bind λe_132=>(idx y x_76).bind λe_138=>some (.inr (.inr (decide (e_132<e_138))))) (some (.inl (IntKind.i64.wrap (x_76+1))))) (some (.inr (.inl ())))) (i:Int)=some (.inl ())∧(cz (x.drop i) (y.drop i)<0↔x.length<y.length))∨
   ∃r,Ar (σ:=Int) (ρ:=(Unit) ⊕ (Bool)) (fun(x_76:Int)=>cond ((decide (x_76<(x.length:Int)))&&(decide (x_76<(y.length:Int)))) ((idx x x_76).bind λe_117=>(idx y x_76).bind λe_123=>cond (e_117 !=e_123) ((idx x x_76).bind λe_132=>(idx y x_76).bind λe_138=>some (.inr (.inr (decide (e_132<e_138))))) (some (.inl (IntKind.i64.wrap (x_76+1))))) (some (.inr (.inl ())))) (i:Int)=some (.inr r)∧(r=true↔cz (x.drop i) (y.drop i)<0):=by
  intro d
  induction d with
  |zero=>
   intro i h1 h2 h3
   obtain rfl:i=x.length:=by omega
   left
   refine⟨Bt ?_,?_⟩
   ·simp only[Bm,Bool.false_and,cond_false]
   ·rw[List.drop_length]
    cases hy:y.drop x.length with
    |nil=>
     have:=congrArg List.length hy
     simp at this
     simp[cz];omega
    |cons b t=>
     have:=congrArg List.length hy
     simp at this
     simp[cz];omega
  |succ d ih=>
   intro i h1 h2 h3
   by_cases hix:i<x.length
   ·by_cases hiy:i<y.length
    ·rw[List.drop_eq_getElem_cons hix,List.drop_eq_getElem_cons hiy]
     by_cases he:x[i]=y[i]
     ·have hb:(x[i] !=y[i])=false:=by simp[he]
      rw[B4 (s':=((i+1:Nat):Int)) (by simp only[dlt hix,dlt hiy,Bool.and_self,cond_true,Az hix,Az hiy,bs,hb,cond_false,wq i])]
      have hcz:cz (x[i]::x.drop (i+1)) (y[i]::y.drop (i+1))=cz (x.drop (i+1)) (y.drop (i+1)):=by
       rw[he];simp[cz]
      rw[hcz]
      exact ih (i+1) (by omega) (by omega) (by omega)
     ·right
      have hb:(x[i] !=y[i])=true:=by simpa using he
      refine⟨decide (x[i]<y[i]),Bt (by simp only[dlt hix,dlt hiy,Bool.and_self,cond_true,Az hix,Az hiy,bs,hb]),?_⟩
      rw[decide_eq_true_eq]
      simp only[cz]
      by_cases hlt:x[i]<y[i]
      ·simp[hlt]
      ·have hgt:y[i]<x[i]:=by omega
       simp[hlt,hgt]
    ·left
     refine⟨Bt ?_,?_⟩
     ·have:decide ((i:Int)<(y.length:Int))=false:=by simp;omega
      simp only[this,Bool.and_false,cond_false]
     ·rw[List.drop_eq_getElem_cons hix,List.drop_of_length_le (l:=y) (by omega)]
      simp[cz];omega
   ·obtain rfl:i=x.length:=by omega
    left
    refine⟨Bt ?_,?_⟩
    ·simp only[Bm,Bool.false_and,cond_false]
    ·rw[List.drop_length]
     cases hy:y.drop x.length with
     |nil=>
      have:=congrArg List.length hy
      simp at this
      simp[cz];omega
     |cons b t=>
      have:=congrArg List.length hy
      simp at this
      simp[cz];omega
 unfold D.j1
 rcases key x.length 0 (by omega) (by omega) (by omega) with⟨e,h⟩|⟨r,e,h⟩
 ·refine⟨decide ((x.length:Int)<(y.length:Int)),(bnd_eq e).trans rfl,?_⟩
  rw[decide_eq_true_eq]
  rw[List.drop_zero,List.drop_zero] at h
  rw[h];omega
 ·rw[List.drop_zero,List.drop_zero] at h
  exact⟨r,(bnd_eq e).trans rfl,h⟩
theorem l19Put_any {L:LL}(hL:L.length≤100000)(hr:∀s∈L,s.length≤100)(x:LI):∃L',D.g1 L x=some L'∧((L'=L∧x∈L)∨∃k,k≤L.length∧L'=L.take k++[x]++L.drop k):=by
 unfold D.g1
 refine AS (λs=>∃i:Nat,s=(i:Int)∧i≤L.length) (λs=>L.length-s.toNat) (λr:Int=>∃i:Nat,r=(i:Int)∧i≤L.length) ?_ ⟨0,rfl,Nat.zero_le _⟩ ?_
 ·rintro _ ⟨i,rfl,hi⟩
  by_cases hil:i<L.length
  ·obtain⟨r,er,_⟩:=l19Ahead_eq L[i] x (by have:=hr _ (List.getElem_mem hil);omega)
   rw[dlt hil,cond_true,Az hil,bs,er,bs,bs]
   cases r
   ·rw[cond_false];exact⟨_,rfl,i,rfl,hi⟩
   ·rw[cond_true,wi (by omega)]
    exact⟨_,rfl,⟨i+1,rfl,hil⟩,by dsimp only;omega⟩
  ·obtain rfl:i=L.length:=by omega
   rw[Bm,cond_false,bs,cond_false]
   exact⟨_,rfl,L.length,rfl,Nat.le_refl _⟩
 ·rintro _ ⟨i,rfl,hi⟩
  have hput:∃y,((BR L 0 (i:Int)).bind λl_244=>(AT ([]:LL) l_244).bind λl_248=>(AT l_248 ([x]:LL)).bind λl_258=>(BR L (i:Int) (L.length:Int)).bind λl_264=>(AT l_258 l_264).bind λl_268=>some l_268)=some y∧((y=L∧x∈L)∨∃k,k≤L.length∧y=L.take k++[x]++L.drop k):=by
   rw[Dt hi,bs,Bk (by simp;omega),bs,List.nil_append,Bk (by simp;omega),bs,EX hi,bs,Bk (by simp;omega),bs]
   exact⟨_,rfl,.inr ⟨i,hi,rfl⟩⟩
  by_cases hil:i<L.length
  ·have hsh:Sh L[i]:=by have:=hr _ (List.getElem_mem hil);unfold Sh;omega
   rw[dlt hil,cond_true,Az hil,bs,l1Same_eq _ _ hsh,bs,bs]
   by_cases he:L[i]=x
   ·rw[decide_eq_true he,cond_true]
    exact⟨_,rfl,.inl ⟨rfl,he▸List.getElem_mem hil⟩⟩
   ·rw[decide_eq_false he,cond_false]
    exact hput
  ·obtain rfl:i=L.length:=by omega
   rw[Bm,cond_false,bs,cond_false]
   exact hput
def Prs (L:LL):Prop:=∀s∈L,∃a b:Nat,s=pr a b
theorem Prs.put {L:LL}(h:Prs L)(hL:L.length≤10000)(a b:Nat):∃L',D.g1 L (pr a b)=some L'∧Prs L'∧L'.length≤L.length+1∧(∀y,y∈L'↔y=pr a b∨y∈L)∧(pr a b∉L→L'.Perm (pr a b::L)):=by
 obtain⟨L',e,h1⟩:=l19Put_any (L:=L) (by omega) (λs hs=>by obtain⟨c,d,rfl⟩:=h s hs;simp[pr]) (pr a b)
 refine⟨L',e,?_⟩
 rcases h1 with⟨rfl,hm⟩|⟨k,hk,rfl⟩
 ·exact⟨h,by omega,λy=>⟨.inr,λhy=>hy.elim (λe=>e▸hm) id⟩,λhn=>absurd hm hn⟩
 ·have hp:(L.take k++[pr a b]++L.drop k).Perm (pr a b::L):=by
   rw[List.append_assoc]
   refine List.perm_middle.trans ?_
   show (pr a b::(L.take k++L.drop k)).Perm (pr a b::L)
   rw[List.take_append_drop]
  refine⟨λs hs=> ?_,by rw[hp.length_eq];simp,λy=>by rw[hp.mem_iff];simp,λ_=>hp⟩
  rcases List.mem_cons.1 (hp.mem_iff.1 hs) with rfl|hs
  ·exact⟨a,b,rfl⟩
  ·exact h s hs
section
variable {g : LL} (hg : GOk g)
include hg
end
end Go.Sx

namespace Go.Sx
section
variable {g : LL} (hg : GOk g)
include hg
structure Cls (g:LL)(u v:Nat)(todo out:LL):Prop where
 kl:∀x∈out,∃c d:Nat,x=pr c d∧Kl (adj g) u v c d
 nd:out.Nodup
 st:pr u v∈out
 td:∀x∈todo,x∈out
end
end Go.Sx

namespace Go.Sx
section
variable {g : LL} {o F L : LI} (hg : GOk g) (ho : OOk g o) (hF : Fill g o F L)
include hg ho hF
end
end Go.Sx

namespace Go.Sx
section
variable {g : LL} {o F L : LI} (hg : GOk g) (ho : OOk g o) (hF : Fill g o F L)
include hg ho hF
end
end Go.Sx

namespace Go.Sx
theorem GOk.shr {g:LL}(hg:GOk g):Sh2 g:=by
 have h16:=hg.n16
 exact⟨by unfold Sh;omega,λr hr=>by have:=(hg.mem0 hr).1;unfold Sh;omega⟩
structure PB (g bags:LL):Prop where
 n16:bags.length≤16
 sets:∀i,i<bags.length→SetOf (bags.getD i []) g.length
 some:∀i,i<bags.length→bags.getD i []≠[]
 all:∀v:Nat,v<g.length→∃i,i<bags.length∧(v:Int)∈bags.getD i []
 edge:∀u v:Nat,u<g.length→adj g u v→∃i,i<bags.length∧(u:Int)∈bags.getD i []∧(v:Int)∈bags.getD i []
 run:∀(v:Nat) (i j k:Nat),i<j→j<k→k<bags.length→(v:Int)∈bags.getD i []→(v:Int)∈bags.getD k []→(v:Int)∈bags.getD j []
theorem PB.sh {g bags:LL}(hg:GOk g)(h:PB g bags):Sh2 bags:=by
 have:=h.n16;have:=hg.n16
 refine⟨by unfold Sh;omega,λb hb=> ?_⟩
 obtain⟨i,hi,rfl⟩:=List.getElem_of_mem hb
 have:=(h.sets i hi).length_le (by omega)
 rw[AA hi] at this
 unfold Sh;omega
section
variable {g : LL} {o : LI} (hg : GOk g) (ho : OOk g o)
include hg ho
end
section
variable {g : LL} {o : LI} (hg : GOk g) (ho : OOk g o)
include hg ho
end
section
variable {g bags : LL} (hg : GOk g) (h : PB g bags)
include hg h
end
section
variable {g : LL} {o : LI} (hg : GOk g) (ho : OOk g o)
include hg ho
end
end Go.Sx

namespace Go.Sx
section
variable {B K : LL} (hB : Sh2 B) (hK : Sh2 K)
include hB hK
end
section
variable {g B K : LL} (hg : GOk g) (hB : Sh2 B) (hK : Sh2 K)
include hg hB hK
end
end Go.Sx

namespace Go.Sx
section
variable {g B K : LL} (hg : GOk g) (hs : ∀ b ∈ B, SetOf b (g.length : Int)) (hBl : B.length ≤ 16)
include hg hs hBl
end
section
variable {g B K : LL} (hg : GOk g) (hB : Sh2 B) (hK : Sh2 K)
include hg hB hK
end
end Go.Sx

namespace Go.Sx
def prt (s t:Int):Bool:=(iandNot .u32 s t)==0
def ren (gone kept x:Int):Int:=if gone<(if x=gone then kept else x) then(if x=gone then kept else x)-1 else(if x=gone then kept else x)
def lnk (gone kept:Int)(l:LI):Option LI:=if ren gone kept (l.getD 0 0)=ren gone kept (l.getD 1 0) then none else some (Cr (ren gone kept (l.getD 0 0)) (ren gone kept (l.getD 1 0)))
structure TS (M:LI)(K:LL):Prop where
 n16:M.length≤16
 vs:∀s∈M,VS s
 lk:∀l∈K,LinkIn M.length l
 k16:K.length≤16
theorem ren_rng {n g k:Nat}(hg:g<n)(hk:k<n)(hgk:g≠k){a:Nat}(ha:a<n):0≤ren g k a∧ren g k a<((n-1:Nat):Int):=by
 unfold ren
 by_cases e:(a:Int)=g
 ·simp only[e,if_true];split<;>omega
 ·simp only[e,if_false];split<;>omega
theorem lnk_in {n g k:Nat}(hg:g<n)(hk:k<n)(hgk:g≠k){l r:LI}(hl:LinkIn n l)(h:lnk g k l=some r):LinkIn (n-1) r:=by
 obtain⟨a,b,rfl,hab,hb⟩:=hl
 unfold lnk at h
 simp only[List.getD_cons_zero,List.getD_cons_succ] at h
 have h1:=ren_rng hg hk hgk (show a<n by omega)
 have h2:=ren_rng hg hk hgk hb
 split at h
 ·cases h
 ·rename_i hne
  cases h
  generalize ren g k a=x at*
  generalize ren g k b=y at*
  refine⟨(min x y).toNat,(max x y).toNat,?_,by omega,by omega⟩
  unfold Cr
  rw[show (((min x y).toNat:Nat):Int)=min x y by omega,show (((max x y).toNat:Nat):Int)=max x y by omega]
def CF (g k:Nat)(K:LL):LL:=K.filterMap (lnk g k)
theorem mem_merged {n g k:Nat}{K:LL}(hK:∀l∈K,LinkIn n l)(hg:g<n)(hk:k<n)(hgk:g≠k):∀r∈CF g k K,LinkIn (n-1) r:=λr hr=>by
 obtain⟨l,hl,e⟩:=List.mem_filterMap.1 hr
 exact lnk_in hg hk hgk (hK l hl) e
theorem merged_len (g k:Nat)(K:LL):(CF g k K).length≤K.length:=List.length_filterMap_le _ _
section
variable {M : LI} {K : LL} (h : TS M K) {g k : Nat} (hg : g < M.length) (hk : k < M.length) (hgk : g ≠ k)
include h hg hk hgk
theorem TS.merge :TS (M.eraseIdx g) ((CF g k K).mergeSort DQ):=by
 have h16:=h.n16
 have hl:(M.eraseIdx g).length=M.length-1:=by rw[List.length_eraseIdx,if_pos hg]
 refine⟨by omega,λs hs=>h.vs s (List.mem_of_mem_eraseIdx hs),λl hl'=> ?_,?_⟩
 ·rw[hl]
  exact mem_merged h.lk hg hk hgk l ((CP _).mem_iff.1 hl')
 ·rw[(CP _).length_eq]
  exact Nat.le_trans (merged_len g k K) h.k16
end
def spareM (M:LI)(l:LI):Option (Nat×Nat):=
 if prt (M.getD (l.getD 1 0).toNat 0) (M.getD (l.getD 0 0).toNat 0) then some ((l.getD 1 0).toNat,(l.getD 0 0).toNat)
 else if prt (M.getD (l.getD 0 0).toNat 0) (M.getD (l.getD 1 0).toNat 0) then some ((l.getD 0 0).toNat,(l.getD 1 0).toNat) else none
def C4 (M:LI)(K:LL):Option (Nat×Nat):=(List.range K.length).findSome? (λi=>spareM M (K.getD i []))
section
variable {M : LI} {K : LL} (h : TS M K)
include h
theorem spareM_in {l:LI}(hl:l∈K){g k:Nat}(e:spareM M l=some (g,k)):g<M.length∧k<M.length∧g≠k:=by
 obtain⟨a,b,rfl,hab,hb⟩:=h.lk l hl
 unfold spareM at e
 simp only[List.getD_cons_zero,List.getD_cons_succ,Int.toNat_natCast] at e
 split at e
 ·cases e;omega
 ·split at e
  ·cases e;omega
  ·cases e
theorem spare_in {g k:Nat}(e:C4 M K=some (g,k)):g<M.length∧k<M.length∧g≠k:=by
 obtain⟨i,hi,e2⟩:=List.exists_of_findSome?_eq_some e
 have hi':=List.mem_range.1 hi
 rw[AA hi'] at e2
 exact spareM_in h (List.getElem_mem hi') e2
end
end Go.Sx

namespace Go.Sx
theorem Lk.symm {links:LL}{x y:Int}(h:Lk links x y):Lk links y x:=Or.elim h (λh=>Or.inr h) (λh=>Or.inl h)
theorem conn_iff {links:LL}{sel:LI}:Conn links sel↔∀T:Int→Prop,(∃x∈sel,T x)→(∀x y,x∈sel→y∈sel→T x→Lk links x y→T y)→∀x∈sel,T x:=by
 constructor
 ·intro h T ⟨x0,hx0,hT⟩ hs
  classical
  have hall:∀U:Int→Prop,(∀x,sel.head? =some x→U x)→(∀x y,x∈sel→y∈sel→U x→Lk links x y→U y)→∀x∈sel,U x:=λU h1 h2 x hx=>by
   have:=h (sel.filter λz=>decide (U z)) ⟨λz hz=>(List.mem_filter.1 hz).1,λz hz=>List.mem_filter.2 ⟨List.mem_of_mem_head? hz,decide_eq_true (h1 z hz)⟩,λa ha b hb hl=>by
    have ha:=List.mem_filter.1 ha
    exact List.mem_filter.2 ⟨hb,decide_eq_true (h2 a b ha.1 hb (of_decide_eq_true ha.2) hl)⟩⟩ x hx
   exact of_decide_eq_true (List.mem_filter.1 this).2
  cases hsel:sel with
  |nil=>intro x hx;simp at hx
  |cons z t=>
   rw[←hsel]
   have hz:T z:=by
    apply Classical.byContradiction
    intro hc
    have:=hall (λx=>¬T x) (λx hx=>by rw[hsel] at hx;simp at hx;rw[←hx];exact hc) (λa b ha hb hna hl hTb=>hna (hs b a hb ha hTb hl.symm)) x0 hx0
    exact this hT
   exact hall T (λx hx=>by rw[hsel] at hx;simp at hx;rw[←hx];exact hz) hs
 ·intro h m hm x hx
  cases hsel:sel with
  |nil=>rw[hsel] at hx;simp at hx
  |cons z t=>
   exact h (λz=>z∈m) ⟨z,by rw[hsel];simp,hm.first z (by rw[hsel];rfl)⟩ (λa b _ hb ha hl=>hm.step a ha b hb hl) x hx
theorem conn_map {K K':LL}{sel sel':LI}(φ:Int→Int)(h:Conn K sel)(h1:∀x∈sel,φ x∈sel')(h2:∀y∈sel',∃x∈sel,φ x=y)(h3:∀x y,x∈sel→y∈sel→Lk K x y→φ x=φ y∨Lk K' (φ x) (φ y)):Conn K' sel':=by
 rw[conn_iff] at h ⊢
 intro T ⟨y0,hy0,hT⟩ hs y hy
 obtain⟨x0,hx0,rfl⟩:=h2 y0 hy0
 obtain⟨x,hx,rfl⟩:=h2 y hy
 refine h (λz=>T (φ z)) ⟨x0,hx0,hT⟩ (λa b ha hb hTa hl=> ?_) x hx
 rcases h3 a b ha hb hl with e|e
 ·rw[←e];exact hTa
 ·exact hs _ _ (h1 a ha) (h1 b hb) hTa e
theorem countP_lt {α:Type}{p q:α→Bool}:∀{l:List α},(∀x∈l,p x=true→q x=true)→(∃x∈l,q x=true∧p x=false)→l.countP p+1≤l.countP q
 |[],_,h=>by obtain⟨x,hx,_⟩:=h;simp at hx
 |a::l,h1,h2=>by
  have hm:l.countP p≤l.countP q:=List.countP_mono_left λx hx=>h1 x (List.mem_cons_of_mem _ hx)
  obtain⟨x,hx,hq,hp⟩:=h2
  rw[List.countP_cons,List.countP_cons]
  rcases List.mem_cons.1 hx with rfl|hx
  ·rw[hq,hp];simp;omega
  ·have:=countP_lt (λx hx=>h1 x (List.mem_cons_of_mem _ hx)) ⟨x,hx,hq,hp⟩
   have h3:=h1 a (List.mem_cons_self ..)
   cases hpa:p a
   ·cases q a<;>simp<;>omega
   ·rw[h3 hpa];simp;omega
theorem conn_many {links:LL}{sel:LI}(hn:sel.Nodup)(h:Conn links sel):sel.length≤links.length+1:=by
 rw[conn_iff] at h
 have key:∀k,k+1≤sel.length→∃T:LI,T.Nodup∧(∀x∈T,x∈sel)∧T.length=k+1∧k≤links.countP (λl=>decide (l.getD 0 0∈T)&&decide (l.getD 1 0∈T)):=by
  intro k
  induction k with
  |zero=>
   intro hk
   have hs:0<sel.length:=by omega
   exact⟨[sel[0]],by simp,λx hx=>by simp at hx;rw[hx];exact List.getElem_mem hs,rfl,by omega⟩
  |succ k ih=>
   intro hk
   obtain⟨T,hT1,hT2,hT3,hT4⟩:=ih (by omega)
   have hex:∃x y,x∈T∧y∈sel∧y∉T∧Lk links x y:=by
    apply Classical.byContradiction
    intro hc
    have hall:=h (λz=>z∈T) ⟨T[0]'(by omega),hT2 _ (List.getElem_mem _),List.getElem_mem _⟩ (λx y _ hy hx hl=>by
     apply Classical.byContradiction
     intro hy2
     exact hc ⟨x,y,hx,hy,hy2,hl⟩)
    have:=Bq hn hall
    omega
   obtain⟨x,y,hx,hy,hyT,hl⟩:=hex
   refine⟨y::T,List.nodup_cons.2 ⟨hyT,hT1⟩,λz hz=> ?_,by simp[hT3],?_⟩
   ·rcases List.mem_cons.1 hz with rfl|hz
    ·exact hy
    ·exact hT2 z hz
   ·refine Nat.le_trans (Nat.succ_le_succ hT4) (countP_lt (λl _ hl=> ?_) ?_)
    ·simp only[Bool.and_eq_true,decide_eq_true_eq] at hl ⊢
     exact⟨List.mem_cons_of_mem _ hl.1,List.mem_cons_of_mem _ hl.2⟩
    ·rcases hl with hl|hl
     ·exact⟨[x,y],hl,by simp[hx],by simp[hyT]⟩
     ·exact⟨[y,x],hl,by simp[hx],by simp[hyT]⟩
 cases hs:sel.length with
 |zero=>omega
 |succ k=>
  obtain⟨T,_,_,_,h4⟩:=key k (by omega)
  have:= @List.countP_le_length _ (λl=>decide (l.getD 0 0∈T)&&decide (l.getD 1 0∈T)) links
  omega
theorem conn_perm {K K':LL}{sel:LI}(h:Conn K sel)(hp:∀x y,Lk K x y→Lk K' x y):Conn K' sel:=
 conn_map id h (λx hx=>hx) (λy hy=>⟨y,hy,rfl⟩) (λx y _ _ hl=> .inr (hp x y hl))
theorem TB.perm {g B K K':LL}(h:TB g B K)(p:K'.Perm K):TB g B K':=by
 have hl:∀x y,Lk K x y→Lk K' x y:=λx y hl=>Or.elim hl (λh=>Or.inl (p.mem_iff.2 h)) (λh=>Or.inr (p.mem_iff.2 h))
 exact⟨h.n1,h.n16,by rw[p.length_eq];exact h.many,λl hl'=>h.lks l (p.mem_iff.1 hl'),h.sets,conn_perm h.tree hl,h.edges,h.some,λv hv=>conn_perm (h.conn v hv) hl⟩
def phi (g k:Nat)(x:Nat):Nat:=if g<(if x=g then k else x) then(if x=g then k else x)-1 else(if x=g then k else x)
theorem EQ (g k x:Nat):ren (g:Int) (k:Int) (x:Int)=((phi g k x:Nat):Int):=by
 unfold ren phi
 by_cases h:x=g
 ·simp only[h,if_true]
  by_cases h2:g<k
  ·rw[if_pos (by omega),if_pos h2];omega
  ·rw[if_neg (by omega),if_neg h2]
 ·rw[if_neg (show¬(x:Int)=g by omega),if_neg h]
  by_cases h2:g<x
  ·rw[if_pos (by omega),if_pos h2];omega
  ·rw[if_neg (by omega),if_neg h2]
theorem phi_lt {n g k x:Nat}(hg:g<n)(hk:k<n)(hgk:g≠k)(hx:x<n):phi g k x<n-1:=by
 unfold phi
 by_cases h:x=g
 ·simp only[h,if_true]
  by_cases h2:g<k
  ·rw[if_pos h2];omega
  ·rw[if_neg h2];omega
 ·simp only[h,if_false]
  by_cases h2:g<x
  ·rw[if_pos h2];omega
  ·rw[if_neg h2];omega
theorem phi_gk {g k:Nat}(hgk:g≠k):phi g k g=phi g k k:=by
 unfold phi;simp[hgk.symm]
theorem phi_ex {n g k y:Nat}(hg:g<n)(hy:y<n-1):∃x,x<n∧x≠g∧phi g k x=y:=by
 by_cases h:y<g
 ·exact⟨y,by omega,by omega,by unfold phi;rw[if_neg (show¬y=g by omega),if_neg (by omega)]⟩
 ·exact⟨y+1,by omega,by omega,by unfold phi;rw[if_neg (show¬y+1=g by omega),if_pos (by omega)];omega⟩
theorem EG {M:LI}{g k x:Nat}(hg:g<M.length)(hx:x<M.length)(hxg:x≠g):(M.eraseIdx g).getD (phi g k x) 0=M.getD x 0:=by
 unfold phi
 rw[if_neg hxg,List.getD_eq_getElem?_getD,List.getD_eq_getElem?_getD,List.getElem?_eraseIdx]
 by_cases h:g<x
 ·rw[if_pos h,if_neg (by omega)];congr 2;omega
 ·rw[if_neg h,if_pos (by omega)]
theorem prt_has {s t:Int}(hs:VS s)(ht:VS t)(h:prt s t=true){v:Nat}(hv:has s v=true):has t v=true:=by
 unfold prt at h
 rw[beq_iff_eq] at h
 have:=congrArg (λz=>has z v) h
 rw[BJ hs ht,BE,hv] at this
 simpa using this
section
variable {G : LL} {M : LI} {K : LL} (h : TS M K) (hT : TB G (M.map Aq) K) {g k : Nat} (hg : g < M.length) (hk : k < M.length) (hgk : g ≠ k)
include h hT hg hk hgk
theorem lnk_of {a b:Nat}(ha:a<M.length)(hb:b<M.length)(hl:Lk K (a:Int) (b:Int)):phi g k a=phi g k b∨Lk ((CF g k K).mergeSort DQ) ((phi g k a:Nat):Int) ((phi g k b:Nat):Int):=by
 by_cases he:phi g k a=phi g k b
 ·exact .inl he
 ·right
  have hm:∀l,lnk (g:Int) (k:Int) l=some (Cr ((phi g k a:Nat):Int) ((phi g k b:Nat):Int))→l∈K→Lk ((CF g k K).mergeSort DQ) ((phi g k a:Nat):Int) ((phi g k b:Nat):Int):=λl e hl=>by
   have hin:Cr ((phi g k a:Nat):Int) ((phi g k b:Nat):Int)∈(CF g k K).mergeSort DQ:=(CP _).mem_iff.2 (List.mem_filterMap.2 ⟨l,hl,e⟩)
   unfold Cr at hin
   rcases Nat.lt_or_ge (phi g k a) (phi g k b) with c|c
   ·rw[Int.min_eq_left (by omega),Int.max_eq_right (by omega)] at hin;exact .inl hin
   ·rw[Int.min_eq_right (by omega),Int.max_eq_left (by omega)] at hin;exact .inr hin
  rcases hl with hl|hl
  ·refine hm _ ?_ hl
   unfold lnk
   simp only[List.getD_cons_zero,List.getD_cons_succ,EQ]
   rw[if_neg (by omega)]
  ·refine hm _ ?_ hl
   unfold lnk
   simp only[List.getD_cons_zero,List.getD_cons_succ,EQ]
   rw[if_neg (by omega)]
   unfold Cr
   rw[Int.min_comm,Int.max_comm]
theorem merge_TB (hsub:∀v,has (M.getD g 0) v=true→has (M.getD k 0) v=true)(hl:Lk K (g:Int) (k:Int)):TB G ((M.eraseIdx g).map Aq) ((CF g k K).mergeSort DQ):=by
 have hml:(M.eraseIdx g).length=M.length-1:=by rw[List.length_eraseIdx,if_pos hg]
 have hTS:=h.merge hg hk hgk
 have hM:M.length=K.length+1:=by have:=hT.many;simpa using this.symm
 have hmem:∀i (hi:i<M.length) (v:Nat),(v:Int)∈(M.map Aq).getD i []↔has (M.getD i 0) v=true:=λi hi v=>by
  rw[AA (by simpa using hi),List.getElem_map,AA hi,AM (h.vs _ (List.getElem_mem hi))]
 have hmem':∀i (hi:i<M.length-1) (v:Nat),(v:Int)∈((M.eraseIdx g).map Aq).getD i []↔has ((M.eraseIdx g).getD i 0) v=true:=λi hi v=>by
  rw[AA (by simp;omega),List.getElem_map,AA (by omega),AM (hTS.vs _ (List.getElem_mem _))]
 have hphi:∀x v,x<M.length→has (M.getD x 0) v=true→has ((M.eraseIdx g).getD (phi g k x) 0) v=true:=λx v hx hv=>by
  by_cases hxg:x=g
  ·subst hxg
   rw[phi_gk hgk,EG hg hk hgk.symm];exact hsub v hv
  ·rw[EG hg hx hxg];exact hv
 have hwith:∀(v:Nat) (x:Int),x∈withV (M.map Aq) (v:Int)↔∃b:Nat,x=b∧b<M.length∧has (M.getD b 0) v=true:=λv x=>by
  rw[mem_withV,List.length_map]
  constructor
  ·rintro⟨b,h1,h2,h3⟩;exact⟨b,h1,h2,(hmem b h2 v).1 h3⟩
  ·rintro⟨b,h1,h2,h3⟩;exact⟨b,h1,h2,(hmem b h2 v).2 h3⟩
 have hwith':∀(v:Nat) (x:Int),x∈withV ((M.eraseIdx g).map Aq) (v:Int)↔∃b:Nat,x=b∧b<M.length-1∧has ((M.eraseIdx g).getD b 0) v=true:=λv x=>by
  rw[mem_withV,List.length_map,hml]
  constructor
  ·rintro⟨b,h1,h2,h3⟩;exact⟨b,h1,h2,(hmem' b h2 v).1 h3⟩
  ·rintro⟨b,h1,h2,h3⟩;exact⟨b,h1,h2,(hmem' b h2 v).2 h3⟩
 have htree:Conn ((CF g k K).mergeSort DQ) ((List.range ((M.eraseIdx g).map Aq).length).map Int.ofNat):=by
  have ht:=hT.tree
  rw[List.length_map] at ht ⊢
  rw[hml]
  refine conn_map (λx=>((phi g k x.toNat:Nat):Int)) ht (λx hx=> ?_) (λy hy=> ?_) (λx y hx hy hxy=> ?_)
  ·obtain⟨i,hi,rfl⟩:=List.mem_map.1 hx
   exact List.mem_map.2 ⟨_,List.mem_range.2 (phi_lt hg hk hgk (List.mem_range.1 hi)),rfl⟩
  ·obtain⟨j,hj,rfl⟩:=List.mem_map.1 hy
   obtain⟨x,hx,_,e⟩:=phi_ex (k:=k) hg (List.mem_range.1 hj)
   exact⟨(x:Int),List.mem_map.2 ⟨x,List.mem_range.2 hx,rfl⟩,by rw[Int.toNat_natCast,e];rfl⟩
  ·obtain⟨i,hi,rfl⟩:=List.mem_map.1 hx
   obtain⟨j,hj,rfl⟩:=List.mem_map.1 hy
   rcases lnk_of h hT hg hk hgk (List.mem_range.1 hi) (List.mem_range.1 hj) hxy with e|e
   ·left;show ((phi g k i:Nat):Int)=((phi g k j:Nat):Int);rw[e]
   ·right;exact e
 refine⟨by rw[List.length_map,hml];omega,by rw[List.length_map];exact hTS.n16,?_,by rw[List.length_map];exact hTS.lk,λb hb=> ?_,htree,λu v hu ha=> ?_,λv hv=> ?_,λv hv=> ?_⟩
 ·rw[List.length_map,hml]
  have hnd:((List.range ((M.eraseIdx g).map Aq).length).map Int.ofNat).Nodup:=by
   unfold List.Nodup
   rw[List.pairwise_map]
   exact List.Pairwise.imp (fun{a b} h e=>by have:(a:Int)=(b:Int):=e;omega) List.pairwise_lt_range
  have h1:=conn_many hnd htree
  rw[List.length_map,List.length_range,List.length_map,hml] at h1
  have h2:(CF g k K).length+1≤K.length:=by
   have hle:∀L:LL,(∃l∈L,lnk (g:Int) (k:Int) l=none)→(L.filterMap (lnk (g:Int) (k:Int))).length+1≤L.length:=by
    intro L
    induction L with
    |nil=>rintro⟨l,hl,_⟩;simp at hl
    |cons a L ih=>
     rintro⟨l,hl,e⟩
     rcases List.mem_cons.1 hl with rfl|hl
     ·rw[List.filterMap_cons_none e]
      have:=List.length_filterMap_le (lnk (g:Int) (k:Int)) L
      simp only[List.length_cons];omega
     ·have:=ih ⟨l,hl,e⟩
      cases ha:lnk (g:Int) (k:Int) a with
      |none=>rw[List.filterMap_cons_none ha];simp only[List.length_cons];omega
      |some r=>rw[List.filterMap_cons_some ha];simp only[List.length_cons];omega
   refine hle K ?_
   rcases hl with hl|hl
   ·exact⟨_,hl,by unfold lnk;simp only[List.getD_cons_zero,List.getD_cons_succ,EQ];rw[if_pos (by rw[phi_gk hgk])]⟩
   ·exact⟨_,hl,by unfold lnk;simp only[List.getD_cons_zero,List.getD_cons_succ,EQ];rw[if_pos (by rw[phi_gk hgk])]⟩
  have h3:=(CP (CF g k K)).length_eq
  rw[h3] at h1 ⊢
  omega
 ·obtain⟨s,hs,rfl⟩:=List.mem_map.1 hb
  exact hT.sets _ (List.mem_map.2 ⟨s,List.mem_of_mem_eraseIdx hs,rfl⟩)
 ·obtain⟨b,hb,hub,hvb⟩:=hT.edges u v hu ha
  obtain⟨i,hi,rfl⟩:=List.getElem_of_mem hb
  have hi':i<M.length:=by simpa using hi
  rw[←AA hi [],hmem i hi'] at hub hvb
  have hp:=phi_lt hg hk hgk hi'
  refine⟨((M.eraseIdx g).map Aq).getD (phi g k i) [],?_,(hmem' _ hp u).2 (hphi i u hi' hub),(hmem' _ hp v).2 (hphi i v hi' hvb)⟩
  rw[AA (by simp;omega)]
  exact List.getElem_mem _
 ·obtain⟨x,hx⟩:=List.exists_mem_of_ne_nil _ (hT.some v hv)
  obtain⟨b,rfl,hb,hvb⟩:=(hwith v x).1 hx
  intro hc
  have:=(hwith' v _).2 ⟨_,rfl,phi_lt hg hk hgk hb,hphi b v hb hvb⟩
  rw[hc] at this
  simp at this
 ·refine conn_map (λx=>((phi g k x.toNat:Nat):Int)) (hT.conn v hv) (λx hx=> ?_) (λy hy=> ?_) (λx y hx hy hxy=> ?_)
  ·obtain⟨b,rfl,hb,hvb⟩:=(hwith v x).1 hx
   exact(hwith' v _).2 ⟨_,rfl,phi_lt hg hk hgk hb,hphi b v hb hvb⟩
  ·obtain⟨b,rfl,hb,hvb⟩:=(hwith' v y).1 hy
   obtain⟨x,hx,hxg,e⟩:=phi_ex (k:=k) hg hb
   refine⟨(x:Int),(hwith v _).2 ⟨x,rfl,hx,?_⟩,by rw[Int.toNat_natCast,e]⟩
   rw[←e,EG hg hx hxg] at hvb
   exact hvb
  ·obtain⟨a,rfl,ha,_⟩:=(hwith v x).1 hx
   obtain⟨b,rfl,hb,_⟩:=(hwith v y).1 hy
   rcases lnk_of h hT hg hk hgk ha hb hxy with e|e
   ·left;rw[Int.toNat_natCast,Int.toNat_natCast,e]
   ·right;exact e
end
structure Kept (G:LL)(M0:LI)(M:LI)(K:LL):Prop where
 tb:TB G (M.map Aq) K
 len:M.length≤M0.length
 old:∀s∈M,s∈M0
 sup:∀s∈M0,∃t∈M,∀v,has s v=true→has t v=true
theorem spare_link {M:LI}{K:LL}(h:TS M K){g k:Nat}(e:C4 M K=some (g,k)):Lk K (g:Int) (k:Int)∧prt (M.getD g 0) (M.getD k 0)=true:=by
 obtain⟨i,hi,e2⟩:=List.exists_of_findSome?_eq_some e
 have hi':=List.mem_range.1 hi
 rw[AA hi'] at e2
 obtain⟨a,b,el,hab,hb⟩:=h.lk _ (List.getElem_mem hi')
 have hm:=List.getElem_mem hi'
 rw[el] at e2 hm
 unfold spareM at e2
 simp only[List.getD_cons_zero,List.getD_cons_succ,Int.toNat_natCast] at e2
 split at e2
 ·rename_i h1;cases e2;exact⟨.inr hm,h1⟩
 ·split at e2
  ·rename_i h1;cases e2;exact⟨.inl hm,h1⟩
  ·cases e2
theorem Kept.step {G:LL}{M0 M:LI}{K:LL}(hM:Kept G M0 M K)(h:TS M K){g k:Nat}(e:C4 M K=some (g,k)):Kept G M0 (M.eraseIdx g) ((CF g k K).mergeSort DQ):=by
 obtain⟨hg,hk,hgk⟩:=spare_in h e
 obtain⟨hl,hp⟩:=spare_link h e
 have hvs:∀i,i<M.length→VS (M.getD i 0):=λi hi=>by rw[AA hi];exact h.vs _ (List.getElem_mem hi)
 have hsub:∀v,has (M.getD g 0) v=true→has (M.getD k 0) v=true:=λv hv=>prt_has (hvs g hg) (hvs k hk) hp hv
 refine⟨merge_TB h hM.tb hg hk hgk hsub hl,?_,λs hs=>hM.old s (List.mem_of_mem_eraseIdx hs),λs hs=> ?_⟩
 ·have:=hM.len
  rw[List.length_eraseIdx,if_pos hg];omega
 ·obtain⟨t,ht,hst⟩:=hM.sup s hs
  obtain⟨i,hi,rfl⟩:=List.getElem_of_mem ht
  have hml:(M.eraseIdx g).length=M.length-1:=by rw[List.length_eraseIdx,if_pos hg]
  have hin:∀x,x<M.length→x≠g→M.getD x 0∈M.eraseIdx g:=λx hx hxg=>by
   rw[←EG (k:=k) hg hx hxg,AA (by rw[hml];exact phi_lt hg hk hgk hx)]
   exact List.getElem_mem _
  by_cases hig:i=g
  ·subst hig
   exact⟨_,hin k hk hgk.symm,λv hv=>hsub v (by rw[AA hi];exact hst v hv)⟩
  ·refine⟨_,hin i hi hig,λv hv=>by rw[AA hi];exact hst v hv⟩
end Go.Sx

namespace Go.Sx
def cutF (F:LI)(a b:Nat):LI:=(F.modify a (λe=>iandNot .u32 e (ishl .u32 1 (b:Int)))).modify b (λe=>iandNot .u32 e (ishl .u32 1 (a:Int)))
def hdF (H:LI)(a b:Nat):LI:=H.modify a (λe=>ior .u32 e (ishl .u32 1 (b:Int)))
theorem DX (l:LI)(i j:Nat)(f:Int→Int)(hi:i<l.length):(l.modify i f).getD j 0=if j=i then f (l.getD j 0) else l.getD j 0:=by
 rw[List.getD_eq_getElem?_getD,List.getElem?_modify,List.getD_eq_getElem?_getD]
 by_cases h:j=i
 ·subst h
  rw[List.getElem?_eq_getElem hi];simp
 ·have:¬i=j:=λe=>h e.symm
  rw[if_neg h]
  cases l[j]? <;>simp[this]
theorem En (l:LI)(i:Nat)(f:Int→Int):(l.modify i f).length=l.length:=by simp
theorem cutF_getD (F:LI){a b u:Nat}(ha:a<F.length)(hb:b<F.length)(hab:a≠b):(cutF F a b).getD u 0=if u=b then iandNot .u32 (F.getD u 0) (ishl .u32 1 (a:Int)) else if u=a then iandNot .u32 (F.getD u 0) (ishl .u32 1 (b:Int)) else F.getD u 0:=by
 unfold cutF
 rw[DX _ _ _ _ (by simpa using hb),DX _ _ _ _ ha]
 by_cases h:u=b
 ·subst h
  rw[if_pos rfl,if_pos rfl,if_neg (λe=>hab e.symm)]
 ·rw[if_neg h,if_neg h]
theorem nb_cut {F:LI}{n:Nat}(hF:FOk F n)(h16:n≤16){a b:Nat}(ha:a<n)(hb:b<n)(hab:a≠b){u w:Nat}(hu:u<n):nb (cutF F a b) u w=(nb F u w&& !decide (u=a∧w=b)&& !decide (u=b∧w=a)):=by
 have hl:=hF.len
 unfold nb
 rw[cutF_getD F (by omega) (by omega) hab]
 by_cases h:u=b
 ·subst h
  rw[if_pos rfl,BJ (hF.vs u hu) (VS.ishl _ _),Bx (by omega)]
  have:¬(u=a∧w=u):=λh=>hab h.1.symm
  simp[this]
 ·rw[if_neg h]
  by_cases h':u=a
  ·subst h'
   rw[if_pos rfl,BJ (hF.vs u hu) (VS.ishl _ _),Bx (by omega)]
   simp[h]
  ·rw[if_neg h'];simp[h,h']
theorem FOk.cut {F:LI}{n:Nat}(hF:FOk F n)(h16:n≤16){a b:Nat}(ha:a<n)(hb:b<n)(hab:a≠b):FOk (cutF F a b) n:=by
 have hl:=hF.len
 have hn:∀{u w},u<n→nb (cutF F a b) u w=true→nb F u w=true∧¬(u=a∧w=b)∧¬(u=b∧w=a):=fun{u w} hu h=>by
  rw[nb_cut hF h16 ha hb hab hu,Bool.and_eq_true,Bool.and_eq_true] at h
  simp only[Bool.not_eq_true',decide_eq_false_iff_not] at h
  exact⟨h.1.1,h.1.2,h.2⟩
 refine⟨by unfold cutF;rw[En,En,hl],λu hu=> ?_,λu w hu h=>hF.lt u w hu (hn hu h).1,λu hu=> ?_,λu w hu h=> ?_⟩
 ·rw[cutF_getD F (by omega) (by omega) hab]
  split
  ·exact VS.iandNot _ _
  ·split
   ·exact VS.iandNot _ _
   ·exact hF.vs u hu
 ·cases h:nb (cutF F a b) u u
  ·rfl
  ·have:=(hn hu h).1
   rw[hF.irr u hu] at this;cases this
 ·obtain⟨h1,h2,h3⟩:=hn hu h
  have hw:=hF.lt u w hu h1
  rw[nb_cut hF h16 ha hb hab hw,hF.sym u w hu h1]
  have e1:¬(w=a∧u=b):=λe=>h3 ⟨e.2,e.1⟩
  have e2:¬(w=b∧u=a):=λe=>h2 ⟨e.2,e.1⟩
  simp only[decide_eq_false e1,decide_eq_false e2];rfl
structure Oks (n:Nat)(s:LI×LI):Prop where
 f:FOk s.1 n
 l:s.2.length=n
 v:∀u,u<n→VS (s.2.getD u 0)
theorem Oks.step {n:Nat}{s:LI×LI}(h:Oks n s)(h16:n≤16){a b:Nat}(ha:a<n)(hb:b<n)(hab:a≠b):Oks n (cutF s.1 a b,hdF s.2 a b):=by
 have hl:=h.l
 refine⟨h.f.cut h16 ha hb hab,by unfold hdF;rw[En];exact h.l,λu hu=> ?_⟩
 show VS ((hdF s.2 a b).getD u 0)
 unfold hdF
 rw[DX _ _ _ _ (by omega)]
 split
 ·exact VS.ior _ _
 ·exact h.v u hu
section
variable {g : LL} (hg : GOk g)
include hg
end
end Go.Sx

namespace Go.Sx
structure St (g:LL)(u v:Nat)(M:ArM):Prop where
 b:∀kv∈M,∃t:Nat,kv.2=(t:Int)∧t<M.length∧(t=0→kv.1=ap u v)∧(0<t→∃kv'∈M,kv'.2=((t-1:Nat):Int)∧∃p q c d:Nat,kv'.1=ap p q∧kv.1=ap c d∧Gm (adj g) p q c d)
 s:(ap u v,0)∈M
section
variable {g : LL} (hg : GOk g)
include hg
structure Chn (g:LL)(P:List (Nat×Nat)):Prop where
 e:∀p∈P,adj g p.1 p.2
 n:∀i (h:i+1<P.length),Gm (adj g) P[i].1 P[i].2 P[i+1].1 P[i+1].2
def prs (P:List (Nat×Nat)):LL:=P.map λp=>pr p.1 p.2
end
end Go.Sx

namespace Go.Sx
structure Odd (g:LL)(a b:Nat)(l:LL):Prop where
 q:∃Q:List (Nat×Nat),l=prs (Q++[(b,a)])∧Chn g (Q++[(b,a)])∧1≤Q.length∧Q.length≤200∧Q[0]? =some (a,b)∧∀p∈Q,p≠(b,a)
section
variable {g : LL} (hg : GOk g)
include hg
end
end Go.Sx

namespace Go.Sx
theorem Chn.cut {g:LL}{P:List (Nat×Nat)}{x:Nat×Nat}(h:Chn g (P++[x])):Chn g P:=
 ⟨λp hp=>h.e p (List.mem_append_left _ hp),λi hi=>by
  have:=h.n i (by simp;omega)
  rw[List.getElem_append_left (show i<P.length by omega),List.getElem_append_left hi] at this
  exact this⟩
section
variable {g : LL} (hg : GOk g)
include hg
end
end Go.Sx

namespace Go.Sx
section
variable {g : LL} (hg : GOk g)
include hg
end
end Go.Sx

namespace Go.Sx
structure Hd (g:LL)(H:LI):Prop where
 len:H.length=g.length
 vs:∀u,u<g.length→VS (H.getD u 0)
 o:Orn (adj g) (λa b=>a<g.length∧nb H a b=true)
section
variable {g : LL} (hg : GOk g)
include hg
theorem Hd.lt {H:LI}(h:Hd g H){a b:Nat}(ha:a<g.length)(hb:nb H a b=true):b<g.length:=hg.lt ha (h.o.sub a b ⟨ha,hb⟩)
theorem Hd.one {H:LI}(h:Hd g H){a b:Nat}(hab:adj g a b):nb H a b= !nb H b a:=by
 have ha:=adj_ltF hg hab
 have hb:=hg.lt ha hab
 cases h1:nb H a b<;>cases h2:nb H b a
 ·rcases h.o.all a b hab with h|h
  ·rw[h1] at h;cases h.2
  ·rw[h2] at h;cases h.2
 ·rfl
 ·rfl
 ·exact absurd ⟨hb,h2⟩ (h.o.one a b ⟨ha,h1⟩)
theorem Hd.idx {H:LI}(h:Hd g H){i:Nat}(hi:i<g.length):idx (H.map Aq) (i:Int)=some (Aq (H.getD i 0)):=by
 have hl:=h.len
 rw[Az (show i<(H.map Aq).length by simp;omega),List.getElem_map]
 congr 2
 exact(AA _ _).symm
theorem Hd.set {H:LI}(h:Hd g H){i:Nat}(hi:i<g.length):SetOf (Aq (H.getD i 0)) (g.length:Int):=by
 refine⟨BD _,λx hx=> ?_⟩
 obtain⟨w,_,h2,rfl⟩:=mem_elems.1 hx
 have:=h.lt hg (a:=i) (b:=w) hi h2
 omega
theorem idx_mk {u:Nat}(hul:u<g.length):idx (g.map mk) (u:Int)=some (mk (row g u)):=by
 rw[Az (by simpa using hul),List.getElem_map]
 congr 2
 exact(AA hul _).symm
theorem DC {u w:Nat}(hu:u<g.length):has (mk (row g u)) w=true↔adj g u w:=by
 rw[←CS hg hu];unfold nb;rw[DW]
end
end Go.Sx

namespace Go.Sx
theorem Goes2.mono {A:Nat→Nat→Prop}{n:Nat}{L L':Nat→Prop}(hL:∀v,v<n→L v→L' v){s v:Nat}(h:Goes2 A n L s v)(hv:v<n):Goes2 A n L' s v:=by
 induction h with
 |fin h=>exact .fin (hL _ hv h)
 |step a b c d _ ih=>exact .step a b c d (ih d)
theorem DH {P:List Nat}(h:P.Nodup):(iz P).Nodup:=by
 unfold iz
 exact List.pairwise_map.2 (h.imp (λh h'=>h (Int.ofNat.inj h')))
theorem iz_ook {g:LL}{P:List Nat}(hl:P.length=g.length)(hnd:P.Nodup)(hlt:∀x∈P,x<g.length):OOk g (iz P):=
 ⟨by rw[Bv];exact hl,λx hx=>by
  obtain⟨v,hv,rfl⟩:=List.mem_map.1 hx
  have:=hlt v hv
  show (0:Int)≤(v:Int)∧(v:Int)<(g.length:Int)
  omega,DH hnd⟩
section
variable {g : LL} (hg : GOk g)
include hg
def Ring (g:LL):Prop:=3≤g.length∧GoF (g.map mk) g.length (mk (row g 0)) 1 0
theorem DJ :∃r:LI×Bool,D.j0 g=some r∧((r=([],false)∧¬Ring g)∨(r.2=true∧Ring g∧∃c,r.1=iz c∧Rd (adj g) c∧c.length=g.length∧(∀x∈c,x<g.length)∧c[0]? =some 0)):=by
 have h16:=hg.n16
 have hn1:=hg.n1
 have hF:=FOk.of hg
 unfold D.j0
 rw[BV g hg.sh2,B7 hg,bs]
 by_cases h3:g.length<3
 ·rw[decide_eq_true (show (g.length:Int)<3 by omega)]
  simp only[Bool.not_true,Bool.or_true,cond_true]
  exact⟨_,rfl,.inl ⟨rfl,λh=>by have:=h.1;omega⟩⟩
 ·rw[decide_eq_false (show¬(g.length:Int)<3 by omega)]
  simp only[Bool.not_true,Bool.or_false,cond_false]
  have i0:idx (g.map mk) 0=some (mk (row g 0)):=idx_mk hg (u:=0) (by omega)
  rw[Dm g hg,bs,i0,bs]
  obtain⟨E,eE,hEl,hEv,hE⟩:=endings_ok hF hn1 h16 (VS.mk (row g 0))
  obtain⟨r,er,hr⟩:=EY hF hn1 h16 hEl hEv hE (v0:=0) (by omega)
  rw[eE,bs,show D.A (g.map mk) 0 E=some r from er,bs]
  rcases hr with⟨hno,rfl⟩|⟨hgo,hne,P,rfl,hP⟩
  ·rw[List.isEmpty_nil,cond_true]
   exact⟨_,rfl,.inl ⟨rfl,λh=>hno h.2⟩⟩
  ·have:(iz P).isEmpty=false:=by
    cases hh:iz P with
    |nil=>exact absurd hh hne
    |cons _ _=>rfl
   have hPl:=hP.len
   rw[this,cond_false,wide_eq _ (by unfold Sh;rw[Bv];omega),bs]
   refine⟨_,rfl,.inr ⟨rfl,⟨by omega,hgo⟩,P,rfl,⟨by omega,hP.nd,λi h=> ?_,?_⟩,hPl,hP.lt,hP.st⟩⟩
   ·have hlt:=hP.lt _ (List.getElem_mem (show i<P.length by omega))
    exact(CS hg hlt).1 (hP.ad i h)
   ·have hz:P[0]'(by omega)=0:=by
     have:=hP.st
     rw[List.getElem?_eq_getElem (by omega)] at this
     exact Option.some.inj this
    have:=hP.en (by omega)
    rw[hz]
    exact Cz hg _ _ ((DC hg (by omega)).1 this)
theorem FullPath_ok :∃r:LI×Bool,D.l0 g=some r∧((r=([],false)∧∀v,v<g.length→¬GoF (g.map mk) g.length (full g.length) (2^v) v)∨(r.2=true∧∃c,r.1=iz c∧c.Nodup∧c.length=g.length∧(∀x∈c,x<g.length)∧∀i (h:i+1<c.length),adj g c[i] c[i+1])):=by
 have h16:=hg.n16
 have hn1:=hg.n1
 have hF:=FOk.of hg
 unfold D.l0
 rw[BV g hg.sh2,B7 hg,bs,Bool.not_true,cond_false,Dm g hg,bs,Cx,List.length_map,bs]
 obtain⟨E,eE,hEl,hEv,hE⟩:=endings_ok hF hn1 h16 (EP g.length)
 rw[eE,bs]
 refine AS (λs:LI×LI×Int=>∃v:Nat,s=(g.map mk,E,(v:Int))∧v≤g.length∧∀u,u<v→¬GoF (g.map mk) g.length (full g.length) (2^u) u) (λs=>g.length-s.2.2.toNat)
  (λr:Unit ⊕ (LI×Bool)=>(r= .inl ()∧∀v,v<g.length→¬GoF (g.map mk) g.length (full g.length) (2^v) v)∨∃c,r= .inr (iz c,true)∧c.Nodup∧c.length=g.length∧(∀x∈c,x<g.length)∧∀i (h:i+1<c.length),adj g c[i] c[i+1]) ?_ ⟨0,rfl,Nat.zero_le _,λu h=>absurd h (Nat.not_lt_zero _)⟩ ?_
 ·rintro _ ⟨v,rfl,hv,hno⟩
  dsimp only
  by_cases hvl:v<g.length
  ·obtain⟨r,er,hr⟩:=EY hF hn1 h16 hEl hEv hE (v0:=v) hvl
   rw[dlt hvl,cond_true,er,bs]
   rcases hr with⟨hn,rfl⟩|⟨hgo,hne,P,rfl,hP⟩
   ·rw[List.isEmpty_nil,Bool.not_true,cond_false,wi (by omega)]
    refine⟨_,rfl,⟨v+1,rfl,hvl,λu hu=> ?_⟩,by dsimp only;omega⟩
    by_cases h:u=v
    ·subst h;exact hn
    ·exact hno u (by omega)
   ·have:(iz P).isEmpty=false:=by
     cases hh:iz P with
     |nil=>exact absurd hh hne
     |cons _ _=>rfl
    have hPl:=hP.len
    rw[this,Bool.not_false,cond_true,wide_eq _ (by unfold Sh;rw[Bv];omega),bs]
    refine⟨_,rfl,.inr ⟨P,rfl,hP.nd,hPl,hP.lt,λi h=> ?_⟩⟩
    have hlt:=hP.lt _ (List.getElem_mem (show i<P.length by omega))
    exact(CS hg hlt).1 (hP.ad i h)
  ·obtain rfl:v=g.length:=by omega
   rw[Bm,cond_false]
   exact⟨_,rfl,.inl ⟨rfl,hno⟩⟩
 ·rintro r (⟨rfl,h⟩|⟨c,rfl,h⟩)
  ·exact⟨_,rfl,.inl ⟨rfl,h⟩⟩
  ·exact⟨_,rfl,.inr ⟨rfl,c,rfl,h⟩⟩
theorem Ring.full (h:Ring g):GoF (g.map mk) g.length (full g.length) (2^0) 0:=by
 have h16:=hg.n16
 exact h.2.mono (λv hv _=>by rw[DI h16];exact decide_eq_true hv) (by have:=h.1;omega)
end
end Go.Sx

namespace Go.Sx
def prv (n i:Nat):Nat:=if i=0 then n-1 else i-1
theorem prv_inj {n i j:Nat}(hi:i<n)(hj:j<n)(h:prv n i=prv n j):i=j:=by
 unfold prv at h
 split at h<;>split at h<;>omega
theorem prv_all {n:Nat}{T:Nat→Prop}{i:Nat}(hi:i<n)(h:T i)(hT:∀j,j<n→T j→T (prv n j)):∀j,j<n→T j:=by
 have down:∀k j,j<n→T j→k≤j→T (j-k):=by
  intro k
  induction k with
  |zero=>intro j _ hj _;exact hj
  |succ k ih=>
   intro j hjn hj hk
   have h1:=ih j hjn hj (by omega)
   have h2:=hT (j-k) (by omega) h1
   unfold prv at h2
   rw[if_neg (by omega)] at h2
   rw[show j-(k+1)=j-k-1 by omega]
   exact h2
 have h0:T 0:=by have:=down i i hi h (Nat.le_refl _);rwa [Nat.sub_self] at this
 have hn:T (n-1):=by
  have:=hT 0 (by omega) h0
  unfold prv at this
  rwa [if_pos rfl] at this
 intro j hj
 have:=down (n-1-j) (n-1) (by omega) hn (by omega)
 rwa [show n-1-(n-1-j)=j by omega] at this
section
variable {g : LL} (hg : GOk g)
include hg
theorem ring_parts {c:List Nat}(hR:Rd (adj g) c)(hl:c.length=g.length)(hlt:∀x∈c,x<g.length){s:Int}(hs:In g.length s)(hne:∃z,has s z=true){W:Int}(hW:∀x,has W x=true↔x<g.length∧has s x=false){l:LI}(hP:Parts (g.map mk) (El W) l):l.length≤(Aq s).length:=by
 have h3:=hR.len
 have hcov:∀x,x<g.length→∃i,∃h:i<c.length,c[i]=x:=λx hx=>by
  apply Classical.byContradiction
  intro hc
  have hnot:x∉c:=λhm=>by
   obtain⟨i,hi,e⟩:=List.getElem_of_mem hm
   exact hc ⟨i,hi,e⟩
  have:=Bq (l:=iz (x::c)) (m:=(List.range g.length).map Int.ofNat) (DH (List.nodup_cons.2 ⟨hnot,hR.nd⟩)) (λz hz=>by
   obtain⟨v,hv,rfl⟩:=List.mem_map.1 hz
   refine List.mem_map.2 ⟨v,List.mem_range.2 ?_,rfl⟩
   rcases List.mem_cons.1 hv with rfl|hv
   ·exact hx
   ·exact hlt v hv)
  rw[Bv] at this
  simp at this
  omega
 have hprv:∀i,i<c.length→prv c.length i<c.length:=λi hi=>by unfold prv;split<;>omega
 have hadj:∀i (hi:i<c.length),adj g (c[prv c.length i]'(hprv i hi)) c[i]:=λi hi=>by
  by_cases h:i=0
  ·subst h
   have e:prv c.length 0=c.length-1:=by unfold prv;rw[if_pos rfl]
   simp only[e]
   exact hR.close
  ·have e:prv c.length i=i-1:=by unfold prv;rw[if_neg h]
   simp only[e]
   have:=hR.step (i-1) (by omega)
   simp only[show i-1+1=i by omega] at this
   exact this
 have key:∀P∈l,∃p,has s p=true∧∃i,∃hi:i<c.length,c[prv c.length i]'(hprv i hi)=p∧El P c[i]:=λP hPl=>by
  apply Classical.byContradiction
  intro hc
  obtain⟨v,hv⟩:=hP.ne P hPl
  have hsub:∀x,El P x→x<g.length∧has s x=false:=λx hx=>(hW x).1 (hP.sub P hPl x hx)
  obtain⟨i,hi,ei⟩:=hcov v (hsub v hv).1
  have hall:=prv_all (n:=c.length) (T:=λj=>∃h:j<c.length,El P c[j]) hi ⟨hi,by rw[ei];exact hv⟩ (λj hj ⟨_,hT⟩=>by
   refine⟨hprv j hj,?_⟩
   apply Classical.byContradiction
   intro hno
   have hpl:=hlt _ (List.getElem_mem (hprv j hj))
   cases hsp:has s (c[prv c.length j]'(hprv j hj))
   ·have hWp:El W (c[prv c.length j]'(hprv j hj)):=(hW _).2 ⟨hpl,hsp⟩
    have hjl:=hlt _ (List.getElem_mem hj)
    have had:Ad (g.map mk) c[j] (c[prv c.length j]'(hprv j hj)):=(CS hg hjl).2 (Cz hg _ _ (hadj j hj))
    exact hno ((hP.cn P hPl _ _ hT).2 (Cn.refl.step had hWp))
   ·exact hc ⟨_,hsp,j,hj,rfl,hT⟩)
  obtain⟨z,hz⟩:=hne
  obtain⟨k,hk,ek⟩:=hcov z (hs.2 z hz)
  obtain⟨_,hE⟩:=hall k hk
  rw[ek] at hE
  have:=(hsub z hE).2
  rw[hz] at this;cases this
 have hex:∃f:Int→Nat,∀P∈l,has s (f P)=true∧∃i,∃hi:i<c.length,c[prv c.length i]'(hprv i hi)=f P∧El P c[i]:=
  ⟨λP=>by classical exact if h:P∈l then Classical.choose (key P h) else 0,λP hPl=>by
   simp only[dif_pos hPl]
   exact Classical.choose_spec (key P hPl)⟩
 obtain⟨f,hf⟩:=hex
 have hnd:(l.map f).Nodup:=by
  unfold List.Nodup
  rw[List.pairwise_map]
  refine List.Pairwise.imp_of_mem (fun{P Q} hPl hQl hd he=> ?_) hP.dis
  obtain⟨_,i,hi,ei,hEi⟩:=hf P hPl
  obtain⟨_,j,hj,ej,hEj⟩:=hf Q hQl
  have e:c[prv c.length i]'(hprv i hi)=c[prv c.length j]'(hprv j hj):=by rw[ei,ej,he]
  have e2:=(List.getElem_inj hR.nd).1 e
  have e3:=prv_inj hi hj e2
  subst e3
  exact hd _ ⟨hEi,hEj⟩
 have:=Bq (l:=iz (l.map f)) (m:=Aq s) (DH hnd) (λx hx=>by
  obtain⟨v,hv,rfl⟩:=List.mem_map.1 hx
  obtain⟨P,hPl,rfl⟩:=List.mem_map.1 hv
  exact(AM hs.1).2 (hf P hPl).1)
 rw[Bv,List.length_map] at this
 exact this
end
end Go.Sx

namespace Go.Sx
theorem Di {f f':Nat→Nat}{i0 d:Nat}:∀{m:Nat},i0<m→(∀i,i≠i0→f' i=f i)→f' i0=f i0+d→AN f' m=AN f m+d
 |0,h,_,_=>absurd h (Nat.not_lt_zero _)
 |m+1,h,h1,h2=>by
  simp only[AN]
  by_cases hm:m=i0
  ·subst hm
   rw[h2,AY (n:=m) (λi hi=>h1 i (by omega))]
   omega
  ·rw[Di (show i0<m by omega) h1 h2,h1 m hm]
   omega
theorem Dd {f g:Nat→Nat}:∀{m:Nat},(∀i,i<m→f i≤g i)→AN f m≤AN g m
 |0,_=>Nat.le_refl _
 |m+1,h=>by simp only[AN];have:=Dd (m:=m) (λi hi=>h i (by omega));have:=h m (by omega);omega
theorem DL {f:Nat→Nat}{i m:Nat}(h:i<m):f i≤AN f m:=by
 induction m with
 |zero=>omega
 |succ m ih=>
  simp only[AN]
  by_cases hm:i=m
  ·subst hm;omega
  ·have:=ih (by omega);omega
theorem Ei (f:Nat→Nat)(k:Nat):∀m,AN (λi=>k*f i) m=k*AN f m
 |0=>rfl
 |m+1=>by simp only[AN];rw[Ei f k m,Nat.mul_add]
def wst (A:Nat→Nat→Bool)(s v u:Nat):Bool:=A v u&& !s.testBit u
def wcnF (A:Nat→Nat→Bool)(n:Nat)(L:Nat→Bool):Nat→Nat→Nat→Nat
 |0,_,_=>0
 |k+1,s,v=>if s=2^n-1 then bit (L v) else AN (λu=>bit (wst A s v u)*wcnF A n L k (s|||2^u) u) n
theorem wcnF_le {A:Nat→Nat→Bool}{n:Nat}{L:Nat→Bool}(hn:n≤16):∀(k j s v:Nat),s<2^n→2^n-s≤k→k≤j→wcnF A n L k s v=wcnF A n L j s v:=by
 intro k
 induction k with
 |zero=>intro j s v hs hk;omega
 |succ k ih=>
  intro j s v hs hk hj
  obtain⟨j,rfl⟩:∃j',j=j'+1:=⟨j-1,by omega⟩
  unfold wcnF
  by_cases h:s=2^n-1
  ·rw[if_pos h,if_pos h]
  ·rw[if_neg h,if_neg h]
   refine AY (λu hu=> ?_)
   cases hb:wst A s v u
   ·simp[bit]
   ·have hb2:s.testBit u=false:=by
     unfold wst at hb
     rw[Bool.and_eq_true,Bool.not_eq_true'] at hb
     exact hb.2
    have hgt:=CH hn hs hu hb2
    rw[ih j (s|||2^u) u (CJ hs hu) (by omega) (by omega)]
def wcn (A:Nat→Nat→Bool)(n:Nat)(L:Nat→Bool)(s v:Nat):Nat:=wcnF A n L (2^n) s v
theorem Ef {A:Nat→Nat→Bool}{n:Nat}{L:Nat→Bool}(v:Nat):wcn A n L (2^n-1) v=bit (L v):=by
 unfold wcn
 have:=Nat.two_pow_pos n
 obtain⟨k,hk⟩:∃k,2^n=k+1:=⟨2^n-1,by omega⟩
 rw[hk]
 unfold wcnF
 rw[if_pos (by omega)]
theorem DF {A:Nat→Nat→Bool}{n:Nat}{L:Nat→Bool}(hn:n≤16){s v:Nat}(hs:s<2^n-1)(h0:0<s):wcn A n L s v=AN (λu=>bit (wst A s v u)*wcn A n L (s|||2^u) u) n:=by
 have:=Nat.two_pow_pos n
 unfold wcn
 obtain⟨k,hk⟩:∃k,2^n=k+1:=⟨2^n-1,by omega⟩
 have e:wcnF A n L (2^n) s v=AN (λu=>bit (wst A s v u)*wcnF A n L k (s|||2^u) u) n:=by
  conv=>lhs;rw[hk]
  rw[show wcnF A n L (k+1) s v=if s=2^n-1 then bit (L v) else AN (λu=>bit (wst A s v u)*wcnF A n L k (s|||2^u) u) n from rfl,if_neg (by omega)]
 rw[e]
 refine AY (λu hu=> ?_)
 cases hb:wst A s v u
 ·simp[bit]
 ·have hb2:s.testBit u=false:=by
   unfold wst at hb
   rw[Bool.and_eq_true,Bool.not_eq_true'] at hb
   exact hb.2
  have hgt:=CH hn (show s<2^n by omega) hu hb2
  rw[wcnF_le hn k (2^n) (s|||2^u) u (CJ (by omega) hu) (by omega) (by omega)]
theorem wcn_pos {A:Nat→Nat→Bool}{n:Nat}{L:Nat→Bool}(hn:n≤16):∀(k s v:Nat),2^n-s≤k→0<s→s<2^n→s.testBit v=true→(0<wcn A n L s v↔Goes2 (λa b=>A a b=true) n (λv=>L v=true) s v):=by
 intro k
 induction k with
 |zero=>intro s v hk h0 hs;omega
 |succ k ih=>
  intro s v hk h0 hs hv
  by_cases h:s=2^n-1
  ·subst h
   rw[Ef]
   constructor
   ·intro hb
    refine .fin ?_
    cases hL:L v
    ·rw[hL] at hb;simp[bit] at hb
    ·rfl
   ·intro hg
    rcases hg.inv with⟨_,b⟩|⟨_,u,_,b2,b3,_⟩
    ·rw[b];simp[bit]
    ·rw[EL b3] at b2;cases b2
  ·rw[DF hn (by omega) h0]
   constructor
   ·intro hb
    obtain⟨u,hu,hpos⟩:∃u,u<n∧0<bit (wst A s v u)*wcn A n L (s|||2^u) u:=by
     apply Classical.byContradiction
     intro hc
     have:AN (λu=>bit (wst A s v u)*wcn A n L (s|||2^u) u) n=AN (λ_=>0) n:=AY (λu hu=>by
      apply Classical.byContradiction
      intro hne
      exact hc ⟨u,hu,Nat.pos_of_ne_zero hne⟩)
     rw[this,BQ] at hb
     omega
    cases hst:wst A s v u
    ·rw[hst] at hpos;simp[bit] at hpos
    ·rw[hst] at hpos
     have h1:=hst
     unfold wst at h1
     rw[Bool.and_eq_true,Bool.not_eq_true'] at h1
     have hgt:=CH hn hs hu h1.2
     have hor:=CJ hs hu
     have hc:0<wcn A n L (s|||2^u) u:=by
      apply Nat.pos_of_ne_zero
      intro e
      rw[e] at hpos
      simp at hpos
     exact .step hv h1.1 h1.2 hu ((ih (s|||2^u) u (by omega) (by omega) hor (by rw[Nat.testBit_or,Nat.testBit_two_pow,decide_eq_true rfl,Bool.or_true])).1 hc)
   ·intro hg
    rcases hg.inv with⟨b,_⟩|⟨_,u,b1,b2,b3,b4⟩
    ·exact absurd b h
    ·have hgt:=CH hn hs b3 b2
     have hor:=CJ hs b3
     have hc:=(ih (s|||2^u) u (by omega) (by omega) hor (by rw[Nat.testBit_or,Nat.testBit_two_pow,decide_eq_true rfl,Bool.or_true])).2 b4
     have hst:wst A s v u=true:=by unfold wst;rw[b1,b2];rfl
     have:=DL (f:=λu=>bit (wst A s v u)*wcn A n L (s|||2^u) u) b3
     rw[hst] at this
     have h1:bit true=1:=rfl
     rw[h1,Nat.one_mul] at this
     omega
theorem DO {f:Nat→Nat}{i0:Nat}:∀{m:Nat},i0<m→AN (λi=>if i=i0 then f i else 0) m=f i0
 |0,h=>absurd h (Nat.not_lt_zero _)
 |m+1,h=>by
  simp only[AN]
  by_cases hm:m=i0
  ·subst hm
   rw[if_pos rfl,AY (g:=λ_=>0) (λi hi=>if_neg (by omega)),BQ]
   omega
  ·rw[DO (show i0<m by omega),if_neg hm];omega
def Pot (n:Nat)(h w:Nat→Nat→Nat)(a:Nat):Nat:=AN (λk=>AN (λu=>(if a≤k then w k u else 0)*h k u) n) (2^n)
theorem Ed {n:Nat}{h w:Nat→Nat→Nat}{a:Nat}(ha:a<2^n):Pot n h w a=Pot n h w (a+1)+AN (λu=>w a u*h a u) n:=by
 unfold Pot
 refine Di ha (λk hk=>AY (λu _=> ?_)) ?_
 ·by_cases h1:a≤k
  ·rw[if_pos h1,if_pos (by omega)]
  ·rw[if_neg h1,if_neg (by omega)]
 ·rw[AY (g:=λu=>w a u*h a u) (λu _=>by rw[if_pos (Nat.le_refl _)])]
  rw[AY (f:=λu=>(if a+1≤a then w a u else 0)*h a u) (g:=λ_=>0) (λu _=>by rw[if_neg (by omega),Nat.zero_mul]),BQ]
  omega
def BS (A:Nat→Nat→Bool)(n:Nat)(w:Nat→Nat→Nat)(s k u:Nat):Nat:=w k u+if s.testBit u=false∧k=s|||2^u then AN (λv=>bit (A v u)*w s v) n else 0
theorem Pot_push {A:Nat→Nat→Bool}{n:Nat}(hn:n≤16){h w:Nat→Nat→Nat}{s:Nat}(hs:s<2^n):Pot n h (BS A n w s) (s+1)=Pot n h w (s+1)+AN (λv=>w s v*AN (λu=>bit (wst A s v u)*h (s|||2^u) u) n) n:=by
 have e1:Pot n h (BS A n w s) (s+1)=Pot n h w (s+1)+AN (λk=>AN (λu=>if k=s|||2^u then(if s.testBit u=false then AN (λv=>bit (A v u)*w s v) n*h k u else 0) else 0) n) (2^n):=by
  unfold Pot
  rw[←Ee]
  refine AY (λk hk=> ?_)
  rw[←Ee]
  refine AY (λu hu=> ?_)
  unfold BS
  by_cases h1:k=s|||2^u
  ·by_cases h2:s.testBit u=false
   ·have hgt:=CH hn hs hu h2
    rw[if_pos (show s+1≤k by omega),if_pos ⟨h2,h1⟩,if_pos (show s+1≤k by omega),if_pos h1,if_pos h2,Nat.add_mul]
   ·rw[if_pos h1,if_neg h2]
    have:¬(s.testBit u=false∧k=s|||2^u):=λhc=>h2 hc.1
    rw[if_neg this];rfl
  ·have:¬(s.testBit u=false∧k=s|||2^u):=λhc=>h1 hc.2
   rw[if_neg this,if_neg h1];rfl
 rw[e1,EA]
 congr 1
 refine(AY (g:=λu=>if s.testBit u=false then AN (λv=>bit (A v u)*w s v) n*h (s|||2^u) u else 0) (λu hu=>DO (f:=λi=>if s.testBit u=false then AN (λv=>bit (A v u)*w s v) n*h i u else 0) (CJ hs hu))).trans ?_
 have e2:∀v,w s v*AN (λu=>bit (wst A s v u)*h (s|||2^u) u) n=AN (λu=>w s v*(bit (wst A s v u)*h (s|||2^u) u)) n:=λv=>(Ei _ _ n).symm
 rw[AY (f:=λv=>w s v*AN (λu=>bit (wst A s v u)*h (s|||2^u) u) n) (λv _=>e2 v),EA]
 refine AY (λu hu=> ?_)
 by_cases h2:s.testBit u=false
 ·rw[if_pos h2,Nat.mul_comm,←Ei]
  refine AY (λv _=> ?_)
  unfold wst
  rw[h2,Bool.not_false,Bool.and_true]
  rw[Nat.mul_comm (h (s|||2^u) u),Nat.mul_comm (bit (A v u)) (w s v),Nat.mul_assoc]
 ·rw[if_neg h2]
  symm
  rw[AY (g:=λ_=>0) (λv _=> ?_),BQ]
  unfold wst
  cases hb:s.testBit u
  ·exact absurd hb h2
  ·simp[bit]
theorem Pot_eq {A:Nat→Nat→Bool}{n:Nat}(hn:n≤16){h w:Nat→Nat→Nat}{s:Nat}(hs:s<2^n)(hh:∀v,v<n→AN (λu=>bit (wst A s v u)*h (s|||2^u) u) n=h s v):Pot n h (BS A n w s) (s+1)=Pot n h w s:=by
 rw[Pot_push hn hs,Ed hs]
 congr 1
 exact AY (λv hv=>by rw[hh v hv])
theorem Pot_le {A:Nat→Nat→Bool}{n:Nat}(hn:n≤16){h w:Nat→Nat→Nat}{s:Nat}(hs:s<2^n)(hh:∀v,v<n→AN (λu=>bit (wst A s v u)*h (s|||2^u) u) n≤h s v):Pot n h (BS A n w s) (s+1)≤Pot n h w s:=by
 rw[Pot_push hn hs,Ed hs]
 exact Nat.add_le_add_left (Dd (λv hv=>Nat.mul_le_mul_left _ (hh v hv))) _
theorem Pot_one {n:Nat}{h w:Nat→Nat→Nat}{a k u:Nat}(hk:k<2^n)(hu:u<n)(hak:a≤k):w k u*h k u≤Pot n h w a:=by
 unfold Pot
 have h1:=DL (f:=λk=>AN (λu=>(if a≤k then w k u else 0)*h k u) n) hk
 have h2:=DL (f:=λu=>(if a≤k then w k u else 0)*h k u) hu
 rw[if_pos hak] at h2
 omega
def zer (n s:Nat):Nat:=AN (λu=>bit (!s.testBit u)) n
theorem zer_or {n s u:Nat}(hu:u<n)(h:s.testBit u=false):zer n s=zer n (s|||2^u)+1:=by
 unfold zer
 refine Di hu (λi hi=> ?_) ?_
 ·have:(s|||2^u).testBit i=s.testBit i:=by rw[Nat.testBit_or,Nat.testBit_two_pow,decide_eq_false (λe=>hi e.symm),Bool.or_false]
  rw[this]
 ·have:(s|||2^u).testBit u=true:=by rw[Nat.testBit_or,Nat.testBit_two_pow,decide_eq_true rfl,Bool.or_true]
  rw[this,h];rfl
theorem zer_le (n s:Nat):zer n s≤n:=by
 unfold zer
 have:=Dd (f:=λu=>bit (!s.testBit u)) (g:=λ_=>1) (m:=n) (λu _=>by unfold bit;split<;>omega)
 have e:∀n,AN (λ_=>1) n=n:=λn=>by
  induction n with
  |zero=>rfl
  |succ n ih=>simp only[AN];rw[ih]
 rw[e] at this
 exact this
theorem wei_le {A:Nat→Nat→Bool}{n s v:Nat}(h7:n≤7):AN (λu=>bit (wst A s v u)*8^zer n (s|||2^u)) n≤8^zer n s:=by
 have hterm:∀u,u<n→8*(bit (wst A s v u)*8^zer n (s|||2^u))≤8^zer n s:=λu hu=>by
  cases hb:wst A s v u
  ·simp[bit]
  ·have h2:s.testBit u=false:=by
    unfold wst at hb
    rw[Bool.and_eq_true,Bool.not_eq_true'] at hb
    exact hb.2
   rw[zer_or hu h2,Nat.pow_succ,show bit true=1 from rfl,Nat.one_mul,Nat.mul_comm]
   exact Nat.le_refl _
 have h1:=Dd (m:=n) (f:=λu=>8*(bit (wst A s v u)*8^zer n (s|||2^u))) (g:=λ_=>8^zer n s) hterm
 rw[Ei] at h1
 have e:∀n c,AN (λ_=>c) n=n*c:=λn c=>by
  induction n with
  |zero=>simp[AN]
  |succ n ih=>simp only[AN];rw[ih,Nat.succ_mul]
 rw[e] at h1
 have h2:n*8^zer n s≤8*8^zer n s:=Nat.mul_le_mul_right _ (by omega)
 omega
def CU (A:Nat→Nat→Bool)(n:Nat)(w:Nat→Nat→Nat)(s:Nat)(D:Nat→Bool)(k u:Nat):Nat:=w k u+if s.testBit u=false∧k=s|||2^u then AN (λv=>bit (D v)*(bit (A v u)*w s v)) n else 0
theorem pushP_none {A:Nat→Nat→Bool}{n:Nat}{w:Nat→Nat→Nat}{s:Nat}{D:Nat→Bool}(hD:∀v,v<n→D v=false)(k u:Nat):CU A n w s D k u=w k u:=by
 unfold CU
 split
 ·rw[AY (g:=λ_=>0) (λv hv=>by rw[hD v hv];simp[bit]),BQ];rfl
 ·rfl
theorem pushP_le {A:Nat→Nat→Bool}{n:Nat}{w:Nat→Nat→Nat}{s:Nat}{D:Nat→Bool}(k u:Nat):CU A n w s D k u≤BS A n w s k u:=by
 unfold CU BS
 split
 ·refine Nat.add_le_add_left (Dd (λv _=> ?_)) _
  cases D v
  ·simp[bit]
  ·rw[show bit true=1 from rfl,Nat.one_mul];exact Nat.le_refl _
 ·exact Nat.le_refl _
theorem pushP_all {A:Nat→Nat→Bool}{n:Nat}{w:Nat→Nat→Nat}{s:Nat}{D:Nat→Bool}(hD:∀v,v<n→D v=true∨w s v=0)(k u:Nat):CU A n w s D k u=BS A n w s k u:=by
 unfold CU BS
 split
 ·congr 1
  refine AY (λv hv=> ?_)
  rcases hD v hv with h|h
  ·rw[h,show bit true=1 from rfl,Nat.one_mul]
  ·rw[h];simp
 ·rfl
theorem pushP_add {A:Nat→Nat→Bool}{n:Nat}{w:Nat→Nat→Nat}{s:Nat}{D D':Nat→Bool}{v:Nat}(hv:v<n)(h0:D v=false)(h1:D' v=true)(hD:∀x,x≠v→D' x=D x)(k u:Nat):CU A n w s D' k u=CU A n w s D k u+if s.testBit u=false∧k=s|||2^u then bit (A v u)*w s v else 0:=by
 unfold CU
 split
 ·rw[Nat.add_assoc]
  congr 1
  refine Di hv (λi hi=>by rw[hD i hi]) ?_
  rw[h0,h1,show bit true=1 from rfl,show bit false=0 from rfl]
  omega
 ·rfl
theorem Ek {A:Nat→Nat→Bool}{n:Nat}(hn:n≤16){w:Nat→Nat→Nat}{s:Nat}(hs:s<2^n){D:Nat→Bool}{u:Nat}(hu:u<n):CU A n w s D s u=w s u:=by
 unfold CU
 rw[if_neg,Nat.add_zero]
 rintro⟨h,e⟩
 have:=CH hn hs hu h
 omega
structure Tab (n:Nat)(W:List (Nat→Int))(w:Nat→Nat→Nat):Prop where
 len:W.length=2^n
 at_:∀k (h:k<W.length) u,u<n→W[k] u=(w k u:Int)
theorem Tab.congr {n:Nat}{W:List (Nat→Int)}{w w':Nat→Nat→Nat}(h:Tab n W w)(e:∀k u,k<2^n→u<n→w' k u=w k u):Tab n W w':=
 ⟨h.len,λk hk u hu=>by rw[e k u (by rw[←h.len];exact hk) hu];exact h.at_ k hk u hu⟩
theorem ai_ok {x:Nat→Int}{u:Nat}(hu:u<16):ai x (u:Int)=some (x u):=by
 unfold ai
 rw[if_pos ⟨by omega,by omega⟩,Int.toNat_natCast]
section
variable {F : LI} {n : Nat} (hF : FOk F n) (h1 : 1 ≤ n) (h16 : n ≤ 16)
include hF h1 h16
theorem pushIn_ok {W:List (Nat→Int)}{w:Nat→Nat→Nat}(hW:Tab n W w){s v:Nat}(hs:s<2^n)(hv:v<n)(hb:∀k u,k<2^n→u<n→w k u+(if s.testBit u=false∧k=s|||2^u then bit (nb F v u)*w s v else 0)<4611686018427387904):
  ∃W',Ar (σ:=(List (Nat→Int))×Int) (ρ:=((List (Nat→Int)))) (fun(s_3876:(List (Nat→Int))×Int)=>match s_3876 with|(l_3879,x_3882)=>cond (decide (x_3882<((Aq (iandNot .u32 (F.getD v 0) (s:Int))).length:Int))) ((idx (Aq (iandNot .u32 (F.getD v 0) (s:Int))) x_3882).bind λe_3934=>(D.b e_3934).bind λy_3940=>(idx l_3879 (ior .u32 (s:Int) y_3940)).bind λe_3943=>(ai e_3943 e_3934).bind λz_3949=>(idx l_3879 (s:Int)).bind λe_3953=>(ai e_3953 (v:Int)).bind λz_3959=>(idx l_3879 (ior .u32 (s:Int) y_3940)).bind λe_3963=>(ai e_3963 e_3934).bind λz_3969=>some (.inl ((l_3879.set (Int.toNat (ior .u32 (s:Int) y_3940)) (Df e_3963 (Int.toNat e_3934) (IntKind.i64.wrap (z_3949+z_3959)))),(IntKind.i64.wrap (x_3882+1))))) (some (.inr l_3879))) (W,0)=some W'∧
   Tab n W' (λk u=>w k u+if s.testBit u=false∧k=s|||2^u then bit (nb F v u)*w s v else 0):=by
 let us:=Aq (iandNot .u32 (F.getD v 0) (s:Int))
 have hus:us=Aq (iandNot .u32 (F.getD v 0) (s:Int)):=rfl
 have hul:us.length≤32:=Cd (iandNot .u32 (F.getD v 0) (s:Int))
 have hIn:=In.of hs h16
 have hum:∀u:Nat,(u:Int)∈us↔nb F v u=true∧s.testBit u=false:=λu=>by
  rw[hus,AM (VS.iandNot _ _),BJ (hF.vs v hv) hIn.1,Bc,Bool.and_eq_true,Bool.not_eq_true']
  rfl
 rw[←hus]
 refine Do (λq:List (Nat→Int)×Int=>∃t:Nat,q.2=(t:Int)∧t≤us.length∧Tab n q.1 (λk u=>w k u+if(s.testBit u=false∧k=s|||2^u)∧(u:Int)∈us.take t then w s v else 0)) (λq=>us.length-q.2.toNat) _ ?_ _ ⟨0,rfl,Nat.zero_le _,hW.congr (λk u _ _=>by simp)⟩
 rintro⟨X,_⟩ ⟨t,rfl,ht,hX⟩
 dsimp only at hX ⊢
 have hXl:=hX.len
 by_cases htl:t<us.length
 ·left
  obtain⟨u,_,hu,eu⟩:=mem_elems.1 (List.getElem_mem htl)
  have huu:=(hum u).1 (by rw[←eu];exact List.getElem_mem htl)
  have hun:=hF.lt v u hv huu.1
  have hor:=CJ hs hun
  have hgt:=CH h16 hs hun huu.2
  have hnot:(u:Int)∉us.take t:=λhm=>by
   have hnd:=(BD (iandNot .u32 (F.getD v 0) (s:Int))).nodup
   rw[←hus] at hnd
   have:=(nodup_iff.1 hnd) t htl
   rw[show us[t]=(u:Int) from eu] at this
   exact this hm
  have hk1:s|||2^u<X.length:=by omega
  have hk2:s<X.length:=by omega
  have e1:=hX.at_ (s|||2^u) hk1 u hun
  have e2:=hX.at_ s hk2 v hv
  rw[if_neg (λh=>hnot h.2),Nat.add_zero] at e1
  rw[if_neg (λh=>by have:=h.1.2;have:=CH h16 hs hv h.1.1;omega),Nat.add_zero] at e2
  have hbd:=hb (s|||2^u) u hor hun
  rw[if_pos ⟨huu.2,rfl⟩,huu.1,show bit true=1 from rfl,Nat.one_mul] at hbd
  rw[dlt htl,cond_true,Az htl,show us[t]=(u:Int) from eu,bs,BT,bs,EH h16 hs hun,Az hk1,bs,ai_ok (by omega),bs,Az hk2,bs,ai_ok (by omega),bs,bs,ai_ok (by omega),bs,e1,e2,wi (by omega),w64 (by omega) (by omega)]
  refine⟨_,rfl,⟨t+1,rfl,htl,⟨by rw[List.length_set];exact hXl,λk hk x hx=> ?_⟩⟩,by dsimp only;omega⟩
  dsimp only at hk ⊢
  have htake:(x:Int)∈us.take (t+1)↔(x:Int)∈us.take t∨x=u:=by
   rw[List.take_succ_eq_append_getElem htl,List.mem_append,show us[t]=(u:Int) from eu]
   simp[Int.natCast_inj]
  have hkX:k<X.length:=by simpa using hk
  have e3:=hX.at_ k hkX x hx
  rw[List.getElem_set]
  by_cases hk':(Int.toNat ((s|||2^u:Nat):Int))=k
  ·rw[if_pos hk']
   rw[Int.toNat_natCast] at hk'
   subst hk'
   unfold Df
   rw[Int.toNat_natCast]
   by_cases hxu:x=u
   ·subst hxu
    rw[if_pos rfl,if_pos ⟨⟨huu.2,rfl⟩,htake.2 (.inr rfl)⟩]
    omega
   ·rw[if_neg hxu,e3]
    congr 2
    have:((s.testBit x=false∧s|||2^u=s|||2^x)∧(x:Int)∈us.take t)↔((s.testBit x=false∧s|||2^u=s|||2^x)∧(x:Int)∈us.take (t+1)):=by
     rw[htake]
     exact⟨λh=>⟨h.1,.inl h.2⟩,λh=>⟨h.1,h.2.elim id (λe=>absurd e hxu)⟩⟩
    simp only[this]
  ·rw[if_neg hk',e3]
   rw[Int.toNat_natCast] at hk'
   congr 2
   have:((s.testBit x=false∧k=s|||2^x)∧(x:Int)∈us.take t)↔((s.testBit x=false∧k=s|||2^x)∧(x:Int)∈us.take (t+1)):=by
    rw[htake]
    refine⟨λh=>⟨h.1,.inl h.2⟩,λh=>⟨h.1,h.2.elim id (λe=> ?_)⟩⟩
    subst e
    exact absurd h.1.2.symm hk'
   simp only[this]
 ·right
  obtain rfl:t=us.length:=by omega
  rw[Bm,cond_false]
  refine⟨_,rfl,hX.congr (λk u hk hu=> ?_)⟩
  congr 1
  rw[List.take_length]
  by_cases h2:s.testBit u=false∧k=s|||2^u
  ·rw[if_pos h2]
   cases hA:nb F v u
   ·rw[if_neg (λh=>by rw[((hum u).1 h.2).1] at hA;cases hA)]
    simp[bit]
   ·rw[if_pos ⟨h2,(hum u).2 ⟨hA,h2.1⟩⟩,show bit true=1 from rfl,Nat.one_mul]
  ·rw[if_neg h2,if_neg (λh=>h2 h.1)]
end
end Go.Sx

namespace Go.Sx
section
variable {F : LI} {n : Nat} (hF : FOk F n) (h1 : 1 ≤ n) (h16 : n ≤ 16)
include hF h1 h16
theorem pushMid_ok {W:List (Nat→Int)}{w:Nat→Nat→Nat}(hW:Tab n W w){s:Nat}(hs:s<2^n)(hz:∀v,v<n→s.testBit v=false→w s v=0)(hb:∀k u,k<2^n→u<n→BS (nb F) n w s k u<4611686018427387904):
  ∃W',Ar (σ:=(List (Nat→Int))×Int) (ρ:=((List (Nat→Int)))) (fun(s_3498:(List (Nat→Int))×Int)=>match s_3498 with|(l_3501,x_3504)=>cond (decide (x_3504<((Aq (s:Int)).length:Int))) ((idx (Aq (s:Int)) x_3504).bind λe_3745=>(idx l_3501 (s:Int)).bind λe_3751=>(ai e_3751 e_3745).bind λz_3757=>cond (z_3757==0) (some (.inl (l_3501,(IntKind.i64.wrap (x_3504+1))))) ((idx F e_3745).bind λe_3762=>(D.d (iandNot .u32 e_3762 (s:Int))).bind λy_3768=>(Ar (σ:=(List (Nat→Int))×Int) (ρ:=((List (Nat→Int)))) (fun(s_3876:(List (Nat→Int))×Int)=>match s_3876 with|(l_3879,x_3882)=>cond (decide (x_3882<(y_3768.length:Int))) ((idx y_3768 x_3882).bind λe_3934=>(D.b e_3934).bind λy_3940=>(idx l_3879 (ior .u32 (s:Int) y_3940)).bind λe_3943=>(ai e_3943 e_3934).bind λz_3949=>(idx l_3879 (s:Int)).bind λe_3953=>(ai e_3953 e_3745).bind λz_3959=>(idx l_3879 (ior .u32 (s:Int) y_3940)).bind λe_3963=>(ai e_3963 e_3934).bind λz_3969=>some (.inl ((l_3879.set (Int.toNat (ior .u32 (s:Int) y_3940)) (Df e_3963 (Int.toNat e_3934) (IntKind.i64.wrap (z_3949+z_3959)))),(IntKind.i64.wrap (x_3882+1))))) (some (.inr l_3879))) (l_3501,0)).bind λl_3929=>some (.inl (l_3929,(IntKind.i64.wrap (x_3504+1)))))) (some (.inr l_3501))) (W,0)=some W'∧Tab n W' (BS (nb F) n w s):=by
 have hIn:=In.of hs h16
 have hlen:=hF.len
 have hel:=Cd (s:Int)
 refine Do (λq:List (Nat→Int)×Int=>∃i:Nat,q.2=(i:Int)∧i≤(Aq (s:Int)).length∧Tab n q.1 (CU (nb F) n w s (λv=>decide ((v:Int)∈(Aq (s:Int)).take i)))) (λq=>(Aq (s:Int)).length-q.2.toNat) _ ?_ _ ⟨0,rfl,Nat.zero_le _,hW.congr (λk u _ _=>pushP_none (λv _=>by simp) k u)⟩
 rintro⟨X,_⟩ ⟨i,rfl,hi,hX⟩
 dsimp only at hX ⊢
 have hXl:=hX.len
 by_cases hil:i<(Aq (s:Int)).length
 ·left
  obtain⟨v,_,hv,ev⟩:=mem_elems.1 (List.getElem_mem hil)
  have hvn:=hIn.2 v hv
  have hsX:s<X.length:=by omega
  have e1:=hX.at_ s hsX v hvn
  rw[Ek h16 hs hvn] at e1
  have hnot:(v:Int)∉(Aq (s:Int)).take i:=λhm=>by
   have:=(nodup_iff.1 (BD (s:Int)).nodup) i hil
   rw[ev] at this
   exact this hm
  have hadd:=pushP_add (A:=nb F) (n:=n) (w:=w) (s:=s) (D:=λv=>decide ((v:Int)∈(Aq (s:Int)).take i)) (D':=λv=>decide ((v:Int)∈(Aq (s:Int)).take (i+1))) hvn (decide_eq_false hnot) (decide_eq_true (by rw[List.take_succ_eq_append_getElem hil,ev];simp)) (λx hx=>by
   apply decide_eq_decide.2
   rw[List.take_succ_eq_append_getElem hil,ev,List.mem_append,List.mem_singleton]
   exact⟨λh=>h.elim id (λe=>absurd (by omega) hx),.inl⟩)
  rw[dlt hil,cond_true,Az hil,ev,bs,Az hsX,bs,ai_ok (by omega),bs,e1]
  by_cases hw0:w s v=0
  ·rw[hw0,show ((((0:Nat):Int))==0)=true from rfl,cond_true,wi (by omega)]
   refine⟨_,rfl,⟨i+1,rfl,hil,hX.congr (λk u _ _=> ?_)⟩,by dsimp only;omega⟩
   rw[hadd,hw0];simp
  ·have hne:(((w s v:Nat):Int)==0)=false:=beq_eq_false_iff_ne.2 (by omega)
   have iF:idx F (v:Int)=some (F.getD v 0):=by rw[Az (show v<F.length by omega),AA]
   obtain⟨X',eX,hX'⟩:=pushIn_ok hF h1 h16 hX hs hvn (λk u hk hu=>by
    have h2:=hb k u hk hu
    have h3:=pushP_le (A:=nb F) (n:=n) (w:=w) (s:=s) (D:=λv=>decide ((v:Int)∈(Aq (s:Int)).take (i+1))) k u
    rw[hadd] at h3
    rw[Ek h16 hs hvn]
    omega)
   rw[hne,cond_false,iF,bs,C1 _ (VS.iandNot _ _),bs,eX,bs,wi (by omega)]
   refine⟨_,rfl,⟨i+1,rfl,hil,hX'.congr (λk u _ _=> ?_)⟩,by dsimp only;omega⟩
   rw[hadd,Ek h16 hs hvn]
 ·right
  obtain rfl:i=(Aq (s:Int)).length:=by omega
  rw[Bm,cond_false]
  refine⟨_,rfl,hX.congr (λk u hk hu=> ?_)⟩
  rw[pushP_all (λv hv=> ?_)]
  rw[List.take_length]
  cases hsv:s.testBit v
  ·exact .inr (hz v hv hsv)
  ·exact .inl (decide_eq_true ((AM hIn.1).2 (by rw[Bc];exact hsv)))
end
end Go.Sx

namespace Go.Sx
def w0F (k u:Nat):Nat:=if k=1 then(if u=0 then 1 else 0) else 0
theorem Pot_w0 {n:Nat}(h:Nat→Nat→Nat)(hn:0<n)(h2:1<2^n):Pot n h w0F 1=h 1 0:=by
 unfold Pot
 have e:∀k,AN (λu=>(if 1≤k then w0F k u else 0)*h k u) n=if k=1 then h k 0 else 0:=λk=>by
  by_cases hk:k=1
  ·subst hk
   rw[if_pos rfl]
   have:(λu=>(if 1≤1 then w0F 1 u else 0)*h 1 u)=λu=>if u=0 then h 1 u else 0:=by
    funext u
    unfold w0F
    by_cases hu:u=0<;>simp[hu]
   rw[this,DO hn]
  ·rw[if_neg hk]
   have:(λu=>(if 1≤k then w0F k u else 0)*h k u)=λ_=>0:=by
    funext u
    unfold w0F
    simp[hk]
   rw[this,BQ]
 rw[AY (g:=λk=>if k=1 then h k 0 else 0) (λk _=>e k),DO h2]
theorem Pot_end {n:Nat}{h w:Nat→Nat→Nat}:Pot n h w (2^n-1)=AN (λu=>w (2^n-1) u*h (2^n-1) u) n:=by
 have hp:=Nat.two_pow_pos n
 rw[Ed (by omega)]
 have:Pot n h w (2^n-1+1)=0:=by
  unfold Pot
  rw[AY (g:=λ_=>0) (λk hk=> ?_),BQ]
  rw[AY (g:=λ_=>0) (λu _=>by rw[if_neg (by omega),Nat.zero_mul]),BQ]
 rw[this,Nat.zero_add]
structure Psh (F:LI)(n:Nat)(L:Nat→Bool)(w:Nat→Nat→Nat)(s:Nat):Prop where
 odd:s%2=1
 le:s≤2^n-1
 out:∀k v,k.testBit v=false→w k v=0
 ev:∀k v,k%2=0→w k v=0
 p1:Pot n (wcn (nb F) n L) w s=wcn (nb F) n L 1 0
 p2:Pot n (λk _=>8^zer n k) w s≤8^7
 bd:∀k u,k<2^n→u<n→w k u≤8^7
theorem or_odd {s u:Nat}(hs:s%2=1):(s|||2^u)%2=1:=by
 have h1:s.testBit 0=true:=by rw[Nat.testBit_zero];exact decide_eq_true hs
 have h2:(s|||2^u).testBit 0=true:=by rw[Nat.testBit_or,h1,Bool.true_or]
 rw[Nat.testBit_zero] at h2
 exact of_decide_eq_true h2
theorem Psh.bdW {F:LI}{n:Nat}{L:Nat→Bool}{w:Nat→Nat→Nat}{s:Nat}(h7:n≤7)(h:Psh F n L w s)(hs:s<2^n-1):∀k u,k<2^n→u<n→BS (nb F) n w s k u≤8^7:=λk u hk hu=>by
 have hp:=Pot_le (A:=nb F) (n:=n) (by omega) (h:=λk _=>8^zer n k) (w:=w) (s:=s) (by omega) (λv _=>wei_le h7)
 have h2:=h.p2
 by_cases hks:s+1≤k
 ·have:=Pot_one (n:=n) (h:=λk _=>8^zer n k) (w:=BS (nb F) n w s) hk hu hks
  have hpos:0<8^zer n k:=Nat.pos_of_ne_zero (by simp)
  have:BS (nb F) n w s k u≤BS (nb F) n w s k u*8^zer n k:=Nat.le_mul_of_pos_right _ hpos
  omega
 ·have:BS (nb F) n w s k u=w k u:=by
   unfold BS
   rw[if_neg,Nat.add_zero]
   rintro⟨a,b⟩
   have:=CH (n:=n) (by omega) (by omega) hu a
   omega
  rw[this];exact h.bd k u hk hu
theorem Psh.next {F:LI}{n:Nat}{L:Nat→Bool}{w:Nat→Nat→Nat}{s:Nat}(h1:1≤n)(h7:n≤7)(h:Psh F n L w s)(hs:s<2^n-1):Psh F n L (BS (nb F) n w s) (s+2):=by
 have hodd:=h.odd
 have heven:2^n%2=0:=by
  obtain⟨m,rfl⟩:∃m,n=m+1:=⟨n-1,by omega⟩
  rw[Nat.pow_succ];omega
 have hout:∀k v,k.testBit v=false→BS (nb F) n w s k v=0:=λk v hk=>by
  unfold BS
  rw[h.out k v hk,if_neg]
  rintro⟨a,b⟩
  rw[b,Nat.testBit_or,Nat.testBit_two_pow,decide_eq_true rfl,Bool.or_true] at hk
  cases hk
 have hev:∀k v,k%2=0→BS (nb F) n w s k v=0:=λk v hk=>by
  unfold BS
  rw[h.ev k v hk,if_neg]
  rintro⟨a,b⟩
  have:=or_odd (u:=v) hodd
  omega
 have hrow:∀H:Nat→Nat→Nat,Pot n H (BS (nb F) n w s) (s+2)=Pot n H (BS (nb F) n w s) (s+1):=λH=>by
  rw[Ed (a:=s+1) (by omega),AY (g:=λ_=>0) (λu _=>by rw[hev (s+1) u (by omega),Nat.zero_mul]),BQ]
  exact(Nat.add_zero _).symm
 refine⟨by omega,by omega,hout,hev,?_,?_,h.bdW h7 hs⟩
 ·rw[hrow,Pot_eq (by omega) (by omega) (λv _=>(DF (by omega) hs (by omega)).symm)]
  exact h.p1
 ·rw[hrow]
  exact Nat.le_trans (Pot_le (by omega) (by omega) (λv _=>wei_le h7)) h.p2
theorem Psh.start {F:LI}{n:Nat}{L:Nat→Bool}(h1:1≤n)(h7:n≤7):Psh F n L w0F 1:=by
 have hp:2≤2^n:=by
  have:2^1≤2^n:=Nat.pow_le_pow_right (by omega) h1
  omega
 refine⟨rfl,by omega,λk v hk=> ?_,λk v hk=> ?_,Pot_w0 _ (by omega) (by omega),?_,λk u _ _=> ?_⟩
 ·unfold w0F
  by_cases h:k=1
  ·subst h
   by_cases h':v=0
   ·subst h';simp at hk
   ·rw[if_pos rfl,if_neg h']
  ·rw[if_neg h]
 ·unfold w0F
  rw[if_neg (by omega)]
 ·rw[Pot_w0 _ (by omega) (by omega)]
  exact Nat.pow_le_pow_right (by omega) (Nat.le_trans (zer_le n 1) h7)
 ·unfold w0F
  split
  ·split<;>decide
  ·omega
def Cm (g:LL):Nat:=wcn (nb (g.map mk)) g.length (λv=>has (mk (row g 0)) v) 1 0
section
variable {g : LL} (hg : GOk g)
include hg
theorem EE (h7:g.length≤7):D.b0 g=some (if g.length<3 then 0 else((Cm g/2:Nat):Int)):=by
 have h16:=hg.n16
 have hn1:=hg.n1
 have hF:=FOk.of hg
 suffices h:∃y,D.b0 g=some y∧y=(if g.length<3 then 0 else((Cm g/2:Nat):Int)) by
  obtain⟨y,e,rfl⟩:=h
  exact e
 unfold D.b0
 rw[BV g hg.sh2,B7 hg,bs,Bool.not_true,cond_false,Dm g hg,bs,List.length_map]
 by_cases h3:g.length<3
 ·rw[decide_eq_true (show (g.length:Int)<3 by omega),cond_true,if_pos h3]
  exact⟨_,rfl,rfl⟩
 ·rw[decide_eq_false (show¬(g.length:Int)<3 by omega),cond_false,if_neg h3,Cx,List.length_map,bs,DM h16]
  have hp:=pow16 h16
  have hp2:8≤2^g.length:=by
   have:2^3≤2^g.length:=Nat.pow_le_pow_right (by omega) (by omega)
   omega
  have e1:IntKind.u32.wrap (((2^g.length-1:Nat):Int)+1)=((2^g.length:Nat):Int):=by
   rw[show (((2^g.length-1:Nat):Int)+1)=((2^g.length:Nat):Int) by omega,EJ (by omega)]
  have i1:idx (List.replicate (2^g.length) (λ_=>0:Nat→Int)) 1=some (λ_=>0):=by
   rw[show (1:Int)=((1:Nat):Int) from rfl,Az (show 1<(List.replicate (2^g.length) (λ_=>0:Nat→Int)).length by rw[List.length_replicate];omega)]
   simp
  rw[e1,Ej (by omega) (by omega),bs,i1,bs,show ai (λ_=>0) 0=some 0 from rfl,bs]
  refine AS (λq:List (Nat→Int)×Int=>∃(s:Nat) (w:Nat→Nat→Nat),q.2=(s:Int)∧Tab g.length q.1 w∧Psh (g.map mk) g.length (λv=>has (mk (row g 0)) v) w s) (λq=>2^g.length-q.2.toNat)
   (λW:List (Nat→Int)=>∃w:Nat→Nat→Nat,Tab g.length W w∧Psh (g.map mk) g.length (λv=>has (mk (row g 0)) v) w (2^g.length-1)) ?_ ⟨1,w0F,rfl,⟨by simp,λk hk u hu=> ?_⟩,Psh.start hn1 h7⟩ ?_
  ·rintro⟨W,_⟩ ⟨s,w,rfl,hW,hS⟩
   dsimp only at hW ⊢
   have hle:=hS.le
   rw[bs]
   by_cases hs:s<2^g.length-1
   ·have hIn:=In.of (show s<2^g.length by omega) h16
    obtain⟨W',eW,hW'⟩:=pushMid_ok hF hn1 h16 hW (show s<2^g.length by omega) (λv _ hv=>hS.out s v hv) (λk u hk hu=>by
     have:=hS.bdW h7 hs k u hk hu
     have:(8:Nat)^7<4611686018427387904:=by decide
     omega)
    rw[decide_eq_true (show (s:Int)<((2^g.length-1:Nat):Int) by omega),cond_true,C1 _ hIn.1,bs,eW,bs]
    have hw:IntKind.u32.wrap ((s:Int)+2)=((s+2:Nat):Int):=by
     rw[show (s:Int)+2=((s+2:Nat):Int) by omega,EJ (by omega)]
    rw[hw]
    exact⟨_,rfl,⟨s+2,_,rfl,hW',hS.next hn1 h7 hs⟩,by dsimp only;omega⟩
   ·obtain rfl:s=2^g.length-1:=by omega
    rw[decide_eq_false (by omega),cond_false]
    exact⟨_,rfl,w,hW,hS⟩
  ·dsimp only at hk ⊢
   rw[List.getElem_set]
   unfold w0F
   by_cases hk1:(Int.toNat 1)=k
   ·rw[if_pos hk1]
    have hk1':k=1:=hk1.symm
    subst hk1'
    rw[if_pos rfl]
    unfold Df
    by_cases hu0:u=0
    ·subst hu0;rfl
    ·rw[if_neg (show¬u=Int.toNat 0 from hu0),if_neg hu0];rfl
   ·rw[if_neg hk1,if_neg (λe=>hk1 e.symm)]
    simp
  ·rintro W ⟨w,hW,hS⟩
   have hrow:=hg.rows 0 (by omega)
   have hrl:=hg.row_len (show 0<g.length by omega)
   have i0:idx (g.map mk) 0=some (mk (row g 0)):=idx_mk hg (u:=0) (by omega)
   have hWl:=hW.len
   have h87:(8:Nat)^7=2097152:=by decide
   have hbd:=hS.bd
   have hacc:∀D:Nat→Bool,AN (λv=>bit (D v)*w (2^g.length-1) v) g.length≤7*2097152:=λD=>by
    have h1:=Dd (m:=g.length) (f:=λv=>bit (D v)*w (2^g.length-1) v) (g:=λ_=>2097152) (λv hv=>by
     have:=hbd (2^g.length-1) v (by omega) hv
     cases D v
     ·simp[bit]
     ·rw[show bit true=1 from rfl,Nat.one_mul];omega)
    have e:∀m c,AN (λ_=>c) m=m*c:=λm c=>by
     induction m with
     |zero=>simp[AN]
     |succ m ih=>simp only[AN];rw[ih,Nat.succ_mul]
    rw[e] at h1
    exact Nat.le_trans h1 (Nat.mul_le_mul_right _ h7)
   rw[i0,bs,C1 _ (VS.mk _),elems_mk h16 hrow.1 hrow.2,bs]
   refine AS (λq:Int×Int=>∃i:Nat,q.2=(i:Int)∧i≤(row g 0).length∧q.1=((AN (λv=>bit (decide ((v:Int)∈(row g 0).take i))*w (2^g.length-1) v) g.length:Nat):Int)) (λq=>(row g 0).length-q.2.toNat)
    (λr:Int=>r=((AN (λv=>bit (decide ((v:Int)∈row g 0))*w (2^g.length-1) v) g.length:Nat):Int)) ?_ ⟨0,rfl,Nat.zero_le _,?_⟩ ?_
   ·rintro⟨_,_⟩ ⟨i,rfl,hi,rfl⟩
    dsimp only
    by_cases hil:i<(row g 0).length
    ·obtain⟨v,ev,hvn,_⟩:=hg.mem (show 0<g.length by omega) (List.getElem_mem hil)
     have hkW:2^g.length-1<W.length:=by omega
     have e2:=hW.at_ _ hkW v hvn
     have hnot:(v:Int)∉(row g 0).take i:=λhm=>by
      have:=(nodup_iff.1 hrow.1.nodup) i hil
      rw[ev] at this
      exact this hm
     have hsum:AN (λx=>bit (decide ((x:Int)∈(row g 0).take (i+1)))*w (2^g.length-1) x) g.length=AN (λx=>bit (decide ((x:Int)∈(row g 0).take i))*w (2^g.length-1) x) g.length+w (2^g.length-1) v:=Di hvn (λx hx=>by
      have:decide ((x:Int)∈(row g 0).take (i+1))=decide ((x:Int)∈(row g 0).take i):=by
       apply decide_eq_decide.2
       rw[List.take_succ_eq_append_getElem hil,ev,List.mem_append,List.mem_singleton]
       exact⟨λh=>h.elim id (λe=>absurd (by omega) hx),.inl⟩
      rw[this]) (by
      rw[decide_eq_false hnot,decide_eq_true (show (v:Int)∈(row g 0).take (i+1) by rw[List.take_succ_eq_append_getElem hil,ev];simp)]
      rw[show bit true=1 from rfl,show bit false=0 from rfl];omega)
     have hb1:=hacc (λx=>decide ((x:Int)∈(row g 0).take i))
     have hb2:=hbd (2^g.length-1) v (by omega) hvn
     rw[dlt hil,cond_true,Az hil,ev,bs,bs,Az hkW,bs,ai_ok (by omega),bs,e2,wi (by omega),w64 (by omega) (by omega)]
     exact⟨_,rfl,⟨i+1,rfl,hil,by dsimp only;rw[hsum];omega⟩,by dsimp only;omega⟩
    ·obtain rfl:i=(row g 0).length:=by omega
     rw[Bm,cond_false,List.take_length]
     exact⟨_,rfl,rfl⟩
   ·dsimp only
    rw[AY (g:=λ_=>0) (λv _=>by simp[bit]),BQ];rfl
   ·rintro _ rfl
    have hN:Cm g=AN (λv=>bit (decide ((v:Int)∈row g 0))*w (2^g.length-1) v) g.length:=by
     unfold Cm
     rw[←hS.p1,Pot_end]
     refine AY (λv hv=> ?_)
     rw[Ef,Nat.mul_comm]
     congr 2
     rw[Bool.eq_iff_iff,DC hg (show 0<g.length by omega),decide_eq_true_eq]
     exact Iff.rfl
    have hb1:=hacc (λx=>decide ((x:Int)∈row g 0))
    refine⟨_,rfl,?_⟩
    rw[hN]
    rw[show Int.tdiv ((AN (λv=>bit (decide ((v:Int)∈row g 0))*w (2^g.length-1) v) g.length:Nat):Int) 2=((AN (λv=>bit (decide ((v:Int)∈row g 0))*w (2^g.length-1) v) g.length/2:Nat):Int) from rfl,w64 (by omega) (by omega)]
end
end Go.Sx

namespace Go.Sx
theorem list_goes {A:Nat→Nat→Bool}{n:Nat}{L:Nat→Bool}{P:List Nat}(hnd:P.Nodup)(hl:P.length=n)(hlt:∀x∈P,x<n)(had:∀i (h:i+1<P.length),A P[i] P[i+1]=true)(hL:∀h:0<P.length,L (P[P.length-1]'(by omega))=true):
  ∀(k i s:Nat) (hi:i<P.length),P.length-1-i≤k→s<2^n→(∀x,s.testBit x=true↔x∈P.take (i+1))→Goes2 (λa b=>A a b=true) n (λv=>L v=true) s P[i]:=by
 intro k
 induction k with
 |zero=>
  intro i s hi hk hs hb
  have hi':i=P.length-1:=by omega
  subst hi'
  have hsf:s=2^n-1:=by
   apply Classical.byContradiction
   intro hne
   obtain⟨u,hu,hf⟩:=bit_full hs hne
   have hnot:u∉P:=λhm=>by
    have:=(hb u).2 (by rw[show P.length-1+1=P.length by omega,List.take_length];exact hm)
    rw[hf] at this;cases this
   have:=Bq (l:=iz (u::P)) (m:=(List.range n).map Int.ofNat) (DH (List.nodup_cons.2 ⟨hnot,hnd⟩)) (λz hz=>by
    obtain⟨v,hv,rfl⟩:=List.mem_map.1 hz
    refine List.mem_map.2 ⟨v,List.mem_range.2 ?_,rfl⟩
    rcases List.mem_cons.1 hv with rfl|hv
    ·exact hu
    ·exact hlt v hv)
   rw[Bv] at this
   simp at this
   omega
  rw[hsf]
  exact .fin (hL (by omega))
 |succ k ih=>
  intro i s hi hk hs hb
  by_cases hl1:i+1<P.length
  ·have hun:=hlt _ (List.getElem_mem hl1)
   have hnot:P[i+1]∉P.take (i+1):=Eg hnd hl1
   have hbf:s.testBit P[i+1]=false:=by
    cases h:s.testBit P[i+1]
    ·rfl
    ·exact absurd ((hb _).1 h) hnot
   refine .step ((hb _).2 ?_) (had i hl1) hbf hun (ih (i+1) _ hl1 (by omega) (CJ hs hun) (λx=> ?_))
   ·rw[List.take_succ_eq_append_getElem hi]
    exact List.mem_append_right _ (List.mem_singleton.2 rfl)
   ·rw[Nat.testBit_or,Nat.testBit_two_pow,Bool.or_eq_true,hb,decide_eq_true_eq,List.take_succ_eq_append_getElem hl1,List.mem_append,List.mem_singleton]
    exact⟨λh=>h.imp id (λh=>h.symm),λh=>h.imp id (λh=>h.symm)⟩
  ·exact ih i s hi (by omega) hs hb
section
variable {g : LL} (hg : GOk g)
include hg
theorem Ring_iff (h3:3≤g.length):Ring g↔0<Cm g:=by
 have h16:=hg.n16
 have hp2:8≤2^g.length:=by
  have:2^3≤2^g.length:=Nat.pow_le_pow_right (by omega) (by omega)
  omega
 unfold Cm
 rw[wcn_pos h16 (2^g.length) 1 0 (by omega) (by omega) (by omega) (by decide)]
 exact⟨λh=>h.2,λh=>⟨h3,h⟩⟩
theorem EW {P:List Nat}(hnd:P.Nodup)(hl:P.length=g.length)(h3:3≤g.length)(hlt:∀x∈P,x<g.length)(had:∀i (h:i+1<P.length),adj g P[i] P[i+1])(h0:P[0]? =some 0)(hL:adj g 0 (P[P.length-1]'(by omega))):
  adj g 0 (P[1]'(by omega))∧0<wcn (nb (g.map mk)) g.length (λv=>has (mk (row g 0)) v) (1|||2^(P[1]'(by omega))) (P[1]'(by omega)):=by
 have h16:=hg.n16
 have e0:P[0]'(by omega)=0:=by
  rw[List.getElem?_eq_getElem (by omega)] at h0
  exact Option.some.inj h0
 have h1:=had 0 (by omega)
 rw[e0] at h1
 simp only[Nat.zero_add] at h1
 have hu:=hlt _ (List.getElem_mem (show 1<P.length by omega))
 have hp2:8≤2^g.length:=by
  have:2^3≤2^g.length:=Nat.pow_le_pow_right (by omega) (by omega)
  omega
 have hs:=CJ (n:=g.length) (s:=1) (by omega) hu
 refine⟨h1,(wcn_pos h16 (2^g.length) _ _ (by omega) ?_ hs (by rw[Nat.testBit_or,Nat.testBit_two_pow,decide_eq_true rfl,Bool.or_true])).2 ?_⟩
 ·have:(1|||2^(P[1]'(by omega)))≠0:=λe=>by
   have:=congrArg (λx=>x.testBit 0) e
   simp[Nat.testBit_or] at this
  omega
 ·refine list_goes hnd hl hlt (λi h=>(CS hg (hlt _ (List.getElem_mem (show i<P.length by omega)))).2 (had i h)) (λh=>(DC hg (by omega)).2 hL) P.length 1 _ (by omega) (by omega) hs (λx=> ?_)
  have et:P.take 2=[0,P[1]'(by omega)]:=by
   rw[List.take_succ_eq_append_getElem (show 1<P.length by omega),List.take_succ_eq_append_getElem (show 0<P.length by omega),e0];rfl
  rw[et,Nat.testBit_or,Nat.testBit_two_pow,Bool.or_eq_true,decide_eq_true_eq,List.mem_cons,List.mem_singleton]
  have:Nat.testBit 1 x=true↔x=0:=by
   rw[show (1:Nat)=2^0 from rfl,Nat.testBit_two_pow,decide_eq_true_eq]
   exact⟨λh=>h.symm,λh=>h.symm⟩
  rw[this]
  exact⟨λh=>h.imp id (λh=>h.symm),λh=>h.imp id (λh=>h.symm)⟩
end
end Go.Sx

namespace Go.Sx
theorem sumN_two {f:Nat→Nat}{i j:Nat}:∀{m:Nat},i<m→j<m→i≠j→0<f i→0<f j→2≤AN f m
 |0,h,_,_,_,_=>absurd h (Nat.not_lt_zero _)
 |m+1,hi,hj,hne,h1,h2=>by
  simp only[AN]
  by_cases e1:i=m
  ·subst e1
   have:=DL (f:=f) (show j<i by omega)
   omega
  ·by_cases e2:j=m
   ·subst e2
    have:=DL (f:=f) (show i<j by omega)
    omega
   ·have:=sumN_two (f:=f) (show i<m by omega) (show j<m by omega) hne h1 h2
    omega
section
variable {g : LL} (hg : GOk g)
include hg
theorem ringN_two (h:Ring g):2≤Cm g:=by
 have h3:=h.1
 have h16:=hg.n16
 obtain⟨r,_,hr⟩:=DJ hg
 rcases hr with⟨_,hn⟩|⟨_,_,c,_,hR,hl,hlt,h0⟩
 ·exact absurd h hn
 ·have e0:c[0]'(by omega)=0:=by
   rw[List.getElem?_eq_getElem (by omega)] at h0
   exact Option.some.inj h0
  have hcl:=hR.close
  rw[e0] at hcl
  obtain⟨a1,a2⟩:=EW hg hR.nd hl h3 hlt hR.step h0 (Cz hg _ _ hcl)
  obtain⟨t,rfl⟩:∃t,c=0::t:=by
   cases c with
   |nil=>simp at hl;omega
   |cons x t=>simp at e0;exact⟨t,by rw[e0]⟩
  have htl:t.length+1=g.length:=by simpa using hl
  have hnd:=hR.nd
  rw[List.nodup_cons] at hnd
  have hstep:∀i (h:i+1<t.length),adj g t[i] t[i+1]:=λi h=>by
   have:=hR.step (i+1) (by simp;omega)
   simpa using this
  have hlast:adj g 0 (t[t.length-1]'(by omega)):=by
   have:=Cz hg _ _ hcl
   simp only[List.length_cons,Nat.add_sub_cancel] at this
   rw[List.getElem_cons,dif_neg (by omega)] at this
   exact this
  have hb:=EW hg (P:=0::t.reverse) (List.nodup_cons.2 ⟨λh=>hnd.1 (List.mem_reverse.1 h),by
   unfold List.Nodup
   rw[List.pairwise_reverse]
   exact List.Pairwise.imp (λh e=>h e.symm) hnd.2⟩) (by simp;omega) h3 (λx hx=>by
   rcases List.mem_cons.1 hx with rfl|hx
   ·omega
   ·exact hlt x (List.mem_cons_of_mem _ (List.mem_reverse.1 hx))) (λi h=>by
   have hi:i<t.length:=by simpa using h
   rw[List.getElem_cons_succ]
   by_cases hz:i=0
   ·subst hz
    rw[List.getElem_cons_zero,List.getElem_reverse]
    exact hlast
   ·obtain⟨k,rfl⟩:∃k,i=k+1:=⟨i-1,by omega⟩
    rw[List.getElem_cons_succ,List.getElem_reverse,List.getElem_reverse]
    have:=hstep (t.length-1-(k+1)) (by omega)
    have e:t.length-1-(k+1)+1=t.length-1-k:=by omega
    simp only[e] at this
    exact Cz hg _ _ this) rfl (by
   rw[List.getElem_cons,dif_neg (by rw[List.length_cons,List.length_reverse];omega),List.getElem_reverse]
   have:t.length-1-((0::t.reverse).length-1-1)=0:=by rw[List.length_cons,List.length_reverse];omega
   simp only[this]
   simpa using a1)
  obtain⟨b1,b2⟩:=hb
  have er:(0::t.reverse)[1]'(by rw[List.length_cons,List.length_reverse];omega)=t[t.length-1]'(by omega):=by
   rw[List.getElem_cons_succ,List.getElem_reverse];rfl
  rw[er] at b1 b2
  have ec:(0::t)[1]'(by rw[List.length_cons];omega)=t[0]'(by omega):=rfl
  rw[ec] at a1 a2
  have hne:t[0]'(by omega)≠t[t.length-1]'(by omega):=λe=>by
   have:=(List.getElem_inj hnd.2).1 e
   omega
  have hp2:8≤2^g.length:=by
   have:2^3≤2^g.length:=Nat.pow_le_pow_right (by omega) (by omega)
   omega
  unfold Cm
  rw[DF h16 (by omega) (by omega)]
  have hw:∀u,adj g 0 u→wst (nb (g.map mk)) 1 0 u=true:=λu hu=>by
   unfold wst
   rw[(CS hg (show 0<g.length by omega)).2 hu]
   have hu0:u≠0:=λe=>hg.irr 0 (by omega) (by rw[e] at hu;exact hu)
   have:Nat.testBit 1 u=false:=by
    rw[show (1:Nat)=2^0 from rfl,Nat.testBit_two_pow]
    exact decide_eq_false (λe=>hu0 e.symm)
   rw[this];rfl
  refine sumN_two (i:=t[0]'(by omega)) (j:=t[t.length-1]'(by omega)) (hg.lt (by omega) a1) (hg.lt (by omega) b1) hne ?_ ?_
  ·rw[hw _ a1,show bit true=1 from rfl,Nat.one_mul];exact a2
  ·rw[hw _ b1,show bit true=1 from rfl,Nat.one_mul];exact b2
end
end Go.Sx

namespace Go.Sx
theorem bit64z {s:Int}(h:VS s){v:Nat}(hv:v<64):(iand .i64 (Bp .i64 s (v:Int)) 1==0)= !has s v:=by
 have h1:=bit64 h hv
 have hb:iand .i64 (Bp .i64 s (v:Int)) 1=0∨iand .i64 (Bp .i64 s (v:Int)) 1=1:=by
  rw[shr64 h v hv]
  have hlt:s.toNat>>>v<4294967296:=by
   obtain⟨m,rfl,hm⟩:=h.nat
   rw[Nat.shiftRight_eq_div_pow]
   exact Nat.lt_of_le_of_lt (Nat.div_le_self _ _) hm
  rw[show (1:Int)=((1:Nat):Int) from rfl,and64 hlt (by omega),Nat.and_one_is_mod]
  omega
 rw[←h1]
 rcases hb with e|e<;>rw[e]<;>rfl
theorem l27Low_ok {s:Int}(h:VS s){k:Nat}(hk:k<32)(hs:has s k=true)(hl:∀v,v<k→has s v=false):D.E s=some (k:Int):=by
 unfold D.E
 refine(Co (λi=>((i:Nat):Int)) k (k:Int) rfl (λi hi=> ?_) ?_).trans rfl
 ·rw[uw (by omega),unneg,cond_false,bit64z h (by omega),hl i hi,Bool.not_false,cond_true,wi (by omega)]
 ·rw[uw (by omega),unneg,cond_false,bit64z h (by omega),hs,Bool.not_true,cond_false]
theorem andnot64 {a b:Int}(ha:VS a)(hb:VS b):iandNot .i64 a b=iandNot .u32 a b:=by
 obtain⟨m,rfl,hm⟩:=ha.nat;obtain⟨n,rfl,hn⟩:=hb.nat
 have hle:(BitVec.ofInt 64 (m:Int)&&& ~~~(BitVec.ofInt 64 (n:Int))).toNat≤m:=by
  rw[BitVec.toNat_and,Ck m (by omega)];exact Nat.and_le_left
 have e:iandNot .i64 (m:Int) (n:Int)=(((BitVec.ofInt 64 (m:Int)&&& ~~~(BitVec.ofInt 64 (n:Int))).toNat:Nat):Int):=by
  show IntKind.i64.wrap (((BitVec.ofInt 64 (m:Int)&&& ~~~(BitVec.ofInt 64 (n:Int))).toNat:Nat):Int)=_
  rw[w64 (by omega) (by omega)]
 rw[e]
 refine VS.ext ⟨by omega,by omega⟩ (VS.iandNot _ _) (λv hv=> ?_)
 have h1:(BitVec.ofInt 64 (m:Int)).getLsbD v=m.testBit v:=by rw[BitVec.getLsbD,Ck m (by omega)]
 have h2:(BitVec.ofInt 64 (n:Int)).getLsbD v=n.testBit v:=by rw[BitVec.getLsbD,Ck n (by omega)]
 rw[BJ ⟨by omega,by omega⟩ ⟨by omega,by omega⟩,Bc,Bc,Bc,←BitVec.getLsbD,BitVec.getLsbD_and,BitVec.getLsbD_not,h1,h2]
 simp[show v<64 by omega]
theorem wcn_le {A:Nat→Nat→Bool}{n:Nat}{L:Nat→Bool}(h7:n≤7):∀(k s v:Nat),2^n-s≤k→0<s→s<2^n→wcn A n L s v≤8^zer n s:=by
 intro k
 induction k with
 |zero=>intro s v hk h0 hs;omega
 |succ k ih=>
  intro s v hk h0 hs
  by_cases h:s=2^n-1
  ·subst h
   rw[Ef]
   have:0<8^zer n (2^n-1):=Nat.pow_pos (by omega)
   unfold bit
   split<;>omega
  ·rw[DF (by omega) (by omega) h0]
   refine Nat.le_trans (Dd (λu hu=> ?_)) (wei_le (A:=A) (v:=v) h7)
   cases hb:wst A s v u
   ·simp[bit]
   ·have h2:s.testBit u=false:=by
     unfold wst at hb
     rw[Bool.and_eq_true,Bool.not_eq_true'] at hb
     exact hb.2
    have:=CH (by omega) hs hu h2
    exact Nat.mul_le_mul_left _ (ih _ u (by omega) (by omega) (CJ hs hu))
def rbN (A:Nat→Nat→Bool)(n:Nat)(L:Nat→Bool)(b v:Nat):Nat:=wcn A n L ((2^n-(b+1))|||2^v) v
theorem rb_bit {n b v:Nat}(hb:b<2^n)(i:Nat):((2^n-(b+1))|||2^v).testBit i=((decide (i<n)&& !b.testBit i)||decide (v=i)):=by
 rw[Nat.testBit_or,Nat.testBit_two_pow_sub_succ hb,Nat.testBit_two_pow]
theorem rbN_le {A:Nat→Nat→Bool}{n:Nat}{L:Nat→Bool}(h7:n≤7){b v:Nat}(hb:b<2^n)(hv:v<n):rbN A n L b v≤8^7:=by
 have hp:=Nat.two_pow_pos n
 have h0:((2^n-(b+1))|||2^v)≠0:=λe=>by
  have h1:=rb_bit (v:=v) hb v
  rw[e,Nat.zero_testBit,decide_eq_true rfl,Bool.or_true] at h1
  cases h1
 refine Nat.le_trans (wcn_le h7 (2^n) _ v (by omega) (by omega) (CJ (by omega) hv)) (Nat.pow_le_pow_right (by omega) ?_)
 exact Nat.le_trans (zer_le _ _) h7
theorem rbN_last {A:Nat→Nat→Bool}{n:Nat}{L:Nat→Bool}{b v:Nat}(hb:b<2^n)(hv:v<n)(h:∀u,b.testBit u=true→u=v):rbN A n L b v=bit (L v):=by
 unfold rbN
 have:(2^n-(b+1))|||2^v=2^n-1:=Nat.eq_of_testBit_eq (λi=>by
  rw[rb_bit hb,Nat.testBit_two_pow_sub_one]
  by_cases hi:i=v
  ·subst hi;simp[hv]
  ·cases hbi:b.testBit i
   ·simp[show¬v=i from λe=>hi e.symm]
   ·exact absurd (h i hbi) hi)
 rw[this,Ef]
theorem rbN_step {A:Nat→Nat→Bool}{n:Nat}{L:Nat→Bool}(hn:n≤16){b b' v:Nat}(hb:b<2^n)(hv:v<n)(hb':∀i,b'.testBit i=(b.testBit i&& !decide (i=v)))(hl:b'<2^n)(hne:b'≠0):rbN A n L b v=AN (λu=>bit (A v u&&b'.testBit u)*rbN A n L b' u) n:=by
 have hp:=Nat.two_pow_pos n
 unfold rbN
 have hc:(2^n-(b+1))|||2^v=2^n-(b'+1):=Nat.eq_of_testBit_eq (λi=>by
  rw[rb_bit hb,Nat.testBit_two_pow_sub_succ hl,hb']
  by_cases hi:i=v
  ·subst hi;simp[hv]
  ·simp[hi,show¬v=i from λe=>hi e.symm])
 have h0:0<2^n-(b'+1):=by
  rw[←hc]
  apply Nat.pos_of_ne_zero
  intro e
  have h1:=rb_bit (v:=v) hb v
  rw[e,Nat.zero_testBit,decide_eq_true rfl,Bool.or_true] at h1
  cases h1
 rw[hc,DF hn (by omega) h0]
 refine AY (λu hu=> ?_)
 have:wst A (2^n-(b'+1)) v u=(A v u&&b'.testBit u):=by
  unfold wst
  rw[Nat.testBit_two_pow_sub_succ hl,decide_eq_true hu]
  simp
 rw[this]
theorem rbN_all {A:Nat→Nat→Bool}{n:Nat}{L:Nat→Bool}:rbN A n L (2^n-1) 0=wcn A n L 1 0:=by
 have hp:=Nat.two_pow_pos n
 unfold rbN
 rw[show 2^n-(2^n-1+1)=0 by omega,Nat.zero_or,Nat.pow_zero]
theorem some_of {α:Type}{e:Option α}{x:α}(h:∃r,e=some r∧r=x):e=some x:=by
 obtain⟨r,h,rfl⟩:=h
 exact h
theorem tabIn_ok {W:LL}{R:LI}{b' v n:Nat}{T:Nat→Nat}(hW:idx W (b':Int)=some R)(hRl:R.length=n)(hR:∀u,u<n→b'.testBit u=true→R.getD u 0=(T u:Int)){l:LI}(hl:l.length=n)(hv:v<n)(h0:l.getD v 0=0){x:Int}(hx:VS x)(hx2:∀u,has x u=true→u<n∧b'.testBit u=true)(hb:AN (λu=>bit (has x u)*T u) n<4611686018427387904):
  Ar (σ:=LI×Int) (ρ:=(LI)) (fun(s_3124:LI×Int)=>match s_3124 with|(l_3127,x_3130)=>cond (decide ((0:Int)<x_3130)) ((idx l_3127 (v:Int)).bind λe_3168=>(idx W (b':Int)).bind λe_3174=>(D.E x_3130).bind λy_3180=>(idx e_3174 y_3180).bind λe_3183=>(idx l_3127 (v:Int)).bind λe_3189=>some (.inl ((l_3127.set (Int.toNat (v:Int)) (IntKind.i64.wrap (e_3168+e_3183))),(iand .i64 x_3130 (IntKind.i64.wrap (x_3130-1)))))) (some (.inr l_3127))) (l,x)=some (l.set v ((AN (λu=>bit (has x u)*T u) n:Nat):Int)):=by
 refine some_of (Do (λq:LI×Int=>VS q.2∧(∀u,has q.2 u=true→has x u=true)∧∃c:Nat,q.1=l.set v (c:Int)∧c+AN (λu=>bit (has q.2 u)*T u) n=AN (λu=>bit (has x u)*T u) n) (λq=>(Aq q.2).length) (λr=>r=l.set v ((AN (λu=>bit (has x u)*T u) n:Nat):Int)) ?_ _ ⟨hx,λ_ h=>h,0,?_,Nat.zero_add _⟩)
 ·rintro⟨_,y⟩ ⟨hy,hs,c,rfl,hc⟩
  dsimp only at hy hs hc ⊢
  by_cases hy0:y=0
  ·subst hy0
   right
   rw[decide_eq_false (by omega),cond_false]
   refine⟨_,rfl,?_⟩
   rw[AY (g:=λ_=>0) (λu _=>by rw[BE];simp[bit]),BQ,Nat.add_zero] at hc
   rw[hc]
  ·obtain⟨k,hk,k1,k2,_,k3⟩:=least_spec hy hy0
   have hyp:0<y:=by have:=hy.1;omega
   have hxk:=hx2 k (hs k k1)
   have hel:=ET hk k1 k2 k3
   have hvl:v<(l.set v (c:Int)).length:=by rw[List.length_set];omega
   have hRk:=hR k hxk.1 hxk.2
   rw[AA (by omega)] at hRk
   have hsum:AN (λu=>bit (has y u)*T u) n=AN (λu=>bit (has (iand .u32 y (IntKind.u32.wrap (y-1))) u)*T u) n+T k:=Di hxk.1 (λu hu=>by
    rw[k3,decide_eq_false hu,Bool.not_false,Bool.and_true]) (by
    rw[k3,k1,decide_eq_true rfl]
    simp[bit])
   rw[decide_eq_true hyp,cond_true,Az hvl,bs,hW,bs,l27Low_ok hy hk k1 k2,bs,Az (show k<R.length by omega),bs,bs,hRk,List.getElem_set_self,Int.toNat_natCast,List.set_set,lowbits64 hy hy0,w64 (by omega) (by omega)]
   left
   refine⟨_,rfl,⟨VS.iand _ _,λu hu=> ?_,c+T k,?_,?_⟩,?_⟩
   ·dsimp only at hu
    rw[k3,Bool.and_eq_true] at hu
    exact hs u hu.1
   ·dsimp only
    rfl
   ·dsimp only
    omega
   ·dsimp only
    rw[hel]
    exact Nat.lt_succ_self _
 ·dsimp only
  rw[AA (by omega)] at h0
  have:((0:Nat):Int)=l[v]'(by omega):=h0.symm
  rw[this,List.set_getElem_self]
section
variable {g : LL} (hg : GOk g)
include hg
def rbG (g:LL)(b v:Nat):Nat:=rbN (nb (g.map mk)) g.length (λv=>has (mk (row g 0)) v) b v
theorem rbRow_ok (h7:g.length≤7){W:LL}(hWl:W.length=2^g.length){b:Nat}(hb:b<2^g.length)(hW:∀k,0<k→k<b→∃R,W[k]? =some R∧R.length=g.length∧∀u,u<g.length→k.testBit u=true→R.getD u 0=(rbG g k u:Int)):
  ∃R,Ar (σ:=LI×Int) (ρ:=(LI)) (fun(s_2806:LI×Int)=>match s_2806 with|(l_2809,x_2812)=>cond (decide (x_2812<(g.length:Int))) (cond (decide ((IntKind.u64.wrap x_2812)<0)) none (cond ((iand .i64 (Bp .i64 (b:Int) (IntKind.u64.wrap x_2812)) 1)==0) (some (.inl (l_2809,(IntKind.i64.wrap (x_2812+1))))) (cond (decide ((IntKind.u64.wrap x_2812)<0)) none (cond ((iandNot .i64 (b:Int) (ishl .i64 1 (IntKind.u64.wrap x_2812)))==0) ((cond (!true) (some true) ((idx (g.map mk) x_2812).bind λe_3030=>some ((iand .i64 e_3030 1)==1))).bind λb_3028=>(D.d0 b_3028).bind λy_3036=>(idx l_2809 x_2812).bind λe_3043=>some (.inl ((l_2809.set (Int.toNat x_2812) y_3036),(IntKind.i64.wrap (x_2812+1))))) ((idx (g.map mk) x_2812).bind λe_3049=>(Ar (σ:=LI×Int) (ρ:=(LI)) (fun(s_3124:LI×Int)=>match s_3124 with|(l_3127,x_3130)=>cond (decide ((0:Int)<x_3130)) ((idx l_3127 x_2812).bind λe_3168=>(idx W (iandNot .i64 (b:Int) (ishl .i64 1 (IntKind.u64.wrap x_2812)))).bind λe_3174=>(D.E x_3130).bind λy_3180=>(idx e_3174 y_3180).bind λe_3183=>(idx l_3127 x_2812).bind λe_3189=>some (.inl ((l_3127.set (Int.toNat x_2812) (IntKind.i64.wrap (e_3168+e_3183))),(iand .i64 x_3130 (IntKind.i64.wrap (x_3130-1)))))) (some (.inr l_3127))) (l_2809,(iand .i64 e_3049 (iandNot .i64 (b:Int) (ishl .i64 1 (IntKind.u64.wrap x_2812)))))).bind λl_3163=>some (.inl (l_3163,(IntKind.i64.wrap (x_2812+1))))))))) (some (.inr l_2809))) (List.replicate g.length 0,0)=some R∧R.length=g.length∧∀u,u<g.length→b.testBit u=true→R.getD u 0=(rbG g b u:Int):=by
 have h16:=hg.n16
 have hn1:=hg.n1
 have hbI:=In.of hb h16
 have hp16:=pow16 h16
 refine Do (λq:LI×Int=>∃i:Nat,q.2=(i:Int)∧i≤g.length∧q.1.length=g.length∧(∀u,u<i→b.testBit u=true→q.1.getD u 0=(rbG g b u:Int))∧∀u,i≤u→q.1.getD u 0=0) (λq=>g.length-q.2.toNat) _ ?_ _ ⟨0,rfl,Nat.zero_le _,by simp,λu h=>absurd h (Nat.not_lt_zero _),λu _=>by
  rw[List.getD_eq_getElem?_getD,List.getElem?_replicate]
  split<;>rfl⟩
 rintro⟨l,_⟩ ⟨i,rfl,hi,hl,hd,hz⟩
 dsimp only at hl hd hz ⊢
 by_cases hil:i<g.length
 ·left
  rw[dlt hil,cond_true,uw (by omega),unneg,cond_false,bit64z hbI.1 (by omega),Bc,wi (by omega)]
  cases hbi:b.testBit i
  ·rw[Bool.not_false,cond_true]
   refine⟨_,rfl,⟨i+1,rfl,hil,hl,λu hu hbu=> ?_,λu hu=>hz u (by omega)⟩,by dsimp only;omega⟩
   by_cases e:u=i
   ·subst e;rw[hbi] at hbu;cases hbu
   ·exact hd u (by omega) hbu
  ·rw[Bool.not_true,cond_false,cond_false,shl64 (by omega),andnot64 hbI.1 (VS.ishl _ _)]
   have hvs:VS (iandNot .u32 (b:Int) (ishl .u32 1 (i:Int))):=VS.iandNot _ _
   have hhas:∀u,has (iandNot .u32 (b:Int) (ishl .u32 1 (i:Int))) u=(b.testBit u&& !decide (u=i)):=λu=>by
    rw[BJ hbI.1 (VS.ishl _ _),Bc,Bx (by omega)]
   obtain⟨b',eb,hb32⟩:=hvs.nat
   rw[eb] at hhas ⊢
   have hbit:∀u,b'.testBit u=(b.testBit u&& !decide (u=i)):=λu=>by rw[←hhas u,Bc]
   have hlt:b'<b:=by
    have e1:b&&&b'=b':=Nat.eq_of_testBit_eq (λj=>by
     rw[Nat.testBit_and,hbit]
     cases b.testBit j<;>rfl)
    have e2:b'≠b:=λe=>by
     have:=hbit i
     rw[e,hbi,decide_eq_true rfl] at this
     cases this
    have:b&&&b'≤b:=Nat.and_le_left
    omega
   have hrow:=hg.rows i hil
   have iI:=idx_mk hg hil
   by_cases h0:b'=0
   ·subst h0
    have hL:rbG g b i=bit (has (mk (row g 0)) i):=rbN_last hb hil (λu hu=>by
     have:=hbit u
     rw[Nat.zero_testBit,hu,Bool.true_and] at this
     simpa using this.symm)
    have hsym:has (mk (row g i)) 0=has (mk (row g 0)) i:=by
     rw[Bool.eq_iff_iff,DC hg hil,DC hg (show 0<g.length by omega)]
     exact⟨λh=>Cz hg _ _ h,λh=>Cz hg _ _ h⟩
    have hb0:(iand .i64 (mk (row g i)) 1==1)=has (mk (row g 0)) i:=by
     have h1:=bit64 (VS.mk (row g i)) (v:=0) (by omega)
     rw[shr64 (VS.mk _) 0 (by omega),Nat.shiftRight_zero,Int.toNat_of_nonneg (VS.mk _).1] at h1
     rw[h1,hsym]
    have hfl:∀x:Bool,D.d0 x=some ((bit x:Nat):Int):=λx=>by
     unfold D.d0 bit;cases x<;>rfl
    rw[show (((0:Nat):Int)==0)=true from rfl,cond_true,cond_false,iI,bs,bs,hb0,hfl,bs,Az (show i<l.length by omega),bs,Int.toNat_natCast]
    refine⟨_,rfl,⟨i+1,rfl,hil,by rw[List.length_set];exact hl,λu hu hbu=> ?_,λu hu=> ?_⟩,by dsimp only;omega⟩
    ·dsimp only
     by_cases e:u=i
     ·subst e
      rw[AA (by rw[List.length_set];omega),List.getElem_set_self,hL]
     ·have:=hd u (by omega) hbu
      rw[AA (by omega)] at this
      rw[AA (by rw[List.length_set];omega),List.getElem_set_ne (λh=>e h.symm)]
      exact this
    ·dsimp only
     rw[List.getD_eq_getElem?_getD,List.getElem?_set_ne (by omega),←List.getD_eq_getElem?_getD]
     exact hz u (by omega)
   ·obtain⟨R,eR,hRl,hR⟩:=hW b' (by omega) hlt
    have hkl:b'<W.length:=by omega
    have iW:idx W (b':Int)=some R:=by
     rw[Az hkl]
     rw[List.getElem?_eq_getElem hkl] at eR
     exact eR
    have hbI':=In.of (show b'<2^g.length by omega) h16
    have hstep:=rbN_step (A:=nb (g.map mk)) (L:=λv=>has (mk (row g 0)) v) h16 hb hil hbit (by omega) h0
    have hxh:∀u,has (iand .u32 (mk (row g i)) (b':Int)) u=(nb (g.map mk) i u&&b'.testBit u):=λu=>by
     rw[has_iand (VS.mk _) hbI'.1,Bc]
     congr 1
     rw[Bool.eq_iff_iff,DC hg hil,CS hg hil]
    have hsum:AN (λu=>bit (has (iand .u32 (mk (row g i)) (b':Int)) u)*rbG g b' u) g.length=rbG g b i:=by
     unfold rbG
     rw[hstep]
     exact AY (λu _=>by rw[hxh])
    have hle:rbG g b i≤8^7:=rbN_le h7 hb hil
    have h87:(8:Nat)^7=2097152:=by decide
    rw[show (((b':Nat):Int)==0)=false from beq_eq_false_iff_ne.2 (by omega),cond_false,iI,bs,and6432 (VS.mk _) hbI'.1,tabIn_ok (T:=rbG g b') iW hRl hR hl hil (hz i (Nat.le_refl _)) (VS.iand _ _) (λu hu=>by
     rw[hxh,Bool.and_eq_true] at hu
     exact⟨hbI'.2 u (by rw[Bc];exact hu.2),hu.2⟩) (by rw[hsum];omega),bs,hsum]
    refine⟨_,rfl,⟨i+1,rfl,hil,by rw[List.length_set];exact hl,λu hu hbu=> ?_,λu hu=> ?_⟩,by dsimp only;omega⟩
    ·dsimp only
     by_cases e:u=i
     ·subst e
      rw[AA (by rw[List.length_set];omega),List.getElem_set_self]
     ·have:=hd u (by omega) hbu
      rw[AA (by omega)] at this
      rw[AA (by rw[List.length_set];omega),List.getElem_set_ne (λh=>e h.symm)]
      exact this
    ·dsimp only
     rw[List.getD_eq_getElem?_getD,List.getElem?_set_ne (by omega),←List.getD_eq_getElem?_getD]
     exact hz u (by omega)
 ·right
  obtain rfl:i=g.length:=by omega
  rw[Bm,cond_false]
  exact⟨_,rfl,hl,hd⟩
theorem l28Table_ok (h7:g.length≤7):∃W,D.E0 (g.map mk) true=some W∧∃R,idx W (full g.length)=some R∧R.length=g.length∧R.getD 0 0=(Cm g:Int):=by
 have h16:=hg.n16
 have hn1:=hg.n1
 have hp:=Nat.two_pow_pos g.length
 have hp16:=pow16 h16
 have hp2:2≤2^g.length:=by
  have:2^1≤2^g.length:=Nat.pow_le_pow_right (by omega) hn1
  omega
 unfold D.E0
 rw[List.length_map,uw (by omega),unneg,cond_false,shl64 (by omega),one_eq (by omega),Ej (by omega) (by omega),bs]
 refine AS (λq:LL×Int=>∃b:Nat,q.2=(b:Int)∧1≤b∧b≤2^g.length∧q.1.length=2^g.length∧∀k,0<k→k<b→∃R,q.1[k]? =some R∧R.length=g.length∧∀u,u<g.length→k.testBit u=true→R.getD u 0=(rbG g k u:Int)) (λq=>2^g.length-q.2.toNat)
  (λW:LL=>W.length=2^g.length∧∀k,0<k→k<2^g.length→∃R,W[k]? =some R∧R.length=g.length∧∀u,u<g.length→k.testBit u=true→R.getD u 0=(rbG g k u:Int)) ?_ ⟨1,rfl,Nat.le_refl _,by omega,by simp,λk _ _=>by omega⟩ ?_
 ·rintro⟨W,_⟩ ⟨b,rfl,hb1,hb,hWl,hW⟩
  dsimp only at hWl hW ⊢
  by_cases hbl:b<2^g.length
  ·obtain⟨R,eR,hRl,hR⟩:=rbRow_ok hg h7 hWl hbl hW
   rw[decide_eq_true (show (b:Int)<(W.length:Int) by omega),cond_true,Ej (by omega) (by omega),bs]
   refine bind_eq eR ?_
   rw[Az (show b<W.length by omega),bs,wi (by omega),Int.toNat_natCast]
   refine⟨_,rfl,⟨b+1,rfl,by omega,by omega,by rw[List.length_set];exact hWl,λk hk0 hk=> ?_⟩,by dsimp only;omega⟩
   dsimp only
   by_cases e:k=b
   ·subst e
    rw[List.getElem?_set_self (by omega)]
    exact⟨R,rfl,hRl,hR⟩
   ·rw[List.getElem?_set_ne (λh=>e h.symm)]
    exact hW k hk0 (by omega)
  ·obtain rfl:b=2^g.length:=by omega
   rw[decide_eq_false (show¬((2^g.length:Nat):Int)<(W.length:Int) by omega),cond_false]
   exact⟨_,rfl,hWl,hW⟩
 ·rintro W ⟨hWl,hW⟩
  obtain⟨R,eR,hRl,hR⟩:=hW (2^g.length-1) (by omega) (by omega)
  refine⟨_,rfl,R,?_,hRl,?_⟩
  ·rw[DM h16,Az (show 2^g.length-1<W.length by omega)]
   rw[List.getElem?_eq_getElem (by omega)] at eR
   exact eR
  ·rw[hR 0 (by omega) (by rw[Nat.testBit_two_pow_sub_one];exact decide_eq_true (by omega))]
   unfold rbG Cm
   rw[rbN_all]
theorem EF (h7:g.length≤7):D.g0 g=some (if g.length<3 then 0 else((Cm g/2:Nat):Int)):=by
 have h16:=hg.n16
 have hn1:=hg.n1
 have hsz:D.c g=some (g.length:Int):=rfl
 unfold D.g0
 rw[Ca g hg.sh2,B7 hg,bs,Bool.not_true,cond_false,hsz,bs]
 by_cases h3:g.length<3
 ·rw[decide_eq_true (show (g.length:Int)<3 by omega),cond_true,if_pos h3]
 ·obtain⟨W,eW,R,eR,hRl,h0⟩:=l28Table_ok hg h7
  rw[decide_eq_false (show¬(g.length:Int)<3 by omega),cond_false,if_neg h3,l25Bits_eq hg,bs,eW,bs,l25All_eq hg,bs,eR,bs]
  rw[AA (by omega)] at h0
  rw[show (0:Int)=((0:Nat):Int) from rfl,Az (show 0<R.length by omega),h0,bs]
  have hle:Cm g≤8^7:=by
   have:=rbN_le (A:=nb (g.map mk)) (L:=λv=>has (mk (row g 0)) v) h7 (b:=2^g.length-1) (v:=0) (by have:=Nat.two_pow_pos g.length;omega) (by omega)
   rw[rbN_all] at this
   exact this
  have h87:(8:Nat)^7=2097152:=by decide
  rw[show Int.tdiv (Cm g:Int) 2=((Cm g/2:Nat):Int) from rfl,w64 (by omega) (by omega)]
end
end Go.Sx

namespace Go.Sx
structure Bf (g:LL)(S:Nat→Prop)(v0:Nat)(d q:LI):Prop where
 dl:d.length=g.length
 nd:q.Nodup
 me:∀x∈q,∃v:Nat,x=(v:Int)∧v<g.length∧0≤d.getD v (-1)
 bd:∀v,v<g.length→-1≤d.getD v (-1)∧d.getD v (-1)≤q.length
 rc:∀v,v<g.length→0≤d.getD v (-1)→Cn (adj g) S v0 v
 v0:0≤d.getD v0 (-1)
theorem Bf.ql {g:LL}{S:Nat→Prop}{v0:Nat}{d q:LI}(h:Bf g S v0 d q):q.length≤g.length:=by
 have:=Bq (l:=q) (m:=(List.range g.length).map Int.ofNat) h.nd (λx hx=>by
  obtain⟨v,rfl,hv,_⟩:=h.me x hx
  exact List.mem_map.2 ⟨v,List.mem_range.2 hv,rfl⟩)
 simpa using this
theorem Bf.add {g:LL}{S:Nat→Prop}{v0:Nat}{d q:LI}(h:Bf g S v0 d q){c u:Nat}(hc:c<g.length)(hu:u<g.length)(hcd:0≤d.getD c (-1))(hud:d.getD u (-1)<0)(ha:adj g c u)(hS:S u):Bf g S v0 (d.set u (d.getD c (-1)+1)) (q++[(u:Int)]):=by
 have hdl:=h.dl
 have hat:∀v,(d.set u (d.getD c (-1)+1)).getD v (-1)=if v=u then d.getD c (-1)+1 else d.getD v (-1):=λv=>by
  by_cases e:v=u
  ·subst e
   rw[if_pos rfl,AA (by rw[List.length_set];omega),List.getElem_set_self]
  ·rw[if_neg e,List.getD_eq_getElem?_getD,List.getElem?_set_ne (λh=>e h.symm),←List.getD_eq_getElem?_getD]
 refine⟨by rw[List.length_set];exact hdl,?_,λx hx=> ?_,λv hv=> ?_,λv hv hd=> ?_,?_⟩
 ·unfold List.Nodup
  rw[List.pairwise_append]
  refine⟨h.nd,List.pairwise_singleton _ _,λa ha b hb e=> ?_⟩
  obtain⟨v,rfl,hv,hvd⟩:=h.me a ha
  rw[List.mem_singleton] at hb
  obtain rfl:v=u:=by omega
  omega
 ·rw[List.mem_append,List.mem_singleton] at hx
  rcases hx with hx|rfl
  ·obtain⟨v,rfl,hv,hvd⟩:=h.me x hx
   refine⟨v,rfl,hv,?_⟩
   rw[hat]
   split<;>omega
  ·refine⟨u,rfl,hu,?_⟩
   rw[hat,if_pos rfl]
   omega
 ·rw[hat,List.length_append,List.length_singleton]
  have:=h.bd v hv
  have:=h.bd c hc
  split<;>omega
 ·rw[hat] at hd
  by_cases e:v=u
  ·subst e
   exact(h.rc c hc hcd).step ha hS
  ·rw[if_neg e] at hd
   exact h.rc v hv hd
 ·rw[hat]
  have:=h.v0
  split<;>omega
section
variable {g : LL} (hg : GOk g)
include hg
theorem l3From_ok {v0:Nat}(hv:v0<g.length){L:LI}(hL:Sh L)(hm:(v0:Int)∈L):∃d,D.C0 g (v0:Int) L=some d∧(d.length=g.length∧0≤d.getD v0 (-1)∧(∀u,u<g.length→-1≤d.getD u (-1))∧∀u,u<g.length→0≤d.getD u (-1)→Cn (adj g) (λx=>(x:Int)∈L) v0 u):=by
 have h16:=hg.n16
 have hsz:D.c g=some (g.length:Int):=rfl
 unfold D.C0
 have e1:=Co (β:=LI) (k:=λl:LI=>some l) (step:=fun(s_54:LI×Int)=>match s_54 with|(l_57,x_62)=>(D.c g).bind λy_89=>cond (decide (x_62<y_89)) ((AT l_57 ([(-1)]:LI)).bind λl_101=>some (.inl (l_101,(IntKind.i64.wrap (x_62+1))))) (some (.inr l_57))) (s0:=(([]:LI),0)) (λi=>(List.replicate i (-1),(i:Int))) g.length (List.replicate g.length (-1)) (by simp) (λi hi=>by
  dsimp only
  rw[hsz,bs,dlt hi,cond_true,Bk (by simp;omega),bs,wi (by omega),List.replicate_succ']) (by
  dsimp only
  rw[hsz,bs,Bm,cond_false])
 rw[Option.bind_fun_some] at e1
 rw[e1,bs,CG _ _ hL,decide_eq_true hm,bs,Bool.not_true,cond_false,Az (show v0<(List.replicate g.length (-1:Int)).length by rw[List.length_replicate];exact hv),bs]
 have hrep:∀v,(List.replicate g.length (-1:Int)).getD v (-1)= -1:=λv=>by
  rw[List.getD_eq_getElem?_getD,List.getElem?_replicate]
  split<;>rfl
 have hat:∀v,((List.replicate g.length (-1:Int)).set v0 0).getD v (-1)=if v=v0 then 0 else-1:=λv=>by
  by_cases e:v=v0
  ·subst e
   rw[if_pos rfl,AA (by simp;exact hv),List.getElem_set_self]
  ·rw[if_neg e,List.getD_eq_getElem?_getD,List.getElem?_set_ne (λh=>e h.symm),←List.getD_eq_getElem?_getD,hrep]
 refine AS (λs:LI×LI×Int=>Bf g (λx=>(x:Int)∈L) v0 s.1 s.2.1∧∃i:Nat,s.2.2=(i:Int)∧i≤s.2.1.length) (λs=>g.length-s.2.2.toNat)
  (λd:LI=>d.length=g.length∧0≤d.getD v0 (-1)∧(∀u,u<g.length→-1≤d.getD u (-1))∧∀u,u<g.length→0≤d.getD u (-1)→Cn (adj g) (λx=>(x:Int)∈L) v0 u) ?_ ⟨⟨by simp,List.pairwise_singleton _ _,λx hx=> ?_,λv _=> ?_,λv _ hd=> ?_,?_⟩,0,rfl,Nat.zero_le _⟩ (λr hr=>⟨r,rfl,hr⟩)
 ·rintro⟨d,q,_⟩ ⟨hB,i,rfl,hi⟩
  dsimp only at hB hi ⊢
  have hql:=hB.ql
  by_cases hil:i<q.length
  ·obtain⟨c,ec,hcn,hcd⟩:=hB.me _ (List.getElem_mem hil)
   have hrl:=hg.row_len hcn
   rw[dlt hil,cond_true,Az hil,ec,bs,BY hcn,bs]
   refine AS (λs:LI×LI×Int=>Bf g (λx=>(x:Int)∈L) v0 s.1 s.2.1∧s.2.1[i]? =some (c:Int)∧0≤s.1.getD c (-1)∧∃k:Nat,s.2.2=(k:Int)∧k≤(row g c).length) (λs=>(row g c).length-s.2.2.toNat)
    (λs:LI×LI=>Bf g (λx=>(x:Int)∈L) v0 s.1 s.2∧i<s.2.length) ?_ ⟨hB,by dsimp only;rw[List.getElem?_eq_getElem hil,ec],hcd,0,rfl,Nat.zero_le _⟩ ?_
   ·rintro⟨d,q,_⟩ ⟨hB,hqi,hcd,k,rfl,hk⟩
    dsimp only at hB hqi hcd hk ⊢
    have hql:=hB.ql
    have hdl:=hB.dl
    obtain⟨hiq,eiq⟩:=List.getElem?_eq_some_iff.1 hqi
    by_cases hkl:k<(row g c).length
    ·obtain⟨u,eu,hun,_⟩:=hg.mem hcn (List.getElem_mem hkl)
     have hau:adj g c u:=by
      have:=List.getElem_mem hkl
      rw[eu] at this
      exact this
     rw[dlt hkl,cond_true,Az hkl,eu,bs,Az (show u<d.length by omega),bs,←AA (show u<d.length by omega) (-1),wi (by omega)]
     by_cases hud:d.getD u (-1)<0
     ·rw[decide_eq_true hud,cond_true,bs,CG _ _ hL,bs]
      by_cases hS:(u:Int)∈L
      ·have hcb:=hB.bd c hcn
       have hadd:=hB.add hcn hun hcd hud hau hS
       rw[decide_eq_true hS,bs,cond_true,bs,Az hiq,eiq,bs,Az (show c<d.length by omega),bs,←AA (show c<d.length by omega) (-1),Az (show u<d.length by omega),bs,bs,Bk (by simp;omega),bs,w64 (by omega) (by omega),Int.toNat_natCast]
       refine⟨_,rfl,⟨hadd,?_,?_,k+1,rfl,hkl⟩,by dsimp only;omega⟩
       ·dsimp only
        rw[List.getElem?_append_left hiq,hqi]
       ·dsimp only
        obtain⟨v,e,_,h⟩:=hadd.me (c:Int) (List.mem_append_left _ (by rw[←eiq];exact List.getElem_mem hiq))
        obtain rfl:c=v:=by omega
        exact h
      ·rw[decide_eq_false hS,bs,cond_false]
       exact⟨_,rfl,⟨hB,hqi,hcd,k+1,rfl,hkl⟩,by dsimp only;omega⟩
     ·rw[decide_eq_false hud,cond_false,bs,cond_false]
      exact⟨_,rfl,⟨hB,hqi,hcd,k+1,rfl,hkl⟩,by dsimp only;omega⟩
    ·obtain rfl:k=(row g c).length:=by omega
     rw[Bm,cond_false]
     exact⟨_,rfl,hB,hiq⟩
   ·rintro⟨d,q⟩ ⟨hB,hiq⟩
    dsimp only at hB hiq ⊢
    have:=hB.ql
    rw[wi (by omega)]
    exact⟨_,rfl,⟨hB,i+1,rfl,hiq⟩,by dsimp only;omega⟩
  ·obtain rfl:i=q.length:=by omega
   rw[Bm,cond_false]
   exact⟨_,rfl,hB.dl,hB.v0,λu hu=>(hB.bd u hu).1,hB.rc⟩
 ·dsimp only at hx ⊢
  rw[List.mem_singleton] at hx
  exact⟨v0,hx,hv,by rw[Int.toNat_natCast,hat,if_pos rfl];omega⟩
 ·dsimp only
  rw[Int.toNat_natCast,hat]
  split<;>simp
 ·dsimp only at hd
  rw[Int.toNat_natCast,hat] at hd
  by_cases e:v=v0
  ·subst e;exact Cn.refl
  ·rw[if_neg e] at hd;omega
 ·dsimp only
  rw[Int.toNat_natCast,hat,if_pos rfl]
  omega
theorem l3Part_ok {v0:Nat}(hv:v0<g.length){L:LI}(hL:Sh L)(hm:(v0:Int)∈L):∃P,D.m g (v0:Int) L=some P∧((v0:Int)∈P∧P.length≤g.length∧∀x∈P,∃v:Nat,x=(v:Int)∧v<g.length∧Cn (adj g) (λx=>(x:Int)∈L) v0 v):=by
 have h16:=hg.n16
 obtain⟨d,ed,hdl,hd0,_,hrc⟩:=l3From_ok hg hv hL hm
 unfold D.m
 rw[ed,bs]
 refine AS (λs:LI×Int=>∃i:Nat,s.2=(i:Int)∧i≤d.length∧s.1.length≤i∧(v0<i→(v0:Int)∈s.1)∧∀x∈s.1,∃v:Nat,x=(v:Int)∧v<g.length∧Cn (adj g) (λx=>(x:Int)∈L) v0 v) (λs=>d.length-s.2.toNat)
  (λP:LI=>(v0:Int)∈P∧P.length≤g.length∧∀x∈P,∃v:Nat,x=(v:Int)∧v<g.length∧Cn (adj g) (λx=>(x:Int)∈L) v0 v) ?_ ⟨0,rfl,Nat.zero_le _,Nat.le_refl _,λh=>absurd h (Nat.not_lt_zero _),λx hx=>(by cases hx)⟩ (λr hr=>⟨r,rfl,hr⟩)
 rintro⟨P,_⟩ ⟨i,rfl,hi,hPl,h0,hP⟩
 dsimp only at hPl h0 hP ⊢
 by_cases hil:i<d.length
 ·rw[dlt hil,cond_true,Az hil,bs,←AA hil (-1),wi (by omega)]
  by_cases hd:0≤d.getD i (-1)
  ·rw[decide_eq_true hd,cond_true,Bk (by simp;omega),bs]
   refine⟨_,rfl,⟨i+1,rfl,hil,by simp;omega,λh=> ?_,λx hx=> ?_⟩,by dsimp only;omega⟩
   ·dsimp only
    rw[List.mem_append,List.mem_singleton]
    by_cases e:v0=i
    ·exact .inr (by rw[e])
    ·exact .inl (h0 (by omega))
   ·dsimp only at hx
    rw[List.mem_append,List.mem_singleton] at hx
    rcases hx with hx|rfl
    ·exact hP x hx
    ·exact⟨i,rfl,by omega,hrc i (by omega) hd⟩
  ·rw[decide_eq_false hd,cond_false]
   refine⟨_,rfl,⟨i+1,rfl,hil,by dsimp only;omega,λh=> ?_,hP⟩,by dsimp only;omega⟩
   by_cases e:v0=i
   ·subst e;exact absurd hd0 hd
   ·exact h0 (by omega)
 ·obtain rfl:i=d.length:=by omega
  rw[Bm,cond_false]
  exact⟨_,rfl,h0 (by omega),by omega,hP⟩
theorem l3Parts_ok {L:LI}(hl16:L.length≤16)(hLn:∀x∈L,∃v:Nat,x=(v:Int)∧v<g.length):∃out,D.p0 g L=some out∧((∀x∈L,∃P∈out,x∈P)∧(∀P∈out,∃s:Nat,s<g.length∧(s:Int)∈L∧∀x∈P,∃v:Nat,x=(v:Int)∧v<g.length∧Cn (adj g) (λx=>(x:Int)∈L) s v)):=by
 have h16:=hg.n16
 have hL:Sh L:=by unfold Sh;omega
 unfold D.p0
 refine AS (λs:LL×LI×Int=>∃i:Nat,s.2.2=(i:Int)∧i≤L.length∧s.1.length≤i∧s.2.1.length≤16*i∧(∀x∈s.2.1,∃P∈s.1,x∈P)∧(∀x∈L.take i,∃P∈s.1,x∈P)∧(∀P∈s.1,∃s:Nat,s<g.length∧(s:Int)∈L∧∀x∈P,∃v:Nat,x=(v:Int)∧v<g.length∧Cn (adj g) (λx=>(x:Int)∈L) s v)) (λs=>L.length-s.2.2.toNat)
  (λout:LL=>(∀x∈L,∃P∈out,x∈P)∧(∀P∈out,∃s:Nat,s<g.length∧(s:Int)∈L∧∀x∈P,∃v:Nat,x=(v:Int)∧v<g.length∧Cn (adj g) (λx=>(x:Int)∈L) s v)) ?_ ⟨0,rfl,Nat.zero_le _,Nat.le_refl _,Nat.le_refl _,λx hx=>(by cases hx),λx hx=>(by simp at hx),λP hP=>(by cases hP)⟩ (λr hr=>⟨r,rfl,hr⟩)
 rintro⟨out,sn,_⟩ ⟨i,rfl,hi,hol,hsl,hsn,hcov,hP⟩
 dsimp only at hol hsl hsn hcov hP ⊢
 by_cases hil:i<L.length
 ·obtain⟨v,ev,hvn⟩:=hLn _ (List.getElem_mem hil)
  have hvL:(v:Int)∈L:=by rw[←ev];exact List.getElem_mem hil
  have htake:L.take (i+1)=L.take i++[(v:Int)]:=by rw[List.take_succ_eq_append_getElem hil,ev]
  rw[dlt hil,cond_true,Az hil,ev,bs,CG _ _ (by unfold Sh;omega),bs,wi (by omega)]
  by_cases hs:(v:Int)∈sn
  ·rw[decide_eq_true hs,Bool.not_true,cond_false]
   refine⟨_,rfl,⟨i+1,rfl,hil,by dsimp only;omega,by dsimp only;omega,hsn,λx hx=> ?_,hP⟩,by dsimp only;omega⟩
   rw[htake,List.mem_append,List.mem_singleton] at hx
   rcases hx with hx|rfl
   ·exact hcov x hx
   ·exact hsn _ hs
  ·obtain⟨P,eP,h1,h2,h3⟩:=l3Part_ok hg hvn hL hvL
   rw[decide_eq_false hs,Bool.not_false,cond_true,bs,eP,bs,Bk (by simp;omega),bs,Bk (by omega),bs]
   refine⟨_,rfl,⟨i+1,rfl,hil,by simp;omega,by dsimp only;rw[List.length_append];omega,λx hx=> ?_,λx hx=> ?_,λQ hQ=> ?_⟩,by dsimp only;omega⟩
   ·dsimp only at hx ⊢
    rcases List.mem_append.1 hx with hx|hx
    ·obtain⟨Q,a,b⟩:=hsn x hx
     exact⟨Q,List.mem_append_left _ a,b⟩
    ·exact⟨P,List.mem_append_right _ (List.mem_singleton.2 rfl),hx⟩
   ·dsimp only at hx ⊢
    rw[htake,List.mem_append,List.mem_singleton] at hx
    rcases hx with hx|rfl
    ·obtain⟨Q,a,b⟩:=hcov x hx
     exact⟨Q,List.mem_append_left _ a,b⟩
    ·exact⟨P,List.mem_append_right _ (List.mem_singleton.2 rfl),h1⟩
   ·dsimp only at hQ
    rcases List.mem_append.1 hQ with hQ|hQ
    ·exact hP Q hQ
    ·rw[List.mem_singleton] at hQ
     subst hQ
     exact⟨v,hvn,hvL,h3⟩
 ·obtain rfl:i=L.length:=by omega
  rw[Bm,cond_false]
  rw[List.take_length] at hcov
  exact⟨_,rfl,hcov,hP⟩
theorem PartsOf_ok :∃out,D.X g=some out∧((∀v,v<g.length→∃P∈out,(v:Int)∈P)∧(∀P∈out,∃s:Nat,s<g.length∧∀x∈P,∃v:Nat,x=(v:Int)∧v<g.length∧Cn (adj g) (λx=>x<g.length) s v)):=by
 have h16:=hg.n16
 have hsz:D.c g=some (g.length:Int):=rfl
 unfold D.X
 rw[Ca g hg.sh2,B7 hg,bs,Bool.not_true,cond_false,hsz,bs,l1All_eq _ (by omega),bs]
 obtain⟨out,e,h1,h2⟩:=l3Parts_ok hg (L:=(List.range g.length).map Int.ofNat) (by simp;exact h16) (λx hx=>by
  obtain⟨v,hv,rfl⟩:=List.mem_map.1 hx
  exact⟨v,rfl,List.mem_range.1 hv⟩)
 rw[e,bs]
 refine⟨_,rfl,λv hv=>h1 _ (List.mem_map.2 ⟨v,List.mem_range.2 hv,rfl⟩),λP hP=> ?_⟩
 obtain⟨s,hs,_,h⟩:=h2 P hP
 refine⟨s,hs,λx hx=> ?_⟩
 obtain⟨v,hv,hvn,hc⟩:=h x hx
 refine⟨v,hv,hvn,hc.mono (λw hw=> ?_)⟩
 obtain⟨z,hz,e⟩:=List.mem_map.1 hw
 have:=List.mem_range.1 hz
 have e:(z:Int)=(w:Int):=e
 omega
end
end Go.Sx

namespace Go.Sx
theorem parts_ge {g y:LL}(hg:GOk g)(hy:GOk y){W:Int}(hW:In g.length W)(hyl:y.length=(Aq W).length)(hadj:∀i j,adj y i j↔i<(Aq W).length∧j<(Aq W).length∧adj g ((Aq W).getD i 0).toNat ((Aq W).getD j 0).toNat){out:LL}
  (h1:∀v,v<y.length→∃P∈out,(v:Int)∈P) (h2:∀P∈out,∃s:Nat,s<y.length∧∀x∈P,∃v:Nat,x=(v:Int)∧v<y.length∧Cn (adj y) (λx=>x<y.length) s v) {l:LI} (hP:Parts (g.map mk) (El W) l):l.length≤out.length:=by
 have hat:∀i,i<y.length→∃v:Nat,(Aq W).getD i 0=(v:Int)∧has W v=true:=λi hi=>by
  rw[AA (by omega)]
  obtain⟨v,_,h,e⟩:=mem_elems.1 (List.getElem_mem (show i<(Aq W).length by omega))
  exact⟨v,e,h⟩
 have hcn:∀i j,Cn (adj y) (λx=>x<y.length) i j→i<y.length→Cn (Ad (g.map mk)) (El W) ((Aq W).getD i 0).toNat ((Aq W).getD j 0).toNat:=λi j hc hi=>by
  refine hc (λj=>Cn (Ad (g.map mk)) (El W) ((Aq W).getD i 0).toNat ((Aq W).getD j 0).toNat) Cn.refl (λa b hT hab hb=> ?_)
  obtain⟨ha,hb',hgab⟩:=(hadj a b).1 hab
  obtain⟨x,ex,hx⟩:=hat a (by omega)
  obtain⟨z,ez,hz⟩:=hat b hb
  rw[ex,ez,Int.toNat_natCast,Int.toNat_natCast] at hgab
  refine hT.step ?_ ?_
  ·rw[ex,ez,Int.toNat_natCast,Int.toNat_natCast]
   exact(CS hg (hW.2 x hx)).2 hgab
  ·rw[ez,Int.toNat_natCast]
   exact hz
 have key:∀P∈l,∃j,∃hj:j<out.length,∃i:Nat,i<y.length∧(i:Int)∈out[j]∧El P ((Aq W).getD i 0).toNat:=λP hPl=>by
  obtain⟨v,hv⟩:=hP.ne P hPl
  have hvW:(v:Int)∈Aq W:=(AM hW.1).2 (hP.sub P hPl v hv)
  obtain⟨i,hi,ei⟩:=List.getElem_of_mem hvW
  obtain⟨Q,hQ,hiQ⟩:=h1 i (by omega)
  obtain⟨j,hj,ej⟩:=List.getElem_of_mem hQ
  refine⟨j,hj,i,by omega,by rw[ej];exact hiQ,?_⟩
  rw[AA hi,ei,Int.toNat_natCast]
  exact hv
 have hex:∃f:Int→Nat,∀P∈l,∃hj:f P<out.length,∃i:Nat,i<y.length∧(i:Int)∈out[f P]∧El P ((Aq W).getD i 0).toNat:=
  ⟨λP=>by classical exact if h:P∈l then Classical.choose (key P h) else 0,λP hPl=>by
   simp only[dif_pos hPl]
   exact Classical.choose_spec (key P hPl)⟩
 obtain⟨f,hf⟩:=hex
 have hnd:(l.map f).Nodup:=by
  unfold List.Nodup
  rw[List.pairwise_map]
  refine List.Pairwise.imp_of_mem (fun{P Q} hPl hQl hd he=> ?_) hP.dis
  obtain⟨hj,i,hi,hio,hE⟩:=hf P hPl
  obtain⟨hj',i',hi',hio',hE'⟩:=hf Q hQl
  simp only[←he] at hio'
  obtain⟨s,hs,hall⟩:=h2 _ (List.getElem_mem hj)
  obtain⟨a,ea,_,ca⟩:=hall _ hio
  obtain⟨b,eb,_,cb⟩:=hall _ hio'
  obtain rfl:i=a:=by omega
  obtain rfl:i'=b:=by omega
  have c1:=(hcn s i (ca) hs)
  have c2:=(hcn s i' (cb) hs)
  obtain⟨z,ez,hz⟩:=hat s hs
  rw[ez,Int.toNat_natCast] at c1 c2
  have hWn:∀x,El W x→x<g.length:=λx hx=>hW.2 x hx
  have c3:=cn_sym hg.n16 (FOk.of hg) hWn hz c1
  exact hd _ ⟨(hP.cn P hPl _ _ hE).2 (c3.trans c2),hE'⟩
 have:=Bq (l:=iz (l.map f)) (m:=(List.range out.length).map Int.ofNat) (DH hnd) (λx hx=>by
  obtain⟨v,hv,rfl⟩:=List.mem_map.1 hx
  obtain⟨P,hPl,rfl⟩:=List.mem_map.1 hv
  obtain⟨hj,_⟩:=hf P hPl
  exact List.mem_map.2 ⟨f P,List.mem_range.2 hj,rfl⟩)
 rw[Bv,List.length_map,List.length_map,List.length_range] at this
 exact this
theorem Pick.inn {n a k:Nat}{c t:Int}(hn:n≤16)(h:Pick n a k c t):In n c→In n t:=by
 induction h with
 |done=>exact λh=>h
 |more h1 h2 _ ih=>
  intro hc
  refine ih ⟨VS.ior _ _,λw hw=> ?_⟩
  rw[B9 hc.1 (VS.ishl _ _),Bx (by omega),Bool.or_eq_true,decide_eq_true_eq] at hw
  rcases hw with hw|rfl
  ·exact hc.2 w hw
  ·exact h2
def Brk (g:LL)(t:Int):Prop:=t≠0∧∃l,Parts (g.map mk) (El (iandNot .u32 (full g.length) t)) l∧(Aq t).length<l.length
section
variable {g : LL} (hg : GOk g)
include hg
theorem EI (t:Int)(ht:VS t):In g.length (iandNot .u32 (full g.length) t)∧∀x,has (iandNot .u32 (full g.length) t) x=true↔x<g.length∧has t x=false:=by
 have h16:=hg.n16
 have h:∀x,has (iandNot .u32 (full g.length) t) x=true↔x<g.length∧has t x=false:=λx=>by
  rw[BJ (EP _) ht,DI h16,Bool.and_eq_true,decide_eq_true_eq,Bool.not_eq_true']
 exact⟨⟨VS.iandNot _ _,λw hw=>((h w).1 hw).1⟩,h⟩
theorem BreakSet_1_ok {t:Int}(ht:VS t):∃b,D.z t (g.map mk)=some b∧(b=true→Brk g t):=by
 have h16:=hg.n16
 unfold D.z
 by_cases h0:t=0
 ·subst h0
  rw[show ((0:Int) !=0)=false from rfl,cond_false]
  exact⟨false,rfl,λh=>by cases h⟩
 ·rw[show (t !=0)=true from bne_iff_ne.2 h0,cond_true,Cx,bs,List.length_map]
  obtain⟨l,e,hP,hl⟩:=partsOf_ok h16 (FOk.of hg) (EI hg t ht).1
  rw[e,bs,size_eq ht,bs]
  refine⟨_,rfl,λh=>⟨h0,l,hP,?_⟩⟩
  have:=of_decide_eq_true h
  omega
theorem BreakSet_ok :∃r:LI×Bool,D.h g=some r∧(r=([],false)∨∃t,r=(Aq t,true)∧In g.length t∧Brk g t):=by
 have h16:=hg.n16
 have h33:=recFuel_33
 obtain⟨F,hF⟩:∃F:Int→Bool,∀t,VS t→D.z t (g.map mk)=some (F t)∧(F t=true→Brk g t):=by
  refine⟨λt=>(D.z t (g.map mk)).getD false,λt ht=> ?_⟩
  obtain⟨b,e,h⟩:=BreakSet_1_ok hg ht
  have e2:(D.z t (g.map mk)).getD false=b:=by rw[e];rfl
  dsimp only
  rw[e2]
  exact⟨e,h⟩
 have hf:∀c s,VS c→(∀v,has c v=true→v<g.length)→D.T0 (g.map mk) c s=some (F c,c):=λc s hc _=>by
  unfold D.T0
  rw[(hF c hc).1];rfl
 unfold D.h
 rw[BV g hg.sh2,B7 hg,bs,Bool.not_true,cond_false,Dm g hg,bs,List.length_map]
 refine AS (λs:Int×Int=>∃k:Nat,s.2=(k:Int)∧k≤g.length+1) (λs=>g.length+1-s.2.toNat)
  (λr:Int×Bool=>r=(0,false)∨∃t,r=(t,true)∧In g.length t∧Brk g t) ?_ ⟨0,rfl,Nat.zero_le _⟩ ?_
 ·rintro⟨c,_⟩ ⟨k,rfl,hk⟩
  unfold D.b1
  dsimp only
  by_cases hkl:k≤g.length
  ·obtain⟨r,e,_,h2⟩:=chR_ok h16 F hf k CA 0 0 c (by omega) (by omega) VS.zero (λv hv=>by rw[BE] at hv;cases hv) (by omega)
   rw[decide_eq_true (show (k:Int)≤(g.length:Int) by omega),cond_true]
   refine bind_eq e ?_
   cases hb:r.1
   ·rw[cond_false,wi (by omega)]
    exact⟨_,rfl,⟨k+1,rfl,by omega⟩,by dsimp only;omega⟩
   ·rw[cond_true]
    obtain⟨hp,hFt⟩:=h2 hb
    have hin:=hp.inn h16 ⟨VS.zero,λv hv=>by rw[BE] at hv;cases hv⟩
    exact⟨_,rfl,.inr ⟨r.2,rfl,hin,(hF _ hin.1).2 hFt⟩⟩
  ·rw[decide_eq_false (show¬(k:Int)≤(g.length:Int) by omega),cond_false]
   exact⟨_,rfl,.inl rfl⟩
 ·rintro r (rfl|⟨t,rfl,hin,hB⟩)
  ·exact⟨_,rfl,.inl rfl⟩
  ·refine⟨_,?_,.inr ⟨t,rfl,hin,hB⟩⟩
   dsimp only
   rw[Bool.not_true,cond_false,numbers_eq _ hin.1,bs]
theorem ring_whole (h:Ring g){t:Int}(ht:In g.length t):¬Brk g t:=by
 rintro⟨h0,l,hP,hl⟩
 obtain⟨r,_,hr⟩:=DJ hg
 rcases hr with⟨_,hn⟩|⟨_,_,c,_,hR,hcl,hlt,_⟩
 ·exact hn h
 ·have hne:∃z,has t z=true:=by
   apply Classical.byContradiction
   intro hc
   exact h0 (ht.1.eq_zero.2 (λv _=>by
    cases hv:has t v
    ·rfl
    ·exact absurd ⟨v,hv⟩ hc))
  have:=ring_parts hg hR hcl hlt ht hne (EI hg t ht.1).2 hP
  omega
end
end Go.Sx

namespace Go.Sx
theorem w6Graph_w9 (a:LI)(b c d:Int):D.B0 a b c d=D.d1 a b c d:=rfl
theorem w6Graph_ok {b:LI}{i:Int}(h:DK b i)(z:Int)(most:Nat)(h1:1≤most)(h8:most≤8):
  ∃y,D.B0 b i z (most:Int)=some y∧(GOk y.1∧y.1.length≤most∧y.2.1=b∧DK b y.2.2.1):=by
 rw[w6Graph_w9];exact w9Graph_ok h z most h1 h8
theorem w6Has_eq (l:LI)(x:Int)(hl:l.length≤1000):D.r0 l x=some (decide (x∈l)):=by
 unfold D.r0
 rw[loop_anyb l.length (λi=>l.getD i 0==x) true (λi hi=> ?_) ?_ rfl rfl]
 ·congr 1
  rw[D8 l (λz=>z==x) _ (λi hi=>by rw[AA hi]),Bool.eq_iff_iff,List.any_eq_true,decide_eq_true_eq]
  constructor
  ·rintro⟨z,hz,e⟩
   rw[beq_iff_eq] at e
   rw[←e];exact hz
  ·exact λh=>⟨x,h,beq_self_eq_true x⟩
 ·rw[Bm,cond_false]
 ·rw[dlt hi,cond_true,Az hi,bs,AA hi,wi (by omega)]
  cases (l[i]==x)<;>rfl
section
variable {g : LL} (hg : GOk g)
include hg
theorem w6Rest_ok {t:Int}(ht:In g.length t):D.I g (Aq t)=some (Aq (iandNot .u32 (full g.length) t)):=by
 have h16:=hg.n16
 have hel:=Cd t
 obtain⟨_,hr⟩:=EI hg t ht.1
 have key:D.I g (Aq t)=some (((List.range g.length).filter (λv=> !has t v)).map Int.ofNat):=by
  unfold D.I
  refine(Co (λi=>(((List.range i).filter (λv=> !has t v)).map Int.ofNat,(i:Int))) g.length (((List.range g.length).filter (λv=> !has t v)).map Int.ofNat) rfl (λi hi=> ?_) ?_).trans rfl
  ·have hfl:((List.range i).filter (λv=> !has t v)).length≤i:=by
    have:=List.length_filter_le (λv=> !has t v) (List.range i)
    simpa using this
   have hm:decide ((i:Int)∈Aq t)=has t i:=by
    rw[Bool.eq_iff_iff,decide_eq_true_eq,AM ht.1]
   simp only[dlt hi,cond_true,w6Has_eq _ _ (show (Aq t).length≤1000 by omega),bs,hm,wq i,List.range_succ,List.filter_append,List.map_append]
   cases h:has t i
   ·rw[Bool.not_false,cond_true,Bk (by simp;omega),bs]
    simp[h]
   ·rw[Bool.not_true,cond_false]
    simp[h]
  ·simp only[Bm,cond_false]
 rw[key]
 congr 1
 refine Inc.ext ?_ (BD _) (λx=> ?_)
 ·unfold Inc
  rw[List.pairwise_map]
  refine List.Pairwise.imp (fun{a b} h=> ?_) (List.Pairwise.filter _ List.pairwise_lt_range)
  show (a:Int)<(b:Int)
  omega
 ·rw[List.mem_map,mem_elems]
  constructor
  ·rintro⟨v,hv,rfl⟩
   rw[List.mem_filter,List.mem_range,Bool.not_eq_true'] at hv
   exact⟨v,by omega,(hr v).2 hv,rfl⟩
  ·rintro⟨v,_,hv,rfl⟩
   obtain⟨a,b⟩:=(hr v).1 hv
   exact⟨v,List.mem_filter.2 ⟨List.mem_range.2 a,by rw[b];rfl⟩,rfl⟩
theorem edgeIn_true {u v:Nat}(h:adj g u v)(hu:u<g.length)(hv:v<g.length):D.c0 g (u:Int) (v:Int)=some true:=by
 have h16:=hg.n16
 unfold D.c0 D.o D.c
 rw[Ca g hg.sh2,B7 hg]
 simp only[bs,cond_true,DD,w64 (x:=(g.length:Int)-1) (by omega) (by omega)]
 rw[decide_eq_true (show (0:Int)≤(u:Int) by omega),decide_eq_true (show (u:Int)≤(g.length:Int)-1 by omega),decide_eq_true (show (0:Int)≤(v:Int) by omega),decide_eq_true (show (v:Int)≤(g.length:Int)-1 by omega)]
 simp only[Bool.and_self,cond_true,bs]
 rw[DS g hg hu,decide_eq_true (show (v:Int)∈row g u from h)]
 rfl
theorem brk_ok {t:Int}(ht:In g.length t)(hB:Brk g t):∃x,D.I g (Aq t)=some x∧(Aq t).length≠0∧x.length≠0∧∃y,D.x0 g x=some (y,true)∧∃out,D.X y=some out∧(Aq t).length<out.length:=by
 have h16:=hg.n16
 obtain⟨h0,l,hP,hl⟩:=hB
 obtain⟨hW,hr⟩:=EI hg t ht.1
 have hel:(Aq t).length≠0:=λe=>by
  apply h0
  refine ht.1.eq_zero.2 (λv _=> ?_)
  cases hv:has t v
  ·rfl
  ·have:=(AM ht.1).2 hv
   rw[List.length_eq_zero_iff.1 e] at this
   cases this
 have hxl:(Aq (iandNot .u32 (full g.length) t)).length≠0:=λe=>by
  obtain⟨P,hPl⟩:=List.exists_mem_of_length_pos (show 0<l.length by omega)
  obtain⟨v,hv⟩:=hP.ne P hPl
  have:=(AM hW.1).2 (hP.sub P hPl v hv)
  rw[List.length_eq_zero_iff.1 e] at this
  cases this
 have hx16:(Aq (iandNot .u32 (full g.length) t)).length≤16:=by
  have:=Bq (l:=Aq (iandNot .u32 (full g.length) t)) (m:=(List.range g.length).map Int.ofNat) (BD _).nodup (λx hx=>by
   obtain⟨v,_,hv,rfl⟩:=mem_elems.1 hx
   exact List.mem_map.2 ⟨v,List.mem_range.2 (hW.2 v hv),rfl⟩)
  simp at this
  omega
 refine⟨_,w6Rest_ok hg ht,hel,hxl,?_⟩
 obtain⟨y,ey,hy,hyl,hya⟩:=l2Of_ok hg (L:=Aq (iandNot .u32 (full g.length) t)) (by omega) hx16 (λx hx=>by
  obtain⟨v,_,hv,rfl⟩:=mem_elems.1 hx
  have:=hW.2 v hv
  omega)
 obtain⟨out,eo,o1,o2⟩:=PartsOf_ok hy
 refine⟨y,?_,out,eo,?_⟩
 ·unfold D.x0
  rw[spec_SetOk_eq g _ hg.sh2 (by unfold Sh;omega),B7 hg,setB_elems hW,bs]
  have:(((Aq (iandNot .u32 (full g.length) t)).length:Int)==0)=false:=beq_eq_false_iff_ne.2 (by omega)
  rw[this]
  simp only[Bool.and_self,Bool.not_true,Bool.or_self,cond_false,ey,bs]
 ·have:=parts_ge hg hy hW hyl hya o1 o2 hP
  omega
end
theorem FnRounds_true (code:LI)(hb:∀x∈code,0≤x∧x≤255):D.N0 code=some true:=by
 unfold D.N0 D.X0
 simp only[bs]
 by_cases hl:(4096:Int)<code.length
 ·simp only[hl,decide_true,cond_true]
 ·simp only[hl,decide_false,cond_false]
  obtain⟨z,e1,k1⟩:=roll_ok code 810 hb (by omega)
  simp only[e1,bs]
  obtain⟨⟨g,b,i,z2⟩,e2,hg,hg7,rfl,k2⟩:=w6Graph_ok k1 z 7 (by omega) (by omega)
  dsimp only at hg hg7 k2
  rw[show (((7:Nat):Nat):Int)=7 from rfl] at e2
  have h16:=hg.n16
  have hn1:=hg.n1
  obtain⟨⟨ro,rb⟩,er,hr⟩:=DJ hg
  obtain⟨⟨po,pb⟩,ep,hp⟩:=FullPath_ok hg
  obtain⟨⟨so,sb⟩,es,hs⟩:=BreakSet_ok hg
  have hmany:(0:Int)<(if g.length<3 then 0 else((Cm g/2:Nat):Int))↔Ring g:=by
   by_cases h3:g.length<3
   ·rw[if_pos h3]
    exact⟨λh=>by omega,λh=>by have:=h.1;omega⟩
   ·rw[if_neg h3]
    constructor
    ·intro h
     refine(Ring_iff hg (by omega)).2 ?_
     apply Nat.pos_of_ne_zero
     intro e
     rw[e] at h
     simp at h
    ·intro h
     have:=ringN_two hg h
     omega
  have hrb:rb=decide ((0:Int)<(if g.length<3 then 0 else((Cm g/2:Nat):Int))):=by
   rw[Bool.eq_iff_iff,decide_eq_true_eq,hmany]
   rcases hr with⟨h,hn⟩|⟨h,hn,_⟩
   ·cases h
    exact⟨λh=>(by cases h),λh=>absurd h hn⟩
   ·exact⟨λ_=>hn,λ_=>h⟩
  have hrk:rb=true→D.a0 g ro=some true∧D.T g ro=some true:=λh=>by
   rcases hr with⟨h',_⟩|⟨_,_,c,hc,hR,hcl,hlt,h0⟩
   ·cases h'
    cases h
   ·dsimp only at hc
    subst hc
    have ho:OOk g (iz c):=iz_ook hcl hR.nd hlt
    have hc0:0<c.length:=by omega
    have e0:idx (iz c) 0=some 0:=by
     have:=Cp hc0
     rw[List.getElem?_eq_getElem hc0] at h0
     rw[show ((0:Nat):Int)=0 from rfl] at this
     rw[this,Option.some.inj h0];rfl
    constructor
    ·unfold D.a0
     rw[DU g _ hg.sh2 (ho.sh hg),B7 hg,(ordB_iff g _).2 ho]
     simp only[Bool.and_self,bs,cond_true,e0,beq_self_eq_true,rd_specLoop hg hR hlt]
    ·unfold D.T
     rw[Ds hg ho]
     simp only[bs,cond_true,e0,beq_self_eq_true,rd_implLoop hg hR hlt]
  have hring:rb=true→Ring g:=λh=>by rw[hrb,decide_eq_true_eq] at h;exact hmany.1 h
  have hsb:rb=true→sb=false:=λh=>by
   rcases hs with h'|⟨t,h',hin,hB⟩
   ·cases h';rfl
   ·exact absurd hB (ring_whole hg (hring h) hin)
  have hpb:rb=true→pb=true:=λh=>by
   rcases hp with⟨h',hn⟩|⟨h',_⟩
   ·exact absurd (Ring.full hg (hring h)) (hn 0 (by omega))
   ·exact h'
  simp only[e2,bs,er,ep,es,EE hg hg7,EF hg hg7,←hrb,bne_self_eq_false,cond_false]
  have hA:((cond rb ((D.a0 g ro).bind λy_598=>(cond (!y_598) (some true) ((D.T g ro).bind λy_642=>some (!y_642))).bind λb_640=>some b_640) (some false)).bind λb_596=>some b_596)=some false:=by
   cases h:rb
   ·rfl
   ·obtain⟨h1,h2⟩:=hrk h
    rw[cond_true,h1,bs,Bool.not_true,cond_false,h2];rfl
  rw[hA,bs]
  have hB:((false||(rb&&sb))||(rb&&(!pb)))=false:=by
   cases h:rb
   ·rfl
   ·rw[hsb h,hpb h];rfl
  rw[hB,cond_false]
  have hC:((cond pb ((D.y g po).bind λy_711=>some (!y_711)) (some false)).bind λb_709=>some b_709)=some false:=by
   rcases hp with⟨h',_⟩|⟨h',c,hc,hnd,hcl,hlt,_⟩
   ·cases h';rfl
   ·dsimp only at h' hc
    subst h' hc
    have ho:OOk g (iz c):=iz_ook hcl hnd hlt
    rw[cond_true,DU g _ hg.sh2 (ho.sh hg),B7 hg,(ordB_iff g _).2 ho];rfl
  rw[Option.bind_fun_some] at hC
  rw[hC,bs,cond_false]
  have hpl:po.length≤16:=by
   rcases hp with⟨h',_⟩|⟨h',c,hc,hnd,hcl,hlt,_⟩
   ·cases h';simp
   ·dsimp only at hc
    subst hc
    rw[Bv];omega
  have hloop:∀k:(Unit ⊕ Bool)→Option Bool,(Ar (σ:=Int) (ρ:=(Unit) ⊕ (Bool)) (fun(x_778:Int)=>cond (decide (x_778<(po.length:Int))) ((idx po (IntKind.i64.wrap (x_778-1))).bind λe_805=>(idx po x_778).bind λe_811=>(D.c0 g e_805 e_811).bind λy_817=>cond (!y_817) (some (.inr (.inr false))) (some (.inl (IntKind.i64.wrap (x_778+1))))) (some (.inr (.inl ())))) 1).bind k=k (.inl ()):=λk=>by
   by_cases hz:po.length≤1
   ·rw[Bt (r:=Sum.inl ()) (by rw[decide_eq_false (by omega),cond_false])]
    rfl
   ·refine Co (λi=>((i+1:Nat):Int)) (po.length-1) (Sum.inl ()) rfl (λi hi=> ?_) ?_
    ·rcases hp with⟨h',_⟩|⟨h',c,hc,hnd,hcl,hlt,had⟩
     ·cases h';simp at hz
     ·dsimp only at hc
      subst hc
      rw[Bv] at hi
      have hi1:i+1<c.length:=by omega
      have ew:IntKind.i64.wrap (((i+1:Nat):Int)-1)=(i:Int):=by rw[w64 (by omega) (by omega)];omega
      rw[Bv,dlt hi1,cond_true,ew,Cp (show i<c.length by omega),bs,Cp hi1,bs,edgeIn_true hg (had i hi1) (hlt _ (List.getElem_mem _)) (hlt _ (List.getElem_mem _)),bs,Bool.not_true,cond_false,wi (by omega)]
    ·rw[show po.length-1+1=po.length by omega,Bm,cond_false]
  refine(hloop _).trans ?_
  dsimp only
  rcases hs with h'|⟨t,h',hin,hBr⟩
  ·cases h'
   rfl
  ·cases h'
   obtain⟨x,ex,hel,hxl,y,ey,out,eo,hlo⟩:=brk_ok hg hin hBr
   have c1:(((Aq t).length:Int)==0)=false:=beq_eq_false_iff_ne.2 (by omega)
   have c2:((x.length:Int)==0)=false:=beq_eq_false_iff_ne.2 (by omega)
   rw[Bool.not_true,cond_false,ex,bs,c1,c2,Bool.or_self,cond_false,ey,bs,eo,bs,decide_eq_true (by omega)]
end Go.Sx
