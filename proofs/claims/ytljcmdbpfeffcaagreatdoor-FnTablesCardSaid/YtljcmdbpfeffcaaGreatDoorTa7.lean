/- Parts. -/
import Derived.Test.YtljcmdbpfeffcaaGreatDoorTa6
set_option linter.unusedVariables false
set_option linter.unusedSimpArgs false
set_option linter.unusedSectionVars false
namespace Go.Sx
structure NOk (g:LL)(T:NT):Prop where
 ok:T.ok g.length
 bag:T.bag=0
 gone:∀v,v<g.length→T.gone v=1
 cov:∀u v,u<g.length→(u=v∨adj g u v)→∃m∈T.bm,has m u=true∧has m v=true
 size:T.size≤200
section
variable {g B K : LL}
theorem bt_of (hg:GOk g)(hT:TB g B K){A:LI}(hA:NetL A B.length K):BT g.length B.length (B.map mk) A K:=by
 have h16:=hg.n16
 have hm:∀x (hx:x<B.length),(B.map mk).getD x 0=mk B[x]:=λx hx=>by
  rw[AH (by simpa using hx),List.getElem_map]
 have hin:∀b∈B,∀x∈b,0≤x∧x<32:=λb hb x hx=>by have:=(hT.sets b hb).2 x hx;omega
 refine⟨h16,hT.n16,⟨hT.many,hT.lks,hT.tree⟩,hA,λx hx=> ?_,λv=> ?_⟩
 ·rw[hm x hx]
  refine⟨VS.mk _,λw hw=> ?_⟩
  rw[CR (hin _ (List.getElem_mem hx)),decide_eq_true_eq] at hw
  have:=(hT.sets _ (List.getElem_mem hx)).2 _ hw
  omega
 ·by_cases hv:v<g.length
  ·have e:((Dv B.length).filter λx=>has ((B.map mk).getD x.toNat 0) v)=CT B v:=by
    refine Inc.ext ?_ (FI B v) λx=> ?_
    ·unfold Inc Dv
     refine List.Pairwise.sublist List.filter_sublist ?_
     rw[List.pairwise_map]
     exact List.pairwise_lt_range.imp λh=>Int.ofNat_lt.2 h
    ·rw[List.mem_filter,mem_withV,mem_allB]
     constructor
     ·rintro⟨⟨i,rfl,hi⟩,h⟩
      rw[Int.toNat_natCast,hm i hi,CR (hin _ (List.getElem_mem hi)),decide_eq_true_eq] at h
      exact⟨i,rfl,hi,by rw[AH hi];exact h⟩
     ·rintro⟨i,rfl,hi,h⟩
      rw[AH hi] at h
      exact⟨⟨i,rfl,hi⟩,by rw[Int.toNat_natCast,hm i hi,CR (hin _ (List.getElem_mem hi)),decide_eq_true h]⟩
   rw[e];exact hT.conn v hv
  ·have e:((Dv B.length).filter λx=>has ((B.map mk).getD x.toNat 0) v)=[]:=by
    rw[List.filter_eq_nil_iff]
    intro x hx
    obtain⟨i,rfl,hi⟩:=mem_allB.1 hx
    rw[Int.toNat_natCast,hm i hi,CR (hin _ (List.getElem_mem hi)),decide_eq_true_eq]
    intro hc
    have:=(hT.sets _ (List.getElem_mem hi)).2 _ hc
    omega
   rw[e,conn_iff]
   intro T hx
   obtain⟨x,hx,_⟩:=hx
   cases hx
theorem nice_T (hg:GOk g)(hT:TB g B K){A:LI}(hA:NetL A B.length K)(h7:g.length≤7)(hB7:B.length≤7){F:Nat}(hF:16≤F):
  NOk g (chg (bld (B.map mk) A F 0 (-1)) 0):=by
 have h16:=hg.n16
 have hbt:=bt_of hg hT hA
 have hN:=hT.n1
 have hav:B2 B.length K (-1) 0≤B.length:=by
  have:=Fl (n:=B.length) (p:=λx=>Avt K (-1) 0 x) (q:=λ_=>True) (λ_ _ _=>trivial)
  rw[Fu] at this
  exact this
 obtain⟨i1,i2,i3,i4,i5⟩:=hbt.bld_ok F 0 (-1) (by omega) (.inl rfl) (by omega)
 have i1:(bld (B.map mk) A F 0 (-1)).ok g.length:=i1
 obtain⟨j1,j2,j3,j4,j5⟩:=chg_ok h16 i1 (to:=0) ⟨VS.zero,λw h=>by rw[Bv] at h;cases h⟩
 have hm:∀x (hx:x<B.length),(B.map mk).getD x 0=mk B[x]:=λx hx=>by
  rw[AH (by simpa using hx),List.getElem_map]
 have hin:∀b∈B,∀x∈b,0≤x∧x<32:=λb hb x hx=>by have:=(hT.sets b hb).2 x hx;omega
 have hcov:∀u v,u<g.length→(u=v∨adj g u v)→∃x,∃hx:x<B.length,has (mk B[x]) u=true∧has (mk B[x]) v=true:=by
  intro u v hu h
  rcases h with rfl|h
  ·have:=hT.some u hu
   obtain⟨y,hy⟩:=List.exists_mem_of_ne_nil _ this
   obtain⟨i,rfl,hi,hv⟩:=mem_withV.1 hy
   rw[AH hi] at hv
   have:has (mk B[i]) u=true:=by rw[CR (hin _ (List.getElem_mem hi)),decide_eq_true hv]
   exact⟨i,hi,this,this⟩
  ·obtain⟨b,hb,h1,h2⟩:=hT.edges u v hu h
   obtain⟨i,hi,rfl⟩:=List.getElem_of_mem hb
   exact⟨i,hi,by rw[CR (hin _ hb),decide_eq_true h1],by rw[CR (hin _ hb),decide_eq_true h2]⟩
 refine⟨j1,j2,λv hv=> ?_,λu v hu h=> ?_,?_⟩
 ·have i2:(bld (B.map mk) A F 0 (-1)).bag=(B.map mk).getD 0 0:=i2
  have i3:(bld (B.map mk) A F 0 (-1)).gone v=_:=i3 v
  rw[j3,i3,i2,Bv]
  obtain⟨x,hx,h1,_⟩:=hcov v v hv (.inl rfl)
  have hx1:∃x,Avt K (-1) 0 x∧has ((B.map mk).getD x 0) v=true:=⟨x,hbt.tree.all (by omega) hx,by rw[hm x hx];exact h1⟩
  cases hh:has ((B.map mk).getD 0 0) v with
  |true=>rw[if_neg (λe=>Bool.noConfusion e.2),if_pos ⟨rfl,rfl⟩]
  |false=>
   have hno:¬(false=true∧false=false):=λe=>Bool.noConfusion e.1
   rw[if_pos ⟨hx1,rfl⟩,if_neg hno]
 ·obtain⟨x,hx,h1,h2⟩:=hcov u v hu h
  have:=j4 _ (i4 x (hbt.tree.all (by omega) hx))
  rw[hm x hx] at this
  exact⟨_,this,h1,h2⟩
 ·have hmul:=Nat.mul_le_mul (show 2*g.length+2≤16 by omega) (Nat.le_trans hav hB7)
  have i5:(bld (B.map mk) A F 0 (-1)).size+g.length+1≤(2*g.length+2)*B2 B.length K (-1) 0:=i5
  omega
theorem EY {ρ:Type}{n:Nat}{c:Nat→Option ρ}(h:∀i,i<n→c i=none):(List.range n).findSome? c=none:=by
 rw[List.findSome?_eq_none_iff]
 intro i hi
 exact h i (List.mem_range.1 hi)
theorem nice_small (h:∀b∈B,b.length≤8)(hl:B.length≤1000):D.M0 B=some false:=by
 unfold D.M0 D.T1
 have key:=Db (ρ:=Unit ⊕ Int) (step:=(fun(x_40:Int)=>cond (decide (x_40<(B.length:Int))) ((idx B x_40).bind λe_60=>(D.c1 e_60).bind λy_66=>cond y_66 (some (.inr (.inr x_40))) (some (.inl (IntKind.i64.wrap (x_40+1))))) (some (.inr (.inl ()))))) B.length (λi=>none) (.inl ()) (λi hi=>by
   rw[dlt hi,cT,AC hi,bs,wq i]
   unfold D.c1
   rw[bs]
   have:=h _ (List.getElem_mem hi)
   exact condF (decide_eq_false (by omega)) rfl) (by simp only[Be,cF])
 rw[key,EY (λi _=>rfl)]
 rfl
open Classical in
theorem impl_NiceOf_ok (hg:GOk g)(hT:TB g B K)(h7:g.length≤7)(hB7:B.length≤7):∃A,NetL A B.length K∧
  D.K g B K=some ((chg (bld (B.map mk) A Bx 0 (-1)) 0).ks,(chg (bld (B.map mk) A Bx 0 (-1)) 0).vs,(chg (bld (B.map mk) A Bx 0 (-1)) 0).bs,(chg (bld (B.map mk) A Bx 0 (-1)) 0).cs 0,true):=by
 have h16:=hg.n16
 have hN:=hT.n1
 have hKl:=hT.many
 have hR:=ER
 obtain⟨A,hA1,hA⟩:=Ha (B:=B) (K:=K) (by omega) hT.lks (by omega)
 refine⟨A,hA,?_⟩
 have hbt:=bt_of hg hT hA
 have hsets:∀b∈B,b.length≤8:=λb hb=>by have:=(hT.sets b hb).length_le (by omega);omega
 have hok:=nice_T hg hT hA h7 hB7 (F:=Bx) (by omega)
 have hBs:Sh2 B:=⟨by unfold Sh;omega,λb hb=>by have:=hsets b hb;unfold Sh;omega⟩
 have hKs:Sh2 K:=⟨by unfold Sh;omega,λl hl=>by obtain⟨a,b,rfl,_⟩:=hT.lks l hl;unfold Sh;simp⟩
 have hav:B2 B.length K (-1) 0≤B.length:=by
  have:=Fl (n:=B.length) (p:=λx=>Avt K (-1) 0 x) (q:=λ_=>True) (λ_ _ _=>trivial)
  rw[Fu] at this
  exact this
 have hmul:=Nat.mul_le_mul (show 2*g.length+2≤16 by omega) (Nat.le_trans hav hB7)
 obtain⟨i1,i2,i3,i4,i5⟩:=hbt.bld_ok Bx 0 (-1) (by omega) (.inl rfl) (by omega)
 have i2:(bld (B.map mk) A Bx 0 (-1)).bag=(B.map mk).getD 0 0:=i2
 have hsq:NSq ([],[],[],[]):=⟨rfl,rfl,rfl⟩
 have hgen:=hbt.gen_eq (by simp) Bx 0 (-1) ([],[],[],[]) (by omega) (.inl rfl) (by omega) hsq (by show 0+_≤_;omega)
 have i5:(bld (B.map mk) A Bx 0 (-1)).size+g.length+1≤(2*g.length+2)*B2 B.length K (-1) 0:=i5
 have hchg:=FJ hsq (bld (B.map mk) A Bx 0 (-1)) (to:=0) (by show 0+_≤_;omega) (B.map mk) A
 unfold D.K
 rw[Hi hg hBs hKs,bs,decide_eq_true hT]
 simp only[Bool.not_true,cF]
 rw[nice_small hsets (by omega),bs,bs,cF,masks_eq hg hT.sets (by omega),bs,hA1,bs]
 unfold D.C
 have hgen:D.m0 Bx [] [] [] [] (B.map mk) A 0 (-1)=some (app ([],[],[],[]) (bld (B.map mk) A Bx 0 (-1))):=hgen
 rw[hgen,bs]
 have e0:idx (B.map mk) 0=some ((B.map mk).getD 0 0):=by
  have:=AC (xs:=B.map mk) (i:=0) (by simp;omega)
  rw[AH (by simp;omega)];exact this
 rw[e0,bs,←i2,hchg,bs]
 refine condF (decide_eq_false ?_) ?_
 ·rw[Ca]
  have:=hok.size
  show¬(200:Int)<((0+_:Nat):Int)
  omega
 ·rfl
end
end Go.Sx

namespace Go.Sx
def Sit {α:Type}(X:List α)(s:Nat)(a:List α):Prop:=∀j,j<a.length→X[s+j]? =a[j]?
theorem Sit.left {α:Type}{X a b:List α}{s:Nat}(h:Sit X s (a++b)):Sit X s a:=λj hj=>by
 rw[h j (by simp;omega),List.getElem?_append_left hj]
theorem Sit.right {α:Type}{X a b:List α}{s:Nat}(h:Sit X s (a++b)):Sit X (s+a.length) b:=λj hj=>by
 have:=h (a.length+j) (by simp;omega)
 rw[Nat.add_assoc,this,List.getElem?_append_right (by omega)]
 congr 1;omega
theorem Sit.one {α:Type}{X:List α}{s:Nat}{x:α}(h:Sit X s [x]):X[s]? =some x:=h 0 (by simp)
theorem Sit.self {α:Type}(X:List α):Sit X 0 X:=λj _=>by rw[Nat.zero_add]
structure Lies (L:NS)(s:Nat)(t:NT):Prop where
 k:Sit L.1 s t.ks
 v:Sit L.2.1 s t.vs
 b:Sit L.2.2.1 s t.bs
 c:Sit L.2.2.2 s (t.cs s)
def A7 (T:NT):NS:=(T.ks,T.vs,T.bs,T.cs 0)
theorem Lies.self (T:NT):Lies (A7 T) 0 T:=⟨Sit.self _,Sit.self _,Sit.self _,Sit.self _⟩
structure At4 (L:NS)(i:Nat)(k v:Int)(b c:LI):Prop where
 k:L.1[i]? =some k
 v:L.2.1[i]? =some v
 b:L.2.2.1[i]? =some b
 c:L.2.2.2[i]? =some c
section
variable {L : NS} {s : Nat}
theorem Lies.leaf (h:Lies L s .leaf):At4 L s 1 (-1) [] []:=⟨h.k.one,h.v.one,h.b.one,h.c.one⟩
theorem Lies.add {v:Nat}{t:NT}(h:Lies L s (.add v t)):Lies L s t∧At4 L (s+t.size) 2 v (elems (NT.add v t).bag) [((s+t.size-1:Nat):Int)]:=by
 refine⟨⟨h.k.left,h.v.left,h.b.left,h.c.left⟩,?_,?_,?_,?_⟩
 ·have:=h.k.right.one;rwa [t.ks_len] at this
 ·have:=h.v.right.one;rwa [t.vs_len] at this
 ·have:=h.b.right.one;rwa [t.bs_len] at this
 ·have:=h.c.right.one;rwa [NT.cs_len] at this
theorem Lies.drop {v:Nat}{t:NT}(h:Lies L s (.drop v t)):Lies L s t∧At4 L (s+t.size) 3 v (elems (NT.drop v t).bag) [((s+t.size-1:Nat):Int)]:=by
 refine⟨⟨h.k.left,h.v.left,h.b.left,h.c.left⟩,?_,?_,?_,?_⟩
 ·have:=h.k.right.one;rwa [t.ks_len] at this
 ·have:=h.v.right.one;rwa [t.vs_len] at this
 ·have:=h.b.right.one;rwa [t.bs_len] at this
 ·have:=h.c.right.one;rwa [NT.cs_len] at this
theorem Lies.meet {t u:NT}(h:Lies L s (.meet t u)):Lies L s t∧Lies L (s+t.size) u∧At4 L (s+t.size+u.size) 4 (-1) (elems t.bag) [((s+t.size-1:Nat):Int),((s+t.size+u.size-1:Nat):Int)]:=by
 refine⟨⟨h.k.left.left,h.v.left.left,h.b.left.left,h.c.left.left⟩,⟨?_,?_,?_,?_⟩,?_,?_,?_,?_⟩
 ·have:=h.k.left.right;rwa [t.ks_len] at this
 ·have:=h.v.left.right;rwa [t.vs_len] at this
 ·have:=h.b.left.right;rwa [t.bs_len] at this
 ·have:=h.c.left.right;rwa [NT.cs_len] at this
 ·have:=h.k.right.one;rwa [List.length_append,t.ks_len,u.ks_len,←Nat.add_assoc] at this
 ·have:=h.v.right.one;rwa [List.length_append,t.vs_len,u.vs_len,←Nat.add_assoc] at this
 ·have:=h.b.right.one;rwa [List.length_append,t.bs_len,u.bs_len,←Nat.add_assoc] at this
 ·have:=h.c.right.one;rwa [List.length_append,NT.cs_len,NT.cs_len,←Nat.add_assoc] at this
theorem Lies.last {t:NT}(h:Lies L s t):L.2.2.1[s+t.size-1]? =some (elems t.bag):=by
 cases t with
 |leaf=>have:=h.leaf.b;rw[show NT.leaf.bag=0 from rfl,Cr];exact this
 |add v t=>have:=h.add.2.b;simpa [NT.size] using this
 |drop v t=>have:=h.drop.2.b;simpa [NT.size] using this
 |meet t u=>have:=h.meet.2.2.b;simpa [NT.size,NT.bag,←Nat.add_assoc] using this
end
inductive NdAt (n:Nat)(L:NS)(i:Nat):Prop
 |leaf (h:At4 L i 1 (-1) [] [])
 |add {v j:Nat} {m:Int} (hv:v<n) (hm:In n m) (hn:has m v=false) (hj:j<i) (hb:L.2.2.1[j]? =some (elems m)) (h:At4 L i 2 v (elems (ior .u32 m (ishl .u32 1 (v:Int)))) [(j:Int)])
 |drop {v j:Nat} {m:Int} (hv:v<n) (hm:In n m) (hn:has m v=true) (hj:j<i) (hb:L.2.2.1[j]? =some (elems m)) (h:At4 L i 3 v (elems (iandNot .u32 m (ishl .u32 1 (v:Int)))) [(j:Int)])
 |meet {j k:Nat} {m:Int} (hm:In n m) (hj:j<i) (hk:k<i) (hb:L.2.2.1[j]? =some (elems m)) (hc:L.2.2.1[k]? =some (elems m)) (h:At4 L i 4 (-1) (elems m) [(j:Int),(k:Int)])
theorem Lies.nodes {n:Nat}(hn:n≤16){L:NS}:∀(t:NT) (s:Nat),t.ok n→Lies L s t→∀i,s≤i→i<s+t.size→NdAt n L i
 | .leaf,s,_,h,i,h1,h2=>by
  simp only[NT.size] at h2
  obtain rfl:i=s:=by omega
  exact .leaf h.leaf
 | .add v t,s,hok,h,i,h1,h2=>by
  obtain⟨g1,g2⟩:=h.add
  simp only[NT.size] at h2
  have hp:=t.size_pos
  by_cases hi:i<s+t.size
  ·exact Lies.nodes hn t s hok.2.2 g1 i h1 hi
  ·obtain rfl:i=s+t.size:=by omega
   exact .add hok.1 (t.In_bag hn hok.2.2) hok.2.1 (by omega) g1.last g2
 | .drop v t,s,hok,h,i,h1,h2=>by
  obtain⟨g1,g2⟩:=h.drop
  simp only[NT.size] at h2
  have hp:=t.size_pos
  by_cases hi:i<s+t.size
  ·exact Lies.nodes hn t s hok.2.2 g1 i h1 hi
  ·obtain rfl:i=s+t.size:=by omega
   exact .drop hok.1 (t.In_bag hn hok.2.2) hok.2.1 (by omega) g1.last g2
 | .meet t u,s,hok,h,i,h1,h2=>by
  obtain⟨g1,g2,g3⟩:=h.meet
  simp only[NT.size] at h2
  have hp:=t.size_pos;have hq:=u.size_pos
  by_cases hi:i<s+t.size
  ·exact Lies.nodes hn t s hok.2.1 g1 i h1 hi
  ·by_cases hi2:i<s+t.size+u.size
   ·exact Lies.nodes hn u _ hok.2.2 g2 i (by omega) hi2
   ·obtain rfl:i=s+t.size+u.size:=by omega
    exact .meet (t.In_bag hn hok.2.1) (by omega) (by omega) g1.last (by rw[hok.1];exact g2.last) g3
theorem EP (j:Nat):∀(t:NT) (s:Nat),lsm (λks=>ks.count (j:Int)) (t.cs s)=if s≤j∧j+1<s+t.size then 1 else 0
 | .leaf,s=>by
  have hz:NT.leaf.size=1:=rfl
  simp only[NT.cs,lsm,List.count_nil];rw[if_neg (by omega)]
 | .add v t,s=>by
  have hp:=t.size_pos
  have hz:(NT.add v t).size=t.size+1:=rfl
  simp only[NT.cs,CX,lsm]
  rw[EP j t s,List.count_singleton]
  by_cases e:j=s+t.size-1
  ·rw[if_neg (by omega),if_pos (by rw[e];simp),if_pos (by omega)]
  ·rw[show (((s+t.size-1:Nat):Int)==(j:Int))=false from beq_eq_false_iff_ne.2 (by omega)]
   simp only[Bool.false_eq_true,if_false]
   by_cases h:s≤j∧j+1<s+t.size
   ·rw[if_pos h,if_pos (by omega)]
   ·rw[if_neg h,if_neg (by omega)]
 | .drop v t,s=>by
  have hp:=t.size_pos
  have hz:(NT.drop v t).size=t.size+1:=rfl
  simp only[NT.cs,CX,lsm]
  rw[EP j t s,List.count_singleton]
  by_cases e:j=s+t.size-1
  ·rw[if_neg (by omega),if_pos (by rw[e];simp),if_pos (by omega)]
  ·rw[show (((s+t.size-1:Nat):Int)==(j:Int))=false from beq_eq_false_iff_ne.2 (by omega)]
   simp only[Bool.false_eq_true,if_false]
   by_cases h:s≤j∧j+1<s+t.size
   ·rw[if_pos h,if_pos (by omega)]
   ·rw[if_neg h,if_neg (by omega)]
 | .meet t u,s=>by
  have hp:=t.size_pos;have hq:=u.size_pos
  have hz:(NT.meet t u).size=t.size+u.size+1:=rfl
  simp only[NT.cs,CX,lsm]
  rw[EP j t s,EP j u,List.count_cons,List.count_singleton]
  by_cases e1:j=s+t.size-1
  ·rw[if_neg (by omega),if_neg (by omega),if_pos (by omega:s≤j∧j+1<s+(NT.meet t u).size),show (((s+t.size-1:Nat):Int)==(j:Int))=true from beq_iff_eq.2 (by omega),
    show (((s+t.size+u.size-1:Nat):Int)==(j:Int))=false from beq_eq_false_iff_ne.2 (by omega)];rfl
  ·rw[show (((s+t.size-1:Nat):Int)==(j:Int))=false from beq_eq_false_iff_ne.2 (by omega)]
   by_cases e2:j=s+t.size+u.size-1
   ·rw[if_neg (by omega),if_neg (by omega),if_pos (by omega:s≤j∧j+1<s+(NT.meet t u).size),
     show (((s+t.size+u.size-1:Nat):Int)==(j:Int))=true from beq_iff_eq.2 (by omega)];rfl
   ·rw[show (((s+t.size+u.size-1:Nat):Int)==(j:Int))=false from beq_eq_false_iff_ne.2 (by omega)]
    simp only[Bool.false_eq_true,if_false]
    by_cases h1:s≤j∧j+1<s+t.size
    ·rw[if_pos h1,if_neg (by omega),if_pos (by omega)]
    ·by_cases h2:s+t.size≤j∧j+1<s+t.size+u.size
     ·rw[if_neg h1,if_pos h2,if_pos (by omega)]
     ·rw[if_neg h1,if_neg h2,if_neg (by omega)]
theorem D5 (v:Nat):∀t:NT,lsm (λp:Int×Int=>if p.1=3∧p.2=(v:Int) then 1 else 0) (t.ks.zip t.vs)=t.gone v
 | .leaf=>by simp[NT.ks,NT.vs,lsm,NT.gone]
 | .add w t=>by
  simp only[NT.ks,NT.vs]
  rw[List.zip_append (by rw[t.ks_len,t.vs_len]),CX,D5 v t]
  simp[lsm,NT.gone]
 | .drop w t=>by
  simp only[NT.ks,NT.vs]
  rw[List.zip_append (by rw[t.ks_len,t.vs_len]),CX,D5 v t]
  simp[lsm,NT.gone,Int.natCast_inj]
 | .meet t u=>by
  simp only[NT.ks,NT.vs]
  rw[List.zip_append (by simp[t.ks_len,t.vs_len,u.ks_len,u.vs_len]),List.zip_append (by rw[t.ks_len,t.vs_len]),CX,CX,D5 v t,D5 v u]
  simp[lsm,NT.gone]
end Go.Sx

namespace Go.Sx
theorem DC {α β:Type}{f g:α→List β}:∀{l:List α},(∀a∈l,f a=g a)→l.flatMap f=l.flatMap g
 |[],_=>rfl
 |a::l,h=>by
  simp only[List.flatMap_cons]
  rw[h a (List.mem_cons_self ..),DC (l:=l) λb hb=>h b (List.mem_cons_of_mem _ hb)]
def usN (s:Int):List Nat:=(elems s).map Int.toNat
def et (F:LI):NT→List (Nat×Nat)
 | .leaf=>[]
 | .add _ t=>et F t
 | .drop v t=>(usN (iand .u32 (F.getD v 0) (NT.drop v t).bag)).map (λu=>(v,u))++et F t
 | .meet t u=>et F t++et F u
def NT.fine (t:NT):Prop:=∀v,t.gone v+(if has t.bag v=true then 1 else 0)≤1
section
variable {n : Nat} (hn : n ≤ 16)
include hn
theorem EE {v:Nat}{t:NT}(ho:(NT.add v t).ok n)(h:(NT.add v t).fine):t.fine∧t.gone v=0:=by
 have hv:=ho.1
 refine⟨λw=> ?_,?_⟩
 ·have:=h w
  rw[E3 (by omega)] at this
  simp only[NT.gone] at this
  cases hw:has t.bag w with
  |true=>rw[hw] at this;simpa using this
  |false=>
   split at this
   ·simp;omega
   ·simpa using this
 ·have:=h v
  rw[E3 (by omega)] at this
  simp only[NT.gone,decide_true,Bool.or_true,if_true] at this
  omega
theorem Es {v:Nat}{t:NT}(ho:(NT.drop v t).ok n)(h:(NT.drop v t).fine):t.fine∧t.gone v=0:=by
 have hv:=ho.1
 have h0:t.gone v=0:=by
  have:=h v
  simp only[NT.gone,if_true] at this
  split at this<;>omega
 refine⟨λw=> ?_,h0⟩
 by_cases e:w=v
 ·subst e;rw[h0];split<;>omega
 ·have:=h w
  rw[EJ (by omega)] at this
  simp only[NT.gone,if_neg (λh=>e h.symm:¬v=w),decide_eq_false e,Bool.not_false,Bool.and_true] at this
  omega
theorem DZ {t u:NT}(ho:(NT.meet t u).ok n)(h:(NT.meet t u).fine):t.fine∧u.fine∧∀v,t.gone v+u.gone v≤1:=by
 refine⟨λw=> ?_,λw=> ?_,λw=> ?_⟩
 ·have hw:t.gone w+u.gone w+(if has t.bag w=true then 1 else 0)≤1:=h w
  omega
 ·have hw:t.gone w+u.gone w+(if has t.bag w=true then 1 else 0)≤1:=h w
  rw[←ho.1]
  omega
 ·have:=h w
  simp only[NT.gone] at this
  omega
end
end Go.Sx

namespace Go.Sx
def Pot (n:Nat)(h w:Nat→Nat→Nat)(a:Nat):Nat:=Dk (λk=>Dk (λu=>(if a≤k then w k u else 0)*h k u) n) (2^n)
def zer (n s:Nat):Nat:=Dk (λu=>bit (!s.testBit u)) n
structure Tab (n:Nat)(W:List (Nat→Int))(w:Nat→Nat→Nat):Prop where
 len:W.length=2^n
 at_:∀k (h:k<W.length) u,u<n→W[k] u=(w k u:Int)
section
variable {F : LI} {n : Nat} (hF : FOk F n) (h1 : 1 ≤ n) (h16 : n ≤ 16)
include hF h1 h16
end
end Go.Sx

namespace Go.Sx
section
variable {F : LI} {n : Nat} (hF : FOk F n) (h1 : 1 ≤ n) (h16 : n ≤ 16)
include hF h1 h16
end
end Go.Sx

namespace Go.Sx
section
variable {g : LL} (hg : GOk g)
include hg
end
end Go.Sx

namespace Go.Sx
section
variable {g : LL} (hg : GOk g)
include hg
end
end Go.Sx

namespace Go.Sx
section
variable {g : LL} (hg : GOk g)
include hg
end
end Go.Sx

namespace Go.Sx
theorem bit64z {s:Int}(h:VS s){v:Nat}(hv:v<64):(iand .i64 (BZ .i64 s (v:Int)) 1==0)= !has s v:=by
 have h1:=bit64 h hv
 have hb:iand .i64 (BZ .i64 s (v:Int)) 1=0∨iand .i64 (BZ .i64 s (v:Int)) 1=1:=by
  rw[shr64 h v hv]
  have hlt:s.toNat>>>v<4294967296:=by
   obtain⟨m,rfl,hm⟩:=h.nat
   rw[Nat.shiftRight_eq_div_pow]
   exact Nat.lt_of_le_of_lt (Nat.div_le_self _ _) hm
  rw[show (1:Int)=((1:Nat):Int) from rfl,and64 hlt (by omega),Nat.and_one_is_mod]
  omega
 rw[←h1]
 rcases hb with e|e<;>rw[e]<;>rfl
theorem andnot64 {a b:Int}(ha:VS a)(hb:VS b):iandNot .i64 a b=iandNot .u32 a b:=by
 obtain⟨m,rfl,hm⟩:=ha.nat;obtain⟨n,rfl,hn⟩:=hb.nat
 have hle:(BitVec.ofInt 64 (m:Int)&&& ~~~(BitVec.ofInt 64 (n:Int))).toNat≤m:=by
  rw[BitVec.toNat_and,CV m (by omega)];exact Nat.and_le_left
 have e:iandNot .i64 (m:Int) (n:Int)=(((BitVec.ofInt 64 (m:Int)&&& ~~~(BitVec.ofInt 64 (n:Int))).toNat:Nat):Int):=by
  show IntKind.i64.wrap (((BitVec.ofInt 64 (m:Int)&&& ~~~(BitVec.ofInt 64 (n:Int))).toNat:Nat):Int)=_
  rw[w64 (by omega) (by omega)]
 rw[e]
 refine VS.ext ⟨by omega,by omega⟩ (VS.iandNot _ _) (λv hv=> ?_)
 have h1:(BitVec.ofInt 64 (m:Int)).getLsbD v=m.testBit v:=by rw[BitVec.getLsbD,CV m (by omega)]
 have h2:(BitVec.ofInt 64 (n:Int)).getLsbD v=n.testBit v:=by rw[BitVec.getLsbD,CV n (by omega)]
 rw[A8 ⟨by omega,by omega⟩ ⟨by omega,by omega⟩,B7,B7,B7,←BitVec.getLsbD,BitVec.getLsbD_and,BitVec.getLsbD_not,h1,h2]
 simp[show v<64 by omega]
section
variable {n : Nat} (hn : n ≤ 16) {F : LI} (hF : FOk F n)
include hn hF
end
end Go.Sx

namespace Go.Sx
section
variable {n : Nat} (hn : n ≤ 7) {F : LI} (hF : FOk F n)
include hn hF
end
end Go.Sx

namespace Go.Sx
section
variable {τ : Type} {n : Nat} {L : NS} {step : List τ × Int → Option ((List τ × Int) ⊕ List τ)} (Tab : NT → τ)
 (hleaf:∀(tabs:List τ) (i:Nat),At4 L i 1 (-1) [] []→tabs.length=i→step (tabs,(i:Int))=some (.inl (tabs++[Tab .leaf],((i+1:Nat):Int))))
 (hadd:∀(tabs:List τ) (i j v:Nat) (t:NT),(NT.add v t).ok n→(NT.add v t).fine→At4 L i 2 v (elems (NT.add v t).bag) [(j:Int)]→L.2.2.1[j]? =some (elems t.bag)→tabs[j]? =some (Tab t)→tabs.length=i→step (tabs,(i:Int))=some (.inl (tabs++[Tab (.add v t)],((i+1:Nat):Int))))
 (hdrop:∀(tabs:List τ) (i j v:Nat) (t:NT),(NT.drop v t).ok n→(NT.drop v t).fine→At4 L i 3 v (elems (NT.drop v t).bag) [(j:Int)]→L.2.2.1[j]? =some (elems t.bag)→tabs[j]? =some (Tab t)→tabs.length=i→step (tabs,(i:Int))=some (.inl (tabs++[Tab (.drop v t)],((i+1:Nat):Int))))
 (hmeet:∀(tabs:List τ) (i j k:Nat) (t u:NT),(NT.meet t u).ok n→(NT.meet t u).fine→At4 L i 4 (-1) (elems t.bag) [(j:Int),(k:Int)]→tabs[j]? =some (Tab t)→tabs[k]? =some (Tab u)→tabs.length=i→step (tabs,(i:Int))=some (.inl (tabs++[Tab (.meet t u)],((i+1:Nat):Int))))
include hleaf hadd hdrop hmeet
theorem Fx (hn:n≤16):∀(t:NT) (s:Nat) (tabs:List τ),t.ok n→t.fine→Lies L s t→tabs.length=s→
  ∃tb:List τ,Az step (tabs,(s:Int))=Az step (tabs++tb,((s+t.size:Nat):Int))∧tb.length=t.size∧(tabs++tb)[s+t.size-1]? =some (Tab t)
 | .leaf,s,tabs,_,_,h,hl=>⟨[Tab .leaf],Cp (hleaf tabs s h.leaf hl),rfl,by
   rw[List.getElem?_append_right (by simp[NT.size];omega)]
   simp[NT.size,hl]⟩
 | .add v t,s,tabs,ho,hf,h,hl=>by
  obtain⟨g1,g2⟩:=h.add
  have hp:=t.size_pos
  obtain⟨tb,e1,e2,e3⟩:=Fx hn t s tabs ho.2.2 (EE hn ho hf).1 g1 hl
  have hlen:(tabs++tb).length=s+t.size:=by rw[List.length_append];omega
  refine⟨tb++[Tab (.add v t)],?_,by simp[e2,NT.size],?_⟩
  ·rw[e1,Cp (hadd (tabs++tb) (s+t.size) (s+t.size-1) v t ho hf g2 g1.last e3 hlen),List.append_assoc];rfl
  ·rw[←List.append_assoc,List.getElem?_append_right (by simp only[NT.size];omega)]
   simp only[NT.size]
   rw[show s+(t.size+1)-1-(tabs++tb).length=0 by omega];rfl
 | .drop v t,s,tabs,ho,hf,h,hl=>by
  obtain⟨g1,g2⟩:=h.drop
  have hp:=t.size_pos
  obtain⟨tb,e1,e2,e3⟩:=Fx hn t s tabs ho.2.2 (Es hn ho hf).1 g1 hl
  have hlen:(tabs++tb).length=s+t.size:=by rw[List.length_append];omega
  refine⟨tb++[Tab (.drop v t)],?_,by simp[e2,NT.size],?_⟩
  ·rw[e1,Cp (hdrop (tabs++tb) (s+t.size) (s+t.size-1) v t ho hf g2 g1.last e3 hlen),List.append_assoc];rfl
  ·rw[←List.append_assoc,List.getElem?_append_right (by simp only[NT.size];omega)]
   simp only[NT.size]
   rw[show s+(t.size+1)-1-(tabs++tb).length=0 by omega];rfl
 | .meet t u,s,tabs,ho,hf,h,hl=>by
  obtain⟨g1,g2,g3⟩:=h.meet
  have hp:=t.size_pos;have hq:=u.size_pos
  obtain⟨f1,f2,_⟩:=DZ hn ho hf
  obtain⟨tb,e1,e2,e3⟩:=Fx hn t s tabs ho.2.1 f1 g1 hl
  have hlen:(tabs++tb).length=s+t.size:=by rw[List.length_append];omega
  obtain⟨tb',d1,d2,d3⟩:=Fx hn u (s+t.size) (tabs++tb) ho.2.2 f2 g2 hlen
  have hlen':(tabs++tb++tb').length=s+t.size+u.size:=by rw[List.length_append];omega
  refine⟨tb++tb'++[Tab (.meet t u)],?_,by simp[e2,d2,NT.size];omega,?_⟩
  ·rw[e1,d1,Cp (hmeet (tabs++tb++tb') (s+t.size+u.size) (s+t.size-1) (s+t.size+u.size-1) t u ho hf g3 (by rw[List.getElem?_append_left (by omega)];exact e3) d3 hlen')]
   simp only[NT.size,List.append_assoc,Nat.add_assoc]
  ·rw[←List.append_assoc,←List.append_assoc,List.getElem?_append_right (by simp only[NT.size];omega)]
   simp only[NT.size]
   rw[show s+(t.size+u.size+1)-1-(tabs++tb++tb').length=0 by omega];rfl
end
theorem run_tree_bind {β:Type}{τ:Type}{n:Nat}{T:NT}{step:List τ×Int→Option ((List τ×Int) ⊕ List τ)}{k:List τ→Option β}{r:β}(Tab:NT→τ)(hn:n≤16)(ho:T.ok n)(hf:T.fine)
  (hleaf:∀(tabs:List τ) (i:Nat),i<T.size→At4 (A7 T) i 1 (-1) [] []→tabs.length=i→step (tabs,(i:Int))=some (.inl (tabs++[Tab .leaf],((i+1:Nat):Int))))
  (hadd:∀(tabs:List τ) (i j v:Nat) (t:NT),i<T.size→(NT.add v t).ok n→(NT.add v t).fine→At4 (A7 T) i 2 v (elems (NT.add v t).bag) [(j:Int)]→(A7 T).2.2.1[j]? =some (elems t.bag)→tabs[j]? =some (Tab t)→tabs.length=i→step (tabs,(i:Int))=some (.inl (tabs++[Tab (.add v t)],((i+1:Nat):Int))))
  (hdrop:∀(tabs:List τ) (i j v:Nat) (t:NT),i<T.size→(NT.drop v t).ok n→(NT.drop v t).fine→At4 (A7 T) i 3 v (elems (NT.drop v t).bag) [(j:Int)]→(A7 T).2.2.1[j]? =some (elems t.bag)→tabs[j]? =some (Tab t)→tabs.length=i→step (tabs,(i:Int))=some (.inl (tabs++[Tab (.drop v t)],((i+1:Nat):Int))))
  (hmeet:∀(tabs:List τ) (i j k:Nat) (t u:NT),i<T.size→(NT.meet t u).ok n→(NT.meet t u).fine→At4 (A7 T) i 4 (-1) (elems t.bag) [(j:Int),(k:Int)]→tabs[j]? =some (Tab t)→tabs[k]? =some (Tab u)→tabs.length=i→step (tabs,(i:Int))=some (.inl (tabs++[Tab (.meet t u)],((i+1:Nat):Int))))
  (hend:∀tabs:List τ,tabs.length=T.size→step (tabs,(T.size:Int))=some (.inr tabs)) (hk:∀tabs:List τ,tabs.length=T.size→tabs[T.size-1]? =some (Tab T)→k tabs=some r):(Az step ([],0)).bind k=some r:=by
 have hlt:∀{i:Nat} {a b:Int} {c d:LI},At4 (A7 T) i a b c d→i<T.size:=λh=>by
  have:=(List.getElem?_eq_some_iff.1 h.k).1
  rwa [show (A7 T).1.length=T.size from T.ks_len] at this
 obtain⟨tb,e1,e2,e3⟩:=Fx (n:=n) (L:=A7 T) Tab (λtabs i h=>hleaf tabs i (hlt h) h) (λtabs i j v t a b h=>hadd tabs i j v t (hlt h) a b h) (λtabs i j v t a b h=>hdrop tabs i j v t (hlt h) a b h) (λtabs i j k t u a b h=>hmeet tabs i j k t u (hlt h) a b h) hn T 0 [] ho hf (Lies.self T) rfl
 rw[List.nil_append,Nat.zero_add] at e1
 rw[List.nil_append,Nat.zero_add] at e3
 have e1:Az step ([],0)=_:=e1
 rw[e1,CB (hend tb e2),bs]
 exact hk tb e2 e3
theorem FC {α β:Type}{e:Option α}{f:α→Option β}{x:α}{r:Option β}(h:e=some x)(h2:f x=r):e.bind f=r:=by rw[h];exact h2
theorem addC :OpC (λa b:Int=>a+b):=⟨Int.add_comm,Int.add_assoc⟩
def Du {K:Type}(X:List (K×Int)):Int:=(X.map (·.2)).foldr (·+·) 0
theorem DQ {K:Type}(X Y:List (K×Int)):Du (X++Y)=Du X+Du Y:=by
 induction X with
 |nil=>simp[Du]
 |cons x X ih=>simp only[Du,List.cons_append,List.map_cons,List.foldr_cons] at ih ⊢;rw[ih];omega
structure SmI2 {K:Type}(X:List (K×Int)):Prop where
 nn:∀p∈X,0≤p.2
 tot:Du X≤2^60
theorem GX {K:Type}:∀{X:List (K×Int)},(∀p∈X,0≤p.2)→0≤Du X
 |[],_=>Int.le_refl _
 |x::X,h=>by
  have h1:=h x (List.mem_cons_self ..)
  have h2:=GX (X:=X) λp hp=>h p (List.mem_cons_of_mem _ hp)
  have:Du (x::X)=x.2+Du X:=rfl
  omega
theorem SmI2.left {K:Type}{X Y:List (K×Int)}(h:SmI2 (X++Y)):SmI2 X:=by
 have h1:=GX (X:=Y) λp hp=>h.nn p (List.mem_append_right _ hp)
 have h2:=h.tot
 rw[DQ] at h2
 exact⟨λp hp=>h.nn p (List.mem_append_left _ hp),by omega⟩
theorem SmI2.right {K:Type}{X Y:List (K×Int)}(h:SmI2 (X++Y)):SmI2 Y:=by
 have h1:=GX (X:=X) λp hp=>h.nn p (List.mem_append_left _ hp)
 have h2:=h.tot
 rw[DQ] at h2
 exact⟨λp hp=>h.nn p (List.mem_append_right _ hp),by omega⟩
theorem SmI2.one {K:Type}{k:K}{x:Int}(h:SmI2 [(k,x)]):0≤x∧x≤2^60:=by
 have h1:=h.nn (k,x) (List.mem_cons_self ..)
 have h2:=h.tot
 have:Du [(k,x)]=x+0:=rfl
 exact⟨h1,by omega⟩
section
variable {K K' : Type} [DecidableEq K] [DecidableEq K']
theorem tab_le {X:List (K×Int)}(hn:∀p∈X,0≤p.2){k:K}{y:Int}(h:AS (λa b=>a+b) X k=some y):0≤y∧y≤Du X:=by
 induction X generalizing y with
 |nil=>cases h
 |cons x X ih=>
  have h0:=hn x (List.mem_cons_self ..)
  have hn':=λp hp=>hn p (List.mem_cons_of_mem x hp)
  have ht:=GX hn'
  have e:Du (x::X)=x.2+Du X:=rfl
  have e1:AS (λa b=>a+b) (x::X) k=opO (λa b=>a+b) (atK k x) (AS (λa b=>a+b) X k):=rfl
  rw[e1] at h
  unfold atK at h
  split at h
  ·cases hx:AS (λa b=>a+b) X k with
   |none=>rw[hx,DS] at h;cases h;omega
   |some z=>
    rw[hx] at h
    have:=ih hn' hx
    have h:x.2+z=y:=Option.some.inj h
    omega
  ·have:=ih hn' h
   omega
theorem sumO_tot {K:Type}(X:List (K×Int)):X=[]∨BV (λa b=>a+b) (λp:K×Int=>some p.2) X=some (Du X):=by
 induction X with
 |nil=>exact .inl rfl
 |cons x X ih=>
  right
  rw[BV]
  rcases ih with rfl|ih
  ·show some x.2=some (x.2+0)
   rw[Int.add_zero]
  ·rw[ih];rfl
theorem tot_eq {K:Type}{X Y:List (K×Int)}(h:BV (λa b=>a+b) (λp:K×Int=>some p.2) X=BV (λa b=>a+b) (λp:K×Int=>some p.2) Y):Du X=Du Y:=by
 rcases sumO_tot X with rfl|h1
 ·rcases sumO_tot Y with rfl|h2
  ·rfl
  ·rw[h2] at h;cases h
 ·rcases sumO_tot Y with rfl|h2
  ·rw[h1] at h;cases h
  ·rw[h1,h2] at h;exact Option.some.inj h
theorem F3 {em:K→List (K'×(Int→Int))}(hom:∀k,∀c∈em k,∀a b,c.2 (a+b)=c.2 a+c.2 b)(hnn:∀k,∀c∈em k,∀a,0≤a→0≤c.2 a){P:List (K×Int)}(hP:∀p∈P,0≤p.2){Q:List (K'×Int)}
  (hB:SmI2 (Q++P.flatMap (BS em))) {body:K×Int→(K'→Option Int)→Option (K'→Option Int)}
  (hbody:∀e Q',(∃p∈P,p.1=e.1)→0≤e.2→SmI2 (Q'++BS em e)→body e (AS (λa b=>a+b) Q')=some (AS (λa b=>a+b) (Q'++BS em e))):
  BU (AS (λa b=>a+b) P) body (AS (λa b=>a+b) Q)=some (AS (λa b=>a+b) (Q++P.flatMap (BS em))):=by
 refine rangeF_tab addC hom λl hl l1 e l2 he=> ?_
 have hln:∀p∈l,0≤p.2:=λp hp=>(tab_le hP ((hl.2 p.1 p.2).2 hp)).1
 have htot:Du (l.flatMap (BS em))=Du (P.flatMap (BS em)):=by
  refine tot_eq ?_
  rw[DX addC,DX addC]
  have e:∀p:K×Int,BV (λa b=>a+b) (λp:K'×Int=>some p.2) (BS em p)=BV (λa b=>a+b) (λc:K'×(Int→Int)=>some (c.2 p.2)) (em p.1):=λp=>sumO_map _ _ _
  simp only[e]
  refine group_sum addC hl (λk x=>BV (λa b=>a+b) (λc:K'×(Int→Int)=>some (c.2 x)) (em k)) λk a b=> ?_
  rw[←GO addC]
  exact Dz λc hc=>by rw[hom k c hc];rfl
 have hlB:SmI2 (Q++l.flatMap (BS em)):=by
  refine⟨λp hp=> ?_,?_⟩
  ·rcases List.mem_append.1 hp with hp|hp
   ·exact hB.nn p (List.mem_append_left _ hp)
   ·obtain⟨q,hq,hp⟩:=List.mem_flatMap.1 hp
    obtain⟨c,hc,rfl⟩:=List.mem_map.1 hp
    exact hnn _ c hc _ (hln q hq)
  ·rw[DQ,htot,←DQ];exact hB.tot
 rw[he,List.flatMap_append,List.flatMap_cons,←List.append_assoc,←List.append_assoc] at hlB
 have hel:e∈l:=by rw[he];simp
 have hkey:∃p∈P,p.1=e.1:=by
  apply Classical.byContradiction
  intro hn
  have h1:=(hl.2 e.1 e.2).2 hel
  have h2:AS (λa b=>a+b) P e.1=BV (λa b=>a+b) (λ_=>none) P:=Dz λp hp=>if_neg λh=>hn ⟨p,hp,h⟩
  rw[h2,ET] at h1
  cases h1
 have:=hbody e (Q++l1.flatMap (BS em)) hkey (hln e hel) hlB.left
 rw[this,List.append_assoc]
theorem Gn {op:Int→Int→Int}(ho:OpC op){Q:List (K×Int)}{k:K}(hk:∀p∈Q,p.1≠k)(x:Int):BN (AS op Q) k x=AS op (Q++[(k,x)]):=by
 rw[EZ ho]
 have:AS op Q k=none:=by
  have e:AS op Q k=BV op (λ_=>none) Q:=Dz λp hp=>if_neg (hk p hp)
  rw[e,ET]
 rw[this];rfl
end
end Go.Sx

namespace Go.Sx
def Dm (F:LI)(Y:Int)(v:Nat):Prop:=has Y v=true∨∃w,has Y w=true∧nb F v w=true
open Classical in
noncomputable def msk (n:Nat)(p:Nat→Prop):Int:=mk (((List.range n).filter λv=>decide (p v)).map Int.ofNat)
theorem msk_vs (n:Nat)(p:Nat→Prop):VS (msk n p):=VS.mk _
theorem has_msk {n:Nat}(hn:n≤16)(p:Nat→Prop)(v:Nat):has (msk n p) v=true↔v<n∧p v:=by
 unfold msk
 rw[CR (λx hx=>by
  obtain⟨w,hw,rfl⟩:=List.mem_map.1 hx
  have:=List.mem_range.1 (List.mem_filter.1 hw).1
  simp only[Int.ofNat_eq_natCast]
  omega),decide_eq_true_eq,List.mem_map]
 constructor
 ·rintro⟨w,hw,e⟩
  have:w=v:=by
   have e:(w:Int)=(v:Int):=e
   omega
  subst this
  have:=List.mem_filter.1 hw
  exact⟨List.mem_range.1 this.1,by simpa using this.2⟩
 ·rintro⟨h1,h2⟩
  exact⟨v,List.mem_filter.2 ⟨List.mem_range.2 h1,by simpa using h2⟩,rfl⟩
def NT.cl (F:LI)(t:NT):Prop:=∀v w,1≤t.gone v→nb F v w=true→1≤t.gone w∨has t.bag w=true
inductive Sub1 :NT→NT→Prop
 |refl {t:NT}:Sub1 t t
 |add {v:Nat} {s t:NT}:Sub1 s t→Sub1 s (.add v t)
 |drop {v:Nat} {s t:NT}:Sub1 s t→Sub1 s (.drop v t)
 |left {s t u:NT}:Sub1 s t→Sub1 s (.meet t u)
 |right {s t u:NT}:Sub1 s u→Sub1 s (.meet t u)
theorem Sub1.gone {s t:NT}(h:Sub1 s t)(v:Nat):s.gone v≤t.gone v:=by
 induction h with
 |refl=>exact Nat.le_refl _
 |add _ ih=>exact ih
 |drop _ ih=>simp only[NT.gone];omega
 |left _ ih=>simp only[NT.gone];omega
 |right _ ih=>simp only[NT.gone];omega
section
variable {n : Nat} (hn : n ≤ 16)
include hn
theorem EG {w:Nat}:∀t:NT,t.ok n→∀m∈t.bm,has m w=true→1≤t.gone w∨has t.bag w=true
 | .leaf,_,m,hm,hw=>by
  simp only[NT.bm,List.mem_singleton] at hm
  rw[hm,Bv] at hw;cases hw
 | .add v t,ho,m,hm,hw=>by
  simp only[NT.bm,List.mem_append,List.mem_singleton] at hm
  rcases hm with hm|rfl
  ·refine(EG t ho.2.2 m hm hw).imp id λh=> ?_
   rw[E3 (by have:=ho.1;omega),h];rfl
  ·exact .inr hw
 | .drop v t,ho,m,hm,hw=>by
  simp only[NT.bm,List.mem_append,List.mem_singleton] at hm
  rcases hm with hm|rfl
  ·simp only[NT.gone]
   rcases EG t ho.2.2 m hm hw with h|h
   ·left;omega
   ·by_cases e:v=w
    ·left;rw[if_pos e];omega
    ·right
     rw[EJ (by have:=ho.1;omega),h,decide_eq_false (λh=>e h.symm)];rfl
  ·exact .inr hw
 | .meet t u,ho,m,hm,hw=>by
  simp only[NT.bm,List.mem_append,List.mem_singleton] at hm
  simp only[NT.gone]
  rcases hm with(hm|hm)|rfl
  ·exact(EG t ho.2.1 m hm hw).imp (λh=>by omega) id
  ·refine(EG u ho.2.2 m hm hw).imp (λh=>by omega) λh=> ?_
   show has t.bag w=true
   rw[ho.1];exact h
  ·exact .inr hw
theorem Sub1.props {s T:NT}(h:Sub1 s T):T.ok n→T.fine→s.ok n∧s.fine∧∀v,1≤s.gone v→∀m∈T.bm,has m v=true→m∈s.bm:=by
 induction h with
 |refl=>exact λa b=>⟨a,b,λv _ m hm _=>hm⟩
 | @add v s t hs ih=>
  intro ho hf
  obtain⟨i1,i2,i3⟩:=ih ho.2.2 (EE hn ho hf).1
  refine⟨i1,i2,λw hw m hm hmw=> ?_⟩
  simp only[NT.bm,List.mem_append,List.mem_singleton] at hm
  rcases hm with hm|rfl
  ·exact i3 w hw m hm hmw
  ·have h1:=hf w
   have h2:=hs.gone w
   rw[hmw,if_pos rfl] at h1
   simp only[NT.gone] at h1
   omega
 | @drop v s t hs ih=>
  intro ho hf
  obtain⟨i1,i2,i3⟩:=ih ho.2.2 (Es hn ho hf).1
  refine⟨i1,i2,λw hw m hm hmw=> ?_⟩
  simp only[NT.bm,List.mem_append,List.mem_singleton] at hm
  rcases hm with hm|rfl
  ·exact i3 w hw m hm hmw
  ·have h1:=hf w
   have h2:=hs.gone w
   rw[hmw,if_pos rfl] at h1
   simp only[NT.gone] at h1
   omega
 | @left s t u hs ih=>
  intro ho hf
  obtain⟨f1,f2,f3⟩:=DZ hn ho hf
  obtain⟨i1,i2,i3⟩:=ih ho.2.1 f1
  refine⟨i1,i2,λw hw m hm hmw=> ?_⟩
  have h1:=hf w
  have h2:=hs.gone w
  have h3:=f3 w
  simp only[NT.bm,List.mem_append,List.mem_singleton] at hm
  rcases hm with(hm|hm)|rfl
  ·exact i3 w hw m hm hmw
  ·rcases EG hn u ho.2.2 m hm hmw with h|h
   ·omega
   ·rw[←ho.1] at h
    have h1:t.gone w+u.gone w+(if has t.bag w=true then 1 else 0)≤1:=h1
    rw[h,if_pos rfl] at h1
    omega
  ·have h1:t.gone w+u.gone w+(if has t.bag w=true then 1 else 0)≤1:=h1
   rw[hmw,if_pos rfl] at h1
   omega
 | @right s t u hs ih=>
  intro ho hf
  obtain⟨f1,f2,f3⟩:=DZ hn ho hf
  obtain⟨i1,i2,i3⟩:=ih ho.2.2 f2
  refine⟨i1,i2,λw hw m hm hmw=> ?_⟩
  have h1:=hf w
  have h2:=hs.gone w
  have h3:=f3 w
  have h1:t.gone w+u.gone w+(if has t.bag w=true then 1 else 0)≤1:=h1
  simp only[NT.bm,List.mem_append,List.mem_singleton] at hm
  rcases hm with(hm|hm)|rfl
  ·rcases EG hn t ho.2.1 m hm hmw with h|h
   ·omega
   ·rw[h,if_pos rfl] at h1
    omega
  ·exact i3 w hw m hm hmw
  ·rw[hmw,if_pos rfl] at h1
   omega
theorem cl_all {F:LI}(hF:FOk F n){T:NT}(ho:T.ok n)(hf:T.fine)(hcov:∀u v,u<n→nb F u v=true→∃m∈T.bm,has m u=true∧has m v=true){s:NT}(hs:Sub1 s T):s.cl F:=by
 intro v w hv hvw
 obtain⟨i1,i2,i3⟩:=hs.props hn ho hf
 have hvn:v<n:=by
  have:∀t:NT,t.ok n→1≤t.gone v→v<n:=by
   intro t
   induction t with
   |leaf=>intro _ h;cases h
   |add w t ih=>intro h;exact ih h.2.2
   |drop w t ih=>
    intro h h1
    simp only[NT.gone] at h1
    by_cases e:w=v
    ·rw[←e];exact h.1
    ·rw[if_neg e] at h1;exact ih h.2.2 h1
   |meet t u j1 j2=>
    intro h h1
    simp only[NT.gone] at h1
    rcases Nat.eq_zero_or_pos (t.gone v) with h0|h0
    ·exact j2 h.2.2 (by omega)
    ·exact j1 h.2.1 h0
  exact this s i1 hv
 obtain⟨m,hm,h1,h2⟩:=hcov v w hvn hvw
 exact EG hn s i1 m (i3 v hv m hm h1) h2
variable {F : LI} (hF : FOk F n)
include hF
end
end Go.Sx

namespace Go.Sx
theorem E9 {α β:Type}{f:α→List β}:∀{l:List α},l.Nodup→(∀a∈l,(f a).Nodup)→(∀a∈l,∀b∈l,∀x,x∈f a→x∈f b→a=b)→(l.flatMap f).Nodup
 |[],_,_,_=>List.nodup_nil
 |a::l,h,h1,h2=>by
  rw[List.nodup_cons] at h
  rw[List.flatMap_cons,List.nodup_append]
  refine⟨h1 a (List.mem_cons_self ..),E9 h.2 (λb hb=>h1 b (List.mem_cons_of_mem _ hb)) (λb hb c hc=>h2 b (List.mem_cons_of_mem _ hb) c (List.mem_cons_of_mem _ hc)),?_⟩
  intro x hx y hy e
  subst e
  obtain⟨b,hb,hy⟩:=List.mem_flatMap.1 hy
  have:=h2 a (List.mem_cons_self ..) b (List.mem_cons_of_mem _ hb) x hx hy
  subst this
  exact h.1 hb
def NT.dm (t:NT)(v:Nat):Prop:=1≤t.gone v∨has t.bag v=true
instance (t :NT)(v:Nat):Decidable (t.dm v):=inferInstanceAs (Decidable (_∨_))
def BW (a:Nat→Int)(v:Nat)(c:Int):Nat→Int:=λw=>if w=v then c else a w
def fitA (F:LI)(cf:Int→Int→Bool)(b:Int)(v:Nat)(a:Nat→Int)(c:Int):Bool:=(elems (iand .u32 (F.getD v 0) b)).all λu=> !cf (a u.toNat) c
def LLa (F:LI)(al:LI)(cf:Int→Int→Bool):NT→List (Nat→Int)
 | .leaf=>[λ_=>0]
 | .add v t=>(LLa F al cf t).flatMap λa=>(al.filter λc=>fitA F cf t.bag v a c).map λc=>BW a v c
 | .drop _ t=>LLa F al cf t
 | .meet t u=>(LLa F al cf t).flatMap λa=>((LLa F al cf u).filter λb=>(elems t.bag).all λx=>a x.toNat==b x.toNat).map λb=>λw=>if t.dm w then a w else b w
structure Asn (F:LI)(al:LI)(cf:Int→Int→Bool)(t:NT)(a:Nat→Int):Prop where
 at_:∀v,t.dm v→a v∈al
 out:∀v,¬t.dm v→a v=0
 ok:∀u w,t.dm u→t.dm w→nb F u w=true→cf (a u) (a w)=false
section
variable {n : Nat} (hn : n ≤ 16)
include hn
theorem NT.dm_lt {t:NT}(ho:t.ok n){v:Nat}(h:t.dm v):v<n:=by
 rcases h with h|h
 ·have hlt:∀t:NT,t.ok n→1≤t.gone v→v<n:=by
   intro t
   induction t with
   |leaf=>intro _ h;cases h
   |add z t ih=>intro h;exact ih h.2.2
   |drop z t ih=>
    intro h h1
    simp only[NT.gone] at h1
    by_cases e:z=v
    ·rw[←e];exact h.1
    ·rw[if_neg e] at h1;exact ih h.2.2 h1
   |meet t u j1 j2=>
    intro h h1
    simp only[NT.gone] at h1
    rcases Nat.eq_zero_or_pos (t.gone v) with h0|h0
    ·exact j2 h.2.2 (by omega)
    ·exact j1 h.2.1 h0
  exact hlt t ho h
 ·exact(t.In_bag hn ho).2 v h
theorem dm_add {v:Nat}{t:NT}(ho:(NT.add v t).ok n)(w:Nat):(NT.add v t).dm w↔t.dm w∨w=v:=by
 unfold NT.dm
 rw[E3 (by have:=ho.1;omega),Bool.or_eq_true,decide_eq_true_eq]
 show (1≤t.gone w∨_)↔_
 rw[or_assoc]
theorem dm_drop {v:Nat}{t:NT}(ho:(NT.drop v t).ok n)(w:Nat):(NT.drop v t).dm w↔t.dm w:=by
 unfold NT.dm
 rw[EJ (by have:=ho.1;omega)]
 simp only[NT.gone]
 have hb:=ho.2.1
 by_cases e:v=w
 ·subst e
  rw[if_pos rfl,hb]
  exact⟨λ_=> .inr rfl,λ_=> .inl (by omega)⟩
 ·rw[if_neg e,decide_eq_false (λh=>e h.symm)]
  simp
omit hn in
theorem dm_meet {t u:NT}(ho:(NT.meet t u).ok n)(w:Nat):(NT.meet t u).dm w↔t.dm w∨u.dm w:=by
 unfold NT.dm
 show (1≤t.gone w+u.gone w∨has t.bag w=true)↔_
 rw[←ho.1]
 constructor
 ·rintro(h|h)
  ·rcases Nat.eq_zero_or_pos (t.gone w) with h0|h0
   ·exact .inr (.inl (by omega))
   ·exact .inl (.inl h0)
  ·exact .inl (.inr h)
 ·rintro((h|h)|h|h)
  ·exact .inl (by omega)
  ·exact .inr h
  ·exact .inl (by omega)
  ·exact .inr h
variable {F : LI} (hF : FOk F n) {al : LI} {cf : Int → Int → Bool} (hcf : ∀ x y, cf x y = cf y x)
include hF
theorem Gg {t:NT}(ho:t.ok n){v:Nat}(hv:v<n){a:Nat→Int}{c:Int}:fitA F cf t.bag v a c=true↔∀u,nb F v u=true→has t.bag u=true→cf (a u) c=false:=by
 have hb:=t.In_bag hn ho
 unfold fitA
 rw[List.all_eq_true]
 constructor
 ·intro h u h1 h2
  have:=h (u:Int) ((AT (VS.iand _ _)).2 (by rw[B8 (hF.vs v hv) hb.1,Bool.and_eq_true];exact⟨h1,h2⟩))
  rw[Int.toNat_natCast,Bool.not_eq_true'] at this
  exact this
 ·intro h x hx
  obtain⟨u,_,hu,rfl⟩:=mem_elems.1 hx
  rw[B8 (hF.vs v hv) hb.1,Bool.and_eq_true] at hu
  rw[Int.toNat_natCast,Bool.not_eq_true']
  exact h u hu.1 hu.2
include hcf
theorem Fm :∀t:NT,t.ok n→t.fine→(∀s,Sub1 s t→s.cl F)→∀a,(a∈LLa F al cf t↔Asn F al cf t a)
 | .leaf,_,_,_,a=>by
  have hno:∀v,¬NT.leaf.dm v:=λv h=>by
   rcases h with h|h
   ·cases h
   ·rw[show NT.leaf.bag=0 from rfl,Bv] at h;cases h
  rw[LLa,List.mem_singleton]
  constructor
  ·rintro rfl
   exact⟨λv h=>absurd h (hno v),λ_ _=>rfl,λu _ h=>absurd h (hno u)⟩
  ·intro h
   exact funext λv=>h.out v (hno v)
 | .add v t,ho,hf,hcl,a'=>by
  obtain⟨f1,f2⟩:=EE hn ho hf
  have hv:=ho.1
  have hbv:=ho.2.1
  have ih:=Fm t ho.2.2 f1 (λs hs=>hcl s hs.add)
  have ht:=hcl t (Sub1.refl.add)
  have hd:=dm_add hn ho
  have hvd:¬t.dm v:=λh=>by
   rcases h with h|h
   ·omega
   ·rw[hbv] at h;cases h
  have hne:∀w,t.dm w→w≠v:=λw hw e=>hvd (e▸hw)
  have hnear:∀w,t.dm w→nb F v w=true→has t.bag w=true:=λw hw h=>by
   rcases hw with h1|h1
   ·exact absurd (ht w v h1 (hF.sym _ _ hv h)) hvd
   ·exact h1
  rw[LLa,List.mem_flatMap]
  constructor
  ·rintro⟨a,ha,hm⟩
   obtain⟨c,hc,rfl⟩:=List.mem_map.1 hm
   rw[List.mem_filter,Gg hn hF ho.2.2 hv] at hc
   have h:=(ih a).1 ha
   refine⟨λw hw=> ?_,λw hw=> ?_,λx y hx hy hxy=> ?_⟩
   ·unfold BW
    split
    ·exact hc.1
    ·rename_i e
     exact h.at_ w (((hd w).1 hw).resolve_right e)
   ·unfold BW
    rw[if_neg (λe=>hw ((hd w).2 (.inr e)))]
    exact h.out w λhh=>hw ((hd w).2 (.inl hh))
   ·unfold BW
    rcases(hd x).1 hx with h1|e1
    ·rcases(hd y).1 hy with h2|e2
     ·rw[if_neg (hne x h1),if_neg (hne y h2)]
      exact h.ok x y h1 h2 hxy
     ·rw[if_neg (hne x h1),if_pos e2]
      have hyx:=hF.sym _ _ (NT.dm_lt hn ho.2.2 h1) hxy
      rw[e2] at hyx
      exact hc.2 x hyx (hnear x h1 hyx)
    ·rw[e1] at hxy
     rcases(hd y).1 hy with h2|e2
     ·rw[if_pos e1,if_neg (hne y h2),hcf]
      exact hc.2 y hxy (hnear y h2 hxy)
     ·rw[e2,hF.irr _ hv] at hxy;cases hxy
  ·intro h
   refine⟨BW a' v 0,(ih _).2 ⟨λw hw=> ?_,λw hw=> ?_,λx y hx hy hxy=> ?_⟩,List.mem_map.2 ⟨a' v,List.mem_filter.2 ⟨h.at_ v ((hd v).2 (.inr rfl)),(Gg hn hF ho.2.2 hv).2 λw h1 h2=> ?_⟩,?_⟩⟩
   ·unfold BW
    rw[if_neg (hne w hw)]
    exact h.at_ w ((hd w).2 (.inl hw))
   ·unfold BW
    split
    ·rfl
    ·rename_i e
     exact h.out w λhh=>((hd w).1 hh).elim hw e
   ·unfold BW
    rw[if_neg (hne x hx),if_neg (hne y hy)]
    exact h.ok x y ((hd x).2 (.inl hx)) ((hd y).2 (.inl hy)) hxy
   ·unfold BW
    rw[if_neg (hne w (.inr h2)),hcf]
    exact h.ok v w ((hd v).2 (.inr rfl)) ((hd w).2 (.inl (.inr h2))) h1
   ·funext w
    unfold BW
    by_cases e:w=v
    ·rw[if_pos e,e]
    ·rw[if_neg e,if_neg e]
 | .drop v t,ho,hf,hcl,a=>by
  obtain⟨f1,f2⟩:=Es hn ho hf
  have ih:=Fm t ho.2.2 f1 (λs hs=>hcl s hs.drop) a
  have hd:=dm_drop hn ho
  rw[LLa,ih]
  constructor
  ·intro h
   exact⟨λw hw=>h.at_ w ((hd w).1 hw),λw hw=>h.out w λhh=>hw ((hd w).2 hh),λx y hx hy=>h.ok x y ((hd x).1 hx) ((hd y).1 hy)⟩
  ·intro h
   exact⟨λw hw=>h.at_ w ((hd w).2 hw),λw hw=>h.out w λhh=>hw ((hd w).1 hh),λx y hx hy=>h.ok x y ((hd x).2 hx) ((hd y).2 hy)⟩
 | .meet t u,ho,hf,hcl,m=>by
  obtain⟨f1,f2,f3⟩:=DZ hn ho hf
  have i1:=Fm t ho.2.1 f1 (λs hs=>hcl s hs.left)
  have i2:=Fm u ho.2.2 f2 (λs hs=>hcl s hs.right)
  have c1:=hcl t (Sub1.refl.left)
  have c2:=hcl u (Sub1.refl.right)
  have hd:=dm_meet ho
  have hb:=t.In_bag hn ho.2.1
  have hboth:∀w,t.dm w→u.dm w→has t.bag w=true:=λw h1 h2=>by
   rcases h1 with h1|h1
   ·rcases h2 with h2|h2
    ·have:=f3 w;omega
    ·rw[ho.1];exact h2
   ·exact h1
  have hag:∀a b:Nat→Int,((elems t.bag).all λx=>a x.toNat==b x.toNat)=true↔∀w,has t.bag w=true→a w=b w:=λa b=>by
   rw[List.all_eq_true]
   constructor
   ·intro h w hw
    have:=h (w:Int) ((AT hb.1).2 hw)
    rw[Int.toNat_natCast,beq_iff_eq] at this
    exact this
   ·intro h x hx
    obtain⟨w,_,hw,rfl⟩:=mem_elems.1 hx
    rw[Int.toNat_natCast,beq_iff_eq]
    exact h w hw
  rw[LLa,List.mem_flatMap]
  constructor
  ·rintro⟨a,ha,hm⟩
   obtain⟨b,hb',rfl⟩:=List.mem_map.1 hm
   rw[List.mem_filter,hag] at hb'
   have h1:=(i1 a).1 ha
   have h2:=(i2 b).1 hb'.1
   have hm:∀w,u.dm w→(if t.dm w then a w else b w)=b w:=λw hw=>by
    split
    ·rename_i hh
     exact hb'.2 w (hboth w hh hw)
    ·rfl
   refine⟨λw hw=> ?_,λw hw=> ?_,λx y hx hy hxy=> ?_⟩
   ·rcases(hd w).1 hw with hw|hw
    ·rw[if_pos hw];exact h1.at_ w hw
    ·rw[hm w hw];exact h2.at_ w hw
   ·rw[if_neg (λhh=>hw ((hd w).2 (.inl hh)))]
    exact h2.out w λhh=>hw ((hd w).2 (.inr hh))
   ·have hn':=NT.dm_lt hn ho hx
    rcases(hd x).1 hx with h3|h3
    ·by_cases h4:t.dm y
     ·rw[if_pos h3,if_pos h4];exact h1.ok x y h3 h4 hxy
     ·have h5:=((hd y).1 hy).resolve_left h4
      have h6:u.dm x:=by
       rcases h3 with h3|h3
       ·exact absurd (c1 x y h3 hxy) h4
       ·exact .inr (by rw[←ho.1];exact h3)
      rw[hm x h6,hm y h5];exact h2.ok x y h6 h5 hxy
    ·by_cases h4:u.dm y
     ·rw[hm x h3,hm y h4];exact h2.ok x y h3 h4 hxy
     ·have h5:=((hd y).1 hy).resolve_right h4
      have h6:t.dm x:=by
       rcases h3 with h3|h3
       ·exact absurd (c2 x y h3 hxy) h4
       ·exact .inr (by rw[ho.1];exact h3)
      rw[if_pos h6,if_pos h5];exact h1.ok x y h6 h5 hxy
  ·intro h
   refine⟨λw=>if t.dm w then m w else 0,(i1 _).2 ⟨λw hw=> ?_,λw hw=> ?_,λx y hx hy hxy=> ?_⟩,List.mem_map.2 ⟨λw=>if u.dm w then m w else 0,List.mem_filter.2 ⟨(i2 _).2 ⟨λw hw=> ?_,λw hw=> ?_,λx y hx hy hxy=> ?_⟩,(hag (λw=>if t.dm w then m w else 0) (λw=>if u.dm w then m w else 0)).2 λw hw=> ?_⟩,?_⟩⟩
   ·rw[if_pos hw];exact h.at_ w ((hd w).2 (.inl hw))
   ·rw[if_neg hw]
   ·rw[if_pos hx,if_pos hy];exact h.ok x y ((hd x).2 (.inl hx)) ((hd y).2 (.inl hy)) hxy
   ·rw[if_pos hw];exact h.at_ w ((hd w).2 (.inr hw))
   ·rw[if_neg hw]
   ·rw[if_pos hx,if_pos hy];exact h.ok x y ((hd x).2 (.inr hx)) ((hd y).2 (.inr hy)) hxy
   ·have h1:t.dm w:= .inr hw
    have h2:u.dm w:= .inr (by rw[←ho.1];exact hw)
    rw[if_pos h1,if_pos h2]
   ·funext w
    by_cases h1:t.dm w
    ·rw[if_pos h1];exact if_pos h1
    ·rw[if_neg h1]
     by_cases h2:u.dm w
     ·exact if_pos h2
     ·exact(if_neg h2).trans (h.out w λhh=>((hd w).1 hh).elim h1 h2).symm
omit hF hcf in
theorem Dj :∀t:NT,t.ok n→∀a∈LLa F al cf t,(∀v,t.dm v→a v∈al)∧∀v,¬t.dm v→a v=0
 | .leaf,_,a,ha=>by
  rw[LLa,List.mem_singleton] at ha
  subst ha
  refine⟨λv h=> ?_,λ_ _=>rfl⟩
  rcases h with h|h
  ·cases h
  ·rw[show NT.leaf.bag=0 from rfl,Bv] at h;cases h
 | .add v t,ho,a',ha=>by
  have hd:=dm_add hn ho
  rw[LLa,List.mem_flatMap] at ha
  obtain⟨a,ha,hm⟩:=ha
  obtain⟨c,hc,rfl⟩:=List.mem_map.1 hm
  obtain⟨h1,h2⟩:=Dj t ho.2.2 a ha
  refine⟨λw hw=> ?_,λw hw=> ?_⟩
  ·unfold BW
   split
   ·exact(List.mem_filter.1 hc).1
   ·rename_i e
    exact h1 w (((hd w).1 hw).resolve_right e)
  ·unfold BW
   rw[if_neg (λe=>hw ((hd w).2 (.inr e)))]
   exact h2 w λhh=>hw ((hd w).2 (.inl hh))
 | .drop v t,ho,a,ha=>by
  have hd:=dm_drop hn ho
  obtain⟨h1,h2⟩:=Dj t ho.2.2 a ha
  exact⟨λw hw=>h1 w ((hd w).1 hw),λw hw=>h2 w λhh=>hw ((hd w).2 hh)⟩
 | .meet t u,ho,m,ha=>by
  have hd:=dm_meet ho
  rw[LLa,List.mem_flatMap] at ha
  obtain⟨a,ha,hm⟩:=ha
  obtain⟨b,hb,rfl⟩:=List.mem_map.1 hm
  obtain⟨h1,h2⟩:=Dj t ho.2.1 a ha
  obtain⟨k1,k2⟩:=Dj u ho.2.2 b (List.mem_filter.1 hb).1
  refine⟨λw hw=> ?_,λw hw=> ?_⟩
  ·show (if t.dm w then a w else b w)∈al
   split
   ·rename_i h;exact h1 w h
   ·rename_i h;exact k1 w (((hd w).1 hw).resolve_left h)
  ·show (if t.dm w then a w else b w)=0
   rw[if_neg (λhh=>hw ((hd w).2 (.inl hh)))]
   exact k2 w λhh=>hw ((hd w).2 (.inr hh))
omit hF hcf in
theorem Fp (hal:al.Nodup):∀t:NT,t.ok n→t.fine→(LLa F al cf t).Nodup
 | .leaf,_,_=>by simp[LLa]
 | .add v t,ho,hf=>by
  obtain⟨f1,f2⟩:=EE hn ho hf
  have hbv:=ho.2.1
  have hvd:¬t.dm v:=λh=>by
   rcases h with h|h
   ·omega
   ·rw[hbv] at h;cases h
  have hm:=Dj hn (F:=F) (al:=al) (cf:=cf) t ho.2.2
  rw[LLa]
  refine E9 (Fp hal t ho.2.2 f1) (λa _=> ?_) (λa ha b hb x hx hy=> ?_)
  ·unfold List.Nodup
   rw[List.pairwise_map]
   refine(hal.sublist List.filter_sublist).imp fun{c d} hcd e=>hcd ?_
   have:=congrFun e v
   unfold BW at this
   rwa [if_pos rfl,if_pos rfl] at this
  ·obtain⟨c,_,rfl⟩:=List.mem_map.1 hx
   obtain⟨d,_,e⟩:=List.mem_map.1 hy
   funext w
   by_cases h:w=v
   ·rw[h,(hm a ha).2 v hvd,(hm b hb).2 v hvd]
   ·have:=congrFun e w
    unfold BW at this
    rw[if_neg h,if_neg h] at this
    exact this.symm
 | .drop v t,ho,hf=>by
  obtain⟨f1,f2⟩:=Es hn ho hf
  exact Fp hal t ho.2.2 f1
 | .meet t u,ho,hf=>by
  obtain⟨f1,f2,f3⟩:=DZ hn ho hf
  have m1:=Dj hn (F:=F) (al:=al) (cf:=cf) t ho.2.1
  have m2:=Dj hn (F:=F) (al:=al) (cf:=cf) u ho.2.2
  have hb:=t.In_bag hn ho.2.1
  have hag:∀a b:Nat→Int,((elems t.bag).all λx=>a x.toNat==b x.toNat)=true→∀w,has t.bag w=true→a w=b w:=λa b h w hw=>by
   rw[List.all_eq_true] at h
   have:=h (w:Int) ((AT hb.1).2 hw)
   rw[Int.toNat_natCast,beq_iff_eq] at this
   exact this
  have hboth:∀w,t.dm w→u.dm w→has t.bag w=true:=λw h1 h2=>by
   rcases h1 with h1|h1
   ·rcases h2 with h2|h2
    ·have:=f3 w;omega
    ·rw[ho.1];exact h2
   ·exact h1
  rw[LLa]
  refine E9 (Fp hal t ho.2.1 f1) (λa _=> ?_) (λa ha b hb x hx hy=> ?_)
  ·unfold List.Nodup
   rw[List.pairwise_map]
   have hnd:=(Fp hal u ho.2.2 f2)
   have h2:((LLa F al cf u).filter λb=>(elems t.bag).all λx=>a x.toNat==b x.toNat).Pairwise (λx y=>x≠y):=hnd.sublist List.filter_sublist
   refine List.Pairwise.imp_of_mem ?_ h2
   intro c d hc hd hcd e
   refine hcd (funext λw=> ?_)
   rw[List.mem_filter] at hc hd
   have:=congrFun e w
   by_cases h:t.dm w
   ·by_cases h':u.dm w
    ·have hw:=hboth w h h'
     rw[←hag a c hc.2 w hw,←hag a d hd.2 w hw]
    ·rw[(m2 c hc.1).2 w h',(m2 d hd.1).2 w h']
   ·rw[if_neg h,if_neg h] at this
    exact this
  ·obtain⟨c,_,rfl⟩:=List.mem_map.1 hx
   obtain⟨d,_,e⟩:=List.mem_map.1 hy
   funext w
   by_cases h:t.dm w
   ·have:=congrFun e w
    rw[if_pos h,if_pos h] at this
    exact this.symm
   ·rw[(m1 a ha).2 w h,(m1 b hb).2 w h]
end
end Go.Sx

namespace Go.Sx
section
variable {g : LL} (hg : GOk g)
include hg
end
end Go.Sx

namespace Go.Sx
section
variable {g : LL} (hg : GOk g)
include hg
end
end Go.Sx

namespace Go.Sx
def Tch (F:LI)(s t:Int):Prop:=∃x y,El s x∧El t y∧(x=y∨nb F x y=true)
section
variable {F : LI} {n k : Nat} (hn : n ≤ 16) (hF : FOk F n)
include hn hF
end
end Go.Sx

namespace Go.Sx
section
variable {g : LL} (hg : GOk g)
include hg
end
end Go.Sx

namespace Go.Sx
section
variable {g : LL} (hg : GOk g)
include hg
end
end Go.Sx

namespace Go.Sx
section
variable {g : LL} (hg : GOk g)
include hg
end
end Go.Sx

namespace Go.Sx
section
variable {g B K : LL} (hg : GOk g) (h : TB g B K)
include hg h
end
end Go.Sx

namespace Go.Sx
noncomputable def bo (F:LI)(n:Nat)(most:Int):Nat→Int→LI
 |0,_=>[]
 |k+1,m=>match(elems (rm n m)).find? (λv=>decide (wv F (wd F n k) m v≤most)) with
  |some v=>v::bo F n most k (ior .u32 m (ishl .u32 1 v))
  |none=>[]
section
variable {g : LL} {o F L : LI} (hg : GOk g) (ho : OOk g o) (hF : Fill g o F L)
include hg ho hF
end
end Go.Sx

namespace Go.Sx
section
variable {g : LL} (hg : GOk g)
include hg
end
end Go.Sx

namespace Go.Sx
section
variable {F : LI} {n : Nat} (hn : n ≤ 16) (hF : FOk F n)
include hn hF
end
section
variable {g : LL} (hg : GOk g)
include hg
end
end Go.Sx

namespace Go.Sx
section
variable {F : LI} {n : Nat} (hn : n ≤ 16) (hF : FOk F n)
include hn hF
end
section
variable {g : LL} (hg : GOk g)
include hg
end
end Go.Sx

namespace Go.Sx
theorem l25Mask_eq (xs:LI)(h:Sh xs)(h0:∀x∈xs,0≤x∧x<32):D.l0 xs=some (mk xs):=by
 unfold Sh at h
 unfold D.l0
 refine(BY (λk=>(mk (xs.take k),(k:Int))) xs.length (mk xs) (by simp[mk]) (λk hk=> ?_) ?_).trans rfl
 ·have hx:=h0 _ (List.getElem_mem hk)
  obtain⟨w,hw⟩:∃w:Nat,xs[k]=(w:Int):=⟨xs[k].toNat,by omega⟩
  simp only[dlt hk,cT,AC hk,hw,bs,uw (show w<1000 by omega),E6,cF,wq k]
  rw[shl64 (show w<32 by omega),or6432 (VS.mk _) (VS.ishl _ _)]
  have:mk (xs.take (k+1))=ior .u32 (mk (xs.take k)) (ishl .u32 1 (w:Int)):=by
   unfold mk
   rw[List.take_succ_eq_append_getElem hk,List.foldl_append,hw];rfl
  rw[this]
 ·simp only[Be,cF,List.take_length]
section
variable {F : LI} {n : Nat} (hn : n ≤ 16) (hF : FOk F n)
include hn hF
end
section
variable {F : LI} {n : Nat} (hn : n ≤ 16) (hF : FOk F n)
include hn hF
end
end Go.Sx

namespace Go.Sx
theorem BE {α:Type}{xs:List α}{i:Nat}{x:α}(h:xs[i]? =some x):idx xs (i:Int)=some x:=by
 unfold idx
 rw[if_pos (by omega),Int.toNat_natCast];exact h
theorem EM (s:Int):Sh (elems s):=elems_sh s
theorem In.setOf {n:Nat}{m:Int}(h:In n m):SetOf (elems m) (n:Int):=⟨BP _,λx hx=>by
 obtain⟨v,_,h2,rfl⟩:=mem_elems.1 hx
 have:=h.2 v h2
 omega⟩
theorem In.len {n:Nat}{m:Int}(h:In n m):(elems m).length≤n:=by
 have:=h.setOf.length_le (by omega)
 omega
theorem In.or1 {n:Nat}(hn:n≤16){m:Int}(h:In n m){v:Nat}(hv:v<n):In n (ior .u32 m (ishl .u32 1 (v:Int))):=⟨VS.ior _ _,λw hw=>by
 rw[CG h.1 (VS.ishl _ _),BX (by omega),Bool.or_eq_true,decide_eq_true_eq] at hw
 rcases hw with hw|rfl
 ·exact h.2 w hw
 ·exact hv⟩
theorem l1Size_e (g:LL):D.d g=some (g.length:Int):=rfl
theorem more_eq {n:Nat}(hn:n≤16){m:Int}(hm:In n m){v:Nat}(hv:v<n)(h:has m v=false):
  D.Y (elems m) (elems (ior .u32 m (ishl .u32 1 (v:Int)))) (v:Int)=some true:=by
 unfold D.Y
 rw[Df _ _ (EM _),bs,decide_eq_false (by rw[AT hm.1,h];simp),Bool.not_false,cT,DW _ _ (BP _) (by have:=Ce m;omega),bs,G5 hm.1 (by omega),GI _ _ (EM _),bs,bs,decide_eq_true rfl]
theorem not_or {n:Nat}(hn:n≤16){m:Int}(hm:In n m){v:Nat}(hv:v<n)(h:has m v=true):ior .u32 (iandNot .u32 m (ishl .u32 1 (v:Int))) (ishl .u32 1 (v:Int))=m:=by
 refine VS.ext (VS.ior _ _) hm.1 λw _=> ?_
 rw[CG (VS.iandNot _ _) (VS.ishl _ _),A8 hm.1 (VS.ishl _ _),BX (by omega)]
 by_cases e:w=v
 ·subst e;rw[h];simp
 ·simp[e]
theorem lessB_eq {n:Nat}(hn:n≤16){m:Int}(hm:In n m){v:Nat}(hv:v<n)(h:has m v=true):
  D.Y (elems (iandNot .u32 m (ishl .u32 1 (v:Int)))) (elems m) (v:Int)=some true:=by
 have h1:=hm.andNot (VS.ishl 1 (v:Int))
 have:=more_eq hn h1 hv (by rw[A8 hm.1 (VS.ishl _ _),BX (by omega)];simp)
 rwa [not_or hn hm hv h] at this
section
variable {g : LL} {L : NS}
theorem kids_in {c:LI}{i:Nat}(hi:i<1000)(h:∀x∈c,0≤x∧x<(i:Int))(hl:c.length≤10){α:Type}(k:Unit ⊕ Bool→Option α):
  (Az (σ:=Int) (ρ:=(Unit) ⊕ (Bool)) (fun(x_104:Int)=>cond (decide (x_104<(c.length:Int))) ((idx c x_104).bind λe_124=>(D.b e_124 0 (IntKind.i64.wrap ((i:Int)-1))).bind λy_130=>cond (!y_130) (some (.inr (.inr false))) (some (.inl (IntKind.i64.wrap (x_104+1))))) (some (.inr (.inl ())))) 0).bind k=k (.inl ()):=by
 refine(C7 c.length (λ_=>true) (.inl ()) (.inr false) (λj hj=> ?_) ?_).trans ?_
 ·have:=h _ (List.getElem_mem hj)
  rw[dlt hj,cT,AC hj,bs,w64 (by omega) (by omega),Eo,bs,decide_eq_true this.1,decide_eq_true (by omega),wi (by omega)]
  rfl
 ·rw[Be,cF]
 ·rw[(Cg _ _).2 (λ_ _=>rfl)];rfl
theorem l29Node_true (hg:GOk g)(h8:g.length≤8){i:Nat}(hi:i<1000)(h:NdAt g.length L i):D.i g L.1 L.2.1 L.2.2.1 L.2.2.2 (i:Int)=some true:=by
 have h16:=hg.n16
 have head:∀{k v:Int} {m:Int} {c:LI},In g.length m→At4 L i k v (elems m) c→(∀x∈c,0≤x∧x<(i:Int))→c.length≤10→∀{r:Option Bool},
   ((idx L.1 (i:Int)).bind λe_138=>cond (e_138==1) ((idx L.2.1 (i:Int)).bind λe_145=>some (((e_145==(-1))&&(((elems m).length:Int)==0))&&((c.length:Int)==0))) (cond (e_138==2) ((cond ((c.length:Int)==1) ((idx c 0).bind λe_183=>(idx L.2.2.1 e_183).bind λe_189=>(idx L.2.1 (i:Int)).bind λe_195=>(D.Y e_189 (elems m) e_195).bind λy_201=>some y_201) (some false)).bind λb_181=>some b_181) (cond (e_138==3) ((cond ((c.length:Int)==1) ((idx c 0).bind λe_232=>(idx L.2.2.1 e_232).bind λe_238=>(idx L.2.1 (i:Int)).bind λe_244=>(D.Y (elems m) e_238 e_244).bind λy_250=>some y_250) (some false)).bind λb_230=>some b_230) (cond (e_138==4) ((idx L.2.1 (i:Int)).bind λe_256=>(cond ((e_256==(-1))&&((c.length:Int)==2)) ((idx c 0).bind λe_283=>(idx L.2.2.1 e_283).bind λe_289=>(D.Q e_289 (elems m)).bind λy_295=>some y_295) (some false)).bind λb_281=>(cond b_281 ((idx c 1).bind λe_317=>(idx L.2.2.1 e_317).bind λe_323=>(D.Q e_323 (elems m)).bind λy_329=>some y_329) (some false)).bind λb_315=>some b_315) (some false)))))=r→
   D.i g L.1 L.2.1 L.2.2.1 L.2.2.2 (i:Int)=r:=by
  intro k v m c hm h4 hc hcl r hr
  have hml:=hm.len
  unfold D.i
  rw[BE h4.b,bs,BE h4.c,bs,show decide ((8:Int)<((elems m).length:Int))=false from decide_eq_false (by omega),cF,l1Size_e,bs,
   Fy _ _ (EM _) (by omega) (by omega),bs,(Dh _ _).2 hm.setOf]
  simp only[Bool.not_true,bs,cF]
  rw[kids_in hi hc hcl]
  exact hr
 cases h with
 |leaf h=>
  have h0:In g.length 0:=⟨VS.zero,λw hw=>by rw[Bv] at hw;cases hw⟩
  rw[←Cr] at h
  have h:At4 L i 1 (-1) (elems 0) (elems 0):=h
  refine head h0 h (λx hx=>by rw[Cr] at hx;cases hx) (by rw[Cr];simp) ?_
  rw[BE h.k,bs,BE h.v]
  simp[Cr]
 | @add v j m hv hm hn hj hb h=>
  refine head (hm.or1 h16 hv) h (λx hx=>by simp only[List.mem_singleton] at hx;omega) (by simp) ?_
  rw[BE h.k,bs,show ((2:Int)==1)=false from rfl,cF,show ((2:Int)==2)=true from rfl,cT]
  show ((cond true ((idx [(j:Int)] 0).bind _) _).bind _)=_
  rw[cT,show idx [(j:Int)] 0=some (j:Int) from rfl,bs,BE hb,bs,BE h.v,bs,more_eq h16 hm hv hn]
  rfl
 | @drop v j m hv hm hn hj hb h=>
  refine head (hm.andNot (VS.ishl _ _)) h (λx hx=>by simp only[List.mem_singleton] at hx;omega) (by simp) ?_
  rw[BE h.k,bs,show ((3:Int)==1)=false from rfl,cF,show ((3:Int)==2)=false from rfl,cF,show ((3:Int)==3)=true from rfl,cT]
  show ((cond true ((idx [(j:Int)] 0).bind _) _).bind _)=_
  rw[cT,show idx [(j:Int)] 0=some (j:Int) from rfl,bs,BE hb,bs,BE h.v,bs,lessB_eq h16 hm hv hn]
  rfl
 | @meet j k m hm hj hk hb hc h=>
  refine head hm h (λx hx=>by simp only[List.mem_cons,List.not_mem_nil,or_false] at hx;omega) (by simp) ?_
  rw[BE h.k,bs,show ((4:Int)==1)=false from rfl,cF,show ((4:Int)==2)=false from rfl,cF,show ((4:Int)==3)=false from rfl,cF,show ((4:Int)==4)=true from rfl,cT,BE h.v,bs]
  show ((cond true ((idx [(j:Int),(k:Int)] 0).bind _) _).bind _)=_
  rw[cT,show idx [(j:Int),(k:Int)] 0=some (j:Int) from rfl,bs,BE hb,bs,GI _ _ (EM _),bs,bs,decide_eq_true rfl,cT,
   show idx [(j:Int),(k:Int)] 1=some (k:Int) from rfl,bs,BE hc,bs,GI _ _ (EM _),bs,bs,decide_eq_true rfl]
structure Ctr (n:Nat)(c:Nat→Nat)(l:LI):Prop where
 len:l.length=n
 get:∀j,j<n→l.getD j 0=(c j:Int)
theorem Ctr.zero (n:Nat):Ctr n (λ_=>0) (List.replicate n 0):=⟨by simp,λj hj=>by rw[AH (by simpa using hj)];simp⟩
theorem Ctr.idx {n:Nat}{c:Nat→Nat}{l:LI}(h:Ctr n c l){j:Nat}(hj:j<n):idx l (j:Int)=some (c j:Int):=by
 rw[AC (by rw[h.len];exact hj),←h.get j hj,AH (by rw[h.len];exact hj)]
theorem Ctr.up {n:Nat}{c:Nat→Nat}{l:LI}(h:Ctr n c l){k:Nat}(hk:k<n):Ctr n (λj=>c j+(if k=j then 1 else 0)) (l.set k ((c k:Int)+1)):=by
 refine⟨by simp[h.len],λj hj=> ?_⟩
 rw[List.getD_eq_getElem?_getD,List.getElem?_set]
 by_cases e:k=j
 ·subst e
  rw[if_pos rfl,if_pos (by rw[h.len];exact hk)];simp
 ·rw[if_neg e,←List.getD_eq_getElem?_getD,h.get j hj];simp[e]
theorem Ctr.congr {n:Nat}{c c':Nat→Nat}{l:LI}(h:Ctr n c l)(e:∀j,j<n→c j=c' j):Ctr n c' l:=⟨h.len,λj hj=>by rw[h.get j hj,e j hj]⟩
end
end Go.Sx

namespace Go.Sx
theorem FP {α:Type}(f:α→Nat):∀(l:List α) (i:Nat),lsm f (l.take i)≤lsm f l
 |[],i=>by simp
 |x::l,0=>by simp[lsm]
 |x::l,i+1=>by
  simp only[List.take_succ_cons,lsm]
  have:=FP f l i
  omega
theorem Ej {α:Type}(f:α→Nat){l:List α}{i:Nat}(h:i<l.length):lsm f (l.take (i+1))=lsm f (l.take i)+f l[i]:=by
 rw[Cx h,CX];simp[lsm]
theorem FH {l:LI}{i:Nat}(h:i<l.length)(x:Int):(l.take (i+1)).count x=(l.take i).count x+(if l[i]=x then 1 else 0):=by
 rw[Cx h,List.count_append,List.count_singleton]
 congr 1
 by_cases e:l[i]=x
 ·rw[if_pos (beq_iff_eq.2 e),if_pos e]
 ·rw[if_neg (λh=>e (beq_iff_eq.1 h)),if_neg e]
theorem count_take_le (l:LI)(i:Nat)(x:Int):(l.take i).count x≤l.count x:=(List.take_sublist _ _).count_le _
theorem NdAt.kids {n:Nat}{L:NS}{i:Nat}(h:NdAt n L i):∃c,L.2.2.2[i]? =some c∧(∀x∈c,∃k:Nat,x=k∧k<i)∧c.length≤2:=by
 cases h with
 |leaf h=>exact⟨_,h.c,λx hx=>(by cases hx),by simp⟩
 | @add v j m hv hm hn hj hb h=>exact⟨_,h.c,λx hx=>⟨j,by simpa using hx,hj⟩,by simp⟩
 | @drop v j m hv hm hn hj hb h=>exact⟨_,h.c,λx hx=>⟨j,by simpa using hx,hj⟩,by simp⟩
 | @meet j k m hm hj hk hb hc h=>exact⟨_,h.c,λx hx=>by
   simp only[List.mem_cons,List.not_mem_nil,or_false] at hx
   rcases hx with rfl|rfl
   ·exact⟨j,rfl,hj⟩
   ·exact⟨k,rfl,hk⟩,by simp⟩
section
variable {g : LL} {T : NT}
theorem NOk.nd (hg:GOk g)(h:NOk g T){i:Nat}(hi:i<T.size):NdAt g.length (A7 T) i:=Lies.nodes hg.n16 T 0 h.ok (Lies.self T) i (by omega) (by omega)
theorem NOk.kid (hg:GOk g)(h:NOk g T){i:Nat}(hi:i<(T.cs 0).length):(∀x∈(T.cs 0)[i],∃k:Nat,x=k∧k<i)∧(T.cs 0)[i].length≤2:=by
 rw[NT.cs_len] at hi
 obtain⟨c,h1,h2,h3⟩:=(h.nd hg hi).kids
 have h1:(T.cs 0)[i]? =some c:=h1
 rw[List.getElem?_eq_getElem (by rw[NT.cs_len];exact hi)] at h1
 cases h1
 exact⟨h2,h3⟩
def DJ (T:NT)(i j:Nat):Nat:=lsm (λks=>ks.count (j:Int)) ((T.cs 0).take i)
theorem kcnt_le (T : NT) (i j : Nat) : DJ T i j ≤ 1 :=
  Nat.le_trans (FP (fun ks : LI => ks.count (j : Int)) (T.cs 0) i) (by
    rw [EP j T 0]
    split <;> omega)
theorem kcnt_part {i k:Nat}(hi:i<(T.cs 0).length)(j:Nat):DJ T i j+(((T.cs 0)[i]).take k).count (j:Int)≤1:=by
 have h1:=kcnt_le T (i+1) j
 unfold DJ at h1 ⊢
 rw[Ej _ hi] at h1
 have h2:=count_take_le (T.cs 0)[i] k (j:Int)
 omega
theorem kcnt_all (j:Nat):DJ T T.size j=if j+1<T.size then 1 else 0:=by
 unfold DJ
 rw[List.take_of_length_le (by rw[NT.cs_len];omega),EP]
 by_cases h:j+1<T.size
 ·rw[if_pos (by omega),if_pos h]
 ·rw[if_neg (by omega),if_neg h]
theorem l29Tree_true (hg:GOk g)(h:NOk g T):D.h1 (A7 T).1 (A7 T).2.1 (A7 T).2.2.1 (A7 T).2.2.2=some true:=by
 have hsz:=h.size
 have hcl:=NT.cs_len 0 T
 have hkl:=T.ks_len
 unfold D.h1
 show (C4 (0:Int) (T.ks.length:Int) (T.ks.length:Int)).bind _=_
 rw[DB (by omega) (by omega),bs,hkl]
 have key:∃y,(Az (σ:=LI×Int) (ρ:=(LI)) (fun(s_312:LI×Int)=>match s_312 with|(l_315,x_318)=>cond (decide (x_318<((T.cs 0).length:Int))) ((Az (σ:=LI×Int) (ρ:=(LI)) (fun(s_544:LI×Int)=>match s_544 with|(l_547,x_550)=>(idx (T.cs 0) x_318).bind λe_588=>cond (decide (x_550<(e_588.length:Int))) ((idx (T.cs 0) x_318).bind λe_595=>(idx e_595 x_550).bind λe_601=>(idx l_547 e_601).bind λe_607=>(idx l_547 e_601).bind λe_613=>some (.inl ((l_547.set (Int.toNat e_601) (IntKind.i64.wrap (e_607+1))),(IntKind.i64.wrap (x_550+1))))) (some (.inr l_547))) (l_315,0)).bind λl_584=>some (.inl (l_584,(IntKind.i64.wrap (x_318+1))))) (some (.inr l_315))) (List.replicate T.size 0,0)).bind some=some y∧Ctr T.size (DJ T T.size) y:=by
  refine BC (λs=>∃i:Nat,s.2=(i:Int)∧i≤T.size∧Ctr T.size (DJ T i) s.1) (λs=>T.size-s.2.toNat) (λr=>Ctr T.size (DJ T T.size) r) ?_ ⟨0,rfl,by omega,(Ctr.zero _).congr λj _=>by simp[DJ,lsm]⟩ (λr hr=>⟨r,rfl,hr⟩)
  rintro⟨l,_⟩ ⟨i,rfl,hi,hl⟩
  dsimp only at hl ⊢
  by_cases hit:i<T.size
  ·have hic:i<(T.cs 0).length:=by omega
   obtain⟨k1,k2⟩:=h.kid hg hic
   rw[dlt hic,cT]
   refine BC (λs=>∃k:Nat,s.2=(k:Int)∧k≤((T.cs 0)[i]).length∧Ctr T.size (λj=>DJ T i j+(((T.cs 0)[i]).take k).count (j:Int)) s.1) (λs=>((T.cs 0)[i]).length-s.2.toNat) (λr=>Ctr T.size (DJ T (i+1)) r) ?_ ⟨0,rfl,by omega,hl.congr λj _=>by simp⟩ ?_
   ·rintro⟨l,_⟩ ⟨k,rfl,hk,hl⟩
    dsimp only at hl ⊢
    rw[AC hic,bs]
    by_cases hkt:k<((T.cs 0)[i]).length
    ·obtain⟨q,e,hq⟩:=k1 _ (List.getElem_mem hkt)
     rw[dlt hkt,cT,bs,AC hkt,bs,e,hl.idx (by omega),bs,bs,Int.toNat_natCast]
     have hb:=kcnt_part (k:=k) hic q
     rw[w64 (by omega) (by omega),wi (by omega)]
     refine⟨_,rfl,⟨k+1,rfl,hkt,(hl.up (by omega)).congr λj _=> ?_⟩,by dsimp only;omega⟩
     rw[FH hkt,e,Nat.add_assoc]
     congr 2
     by_cases ej:q=j
     ·rw[if_pos ej,if_pos (by rw[ej])]
     ·rw[if_neg ej,if_neg (by omega)]
    ·obtain rfl:k=((T.cs 0)[i]).length:=by omega
     rw[Be,cF]
     refine⟨_,rfl,hl.congr λj _=> ?_⟩
     unfold DJ
     rw[Ej _ hic,List.take_length]
   ·intro r hr
    rw[wi (by omega)]
    exact⟨_,rfl,⟨i+1,rfl,hit,hr⟩,by dsimp only;omega⟩
  ·obtain rfl:i=T.size:=by omega
   rw[←hcl,Be,cF,hcl]
   exact⟨_,rfl,hl⟩
 obtain⟨y,e,hy⟩:=key
 obtain⟨y',e,e2⟩:=bind_some e
 cases e2
 rw[show (A7 T).2.2.2=T.cs 0 from rfl,e,bs]
 have hyl:=hy.len
 refine(C7 y.length.pred (λ_=>true) (.inl ()) (.inr false) (λi hi=> ?_) ?_).trans ?_
 ·have hi':i+1<y.length:=by have:=Nat.pred_eq_sub_one (n:=y.length);omega
  rw[wi (by omega),dlt hi',cT,hy.idx (by omega),bs,kcnt_all,if_pos (by omega)]
  rfl
 ·have hp:=T.size_pos
  have:y.length.pred+1=y.length:=Nat.succ_pred_eq_of_pos (by omega)
  rw[wi (by omega),this,Be,cF]
 ·rw[(Cg _ _).2 (λ_ _=>rfl)];rfl
end
end Go.Sx

namespace Go.Sx
section
variable {g : LL} {T : NT}
theorem NT.bm_len (T:NT):T.bm.length=T.size:=by rw[←T.bs_len,T.bs_bm,List.length_map]
theorem bs_at {i:Nat}(hi:i<T.size):T.bs[i]? =some (elems (T.bm[i]'(by rw[T.bm_len];exact hi))):=by
 rw[T.bs_bm,List.getElem?_map,List.getElem?_eq_getElem (by rw[T.bm_len];exact hi)];rfl
def gcnt (T:NT)(i v:Nat):Nat:=lsm (λp:Int×Int=>if p.1=3∧p.2=(v:Int) then 1 else 0) ((T.ks.zip T.vs).take i)
theorem gcnt_le (T:NT)(i v:Nat):gcnt T i v≤T.gone v:=by
 rw[←D5];exact FP _ _ _
theorem gcnt_all (v:Nat):gcnt T T.size v=T.gone v:=by
 rw[←D5]
 unfold gcnt
 rw[List.take_of_length_le]
 simp[T.ks_len,T.vs_len]
theorem zip_at {i:Nat}{k v:Int}(h1:T.ks[i]? =some k)(h2:T.vs[i]? =some v):∃h:i<(T.ks.zip T.vs).length,(T.ks.zip T.vs)[i]=(k,v):=by
 obtain⟨a1,a2⟩:=List.getElem?_eq_some_iff.1 h1
 obtain⟨b1,b2⟩:=List.getElem?_eq_some_iff.1 h2
 exact⟨by simp;omega,by rw[List.getElem_zip,a2,b2]⟩
theorem FE {i:Nat}{k v:Int}(h1:T.ks[i]? =some k)(h2:T.vs[i]? =some v)(w:Nat):gcnt T (i+1) w=gcnt T i w+(if k=3∧v=(w:Int) then 1 else 0):=by
 obtain⟨h,e⟩:=zip_at h1 h2
 unfold gcnt
 rw[Ej _ h,e]
structure NearI (n:Nat)(bm:LI)(l:LI):Prop where
 len:l.length=n
 vs:∀v,v<n→VS (l.getD v 0)
 near:∀m∈bm,∀v,v<n→has m v=true→∀w,has m w=true→has (l.getD v 0) w=true
theorem NearI.up {n:Nat}{bm l:LI}(h:NearI n bm l){m:Int}(hm:VS m){x:Nat}(hx:x<n):NearI n bm (l.set x (ior .u32 (l.getD x 0) m))∧(∀w,has m w=true→has ((l.set x (ior .u32 (l.getD x 0) m)).getD x 0) w=true)∧
  ∀v w,v<n→has (l.getD v 0) w=true→has ((l.set x (ior .u32 (l.getD x 0) m)).getD v 0) w=true:=by
 have hg:∀v,v<n→(l.set x (ior .u32 (l.getD x 0) m)).getD v 0=if x=v then ior .u32 (l.getD x 0) m else l.getD v 0:=λv hv=>by
  rw[List.getD_eq_getElem?_getD,List.getElem?_set]
  by_cases e:x=v
  ·rw[if_pos e,if_pos (by rw[h.len];exact hx),if_pos e];rfl
  ·rw[if_neg e,if_neg e,←List.getD_eq_getElem?_getD]
 have hk:∀v w,v<n→has (l.getD v 0) w=true→has ((l.set x (ior .u32 (l.getD x 0) m)).getD v 0) w=true:=λv w hv hw=>by
  rw[hg v hv]
  by_cases e:x=v
  ·rw[if_pos e,CG (h.vs x hx) hm,e,hw];rfl
  ·rw[if_neg e];exact hw
 refine⟨⟨by simp[h.len],λv hv=> ?_,λm' hm' v hv hv' w hw=>hk v w hv (h.near m' hm' v hv hv' w hw)⟩,λw hw=> ?_,hk⟩
 ·rw[hg v hv]
  split
  ·exact VS.ior _ _
  ·exact h.vs v hv
 ·rw[hg x hx,if_pos rfl,CG (h.vs x hx) hm,hw,Bool.or_true]
theorem NOk.bmIn (hg:GOk g)(h:NOk g T){i:Nat}(hi:i<T.bm.length):In g.length T.bm[i]:=T.bm_In hg.n16 h.ok _ (List.getElem_mem hi)
theorem drop_lt {n:Nat}{L:NS}{i:Nat}{v:Int}(h:NdAt n L i)(hk:L.1[i]? =some 3)(hv:L.2.1[i]? =some v):∃w:Nat,v=w∧w<n:=by
 cases h with
 |leaf h=>rw[h.k] at hk;cases hk
 | @add w j m a1 a2 a3 a4 a5 h=>rw[h.k] at hk;cases hk
 | @drop w j m a1 a2 a3 a4 a5 h=>
  rw[h.v] at hv;cases hv
  exact⟨w,rfl,a1⟩
 | @meet j k m a1 a2 a3 a4 a5 h=>rw[h.k] at hk;cases hk
theorem l29Whole_true (hg:GOk g)(h:NOk g T):D.Q0 g (A7 T).1 (A7 T).2.1 (A7 T).2.2.1 (A7 T).2.2.2=some true:=by
 have h16:=hg.n16
 have hsz:=h.size
 have hkl:=T.ks_len;have hvl:=T.vs_len;have hbl:=T.bm_len
 unfold D.Q0
 rw[DB (by omega) (by omega),bs,bs]
 show ((Az (σ:=LI×LI×Int) (ρ:=(LI×LI)) (fun(s_563:LI×LI×Int)=>match s_563 with|(l_566,l_569,x_572)=>cond (decide (x_572<(T.ks.length:Int))) ((idx T.ks x_572).bind λe_850=>((cond (e_850==3) ((idx T.vs x_572).bind λe_883=>(idx l_566 e_883).bind λe_889=>(idx l_566 e_883).bind λe_895=>some (l_566.set (Int.toNat e_883) (IntKind.i64.wrap (e_889+1)))) (some l_566):Option (LI))).bind λl_878=>(idx T.bs x_572).bind λe_901=>(D.l0 e_901).bind λy_907=>(Az (σ:=LI×Int) (ρ:=(LI)) (fun(s_1013:LI×Int)=>match s_1013 with|(l_1016,x_1019)=>(idx T.bs x_572).bind λe_1071=>cond (decide (x_1019<(e_1071.length:Int))) ((idx T.bs x_572).bind λe_1078=>(idx e_1078 x_1019).bind λe_1084=>(idx T.bs x_572).bind λe_1090=>(idx e_1090 x_1019).bind λe_1096=>(idx l_1016 e_1096).bind λe_1102=>(idx l_1016 e_1084).bind λe_1108=>some (.inl ((l_1016.set (Int.toNat e_1084) (ior .i64 e_1102 y_907)),(IntKind.i64.wrap (x_1019+1))))) (some (.inr l_1016))) (l_569,0)).bind λl_1067=>some (.inl (l_878,l_1067,(IntKind.i64.wrap (x_572+1))))) (some (.inr (l_566,l_569)))) (List.replicate g.length 0,List.replicate g.length 0,0)).bind _)=_
 have key:∀{k:LI×LI→Option Bool},(∀a b,Ctr g.length (λv=>T.gone v) a→NearI g.length T.bm b→k (a,b)=some true)→((Az (σ:=LI×LI×Int) (ρ:=(LI×LI)) (fun(s_563:LI×LI×Int)=>match s_563 with|(l_566,l_569,x_572)=>cond (decide (x_572<(T.ks.length:Int))) ((idx T.ks x_572).bind λe_850=>((cond (e_850==3) ((idx T.vs x_572).bind λe_883=>(idx l_566 e_883).bind λe_889=>(idx l_566 e_883).bind λe_895=>some (l_566.set (Int.toNat e_883) (IntKind.i64.wrap (e_889+1)))) (some l_566):Option (LI))).bind λl_878=>(idx T.bs x_572).bind λe_901=>(D.l0 e_901).bind λy_907=>(Az (σ:=LI×Int) (ρ:=(LI)) (fun(s_1013:LI×Int)=>match s_1013 with|(l_1016,x_1019)=>(idx T.bs x_572).bind λe_1071=>cond (decide (x_1019<(e_1071.length:Int))) ((idx T.bs x_572).bind λe_1078=>(idx e_1078 x_1019).bind λe_1084=>(idx T.bs x_572).bind λe_1090=>(idx e_1090 x_1019).bind λe_1096=>(idx l_1016 e_1096).bind λe_1102=>(idx l_1016 e_1084).bind λe_1108=>some (.inl ((l_1016.set (Int.toNat e_1084) (ior .i64 e_1102 y_907)),(IntKind.i64.wrap (x_1019+1))))) (some (.inr l_1016))) (l_569,0)).bind λl_1067=>some (.inl (l_878,l_1067,(IntKind.i64.wrap (x_572+1))))) (some (.inr (l_566,l_569)))) (List.replicate g.length 0,List.replicate g.length 0,0)).bind k)=some true:=by
  intro k hk
  obtain⟨y,e,hy⟩:∃y,((Az (σ:=LI×LI×Int) (ρ:=(LI×LI)) (fun(s_563:LI×LI×Int)=>match s_563 with|(l_566,l_569,x_572)=>cond (decide (x_572<(T.ks.length:Int))) ((idx T.ks x_572).bind λe_850=>((cond (e_850==3) ((idx T.vs x_572).bind λe_883=>(idx l_566 e_883).bind λe_889=>(idx l_566 e_883).bind λe_895=>some (l_566.set (Int.toNat e_883) (IntKind.i64.wrap (e_889+1)))) (some l_566):Option (LI))).bind λl_878=>(idx T.bs x_572).bind λe_901=>(D.l0 e_901).bind λy_907=>(Az (σ:=LI×Int) (ρ:=(LI)) (fun(s_1013:LI×Int)=>match s_1013 with|(l_1016,x_1019)=>(idx T.bs x_572).bind λe_1071=>cond (decide (x_1019<(e_1071.length:Int))) ((idx T.bs x_572).bind λe_1078=>(idx e_1078 x_1019).bind λe_1084=>(idx T.bs x_572).bind λe_1090=>(idx e_1090 x_1019).bind λe_1096=>(idx l_1016 e_1096).bind λe_1102=>(idx l_1016 e_1084).bind λe_1108=>some (.inl ((l_1016.set (Int.toNat e_1084) (ior .i64 e_1102 y_907)),(IntKind.i64.wrap (x_1019+1))))) (some (.inr l_1016))) (l_569,0)).bind λl_1067=>some (.inl (l_878,l_1067,(IntKind.i64.wrap (x_572+1))))) (some (.inr (l_566,l_569)))) (List.replicate g.length 0,List.replicate g.length 0,0)).bind k)=some y∧y=true:=by
   refine BC (λs=>∃i:Nat,s.2.2=(i:Int)∧i≤T.size∧Ctr g.length (gcnt T i) s.1∧NearI g.length (T.bm.take i) s.2.1) (λs=>T.size-s.2.2.toNat) (λr=>Ctr g.length (λv=>T.gone v) r.1∧NearI g.length T.bm r.2) ?_ ⟨0,rfl,by omega,(Ctr.zero _).congr λj _=>by simp[gcnt,lsm],⟨by simp,λv hv=>by dsimp only;rw[AH (by simpa using hv)];simp[VS.zero],λm hm=>by simp at hm⟩⟩ (λr hr=>⟨_,hk r.1 r.2 hr.1 hr.2,rfl⟩)
   rintro⟨l,l2,_⟩ ⟨i,rfl,hi,hl,hl2⟩
   dsimp only at hl hl2 ⊢
   rw[hkl]
   by_cases hit:i<T.size
   ·have hnd:=h.nd hg hit
    have hb:i<T.bm.length:=by omega
    have hin:=h.bmIn hg hb
    have ek:T.ks[i]? =some T.ks[i]:=List.getElem?_eq_getElem (by omega)
    have ev:T.vs[i]? =some T.vs[i]:=List.getElem?_eq_getElem (by omega)
    have eb:=BE (bs_at hit)
    rw[dlt hit,cT,BE ek,bs]
    have hstep:∃l',((cond (T.ks[i]==3) ((idx T.vs (i:Int)).bind λe_883=>(idx l e_883).bind λe_889=>(idx l e_883).bind λe_895=>some (l.set (Int.toNat e_883) (IntKind.i64.wrap (e_889+1)))) (some l):Option (LI)))=some l'∧Ctr g.length (gcnt T (i+1)) l':=by
     cases hc:(T.ks[i]==3) with
     |true=>
      rw[beq_iff_eq] at hc
      obtain⟨w,hw,hwn⟩:=drop_lt hnd (show T.ks[i]? =some 3 by rw[ek,hc]) ev
      have hle:=gcnt_le T i w
      rw[h.gone w hwn] at hle
      rw[cT,BE ev,bs,hw,hl.idx hwn,bs,bs,w64 (by omega) (by omega),Int.toNat_natCast]
      refine⟨_,rfl,(hl.up hwn).congr λj _=> ?_⟩
      rw[FE ek ev,hc,hw]
      by_cases e:w=j
      ·rw[if_pos e,if_pos ⟨rfl,by rw[e]⟩]
      ·rw[if_neg e,if_neg (by omega)]
     |false=>
      rw[cF]
      refine⟨_,rfl,hl.congr λj _=> ?_⟩
      rw[FE ek ev,if_neg (λe=>by rw[e.1] at hc;cases hc)];rfl
    obtain⟨l',e1,hl'⟩:=hstep
    have hmk:∀x∈elems T.bm[i],0≤x∧x<32:=λx hx=>by
     obtain⟨w,h1,_,rfl⟩:=mem_elems.1 hx
     omega
    rw[e1,bs,eb,bs,l25Mask_eq _ (EM _) hmk,bs,Gq hin.1]
    refine BC (λs=>∃k:Nat,s.2=(k:Int)∧k≤(elems T.bm[i]).length∧NearI g.length (T.bm.take i) s.1∧∀x∈(elems T.bm[i]).take k,∀w,has T.bm[i] w=true→has (s.1.getD x.toNat 0) w=true) (λs=>(elems T.bm[i]).length-s.2.toNat) (λr=>NearI g.length (T.bm.take (i+1)) r) ?_ ⟨0,rfl,by omega,hl2,λx hx=>by simp at hx⟩ ?_
    ·rintro⟨l3,_⟩ ⟨k,rfl,hk,hl3,hnew⟩
     dsimp only at hl3 hnew ⊢
     rw[bs]
     by_cases hkt:k<(elems T.bm[i]).length
     ·obtain⟨x,ex,hx32,hxm⟩:=EF hkt
      have hxn:=hin.2 x hxm
      obtain⟨u1,u2,u3⟩:=hl3.up hin.1 hxn
      have el:idx l3 (x:Int)=some (l3.getD x 0):=by rw[AC (by rw[hl3.len];exact hxn),AH (by rw[hl3.len];exact hxn)]
      rw[dlt hkt,cT,bs,AC hkt,bs,bs,AC hkt,bs,ex,el,bs,bs,wi (by have:=Ce T.bm[i];omega),Int.toNat_natCast,or6432 (hl3.vs x hxn) hin.1]
      refine⟨_,rfl,⟨k+1,rfl,hkt,u1,λy hy w hw=> ?_⟩,by dsimp only;omega⟩
      rw[Cx hkt,List.mem_append,List.mem_singleton] at hy
      rcases hy with hy|rfl
      ·obtain⟨q,_,hq,rfl⟩:=mem_elems.1 (List.mem_of_mem_take hy)
       exact u3 _ w (hin.2 q hq) (hnew _ hy w hw)
      ·rw[ex,Int.toNat_natCast];exact u2 w hw
     ·obtain rfl:k=(elems T.bm[i]).length:=by omega
      rw[Be,cF]
      refine⟨_,rfl,hl3.len,hl3.vs,λm hm v hv hmv w hw=> ?_⟩
      rw[Cx hb,List.mem_append,List.mem_singleton] at hm
      rcases hm with hm|rfl
      ·exact hl3.near m hm v hv hmv w hw
      ·have:=hnew (v:Int) (by rw[List.take_length];exact(AT hin.1).2 hmv) w hw
       rwa [Int.toNat_natCast] at this
    ·intro r hr
     rw[wi (by omega)]
     exact⟨_,rfl,⟨i+1,rfl,hit,hl',hr⟩,by dsimp only;omega⟩
   ·obtain rfl:i=T.size:=by omega
    rw[Be,cF]
    refine⟨_,rfl,hl.congr λj _=>gcnt_all j,?_⟩
    rwa [List.take_of_length_le (by omega)] at hl2
  rw[e,hy]
 refine key λa b ha hb=> ?_
 show ((D.m g).bind _)=_
 rw[Eu hg,bs]
 refine(C7 g.length (λ_=>true) (.inl ()) (.inr false) (λv hv=> ?_) ?_).trans ?_
 ·have hnear:iandNot .u32 (mk (row g v)) (b.getD v 0)=0:=by
   refine(VS.eq_zero (VS.iandNot _ _)).2 λw _=> ?_
   rw[A8 (VS.mk _) (hb.vs v hv)]
   cases hw:has (mk (row g v)) w with
   |false=>rfl
   |true=>
    have hrow:=hg.mem0 (show row g v∈g by rw[DN hv];exact List.getElem_mem hv)
    rw[CR (λx hx=>by have:=hrow.2 x hx;omega),decide_eq_true_eq] at hw
    obtain⟨m,hm,h1,h2⟩:=h.cov v w hv (.inr hw)
    rw[hb.near m hm v hv h1 w h2];rfl
  have e1:idx (g.map mk) (v:Int)=some (mk (row g v)):=by
   rw[AC (by simpa using hv),List.getElem_map,DN hv]
  have e2:idx b (v:Int)=some (b.getD v 0):=by rw[AC (by rw[hb.len];exact hv),AH (by rw[hb.len];exact hv)]
  rw[ha.len,dlt hv,cT,ha.idx hv,bs,h.gone v hv,show ((((1:Nat):Int)) !=1)=false from rfl,cF,e1,bs,e2,bs,bs,andnot64 (VS.mk _) (hb.vs v hv),hnear,wi (by omega)]
  rfl
 ·rw[ha.len,Be,cF]
 ·rw[(Cg _ _).2 (λ_ _=>rfl)];rfl
theorem Hl (hg:GOk g)(h8:g.length≤8)(h:NOk g T):D.H0 g (A7 T).1 (A7 T).2.1 (A7 T).2.2.1 (A7 T).2.2.2=some true:=by
 have h16:=hg.n16
 have hsz:=h.size
 have hp:=T.size_pos
 have e1:(A7 T).1.length=T.size:=T.ks_len
 have e2:(A7 T).2.1.length=T.size:=T.vs_len
 have e3:(A7 T).2.2.1.length=T.size:=T.bs_len
 have e4:(A7 T).2.2.2.length=T.size:=NT.cs_len 0 T
 unfold D.H0
 rw[CY g hg.sh2,bs,(FY g).2 hg,e1,e2,e3,e4]
 rw[show decide ((T.size:Int)<1)=false from decide_eq_false (by omega),show decide ((200:Int)<(T.size:Int))=false from decide_eq_false (by omega),show ((T.size:Int) !=(T.size:Int))=false by simp]
 simp only[Bool.not_true,Bool.or_false,cF]
 refine(C7 T.size (λ_=>true) (.inl ()) (.inr false) (λi hi=> ?_) ?_).trans ?_
 ·rw[dlt hi,cT,l29Node_true hg h8 (by omega) (h.nd hg hi),bs,Bool.not_true,cF,wi (by omega)]
  rfl
 ·rw[Be,cF]
 ·rw[(Cg _ _).2 (λ_ _=>rfl),cT]
  have hlast:=(Lies.self T).last
  rw[h.bag,Cr,Nat.zero_add] at hlast
  show ((idx (A7 T).2.2.1 (IntKind.i64.wrap ((T.size:Int)-1))).bind _)=_
  rw[w64 (by omega) (by omega),show ((T.size:Int)-1)=((T.size-1:Nat):Int) by omega,BE hlast,bs,show ((([]:LI).length:Int)==0)=true from rfl,cT,l29Tree_true hg h,bs,bs,cT,l29Whole_true hg h]
  rfl
end
end Go.Sx

namespace Go.Sx
section
variable {g : LL} {T : NT}
theorem Ea (hg:GOk g)(h:NOk g T){j:Nat}{m:Int}(hm:In g.length m)(hb:(A7 T).2.2.1[j]? =some (elems m)):idx (T.bs.map mk) (j:Int)=some m:=by
 have hb:T.bs[j]? =some (elems m):=hb
 refine BE ?_
 rw[List.getElem?_map,hb,Option.map_some,Gq hm.1]
theorem Gr {c:LI}{i:Nat}(hi:i<1000)(h:∀x∈c,0≤x∧x<(i:Int))(hl:c.length≤10):D.l1 c (i:Int)=some false:=by
 unfold D.l1 D.B1
 have key:=Db (ρ:=Unit ⊕ Int) (step:=(fun(x_40:Int)=>cond (decide (x_40<(c.length:Int))) ((idx c x_40).bind λe_60=>(D.x1 e_60 (i:Int)).bind λy_66=>cond y_66 (some (.inr (.inr x_40))) (some (.inl (IntKind.i64.wrap (x_40+1))))) (some (.inr (.inl ()))))) c.length (λi=>none) (.inl ()) (λj hj=>by
   have hx:=h _ (List.getElem_mem hj)
   rw[dlt hj,cT,AC hj,bs,wq j]
   unfold D.x1
   rw[w64 (by omega) (by omega),E7,bs,decide_eq_true hx.1,decide_eq_true (by omega)]
   rfl) (by simp only[Be,cF])
 rw[key,EY (λi _=>rfl)]
 rfl
theorem goodNode_true (hg:GOk g)(h:NOk g T){i:Nat}(hi:i<T.size):D.u (A7 T).1 (A7 T).2.1 (A7 T).2.2.1 (A7 T).2.2.2 (i:Int) (T.bs.map mk) (g.length:Int)=some true:=by
 have h16:=hg.n16
 have hsz:=h.size
 unfold D.u
 cases h.nd hg hi with
 |leaf h4=>
  rw[BE h4.v,bs,BE h4.c,bs,Gr (by omega) (λx hx=>by cases hx) (by simp),bs,cF,BE h4.k,bs,
   Ea hg h ⟨VS.zero,λw hw=>by rw[Bv] at hw;cases hw⟩ (show _=some (elems 0) by rw[Cr];exact h4.b)]
  rfl
 | @add v j m hv hm hn hj hb h4=>
  have h1:=Ea hg h hm hb
  have h2:=Ea hg h (hm.or1 h16 hv) h4.b
  rw[BE h4.v,bs,BE h4.c,bs,Gr (by omega) (λx hx=>by simp only[List.mem_singleton] at hx;omega) (by simp),bs,cF,BE h4.k,bs,
   show ((2:Int)==1)=false from rfl,cF,show ((2:Int)==4)=false from rfl,cF,show ((2:Int)==2)=true from rfl,cT,w64 (by omega) (by omega),E7,bs,
   decide_eq_true (show (0:Int)≤(v:Int) by omega),decide_eq_true (show (v:Int)≤(g.length:Int)-1 by omega)]
  show ((cond true ((idx [(j:Int)] 0).bind _) _).bind _)=_
  rw[cT,show idx [(j:Int)] 0=some (j:Int) from rfl,bs,h1,bs,GZ hm.1 (by omega),bs,hn,Bool.not_false,bs,cT,h2,bs,bs,h1,bs,Cc,bs,beq_self_eq_true]
  rfl
 | @drop v j m hv hm hn hj hb h4=>
  have h1:=Ea hg h hm hb
  have h2:=Ea hg h (hm.andNot (VS.ishl _ _)) h4.b
  rw[BE h4.v,bs,BE h4.c,bs,Gr (by omega) (λx hx=>by simp only[List.mem_singleton] at hx;omega) (by simp),bs,cF,BE h4.k,bs,
   show ((3:Int)==1)=false from rfl,cF,show ((3:Int)==4)=false from rfl,cF,show ((3:Int)==2)=false from rfl,cF,show ((3:Int)==3)=true from rfl,cT,w64 (by omega) (by omega),E7,bs,
   decide_eq_true (show (0:Int)≤(v:Int) by omega),decide_eq_true (show (v:Int)≤(g.length:Int)-1 by omega)]
  show ((cond true ((idx [(j:Int)] 0).bind _) _).bind _)=_
  rw[cT,show idx [(j:Int)] 0=some (j:Int) from rfl,bs,h1,bs,GZ hm.1 (by omega),bs,hn,bs,cT,h2,bs,bs,h1,bs,Cc,bs,beq_self_eq_true]
  rfl
 | @meet j k m hm hj hk hb hc h4=>
  have h1:=Ea hg h hm hb
  have h2:=Ea hg h hm hc
  have h3:=Ea hg h hm h4.b
  rw[BE h4.v,bs,BE h4.c,bs,Gr (by omega) (λx hx=>by simp only[List.mem_cons,List.not_mem_nil,or_false] at hx;omega) (by simp),bs,cF,BE h4.k,bs,
   show ((4:Int)==1)=false from rfl,cF,show ((4:Int)==4)=true from rfl,cT]
  show ((cond true ((idx [(j:Int),(k:Int)] 0).bind _) _).bind _)=_
  rw[cT,show idx [(j:Int),(k:Int)] 0=some (j:Int) from rfl,bs,h1,bs,h3,bs,bs,beq_self_eq_true,cT,
   show idx [(j:Int),(k:Int)] 1=some (k:Int) from rfl,bs,h2,bs,bs,beq_self_eq_true]
  rfl
theorem gone_one {l:LI}{c:Nat→Nat}{n:Nat}(hl:Ctr n c l)(hn:n≤1000)(h1:∀j,j<n→c j=1):D.o1 l=some false:=by
 unfold D.o1 D.H1
 have hll:=hl.len
 have key:=Db (ρ:=Unit ⊕ Int) (step:=(fun(x_40:Int)=>cond (decide (x_40<(l.length:Int))) ((idx l x_40).bind λe_60=>(D.K1 e_60).bind λy_66=>cond y_66 (some (.inr (.inr x_40))) (some (.inl (IntKind.i64.wrap (x_40+1))))) (some (.inr (.inl ()))))) l.length (λi=>none) (.inl ()) (λj hj=>by
   rw[dlt hj,cT,hl.idx (by omega),bs,h1 j (by omega),wq j]
   rfl) (by simp only[Be,cF])
 rw[key,EY (λi _=>rfl)]
 rfl
theorem NOk.small (hg:GOk g)(h:NOk g T){b:LI}(hb:b∈T.bs):SetOf b (g.length:Int):=by
 rw[T.bs_bm,List.mem_map] at hb
 obtain⟨m,hm,rfl⟩:=hb
 exact(T.bm_In hg.n16 h.ok m hm).setOf
open Classical in
theorem Dt (hg:GOk g)(h8:g.length≤8)(h:NOk g T):D.j g (A7 T).1 (A7 T).2.1 (A7 T).2.2.1 (A7 T).2.2.2=some true:=by
 have h16:=hg.n16
 have hsz:=h.size
 have hp:=T.size_pos
 have e1:(A7 T).1.length=T.size:=T.ks_len
 have e2:(A7 T).2.1.length=T.size:=T.vs_len
 have e3:(A7 T).2.2.1.length=T.size:=T.bs_len
 have e4:(A7 T).2.2.2.length=T.size:=NT.cs_len 0 T
 have hcl:=NT.cs_len 0 T
 unfold D.j
 rw[FK g hg.sh2,bs,(FY g).2 hg,e1,e2,e3,e4]
 rw[show decide ((T.size:Int)<1)=false from decide_eq_false (by omega),show decide ((200:Int)<(T.size:Int))=false from decide_eq_false (by omega),show ((T.size:Int) !=(T.size:Int))=false by simp]
 simp only[Bool.not_true,Bool.or_false,cF]
 refine(C7 T.size (λ_=>true) (.inl ()) (.inr false) (λi hi=> ?_) ?_).trans ?_
 ·have hb:i<(A7 T).2.2.1.length:=by omega
  have hs:=h.small hg (b:=(A7 T).2.2.1[i]) (List.getElem_mem hb)
  have hl:=hs.length_le (by omega)
  rw[dlt hi,cT,AC hb,bs,show decide ((8:Int)<((A7 T).2.2.1[i].length:Int))=false from decide_eq_false (by omega),cF,Ef _ _ (by unfold Sh;omega) (by omega) (by omega),bs,(Dh _ _).2 hs,wi (by omega)]
  rfl
 ·rw[Be,cF]
 rw[(Cg _ _).2 (λ_ _=>rfl),cT]
 have hms:=masks_eqB (B:=T.bs) hg (λb hb=>h.small hg hb) (by rw[T.bs_len];omega)
 show ((((D.v T.bs).bind _:Option _)).bind _)=_
 rw[hms,bs,DB (by omega) (by omega),bs,DB (by omega) (by omega),bs,bs]
 dsimp only
 have key:∀{k:(LI×LI) ⊕ Bool→Option Bool},(∀a b,Ctr T.size (DJ T T.size) a→Ctr g.length (λv=>T.gone v) b→k (.inl (a,b))=some true)→
   ((Az (σ:=LI×LI×Int) (ρ:=(LI×LI) ⊕ (Bool)) (fun(s_558:LI×LI×Int)=>match s_558 with|(l_561,l_564,x_567)=>cond (decide (x_567<(T.size:Int))) ((D.u (A7 T).1 (A7 T).2.1 (A7 T).2.2.1 (A7 T).2.2.2 x_567 (T.bs.map mk) (g.length:Int)).bind λy_719=>cond (!y_719) (some (.inr (.inr false))) ((idx (A7 T).2.2.2 x_567).bind λe_730=>(Az (σ:=LI×Int) (ρ:=(LI)) (fun(s_783:LI×Int)=>match s_783 with|(l_786,x_789)=>cond (decide (x_789<(e_730.length:Int))) ((idx e_730 x_789).bind λe_816=>(idx l_786 e_816).bind λe_822=>(idx l_786 e_816).bind λe_828=>some (.inl ((l_786.set (Int.toNat e_816) (IntKind.i64.wrap (e_822+1))),(IntKind.i64.wrap (x_789+1))))) (some (.inr l_786))) (l_561,0)).bind λl_811=>(idx (A7 T).1 x_567).bind λe_834=>cond (e_834==3) ((idx (A7 T).2.1 x_567).bind λe_841=>(idx l_564 e_841).bind λe_847=>(idx l_564 e_841).bind λe_853=>some (.inl (l_811,(l_564.set (Int.toNat e_841) (IntKind.i64.wrap (e_847+1))),(IntKind.i64.wrap (x_567+1))))) (some (.inl (l_811,l_564,(IntKind.i64.wrap (x_567+1))))))) (some (.inr (.inl (l_561,l_564))))) (List.replicate T.size 0,List.replicate g.length 0,0)).bind k)=some true:=by
  intro k hk
  obtain⟨y,e,hy⟩:∃y,((Az (σ:=LI×LI×Int) (ρ:=(LI×LI) ⊕ (Bool)) (fun(s_558:LI×LI×Int)=>match s_558 with|(l_561,l_564,x_567)=>cond (decide (x_567<(T.size:Int))) ((D.u (A7 T).1 (A7 T).2.1 (A7 T).2.2.1 (A7 T).2.2.2 x_567 (T.bs.map mk) (g.length:Int)).bind λy_719=>cond (!y_719) (some (.inr (.inr false))) ((idx (A7 T).2.2.2 x_567).bind λe_730=>(Az (σ:=LI×Int) (ρ:=(LI)) (fun(s_783:LI×Int)=>match s_783 with|(l_786,x_789)=>cond (decide (x_789<(e_730.length:Int))) ((idx e_730 x_789).bind λe_816=>(idx l_786 e_816).bind λe_822=>(idx l_786 e_816).bind λe_828=>some (.inl ((l_786.set (Int.toNat e_816) (IntKind.i64.wrap (e_822+1))),(IntKind.i64.wrap (x_789+1))))) (some (.inr l_786))) (l_561,0)).bind λl_811=>(idx (A7 T).1 x_567).bind λe_834=>cond (e_834==3) ((idx (A7 T).2.1 x_567).bind λe_841=>(idx l_564 e_841).bind λe_847=>(idx l_564 e_841).bind λe_853=>some (.inl (l_811,(l_564.set (Int.toNat e_841) (IntKind.i64.wrap (e_847+1))),(IntKind.i64.wrap (x_567+1))))) (some (.inl (l_811,l_564,(IntKind.i64.wrap (x_567+1))))))) (some (.inr (.inl (l_561,l_564))))) (List.replicate T.size 0,List.replicate g.length 0,0)).bind k)=some y∧y=true:=by
   refine BC (λs=>∃i:Nat,s.2.2=(i:Int)∧i≤T.size∧Ctr T.size (DJ T i) s.1∧Ctr g.length (gcnt T i) s.2.1) (λs=>T.size-s.2.2.toNat) (λr=>∃a b,r= .inl (a,b)∧Ctr T.size (DJ T T.size) a∧Ctr g.length (λv=>T.gone v) b) ?_ ⟨0,rfl,by omega,(Ctr.zero _).congr λj _=>by simp[DJ,lsm],(Ctr.zero _).congr λj _=>by simp[gcnt,lsm]⟩ (λr ⟨a,b,e,ha,hb⟩=>⟨_,by rw[e];exact hk a b ha hb,rfl⟩)
   rintro⟨l,l2,_⟩ ⟨i,rfl,hi,hl,hl2⟩
   dsimp only at hl hl2 ⊢
   by_cases hit:i<T.size
   ·have hic:i<(T.cs 0).length:=by omega
    have hnd:=h.nd hg hit
    obtain⟨k1,k2⟩:=h.kid hg hic
    have hki:i<T.ks.length:=by rw[T.ks_len];exact hit
    have hvi:i<T.vs.length:=by rw[T.vs_len];exact hit
    have ek:T.ks[i]? =some T.ks[i]:=List.getElem?_eq_getElem (by rw[T.ks_len];exact hit)
    have ev:T.vs[i]? =some T.vs[i]:=List.getElem?_eq_getElem (by rw[T.vs_len];exact hit)
    rw[dlt hit,cT,goodNode_true hg h hit,bs,Bool.not_true,cF,show idx (A7 T).2.2.2 (i:Int)=some (T.cs 0)[i] from AC hic,bs]
    refine BC (λs=>∃k:Nat,s.2=(k:Int)∧k≤((T.cs 0)[i]).length∧Ctr T.size (λj=>DJ T i j+(((T.cs 0)[i]).take k).count (j:Int)) s.1) (λs=>((T.cs 0)[i]).length-s.2.toNat) (λr=>Ctr T.size (DJ T (i+1)) r) ?_ ⟨0,rfl,by omega,hl.congr λj _=>by simp⟩ ?_
    ·rintro⟨l,_⟩ ⟨k,rfl,hk,hl⟩
     dsimp only at hl ⊢
     by_cases hkt:k<((T.cs 0)[i]).length
     ·obtain⟨q,e,hq⟩:=k1 _ (List.getElem_mem hkt)
      have hb:=kcnt_part (k:=k) hic q
      rw[dlt hkt,cT,AC hkt,bs,e,hl.idx (by omega),bs,bs,Int.toNat_natCast,w64 (by omega) (by omega),wi (by omega)]
      refine⟨_,rfl,⟨k+1,rfl,hkt,(hl.up (by omega)).congr λj _=> ?_⟩,by dsimp only;omega⟩
      rw[FH hkt,e,Nat.add_assoc]
      congr 2
      by_cases ej:q=j
      ·rw[if_pos ej,if_pos (by rw[ej])]
      ·rw[if_neg ej,if_neg (by omega)]
     ·obtain rfl:k=((T.cs 0)[i]).length:=by omega
      rw[Be,cF]
      refine⟨_,rfl,hl.congr λj _=> ?_⟩
      unfold DJ
      rw[Ej _ hic,List.take_length]
    ·intro r hr
     rw[show idx (A7 T).1 (i:Int)=some T.ks[i] from BE ek,bs]
     cases hc:(T.ks[i]==3) with
     |true=>
      rw[beq_iff_eq] at hc
      obtain⟨w,hw,hwn⟩:=drop_lt hnd (show T.ks[i]? =some 3 by rw[ek,hc]) ev
      have hle:=gcnt_le T i w
      rw[h.gone w hwn] at hle
      rw[cT,show idx (A7 T).2.1 (i:Int)=some T.vs[i] from BE ev,bs,hw,hl2.idx hwn,bs,bs,w64 (by omega) (by omega),Int.toNat_natCast,wi (by omega)]
      refine⟨_,rfl,⟨i+1,rfl,hit,hr,(hl2.up hwn).congr λj _=> ?_⟩,by dsimp only;omega⟩
      rw[FE ek ev,hc,hw]
      by_cases e:w=j
      ·rw[if_pos e,if_pos ⟨rfl,by rw[e]⟩]
      ·rw[if_neg e,if_neg (by omega)]
     |false=>
      rw[cF,wi (by omega)]
      refine⟨_,rfl,⟨i+1,rfl,hit,hr,hl2.congr λj _=> ?_⟩,by dsimp only;omega⟩
      rw[FE ek ev,if_neg (λe=>by rw[e.1] at hc;cases hc)];rfl
   ·obtain rfl:i=T.size:=by omega
    rw[Be,cF]
    exact⟨_,rfl,_,_,rfl,hl,hl2.congr λj _=>gcnt_all j⟩
  rw[e,hy]
 refine key λa b ha hb=> ?_
 dsimp only
 have hal:=ha.len
 refine(C7 T.size (λ_=>true) (.inl ()) (.inr false) (λi hi=> ?_) ?_).trans ?_
 ·rw[hal,dlt hi,cT,ha.idx hi,bs,kcnt_all,w64 (x:=(T.size:Int)-1) (by omega) (by omega),wi (by omega)]
  by_cases hlt:i+1<T.size
  ·rw[if_pos hlt,decide_eq_true (show (i:Int)<(T.size:Int)-1 by omega)];rfl
  ·rw[if_neg hlt,decide_eq_false (show¬(i:Int)<(T.size:Int)-1 by omega)];rfl
 ·rw[hal,Be,cF]
 rw[(Cg _ _).2 (λ_ _=>rfl),cT]
 dsimp only
 have hlast:=(Lies.self T).last
 rw[h.bag,Nat.zero_add] at hlast
 have hz:=Ea hg h (m:=0) ⟨VS.zero,λw hw=>by rw[Bv] at hw;cases hw⟩ hlast
 rw[w64 (by omega) (by omega),show ((T.size:Int)-1)=((T.size-1:Nat):Int) by omega,hz,bs,beq_self_eq_true,cT,gone_one hb (by omega) (λj hj=>h.gone j hj),bs,Bool.not_false,bs,cT,E2 g hg,bs,
  FF (B:=T.bs) hg (λb hb=>h.small hg hb) (by rw[T.bs_len];omega),bs,bs,decide_eq_true]
 have hcov:∀u v,u<g.length→(u=v∨adj g u v)→∃j,∃hj:j<T.bs.length,(u:Int)∈T.bs[j]∧(v:Int)∈T.bs[j]:=by
  intro u v hu huv
  obtain⟨m,hm,h1,h2⟩:=h.cov u v hu huv
  have hin:=T.bm_In h16 h.ok m hm
  have hmb:elems m∈T.bs:=by rw[T.bs_bm];exact List.mem_map.2 ⟨m,hm,rfl⟩
  obtain⟨j,hj,e⟩:=List.getElem_of_mem hmb
  exact⟨j,hj,by rw[e];exact(AT hin.1).2 h1,by rw[e];exact(AT hin.1).2 h2⟩
 intro v hv
 refine⟨?_,λw hw=>hcov v w hv (.inr hw)⟩
 obtain⟨j,hj,h1,_⟩:=hcov v v hv (.inl rfl)
 exact⟨j,hj,h1⟩
end
end Go.Sx

namespace Go.Sx
abbrev Ch :Int→Int→Int:=λa b=>a+b
theorem mask_e {m:Int}(h:VS m):D.h (elems m)=some m:=by
 rw[GM _ (elems_sh m) (λx hx=>by obtain⟨v,_,_,rfl⟩:=mem_elems.1 hx;omega),Gq h]
theorem gatM {A:LI}{Q:List (Int×Int)}{k x:Int}(hB:SmI2 (Q++[(k,x)])):
  D.d2 A (AS Ch Q) k x=some (AS Ch (Q++[(k,x)])):=by
 unfold D.d2
 rw[EZ addC]
 have hx:=hB.right.one
 have hq:=hB.left
 have ht:=hB.tot
 rw[DQ] at ht
 have e1:Du [(k,x)]=x+0:=rfl
 cases h:AS Ch Q k with
 |none=>rfl
 |some y=>
  have hy:=tab_le hq.nn h
  unfold D.I
  show cond true _ _=_
  rw[cT]
  show (some (IntKind.i64.wrap (y+x))).bind _=_
  rw[w64 (by omega) (by omega)]
  rfl
theorem Fj {K:Type}:∀P:List (K×Int),P.flatMap (BS λk=>[(k,id)])=P
 |[]=>rfl
 |p::P=>by rw[List.flatMap_cons,Fj P];rfl
section
variable {n : Nat} (hn : n ≤ 7) {F : LI} (hF : FOk F n)
include hn hF
end
theorem NOk.fine {g:LL}{T:NT}(hg:GOk g)(h:NOk g T):T.fine:=by
 intro v
 rw[h.bag,Bv]
 by_cases hv:v<g.length
 ·rw[h.gone v hv];simp
 ·have:∀t:NT,t.ok g.length→t.gone v=0:=by
   intro t
   induction t with
   |leaf=>intro _;rfl
   |add w t ih=>intro h;exact ih h.2.2
   |drop w t ih=>
    intro h
    simp only[NT.gone]
    rw[ih h.2.2,if_neg (by have:=h.1;omega)]
   |meet t u i1 i2=>
    intro h
    simp only[NT.gone]
    rw[i1 h.2.1,i2 h.2.2]
  rw[this T h.ok];simp
end Go.Sx

namespace Go.Sx
section
variable {K K' : Type} [DecidableEq K] [DecidableEq K']
end
section
variable {n : Nat} (hn : n ≤ 7) {F : LI} (hF : FOk F n)
include hn hF
end
end Go.Sx

namespace Go.Sx
section
variable {K : Type} [DecidableEq K]
noncomputable def runG (addB dropB:K×Int→Int→Int→(K→Option Int)→Option (K→Option Int))(Dn:K×Int→K×Int→(K→Option Int)→Option (K→Option Int))(ks vs:LI)(bs cs:LL)(start:K→Option Int):Option (K→Option Int):=
 (Az (σ:=List (K→Option Int)×Int) (ρ:=List (K→Option Int)) (λs=>match s with
  |(l,x)=>cond (decide (x<(ks.length:Int))) ((idx ks x).bind λk=>(idx vs x).bind λv=>(idx cs x).bind λc=>
    cond (k==1) ((AR l ([start]:List (K→Option Int))).bind λl'=>some (.inl (l',(IntKind.i64.wrap (x+1)))))
    (cond (k==2) ((idx c 0).bind λj=>(idx l j).bind λt=>(BU (σ:=(K→Option Int)) t (λe tab=>(idx c 0).bind λj=>(idx bs j).bind λb=>(D.h b).bind λm=>addB e v m tab) mf0).bind λtab=>(AR l ([tab]:List (K→Option Int))).bind λl'=>some (.inl (l',(IntKind.i64.wrap (x+1)))))
    (cond (k==3) ((idx c 0).bind λj=>(idx l j).bind λt=>(BU (σ:=(K→Option Int)) t (λe tab=>(idx bs x).bind λb=>(D.h b).bind λm=>dropB e v m tab) mf0).bind λtab=>(AR l ([tab]:List (K→Option Int))).bind λl'=>some (.inl (l',(IntKind.i64.wrap (x+1)))))
    (cond (k==4) ((idx c 0).bind λj=>(idx l j).bind λt=>(BU (σ:=(K→Option Int)) t (λe tab=>(idx c 1).bind λj=>(idx l j).bind λu=>(BU (σ:=(K→Option Int)) u (λe2 tab2=>Dn e e2 tab2) tab).bind λl'=>some l') mf0).bind λtab=>(AR l ([tab]:List (K→Option Int))).bind λl'=>some (.inl (l',(IntKind.i64.wrap (x+1)))))
    ((AR l ([mf0]:List (K→Option Int))).bind λl'=>some (.inl (l',(IntKind.i64.wrap (x+1)))))))))
   (some (.inr l))) ([],0)).bind λl=>(idx l (IntKind.i64.wrap ((l.length:Int)-1))).bind λe=>some e
theorem bind_id {α:Type}(x:Option α):(x.bind λy=>some y)=x:=by cases x<;>rfl
variable {addB dropB : K × Int → Int → Int → (K → Option Int) → Option (K → Option Int)} {Dn : K × Int → K × Int → (K → Option Int) → Option (K → Option Int)}
theorem runG_ok {n:Nat}(h16:n≤16)(Tab:NT→K→Option Int){T:NT}(ho:T.ok n)(hf:T.fine)(hsz:T.size≤200)
  (hadd:∀(v:Nat) (t:NT),(NT.add v t).ok n→(NT.add v t).fine→BU (Tab t) (λe tab=>addB e v t.bag tab) mf0=some (Tab (.add v t)))
  (hdrop:∀(v:Nat) (t:NT),(NT.drop v t).ok n→(NT.drop v t).fine→BU (Tab t) (λe tab=>dropB e v (NT.drop v t).bag tab) mf0=some (Tab (.drop v t)))
  (hmeet:∀(t u:NT),(NT.meet t u).ok n→(NT.meet t u).fine→BU (Tab t) (λe tab=>BU (Tab u) (λe2 tab2=>Dn e e2 tab2) tab) mf0=some (Tab (.meet t u))):
  runG addB dropB Dn (A7 T).1 (A7 T).2.1 (A7 T).2.2.1 (A7 T).2.2.2 (Tab .leaf)=some (Tab T):=by
 have hkl:(A7 T).1.length=T.size:=T.ks_len
 have hp:=T.size_pos
 unfold runG
 refine run_tree_bind Tab h16 ho hf ?_ ?_ ?_ ?_ ?_ ?_
 ·intro tabs i hi h hl
  dsimp only
  rw[hkl,dlt hi,cT,BE h.k,bs,BE h.v,bs,BE h.c,bs,show ((1:Int)==1)=true from rfl,cT,A5 (by simp;omega),bs,wi (by omega)]
 ·intro tabs i j v t hi ho hf h hb ht hl
  have hbt:=t.In_bag h16 ho.2.2
  dsimp only
  rw[hkl,dlt hi,cT,BE h.k,bs,BE h.v,bs,BE h.c,bs,show ((2:Int)==1)=false from rfl,cF,show ((2:Int)==2)=true from rfl,cT,
   show idx [(j:Int)] 0=some (j:Int) from rfl,bs,BE ht,bs]
  have e:(fun(e:K×Int) (tab:K→Option Int)=>(some (j:Int)).bind λj=>(idx (A7 T).2.2.1 j).bind λb=>(D.h b).bind λm=>addB e v m tab)=λe tab=>addB e v t.bag tab:=by
   funext e tab
   rw[bs,BE hb,bs,mask_e hbt.1,bs]
  rw[e,hadd v t ho hf,bs,A5 (by simp;omega),bs,wi (by omega)]
 ·intro tabs i j v t hi ho hf h hb ht hl
  have hbt:=NT.In_bag h16 _ ho
  dsimp only
  rw[hkl,dlt hi,cT,BE h.k,bs,BE h.v,bs,BE h.c,bs,show ((3:Int)==1)=false from rfl,cF,show ((3:Int)==2)=false from rfl,cF,show ((3:Int)==3)=true from rfl,cT,
   show idx [(j:Int)] 0=some (j:Int) from rfl,bs,BE ht,bs]
  have e:(fun(e:K×Int) (tab:K→Option Int)=>(idx (A7 T).2.2.1 (i:Int)).bind λb=>(D.h b).bind λm=>dropB e v m tab)=λe tab=>dropB e v (NT.drop v t).bag tab:=by
   funext e tab
   rw[BE h.b,bs,mask_e hbt.1,bs]
  rw[e,hdrop v t ho hf,bs,A5 (by simp;omega),bs,wi (by omega)]
 ·intro tabs i j k t u hi ho hf h ht hu hl
  dsimp only
  rw[hkl,dlt hi,cT,BE h.k,bs,BE h.v,bs,BE h.c,bs,show ((4:Int)==1)=false from rfl,cF,show ((4:Int)==2)=false from rfl,cF,show ((4:Int)==3)=false from rfl,cF,show ((4:Int)==4)=true from rfl,cT,
   show idx [(j:Int),(k:Int)] 0=some (j:Int) from rfl,bs,BE ht,bs]
  have e:(fun(e:K×Int) (tab:K→Option Int)=>(idx [(j:Int),(k:Int)] 1).bind λj=>(idx tabs j).bind λu=>(BU (σ:=(K→Option Int)) u (λe2 tab2=>Dn e e2 tab2) tab).bind λl'=>some l')=λe tab=>BU (Tab u) (λe2 tab2=>Dn e e2 tab2) tab:=by
   funext e tab
   rw[show idx [(j:Int),(k:Int)] 1=some (k:Int) from rfl,bs,BE hu,bs,bind_id]
  rw[e,hmeet t u ho hf,bs,A5 (by simp;omega),bs,wi (by omega)]
 ·intro tabs hl
  dsimp only
  rw[hkl,Be,cF]
 ·intro tabs hl ht
  rw[hl,w64 (by omega) (by omega),show ((T.size:Int)-1)=((T.size-1:Nat):Int) by omega,BE ht,bs]
end
section
variable {K : Type} [DecidableEq K] {F al : LI} {cf : Int → Int → Bool} (κ : Int → (Nat → Int) → K) (val : NT → (Nat → Int) → Int)
def TP (F al:LI)(cf:Int→Int→Bool)(t:NT):List (K×Int):=(LLa F al cf t).map λa=>(κ t.bag a,val t a)
theorem TP_add {v:Nat}{t:NT}{BG:K→List K}(ha:∀a∈LLa F al cf t,BG (κ t.bag a)=(al.filter λc=>fitA F cf t.bag v a c).map λc=>κ (NT.add v t).bag (BW a v c))
  (hv:∀a∈LLa F al cf t,∀c,val (NT.add v t) (BW a v c)=val t a):(TP κ val F al cf t).flatMap (BS λs=>(BG s).map λk=>(k,id))=TP κ val F al cf (NT.add v t):=by
 unfold TP
 rw[List.flatMap_map,LLa,List.map_flatMap]
 refine DC λa hm=> ?_
 unfold BS
 dsimp only
 rw[ha a hm,List.map_map,List.map_map,List.map_map]
 refine List.map_congr_left λc _=> ?_
 show (κ (NT.add v t).bag (BW a v c),val t a)=(κ (NT.add v t).bag (BW a v c),val (NT.add v t) (BW a v c))
 rw[hv a hm c]
theorem TP_drop {v:Nat}{t:NT}{dk:K→K}{df:K→Int→Int}(hk:∀a∈LLa F al cf t,dk (κ t.bag a)=κ (NT.drop v t).bag a)(hv:∀a∈LLa F al cf t,df (κ t.bag a) (val t a)=val (NT.drop v t) a):
  (TP κ val F al cf t).flatMap (BS λs=>[(dk s,df s)])=TP κ val F al cf (NT.drop v t):=by
 unfold TP
 rw[List.flatMap_map,LLa]
 generalize hl:LLa F al cf t=l at hk hv
 clear hl
 induction l with
 |nil=>rfl
 |cons a l ih=>
  rw[List.flatMap_cons,List.map_cons,ih (λb hb=>hk b (List.mem_cons_of_mem _ hb)) (λb hb=>hv b (List.mem_cons_of_mem _ hb))]
  have h1:=hk a (List.mem_cons_self ..)
  have h2:=hv a (List.mem_cons_self ..)
  show (dk (κ t.bag a),df (κ t.bag a) (val t a))::_=_
  rw[h1,h2]
  rfl
def emM (both:Int→Int→Int)(P:List (K×Int))(s:K):List (K×(Int→Int)):=P.flatMap λp=>if s=p.1 then [(s,λx=>both x p.2)] else []
theorem TP_meet {t u:NT}{both:Int→Int→Int}(hb:t.bag=u.bag)(hk:∀a∈LLa F al cf t,∀b∈LLa F al cf u,(κ t.bag a=κ u.bag b↔((elems t.bag).all λx=>a x.toNat==b x.toNat)=true))
  (hs:∀a∈LLa F al cf t,∀b∈LLa F al cf u,κ t.bag (λw=>if t.dm w then a w else b w)=κ t.bag a)
  (hv:∀a∈LLa F al cf t,∀b∈LLa F al cf u,((elems t.bag).all λx=>a x.toNat==b x.toNat)=true→val (NT.meet t u) (λw=>if t.dm w then a w else b w)=both (val t a) (val u b)):
  (TP κ val F al cf t).flatMap (BS (emM both (TP κ val F al cf u)))=TP κ val F al cf (NT.meet t u):=by
 unfold TP
 rw[List.flatMap_map,LLa,List.map_flatMap]
 refine DC λa ha=> ?_
 unfold BS emM
 dsimp only
 rw[List.flatMap_map,List.map_flatMap,List.map_map]
 have hk:=hk a ha
 have hs:=hs a ha
 have hv:=hv a ha
 generalize LLa F al cf u=M at hk hs hv
 induction M with
 |nil=>rfl
 |cons b M ih=>
  have ih:=ih (λc hc=>hk c (List.mem_cons_of_mem _ hc)) (λc hc=>hs c (List.mem_cons_of_mem _ hc)) (λc hc=>hv c (List.mem_cons_of_mem _ hc))
  rw[List.flatMap_cons,ih,List.filter_cons]
  have h1:=hk b (List.mem_cons_self ..)
  have h2:=hs b (List.mem_cons_self ..)
  have h3:=hv b (List.mem_cons_self ..)
  by_cases h:((elems t.bag).all λx=>a x.toNat==b x.toNat)=true
  ·rw[if_pos (h1.2 h),if_pos h,List.map_cons]
   show (κ t.bag a,both (val t a) (val u b))::_=(κ t.bag (λw=>if t.dm w then a w else b w),val (NT.meet t u) (λw=>if t.dm w then a w else b w))::_
   rw[h2,h3 h]
   rfl
  ·rw[if_neg (λe=>h (h1.1 e)),if_neg h]
   rfl
end
def AllA (al:LI):Nat→List (Nat→Int)
 |0=>[λ_=>0]
 |m+1=>(AllA al m).flatMap λa=>(0::al).map λc=>BW a m c
theorem AllA_len (al:LI):∀m,(AllA al m).length=(al.length+1)^m
 |0=>rfl
 |m+1=>by
  rw[AllA,Nat.pow_succ,←AllA_len al m]
  generalize AllA al m=l
  induction l with
  |nil=>simp
  |cons a l ih=>rw[List.flatMap_cons,List.length_append,ih,List.length_map,List.length_cons,List.length_cons,Nat.add_mul];omega
theorem mem_AllA {al:LI}:∀{m:Nat} {a:Nat→Int},(∀v,v<m→a v=0∨a v∈al)→(∀v,m≤v→a v=0)→a∈AllA al m
 |0,a,_,h=>by
  rw[AllA,List.mem_singleton]
  exact funext λv=>h v (Nat.zero_le _)
 |m+1,a,h1,h2=>by
  rw[AllA,List.mem_flatMap]
  refine⟨BW a m 0,mem_AllA (λv hv=> ?_) (λv hv=> ?_),List.mem_map.2 ⟨a m,?_,funext λv=> ?_⟩⟩
  ·unfold BW
   rw[if_neg (by omega)]
   exact h1 v (by omega)
  ·unfold BW
   by_cases e:v=m
   ·rw[if_pos e]
   ·rw[if_neg e];exact h2 v (by omega)
  ·rcases h1 m (by omega) with h|h
   ·rw[h];exact List.mem_cons_self ..
   ·exact List.mem_cons_of_mem _ h
  ·unfold BW
   by_cases e:v=m
   ·rw[if_pos e,e]
   ·rw[if_neg e,if_neg e]
theorem nodup_sub_len {α:Type}{l m:List α}(h:l.Nodup)(hs:∀x∈l,x∈m):l.length≤m.length:=by
 classical
 induction l generalizing m with
 |nil=>exact Nat.zero_le _
 |cons a l ih=>
  rw[List.nodup_cons] at h
  have ha:=hs a (List.mem_cons_self ..)
  have:=ih h.2 (m:=m.erase a) λx hx=>(List.mem_erase_of_ne (λe=>h.1 (by rw[←e];exact hx))).2 (hs x (List.mem_cons_of_mem _ hx))
  rw[List.length_erase_of_mem ha] at this
  have:0<m.length:=List.length_pos_of_mem ha
  rw[List.length_cons];omega
theorem LLa_len {n:Nat}(hn:n≤16){F:LI}{al:LI}{cf:Int→Int→Bool}(hal:al.Nodup){t:NT}(ho:t.ok n)(hf:t.fine):
  (LLa F al cf t).length≤(al.length+1)^n:=by
 rw[←AllA_len]
 refine nodup_sub_len (Fp hn hal t ho hf) λa ha=> ?_
 obtain⟨h1,h2⟩:=Dj hn t ho a ha
 refine mem_AllA (λv _=> ?_) (λv hv=>h2 v λhd=>by have:=NT.dm_lt hn ho hd;omega)
 by_cases hd:t.dm v
 ·exact .inr (h1 v hd)
 ·exact .inl (h2 v hd)
end Go.Sx

namespace Go.Sx
noncomputable def kS (b:Int)(a:Nat→Int):Int:=msk 16 λv=>has b v=true∧a v=1
abbrev alS :LI:=[0,1]
def cfS (x y:Int):Bool:=x==1&&y==1
theorem cfS_comm (x y:Int):cfS x y=cfS y x:=Bool.and_comm _ _
theorem De (b:Int)(a:Nat→Int):VS (kS b a):=msk_vs _ _
theorem C5 {n:Nat}(hn:n≤16){b:Int}(hb:In n b)(a:Nat→Int)(v:Nat):has (kS b a) v=true↔has b v=true∧a v=1:=by
 unfold kS
 rw[has_msk (Nat.le_refl 16)]
 exact⟨λh=>h.2,λh=>⟨by have:=hb.2 v h.1;omega,h⟩⟩
def DL (F:LI)(v:Nat)(s:Int):LI:=if iand .u32 (F.getD v 0) s !=0 then [s] else [s,ior .u32 s (ishl .u32 1 (v:Int))]
section
variable {n : Nat} (hn : n ≤ 16) {F : LI} (hF : FOk F n)
include hn hF
theorem addsS_ok {v:Nat}{t:NT}(ho:(NT.add v t).ok n)(a:Nat→Int):DL F v (kS t.bag a)=(alS.filter λc=>fitA F cfS t.bag v a c).map λc=>kS (NT.add v t).bag (BW a v c):=by
 have hv:=ho.1
 have hb:=t.In_bag hn ho.2.2
 have hb':=NT.In_bag hn _ ho
 have hhas:=C5 hn hb
 have h0:fitA F cfS t.bag v a 0=true:=(Gg hn hF ho.2.2 hv).2 λu _ _=>by unfold cfS;simp
 have h1:fitA F cfS t.bag v a 1=true↔iand .u32 (F.getD v 0) (kS t.bag a)=0:=by
  rw[Gg hn hF ho.2.2 hv,(VS.iand _ _).eq_zero]
  constructor
  ·intro h u _
   rw[B8 (hF.vs v hv) (De _ _)]
   cases h1:has (F.getD v 0) u with
   |false=>rfl
   |true=>
    cases h2:has (kS t.bag a) u with
    |false=>rfl
    |true=>
     obtain⟨h3,h4⟩:=(hhas a u).1 h2
     have:=h u h1 h3
     rw[h4] at this;cases this
  ·intro h u h1 h2
   have h1:has (F.getD v 0) u=true:=h1
   have:=h u (by have:=hb.2 u h2;omega)
   rw[B8 (hF.vs v hv) (De _ _),h1,Bool.true_and] at this
   unfold cfS
   cases h3:(a u==1) with
   |false=>rfl
   |true=>
    rw[(hhas a u).2 ⟨h2,beq_iff_eq.1 h3⟩] at this;cases this
 have k0:kS (NT.add v t).bag (BW a v 0)=kS t.bag a:=by
  refine VS.ext (De _ _) (De _ _) λw _=> ?_
  rw[Bool.eq_iff_iff,C5 hn hb',hhas,E3 (by omega),Bool.or_eq_true,decide_eq_true_eq]
  unfold BW
  by_cases e:w=v
  ·rw[if_pos e,e,ho.2.1]
   simp
  ·rw[if_neg e]
   exact⟨fun⟨h,h'⟩=>⟨h.resolve_right e,h'⟩,fun⟨h,h'⟩=>⟨.inl h,h'⟩⟩
 have k1:kS (NT.add v t).bag (BW a v 1)=ior .u32 (kS t.bag a) (ishl .u32 1 (v:Int)):=by
  refine VS.ext (De _ _) (VS.ior _ _) λw _=> ?_
  rw[Bool.eq_iff_iff,C5 hn hb',CG (De _ _) (VS.ishl _ _),BX (by omega),Bool.or_eq_true,decide_eq_true_eq,hhas,E3 (by omega),Bool.or_eq_true,decide_eq_true_eq]
  unfold BW
  by_cases e:w=v
  ·rw[if_pos e]
   exact⟨λ_=> .inr e,λ_=>⟨.inr e,rfl⟩⟩
  ·rw[if_neg e]
   exact⟨fun⟨h,h'⟩=> .inl ⟨h.resolve_right e,h'⟩,λh=>(h.resolve_right e).imp .inl id⟩
 unfold DL
 by_cases hz:iand .u32 (F.getD v 0) (kS t.bag a)=0
 ·rw[show (iand .u32 (F.getD v 0) (kS t.bag a) !=0)=false by rw[hz];rfl,if_neg (by simp),List.filter_cons,if_pos h0,List.filter_cons,if_pos (h1.2 hz),List.filter_nil,List.map_cons,List.map_cons,List.map_nil,k0,k1]
 ·rw[if_pos (bne_iff_ne.2 hz),List.filter_cons,if_pos h0,List.filter_cons,if_neg (λh=>hz (h1.1 h)),List.filter_nil,List.map_cons,List.map_nil,k0]
omit hF in
theorem dropS_ok {v:Nat}{t:NT}(ho:(NT.drop v t).ok n)(a:Nat→Int):iandNot .u32 (kS t.bag a) (ishl .u32 1 (v:Int))=kS (NT.drop v t).bag a∧(has (kS t.bag a) v=true↔a v=1):=by
 have hv:=ho.1
 have hb:=t.In_bag hn ho.2.2
 have hb':=NT.In_bag hn _ ho
 constructor
 ·refine VS.ext (VS.iandNot _ _) (De _ _) λw _=> ?_
  rw[Bool.eq_iff_iff,A8 (De _ _) (VS.ishl _ _),BX (by omega),Bool.and_eq_true,C5 hn hb,C5 hn hb',EJ (by omega),Bool.and_eq_true]
  exact⟨fun⟨⟨a,b⟩,c⟩=>⟨⟨a,c⟩,b⟩,fun⟨⟨a,c⟩,b⟩=>⟨⟨a,b⟩,c⟩⟩
 ·rw[C5 hn hb]
  exact⟨λh=>h.2,λh=>⟨ho.2.1,h⟩⟩
omit hF in
theorem meetS_ok {t u:NT}(ho:(NT.meet t u).ok n){a b:Nat→Int}(ha:∀v,t.dm v→a v∈alS)(hb':∀v,u.dm v→b v∈alS):
  (kS t.bag a=kS u.bag b↔((elems t.bag).all λx=>a x.toNat==b x.toNat)=true)∧kS t.bag (λw=>if t.dm w then a w else b w)=kS t.bag a:=by
 have hb:=t.In_bag hn ho.2.1
 have hbu:u.bag=t.bag:=ho.1.symm
 constructor
 ·rw[List.all_eq_true,hbu]
  constructor
  ·intro h x hx
   obtain⟨w,_,hw,rfl⟩:=mem_elems.1 hx
   rw[Int.toNat_natCast,beq_iff_eq]
   have h1:=ha w (.inr hw)
   have h2:=hb' w (.inr (by rw[hbu];exact hw))
   have h3:=C5 hn hb a w
   have h4:=C5 hn hb b w
   rw[h] at h3
   have h5:a w=1↔b w=1:=⟨λe=>(h4.1 (h3.2 ⟨hw,e⟩)).2,λe=>(h3.1 (h4.2 ⟨hw,e⟩)).2⟩
   simp only[alS,List.mem_cons,List.not_mem_nil,or_false] at h1 h2
   omega
  ·intro h
   refine VS.ext (De _ _) (De _ _) λw _=> ?_
   rw[Bool.eq_iff_iff,C5 hn hb,C5 hn hb]
   constructor
   ·rintro⟨h1,h2⟩
    have:=h (w:Int) ((AT hb.1).2 h1)
    rw[Int.toNat_natCast,beq_iff_eq] at this
    exact⟨h1,by omega⟩
   ·rintro⟨h1,h2⟩
    have:=h (w:Int) ((AT hb.1).2 h1)
    rw[Int.toNat_natCast,beq_iff_eq] at this
    exact⟨h1,by omega⟩
 ·refine VS.ext (De _ _) (De _ _) λw _=> ?_
  rw[Bool.eq_iff_iff,C5 hn hb,C5 hn hb]
  constructor
  ·rintro⟨h1,h2⟩
   rw[if_pos (show t.dm w from .inr h1)] at h2
   exact⟨h1,h2⟩
  ·rintro⟨h1,h2⟩
   refine⟨h1,?_⟩
   rw[if_pos (show t.dm w from .inr h1)]
   exact h2
end
def CI (f:Nat→Int):Nat→Int
 |0=>0
 |m+1=>CI f m+f m
theorem DG {f g:Nat→Int}:∀{m:Nat},(∀v,v<m→f v=g v)→CI f m=CI g m
 |0,_=>rfl
 |m+1,h=>by rw[CI,CI,DG (m:=m) λv hv=>h v (by omega),h m (by omega)]
theorem Ga (f g:Nat→Int):∀m,CI (λv=>f v+g v) m=CI f m+CI g m
 |0=>rfl
 |m+1=>by simp only[CI,Ga f g m];omega
theorem sumI_one {f:Nat→Int}{i:Nat}{x:Int}:∀{m:Nat},i<m→CI (λv=>if v=i then x else 0) m=x
 |0,h=>by omega
 |m+1,h=>by
  rw[CI]
  by_cases e:m=i
  ·have:CI (λv=>if v=i then x else 0) m=CI (λ_=>0) m:=DG λv hv=>if_neg (by omega)
   have h0:∀m,CI (λ_=>0) m=0:=λm=>by
    induction m with
    |zero=>rfl
    |succ m ih=>rw[CI,ih];rfl
   rw[this,h0,if_pos e];omega
  ·rw[sumI_one (f:=f) (m:=m) (by omega),if_neg e];omega
theorem F7 {f:Nat→Int}{B:Int}:∀{m:Nat},(∀v,v<m→0≤f v∧f v≤B)→0≤CI f m∧CI f m≤m*B
 |0,_=>by simp[CI]
 |m+1,h=>by
  have h1:=F7 (m:=m) λv hv=>h v (by omega)
  have h2:=h m (by omega)
  rw[CI]
  have:((m+1:Nat):Int)*B=m*B+B:=by rw[Int.natCast_succ,Int.add_mul,Int.one_mul]
  omega
def CJ (n:Nat)(w:Nat→Int)(t:NT)(a:Nat→Int):Int:=CI (λv=>if 1≤t.gone v∧a v=1 then w v else 0) n
section
variable {n : Nat} {w : Nat → Int}
theorem valW_leaf (a:Nat→Int):CJ n w .leaf a=0:=by
 unfold CJ
 induction n with
 |zero=>rfl
 |succ m ih=>rw[CI,ih,if_neg (λh=>by cases h.1)];rfl
theorem valW_add {v:Nat}{t:NT}(h0:t.gone v=0)(a:Nat→Int)(c:Int):CJ n w (NT.add v t) (BW a v c)=CJ n w t a:=by
 unfold CJ
 refine DG λu _=> ?_
 have hg:(NT.add v t).gone u=t.gone u:=rfl
 by_cases e:u=v
 ·subst e
  rw[if_neg (λh=>by rw[hg] at h;omega),if_neg (λh=>by omega)]
 ·have h1:BW a v c u=a u:=if_neg e
  by_cases h:1≤t.gone u∧a u=1
  ·rw[if_pos h,if_pos (by rw[hg,h1];exact h)]
  ·rw[if_neg h,if_neg (by rw[hg,h1];exact h)]
theorem valW_drop {v:Nat}{t:NT}(hv:v<n)(h0:t.gone v=0)(a:Nat→Int):CJ n w (NT.drop v t) a=CJ n w t a+(if a v=1 then w v else 0):=by
 unfold CJ
 rw[←sumI_one (f:=w) (x:=if a v=1 then w v else 0) hv,←Ga]
 refine DG λu _=> ?_
 have hg:(NT.drop v t).gone u=t.gone u+(if v=u then 1 else 0):=rfl
 by_cases e:u=v
 ·subst e
  rw[if_pos rfl] at hg
  rw[if_pos rfl,if_neg (c:=1≤t.gone u∧_) (λh=>by omega)]
  by_cases h:a u=1
  ·rw[if_pos ⟨by omega,h⟩,if_pos h];omega
  ·rw[if_neg (λhh=>h hh.2),if_neg h];omega
 ·rw[if_neg (λh=>e h.symm)] at hg
  rw[if_neg e]
  by_cases h:1≤t.gone u∧a u=1
  ·rw[if_pos h,if_pos ⟨by omega,h.2⟩];omega
  ·rw[if_neg h,if_neg (λhh=>h ⟨by omega,hh.2⟩)];omega
theorem valW_meet {t u:NT}{F al:LI}{cf:Int→Int→Bool}(hg:∀v,t.gone v+u.gone v≤1)(ht:t.fine)(hu:u.fine)(hb:t.bag=u.bag){a b:Nat→Int}(hag:∀v,has t.bag v=true→a v=b v):
  CJ n w (NT.meet t u) (λv=>if t.dm v then a v else b v)=CJ n w t a+CJ n w u b:=by
 unfold CJ
 rw[←Ga]
 refine DG λv _=> ?_
 have h1:=hg v
 have h2:=ht v
 have h3:=hu v
 rw[←hb] at h3
 have hg:(NT.meet t u).gone v=t.gone v+u.gone v:=rfl
 by_cases g1:1≤t.gone v
 ·have hm:(λv=>if t.dm v then a v else b v) v=a v:=if_pos (.inl g1)
  rw[hm]
  by_cases e:a v=1
  ·rw[if_pos ⟨by omega,e⟩,if_pos ⟨g1,e⟩,if_neg (λh=>by omega)];omega
  ·rw[if_neg (λh=>e h.2),if_neg (λh=>e h.2),if_neg (λh=>by omega)];rfl
 ·by_cases g2:1≤u.gone v
  ·have hnb:has t.bag v=false:=by
    cases hh:has t.bag v with
    |false=>rfl
    |true=>rw[hh,if_pos rfl] at h3;omega
   have hm:(λv=>if t.dm v then a v else b v) v=b v:=if_neg (λh=>h.elim g1 λh=>by rw[hnb] at h;cases h)
   rw[hm]
   by_cases e:b v=1
   ·rw[if_pos ⟨by omega,e⟩,if_neg (λh=>g1 h.1),if_pos ⟨g2,e⟩];omega
   ·rw[if_neg (λh=>e h.2),if_neg (λh=>g1 h.1),if_neg (λh=>e h.2)];rfl
  ·rw[if_neg (λh=>by omega),if_neg (λh=>g1 h.1),if_neg (λh=>g2 h.1)];rfl
theorem valW_bd {B:Int}(hw:∀v,v<n→0≤w v∧w v≤B)(hB:0≤B)(t:NT)(a:Nat→Int):0≤CJ n w t a∧CJ n w t a≤n*B:=F7 λv hv=>by
 have:=hw v hv
 split<;>omega
end
end Go.Sx

namespace Go.Sx
theorem root_gone {g:LL}{T:NT}(h:NOk g T):∀v,1≤T.gone v↔v<g.length:=λv=>by
 constructor
 ·intro hv
  apply Classical.byContradiction
  intro hvn
  have hlt:∀t:NT,t.ok g.length→t.gone v=0:=by
   intro t
   induction t with
   |leaf=>intro _;rfl
   |add w t ih=>intro h;exact ih h.2.2
   |drop w t ih=>
    intro h
    simp only[NT.gone]
    rw[ih h.2.2,if_neg (by have:=h.1;omega)]
   |meet t u i1 i2=>
    intro h
    simp only[NT.gone]
    rw[i1 h.2.1,i2 h.2.2]
  have:=hlt T h.ok
  omega
 ·intro hv
  rw[h.gone v hv]
  exact Nat.le_refl _
theorem EQ {g:LL}{T:NT}(h:NOk g T)(v:Nat):T.dm v↔v<g.length:=by
 unfold NT.dm
 rw[root_gone h,h.bag,Bv]
 simp
theorem NOk_cl {g:LL}{T:NT}(hg:GOk g)(h:NOk g T):∀s,Sub1 s T→s.cl (g.map mk):=λs hs=>
 cl_all hg.n16 (FOk.of hg) h.ok (h.fine hg) (λu v hu huv=>h.cov u v hu (.inr ((Ey hg hu).1 huv))) hs
def SM (g:LL):LI:=((List.range (2^g.length)).filter λi:Nat=>stB g (i:Int)).map Int.ofNat
theorem Ee {g:LL}(hg:GOk g)(m:Int):m∈SM g↔In g.length m∧∀u w,has m u=true→has m w=true→¬adj g u w:=by
 have h16:=hg.n16
 unfold SM
 rw[List.mem_map]
 constructor
 ·rintro⟨i,hi,rfl⟩
  rw[List.mem_filter,List.mem_range] at hi
  have hb:=In.of hi.1 h16
  exact⟨hb,(Fk hg hb).1 hi.2⟩
 ·rintro⟨hb,hs⟩
  obtain⟨i,rfl,hi⟩:=(hb.s16 h16).nat
  have:i<2^g.length:=by
   apply Nat.lt_pow_two_of_testBit
   intro j hj
   cases hc:i.testBit j
   ·rfl
   ·have:=hb.2 j (by rw[B7];exact hc)
    omega
  exact⟨i,List.mem_filter.2 ⟨List.mem_range.2 this,(Fk hg hb).2 hs⟩,rfl⟩
theorem SM_nd (g:LL):(SM g).Nodup:=by
 unfold SM List.Nodup
 rw[List.pairwise_map]
 exact((List.nodup_range (n:=2^g.length)).sublist List.filter_sublist).imp fun{a b} h e=>h (by
  have e:(a:Int)=(b:Int):=e
  omega)
def wt (w:Nat→Int)(n:Nat)(m:Int):Int:=CI (λv=>if has m v=true then w v else 0) n
section
variable {g : LL} {T : NT} (hg : GOk g) (h : NOk g T)
include hg h
theorem asn_root {al:LI}{cf:Int→Int→Bool}{a:Nat→Int}:Asn (g.map mk) al cf T a↔(∀v,v<g.length→a v∈al)∧(∀v,g.length≤v→a v=0)∧∀u w,adj g u w→cf (a u) (a w)=false:=by
 constructor
 ·intro k
  refine⟨λv hv=>k.at_ v ((EQ h v).2 hv),λv hv=>k.out v λhd=>by have:=(EQ h v).1 hd;omega,λu w huw=> ?_⟩
  have h1:u<g.length:=by
   apply Classical.byContradiction
   intro hc
   have:row g u=[]:=by unfold row;rw[List.getD_eq_getElem?_getD,List.getElem?_eq_none (by omega)];rfl
   unfold adj at huw
   rw[this] at huw;cases huw
  exact k.ok u w ((EQ h u).2 h1) ((EQ h w).2 (hg.lt h1 huw)) ((Ey hg h1).2 huw)
 ·rintro⟨k1,k2,k3⟩
  exact⟨λv hv=>k1 v ((EQ h v).1 hv),λv hv=>k2 v (by
   apply Classical.byContradiction
   intro hc
   exact hv ((EQ h v).2 (by omega))),λu w hu hw huw=>k3 u w ((Ey hg ((EQ h u).1 hu)).1 huw)⟩
theorem FO :((LLa (g.map mk) alS cfS T).map λa=>kS (full g.length) a).Perm (SM g):=by
 have h16:=hg.n16
 have hF:=FOk.of hg
 have hf:=h.fine hg
 have hIf:In g.length (full g.length):=⟨Dp _,λw hw=>by rw[DA h16,decide_eq_true_eq] at hw;exact hw⟩
 have hk:∀a v,has (kS (full g.length) a) v=true↔v<g.length∧a v=1:=λa v=>by
  rw[C5 h16 hIf,DA h16,decide_eq_true_eq]
 have hmem:=λa=>(Fm h16 hF cfS_comm (al:=alS) T h.ok hf (NOk_cl hg h) a).trans (asn_root hg h)
 refine(List.perm_ext_iff_of_nodup ?_ (SM_nd g)).2 λm=> ?_
 ·unfold List.Nodup
  rw[List.pairwise_map]
  refine List.Pairwise.imp_of_mem ?_ (Fp h16 (by decide) T h.ok hf)
  intro a b ha hb hab e
  refine hab (funext λv=> ?_)
  obtain⟨a1,a2,_⟩:=(hmem a).1 ha
  obtain⟨b1,b2,_⟩:=(hmem b).1 hb
  by_cases hv:v<g.length
  ·have h1:=a1 v hv
   have h2:=b1 v hv
   have h3:=hk a v
   have h4:=hk b v
   rw[e] at h3
   have h5:a v=1↔b v=1:=⟨λe=>(h4.1 (h3.2 ⟨hv,e⟩)).2,λe=>(h3.1 (h4.2 ⟨hv,e⟩)).2⟩
   simp only[alS,List.mem_cons,List.not_mem_nil,or_false] at h1 h2
   omega
  ·rw[a2 v (by omega),b2 v (by omega)]
 ·rw[List.mem_map,Ee hg]
  constructor
  ·rintro⟨a,ha,rfl⟩
   obtain⟨a1,a2,a3⟩:=(hmem a).1 ha
   refine⟨⟨De _ _,λw hw=>((hk a w).1 hw).1⟩,λu w hu hw huw=> ?_⟩
   have:=a3 u w huw
   rw[((hk a u).1 hu).2,((hk a w).1 hw).2] at this
   cases this
  ·rintro⟨hI,hs⟩
   refine⟨λv=>if has m v=true then 1 else 0,(hmem _).2 ⟨λv _=> ?_,λv hv=> ?_,λu w huw=> ?_⟩,?_⟩
   ·split<;>simp
   ·rw[if_neg λhh=>by have:=hI.2 v hh;omega]
   ·by_cases h1:has m u=true
    ·by_cases h2:has m w=true
     ·exact absurd huw (hs u w h1 h2)
     ·rw[if_neg h2];unfold cfS;simp
    ·rw[if_neg h1];unfold cfS;simp
   ·refine VS.ext (De _ _) hI.1 λv _=> ?_
    rw[Bool.eq_iff_iff,hk]
    constructor
    ·rintro⟨_,h2⟩
     by_cases h1:has m v=true
     ·exact h1
     ·have:(if has m v=true then(1:Int) else 0)=1:=h2
      rw[if_neg h1] at this;cases this
    ·intro h1
     exact⟨hI.2 v h1,if_pos h1⟩
theorem val_root (w:Nat→Int)(a:Nat→Int):CJ g.length w T a=wt w g.length (kS (full g.length) a):=by
 have h16:=hg.n16
 have hIf:In g.length (full g.length):=⟨Dp _,λw hw=>by rw[DA h16,decide_eq_true_eq] at hw;exact hw⟩
 unfold CJ wt
 refine DG λv hv=> ?_
 have h1:=C5 h16 hIf a v
 rw[DA h16,decide_eq_true_eq] at h1
 have h2:=(root_gone h v).2 hv
 by_cases e:a v=1
 ·rw[if_pos ⟨h2,e⟩,if_pos (h1.2 ⟨hv,e⟩)]
 ·rw[if_neg (λhh=>e hh.2),if_neg (λhh=>e (h1.1 hh).2)]
end
end Go.Sx

namespace Go.Sx
def Cm :LI→Int
 |[]=>0
 |x::l=>x+Cm l
theorem Gh :∀l m:LI,Cm (l++m)=Cm l+Cm m
 |[],m=>by simp[Cm]
 |x::l,m=>by rw[List.cons_append,Cm,Cm,Gh l m];omega
theorem sumZ_perm {l m:LI}(h:l.Perm m):Cm l=Cm m:=by
 induction h with
 |nil=>rfl
 |cons a _ ih=>rw[Cm,Cm,ih]
 |swap a b l=>simp only[Cm];omega
 |trans _ _ h1 h2=>rw[h1,h2]
theorem sumZ_flat {α:Type}(f:α→LI):∀l:List α,Cm (l.flatMap f)=Cm (l.map λa=>Cm (f a))
 |[]=>rfl
 |a::l=>by rw[List.flatMap_cons,Gh,List.map_cons,Cm,sumZ_flat f l]
theorem sumZ_mul {α:Type}(c:Int)(f:α→Int):∀l:List α,Cm (l.map λa=>c*f a)=c*Cm (l.map f)
 |[]=>by simp[Cm]
 |a::l=>by rw[List.map_cons,List.map_cons,Cm,Cm,sumZ_mul c f l,Int.mul_add]
theorem Gb {α:Type}{f:α→Int}{c:Int}:∀{l:List α},(∀a∈l,f a=c)→Cm (l.map f)=l.length*c
 |[],_=>by simp[Cm]
 |a::l,h=>by
  rw[List.map_cons,Cm,h a (List.mem_cons_self ..),Gb (l:=l) λb hb=>h b (List.mem_cons_of_mem _ hb),List.length_cons,Int.natCast_succ,Int.add_mul,Int.one_mul]
  omega
theorem len_flat {α β:Type}(f:α→List β):∀l:List α,((l.flatMap f).length:Int)=Cm (l.map λa=>((f a).length:Int))
 |[]=>rfl
 |a::l=>by rw[List.flatMap_cons,List.length_append,List.map_cons,Cm,←len_flat f l,Int.natCast_add]
theorem G6 {α:Type}(p:α→Bool)(f:α→Int):∀l:List α,Cm ((l.filter p).map f)=Cm (l.map λa=>if p a=true then f a else 0)
 |[]=>rfl
 |a::l=>by
  rw[List.map_cons,Cm,←G6 p f l,List.filter_cons]
  split
  ·rw[List.map_cons,Cm]
  ·omega
def ffk (k:Int):Nat→Int
 |0=>1
 |i+1=>ffk k i*max (k-i) 0
theorem ffk_zero {k:Nat}:∀{L:Nat},k<L→ffk k L=0
 |0,h=>by omega
 |L+1,h=>by
  rw[ffk]
  by_cases e:k<L
  ·rw[ffk_zero e,Int.zero_mul]
  ·have:max ((k:Int)-L) 0=0:=by omega
   rw[this,Int.mul_zero]
theorem ffk_pos {k:Nat}:∀{L:Nat},L≤k→0<ffk k L
 |0,_=>by show (0:Int)<1;omega
 |L+1,h=>by
  rw[ffk]
  exact Int.mul_pos (ffk_pos (by omega)) (by omega)
def WW (F:LI):Nat→Nat→LI→List Nat
 |0,_,sets=>[sets.length]
 |m+1,v,sets=>((List.range sets.length).flatMap λi=>if iand .u32 (sets.getD i 0) (F.getD v 0)=0 then WW F m (v+1) (sets.set i (ior .u32 (sets.getD i 0) (ishl .u32 1 (v:Int)))) else [])++WW F m (v+1) (sets++[ishl .u32 1 (v:Int)])
theorem WW_ge {F:LI}:∀(m v:Nat) (sets:LI),∀L∈WW F m v sets,sets.length≤L
 |0,v,sets,L,h=>by rw[WW,List.mem_singleton] at h;omega
 |m+1,v,sets,L,h=>by
  rw[WW,List.mem_append] at h
  rcases h with h|h
  ·obtain⟨i,_,h⟩:=List.mem_flatMap.1 h
   split at h
   ·have:=WW_ge m (v+1) _ L h
    rw[List.length_set] at this;exact this
   ·cases h
  ·have:=WW_ge m (v+1) _ L h
   rw[List.length_append,List.length_singleton] at this;omega
def fitE (F:LI)(v:Nat)(a:Nat→Int)(c:Int):Bool:=(List.range v).all λu=> !(nb F v u&&a u==c)
theorem fitE_iff {F:LI}{v:Nat}{a:Nat→Int}{c:Int}:fitE F v a c=true↔∀u,u<v→nb F v u=true→a u≠c:=by
 unfold fitE
 rw[List.all_eq_true]
 constructor
 ·intro h u hu h1 h2
  have:=h u (List.mem_range.2 hu)
  rw[h1,beq_iff_eq.2 h2] at this;cases this
 ·intro h u hu
  have:=h u (List.mem_range.1 hu)
  cases h1:nb F v u with
  |false=>rfl
  |true=>
   rw[show (a u==c)=false from beq_eq_false_iff_ne.2 (this h1)];rfl
def EL (F al:LI):Nat→Nat→(Nat→Int)→List (Nat→Int)
 |0,_,a=>[a]
 |m+1,v,a=>(al.filter λc=>fitE F v a c).flatMap λc=>EL F al m (v+1) (BW a v c)
structure ClC (al:LI)(v:Nat)(sets:LI)(a:Nat→Int)(col:Nat→Int):Prop where
 vs:∀i,i<sets.length→VS (sets.getD i 0)
 has_:∀i,i<sets.length→∀u,has (sets.getD i 0) u=true↔u<v∧a u=col i
 all_:∀u,u<v→∃i,i<sets.length∧a u=col i
 inj:∀i j,i<sets.length→j<sets.length→col i=col j→i=j
 mem:∀i,i<sets.length→col i∈al
theorem WW_EL {n:Nat}(hn:n≤16){F:LI}(hF:FOk F n){al:LI}(hal:al.Nodup):∀(m v:Nat) (sets:LI) (a col:Nat→Int),v+m=n→ClC al v sets a col→
  Cm ((WW F m v sets).map (ffk al.length))=ffk al.length sets.length*((EL F al m v a).length:Int)
 |0,v,sets,a,col,_,_=>by
  show ffk al.length sets.length+0=_*((1:Nat):Int)
  omega
 |m+1,v,sets,a,col,hvm,h=>by
  have hvn:v<n:=by omega
  rw[WW,List.map_append,Gh,EL,len_flat,G6]
  generalize hX:(λc=>((EL F al m (v+1) (BW a v c)).length:Int))=X
  have hXc:∀c,((EL F al m (v+1) (BW a v c)).length:Int)=X c:=λc=>by rw[←hX]
  have hfit:∀i,i<sets.length→(fitE F v a (col i)=true↔iand .u32 (sets.getD i 0) (F.getD v 0)=0):=λi hi=>by
   rw[fitE_iff,(VS.iand _ _).eq_zero]
   constructor
   ·intro k u _
    rw[B8 (h.vs i hi) (hF.vs v hvn)]
    cases h1:has (sets.getD i 0) u with
    |false=>rfl
    |true=>
     obtain⟨k1,k2⟩:=(h.has_ i hi u).1 h1
     cases h2:has (F.getD v 0) u with
     |false=>rfl
     |true=>exact absurd k2 (k u k1 h2)
   ·intro k u hu h1 h2
    have:=k u (by omega)
    rw[B8 (h.vs i hi) (hF.vs v hvn),(h.has_ i hi u).2 ⟨hu,h2⟩] at this
    have h1:has (F.getD v 0) u=true:=h1
    rw[h1] at this;cases this
  have hin:∀i,i<sets.length→Cm ((WW F m (v+1) (sets.set i (ior .u32 (sets.getD i 0) (ishl .u32 1 (v:Int))))).map (ffk al.length))=ffk al.length sets.length*X (col i):=λi hi=>by
   have hg:∀j,(sets.set i (ior .u32 (sets.getD i 0) (ishl .u32 1 (v:Int)))).getD j 0=if j=i then ior .u32 (sets.getD i 0) (ishl .u32 1 (v:Int)) else sets.getD j 0:=λj=>by
    rw[List.getD_eq_getElem?_getD,List.getElem?_set]
    by_cases e:i=j
    ·rw[if_pos e,if_pos (by omega),if_pos e.symm];rfl
    ·rw[if_neg e,if_neg (λh=>e h.symm),List.getD_eq_getElem?_getD]
   have:=WW_EL hn hF hal m (v+1) (sets.set i (ior .u32 (sets.getD i 0) (ishl .u32 1 (v:Int)))) (BW a v (col i)) col (by omega)
    ⟨λj hj=>by
     rw[List.length_set] at hj
     rw[hg]
     split
     ·exact VS.ior _ _
     ·exact h.vs j hj,λj hj u=>by
     rw[List.length_set] at hj
     rw[hg]
     unfold BW
     by_cases e:j=i
     ·subst e
      rw[if_pos rfl,CG (h.vs j hj) (VS.ishl _ _),BX (by omega),Bool.or_eq_true,decide_eq_true_eq,h.has_ j hj]
      by_cases e:u=v
      ·rw[if_pos e];exact⟨λ_=>⟨by omega,rfl⟩,λ_=> .inr e⟩
      ·rw[if_neg e]
       exact⟨λk=>by have:=k.resolve_right e;exact⟨by omega,this.2⟩,λk=> .inl ⟨by omega,k.2⟩⟩
     ·rw[if_neg e,h.has_ j hj]
      by_cases e2:u=v
      ·rw[if_pos e2]
       constructor
       ·rintro⟨k,_⟩;omega
       ·rintro⟨_,k⟩;exact absurd (h.inj i j hi hj k).symm e
      ·rw[if_neg e2]
       exact⟨λk=>⟨by omega,k.2⟩,λk=>⟨by omega,k.2⟩⟩,λu hu=>by
     unfold BW
     rw[List.length_set]
     by_cases e:u=v
     ·rw[if_pos e];exact⟨i,hi,rfl⟩
     ·rw[if_neg e];exact h.all_ u (by omega),λi j=>by rw[List.length_set];exact h.inj i j,λi=>by rw[List.length_set];exact h.mem i⟩
   rw[this,List.length_set,hXc]
  have hnew:∀c∈al,(∀i,i<sets.length→col i≠c)→Cm ((WW F m (v+1) (sets++[ishl .u32 1 (v:Int)])).map (ffk al.length))=ffk al.length (sets.length+1)*X c:=λc hc hno=>by
   have hg:∀j,j<sets.length→(sets++[ishl .u32 1 (v:Int)]).getD j 0=sets.getD j 0:=λj hj=>by
    rw[List.getD_eq_getElem?_getD,List.getElem?_append_left hj,List.getD_eq_getElem?_getD]
   have hg':(sets++[ishl .u32 1 (v:Int)]).getD sets.length 0=ishl .u32 1 (v:Int):=by
    rw[List.getD_eq_getElem?_getD,List.getElem?_append_right (Nat.le_refl _),Nat.sub_self];rfl
   have hl:(sets++[ishl .u32 1 (v:Int)]).length=sets.length+1:=by simp
   have hca:∀u,u<v→a u≠c:=λu hu e=>by
    obtain⟨i,hi,k⟩:=h.all_ u hu
    exact hno i hi (by rw[←k,e])
   have:=WW_EL hn hF hal m (v+1) (sets++[ishl .u32 1 (v:Int)]) (BW a v c) (BW col sets.length c) (by omega)
    ⟨λj hj=>by
     rw[hl] at hj
     by_cases e:j=sets.length
     ·rw[e,hg'];exact VS.ishl _ _
     ·rw[hg j (by omega)];exact h.vs j (by omega),λj hj u=>by
     rw[hl] at hj
     unfold BW
     by_cases e:j=sets.length
     ·rw[e,hg',if_pos rfl,BX (by omega),decide_eq_true_eq]
      by_cases e2:u=v
      ·rw[if_pos e2];exact⟨λ_=>⟨by omega,rfl⟩,λ_=>e2⟩
      ·rw[if_neg e2]
       exact⟨λk=>absurd k e2,λk=>absurd k.2 (hca u (by omega))⟩
     ·rw[hg j (by omega),if_neg e,h.has_ j (by omega)]
      by_cases e2:u=v
      ·rw[if_pos e2]
       exact⟨λk=>by omega,λk=>absurd k.2.symm (hno j (by omega))⟩
      ·rw[if_neg e2]
       exact⟨λk=>⟨by omega,k.2⟩,λk=>⟨by omega,k.2⟩⟩,λu hu=>by
     unfold BW
     rw[hl]
     by_cases e:u=v
     ·rw[if_pos e];exact⟨sets.length,by omega,by rw[if_pos rfl]⟩
     ·rw[if_neg e]
      obtain⟨i,hi,k⟩:=h.all_ u (by omega)
      exact⟨i,by omega,by rw[if_neg (by omega)];exact k⟩,λi j hi hj k=>by
     rw[hl] at hi hj
     unfold BW at k
     by_cases e1:i=sets.length
     ·by_cases e2:j=sets.length
      ·omega
      ·rw[if_pos e1,if_neg e2] at k;exact absurd k.symm (hno j (by omega))
     ·by_cases e2:j=sets.length
      ·rw[if_neg e1,if_pos e2] at k;exact absurd k (hno i (by omega))
      ·rw[if_neg e1,if_neg e2] at k;exact h.inj i j (by omega) (by omega) k,λi hi=>by
     rw[hl] at hi
     unfold BW
     by_cases e:i=sets.length
     ·rw[if_pos e];exact hc
     ·rw[if_neg e];exact h.mem i (by omega)⟩
   rw[this,hl,hXc]
  have hcn:((List.range sets.length).map col).Nodup:=by
   unfold List.Nodup
   rw[List.pairwise_map]
   refine List.Pairwise.imp_of_mem ?_ (List.nodup_range (n:=sets.length))
   intro i j hi hj hij e
   exact hij (h.inj i j (List.mem_range.1 hi) (List.mem_range.1 hj) e)
  have hperm:al.Perm ((List.range sets.length).map col++al.filter λc=>decide (c∉(List.range sets.length).map col)):=by
   refine(List.perm_ext_iff_of_nodup hal ?_).2 λc=> ?_
   ·rw[List.nodup_append]
    refine⟨hcn,hal.sublist List.filter_sublist,λx hx y hy e=> ?_⟩
    subst e
    have:=(List.mem_filter.1 hy).2
    rw[decide_eq_true_eq] at this
    exact this hx
   ·rw[List.mem_append,List.mem_filter,decide_eq_true_eq]
    constructor
    ·intro hc
     by_cases e:c∈(List.range sets.length).map col
     ·exact .inl e
     ·exact .inr ⟨hc,e⟩
    ·rintro(hc|hc)
     ·obtain⟨i,hi,rfl⟩:=List.mem_map.1 hc
      exact h.mem i (List.mem_range.1 hi)
     ·exact hc.1
  have hlen:=hperm.length_eq
  rw[List.length_append,List.length_map,List.length_range] at hlen
  generalize hU:al.filter (λc=>decide (c∉(List.range sets.length).map col))=U at hperm hlen
  have hUm:∀c∈U,c∈al∧∀i,i<sets.length→col i≠c:=λc hc=>by
   rw[←hU,List.mem_filter,decide_eq_true_eq] at hc
   exact⟨hc.1,λi hi e=>hc.2 (List.mem_map.2 ⟨i,List.mem_range.2 hi,e⟩)⟩
  have hUfit:∀c∈U,fitE F v a c=true:=λc hc=>fitE_iff.2 λu hu _ e=>by
   obtain⟨i,hi,k⟩:=h.all_ u hu
   exact(hUm c hc).2 i hi (by rw[←k,e])
  rw[sumZ_perm (hperm.map (λc=>if fitE F v a c=true then((EL F al m (v+1) (BW a v c)).length:Int) else 0)),List.map_append,Gh,List.map_map,Int.mul_add]
  congr 1
  ·rw[List.map_flatMap,sumZ_flat,←sumZ_mul]
   refine congrArg Cm (List.map_congr_left λi hi=> ?_)
   have hi:=List.mem_range.1 hi
   show _=_*(if fitE F v a (col i)=true then((EL F al m (v+1) (BW a v (col i))).length:Int) else 0)
   by_cases hf:iand .u32 (sets.getD i 0) (F.getD v 0)=0
   ·rw[if_pos hf,if_pos ((hfit i hi).2 hf),hin i hi,hXc]
   ·rw[if_neg hf,if_neg (λk=>hf ((hfit i hi).1 k)),Int.mul_zero];rfl
  ·have hmap:U.map (λc=>if fitE F v a c=true then((EL F al m (v+1) (BW a v c)).length:Int) else 0)=U.map X:=List.map_congr_left λc hc=>by
    rw[if_pos (hUfit c hc),hXc]
   rw[hmap]
   cases hU':U with
   |nil=>
    rw[hU'] at hlen
    have hz:∀L∈WW F m (v+1) (sets++[ishl .u32 1 (v:Int)]),ffk al.length L=0:=λL hL=>by
     have:=WW_ge m (v+1) _ L hL
     rw[List.length_append,List.length_singleton] at this
     exact ffk_zero (by simp at hlen;omega)
    rw[Gb hz]
    simp[Cm]
   |cons c0 U'=>
    rw[←hU']
    have hc0:c0∈U:=by rw[hU'];exact List.mem_cons_self ..
    have hul:U.length=al.length-sets.length:=by omega
    have hpos:0<U.length:=by rw[hU'];exact Nat.succ_pos _
    have hs:sets.length+1≤al.length:=by omega
    have hff:=ffk_pos (k:=al.length) hs
    have hXX:∀c∈U,X c=X c0:=λc hc=>by
     have h1:=hnew c (hUm c hc).1 (hUm c hc).2
     rw[hnew c0 (hUm c0 hc0).1 (hUm c0 hc0).2] at h1
     exact(Int.eq_of_mul_eq_mul_left (by omega) h1).symm
    rw[Gb hXX,hnew c0 (hUm c0 hc0).1 (hUm c0 hc0).2,ffk,hul]
    have:max ((al.length:Int)-(sets.length:Int)) 0=((al.length-sets.length:Nat):Int):=by omega
    rw[this,Int.mul_assoc]
def cfC (x y:Int):Bool:=x==y
theorem cfC_comm (x y:Int):cfC x y=cfC y x:=by
 unfold cfC
 rw[Bool.eq_iff_iff,beq_iff_eq,beq_iff_eq]
 exact eq_comm
section
variable {n : Nat} {F al : LI}
theorem EL_mem :∀(m v:Nat) (a:Nat→Int),v+m=n→∀a',(a'∈EL F al m v a↔(∀u,u<v∨n≤u→a' u=a u)∧∀u,v≤u→u<n→a' u∈al∧∀w,w<u→nb F u w=true→a' w≠a' u)
 |0,v,a,hvm,a'=>by
  rw[EL,List.mem_singleton]
  constructor
  ·rintro rfl
   exact⟨λ_ _=>rfl,λu h1 h2=>by omega⟩
  ·rintro⟨h,_⟩
   exact funext λu=>h u (by omega)
 |m+1,v,a,hvm,a'=>by
  rw[EL,List.mem_flatMap]
  constructor
  ·rintro⟨c,hc,hm⟩
   rw[List.mem_filter,fitE_iff] at hc
   obtain⟨h1,h2⟩:=(EL_mem m (v+1) (BW a v c) (by omega) a').1 hm
   have hv:a' v=c:=by rw[h1 v (.inl (by omega))];exact if_pos rfl
   have hlow:∀u,u≠v→(u<v∨n≤u)→a' u=a u:=λu e hu=>by rw[h1 u (by omega)];exact if_neg e
   refine⟨λu hu=>hlow u (by omega) hu,λu hu1 hu2=> ?_⟩
   by_cases e:u=v
   ·subst e
    rw[hv]
    refine⟨hc.1,λw hw hn=> ?_⟩
    rw[hlow w (by omega) (.inl hw)]
    exact hc.2 w hw hn
   ·exact h2 u (by omega) hu2
  ·rintro⟨h1,h2⟩
   obtain⟨k1,k2⟩:=h2 v (Nat.le_refl _) (by omega)
   refine⟨a' v,List.mem_filter.2 ⟨k1,fitE_iff.2 λu hu hn=> ?_⟩,(EL_mem m (v+1) (BW a v (a' v)) (by omega) a').2 ⟨λu hu=> ?_,λu hu1 hu2=>h2 u (by omega) hu2⟩⟩
   ·rw[←h1 u (.inl hu)];exact k2 u hu hn
   ·unfold BW
    by_cases e:u=v
    ·rw[if_pos e,e]
    ·rw[if_neg e];exact h1 u (by omega)
theorem EL_nd (hal:al.Nodup):∀(m v:Nat) (a:Nat→Int),v+m=n→(EL F al m v a).Nodup
 |0,v,a,_=>by simp[EL]
 |m+1,v,a,hvm=>by
  rw[EL]
  refine E9 (hal.sublist List.filter_sublist) (λc _=>EL_nd hal m (v+1) _ (by omega)) (λc _ d _ x hx hy=> ?_)
  have h1:=((EL_mem (n:=n) m (v+1) (BW a v c) (by omega) x).1 hx).1 v (.inl (by omega))
  have h2:=((EL_mem (n:=n) m (v+1) (BW a v d) (by omega) x).1 hy).1 v (.inl (by omega))
  have e1:BW a v c v=c:=if_pos rfl
  have e2:BW a v d v=d:=if_pos rfl
  rw[←e1,←h1,h2,e2]
end
theorem colour_count {g:LL}{T:NT}(hg:GOk g)(h:NOk g T){al:LI}(hal:al.Nodup):
  ((LLa (g.map mk) al cfC T).length:Int)=Cm ((WW (g.map mk) g.length 0 []).map (ffk al.length)):=by
 have h16:=hg.n16
 have hF:=FOk.of hg
 have hf:=h.fine hg
 have hp:(LLa (g.map mk) al cfC T).Perm (EL (g.map mk) al g.length 0 (λ_=>0)):=by
  refine(List.perm_ext_iff_of_nodup (Fp h16 hal T h.ok hf) (EL_nd (n:=g.length) hal _ _ _ (by omega))).2 λa=> ?_
  rw[Fm h16 hF cfC_comm T h.ok hf (NOk_cl hg h),asn_root hg h,EL_mem (n:=g.length) _ _ _ (by omega)]
  constructor
  ·rintro⟨h1,h2,h3⟩
   refine⟨λu hu=>h2 u (by omega),λu _ hu=>⟨h1 u hu,λw hw hn e=> ?_⟩⟩
   have:=h3 u w ((Ey hg hu).1 hn)
   unfold cfC at this
   rw[e,beq_self_eq_true] at this;cases this
  ·rintro⟨h1,h2⟩
   refine⟨λv hv=>(h2 v (Nat.zero_le _) hv).1,λv hv=>h1 v (.inr hv),λu w huw=> ?_⟩
   have hu:u<g.length:=by
    apply Classical.byContradiction
    intro hc
    have:row g u=[]:=by unfold row;rw[List.getD_eq_getElem?_getD,List.getElem?_eq_none (by omega)];rfl
    unfold adj at huw
    rw[this] at huw;cases huw
   have hw:=hg.lt hu huw
   have hn:=(Ey hg hu).2 huw
   have hn':=hF.sym _ _ hu hn
   unfold cfC
   rw[beq_eq_false_iff_ne]
   rcases Nat.lt_trichotomy u w with k|k|k
   ·exact(h2 w (Nat.zero_le _) hw).2 u k hn'
   ·subst k;exact absurd huw (hg.irr u hu)
   ·exact λe=>(h2 u (Nat.zero_le _) hu).2 w k hn e.symm
 rw[hp.length_eq]
 have:=WW_EL h16 hF hal g.length 0 [] (λ_=>0) (λ_=>0) (by omega) ⟨λi hi=>by simp at hi,λi hi=>by simp at hi,λu hu=>by omega,λi j hi=>by simp at hi,λi hi=>by simp at hi⟩
 rw[this]
 show _=(1:Int)*_
 rw[Int.one_mul]
end Go.Sx

namespace Go.Sx
def c16 (f:Nat→Int):C16:=⟨f 0,f 1,f 2,f 3,f 4,f 5,f 6,f 7,f 8,f 9,f 10,f 11,f 12,f 13,f 14,f 15⟩
theorem c16_li (f:Nat→Int):(c16 f).li=(List.range 16).map f:=rfl
theorem c16_idx (f:Nat→Int){u:Nat}(hu:u<16):idx (c16 f).li (u:Int)=some (f u):=by
 rw[c16_li,AC (by simpa using hu)]
 simp
theorem EX {f g:Nat→Int}(h:∀i,i<16→f i=g i):c16 f=c16 g:=by
 refine C16.li_inj ?_
 rw[c16_li,c16_li]
 exact List.map_congr_left λi hi=>h i (List.mem_range.1 hi)
theorem c16_inj {f g:Nat→Int}(h:c16 f=c16 g){i:Nat}(hi:i<16):f i=g i:=by
 have:idx (c16 f).li (i:Int)=idx (c16 g).li (i:Int):=by rw[h]
 rw[c16_idx f hi,c16_idx g hi] at this
 exact Option.some.inj this
def cset (s:C16)(v c:Int):C16:=⟨upd v 0 c s.c0,upd v 1 c s.c1,upd v 2 c s.c2,upd v 3 c s.c3,upd v 4 c s.c4,upd v 5 c s.c5,upd v 6 c s.c6,upd v 7 c s.c7,upd v 8 c s.c8,upd v 9 c s.c9,upd v 10 c s.c10,upd v 11 c s.c11,upd v 12 c s.c12,upd v 13 c s.c13,upd v 14 c s.c14,upd v 15 c s.c15⟩
theorem cset_c16 (f:Nat→Int)(v c:Int):cset (c16 f) v c=c16 λi=>upd v i c (f i):=rfl
def kC (b:Int)(a:Nat→Int):C16:=c16 λi=>if has b i=true then a i else 0
def addsC (F al:LI)(b:Int)(v:Nat)(s:C16):List C16:=(al.filter λc=>(elems (iand .u32 (F.getD v 0) b)).all λu=> !((idx s.li u).getD 0==c)).map λc=>cset s v c
section
variable {n : Nat} (hn : n ≤ 16) {F : LI} (hF : FOk F n) {al : LI}
include hn
include hF in
theorem addsC_ok {v:Nat}{t:NT}(ho:(NT.add v t).ok n)(a:Nat→Int):addsC F al t.bag v (kC t.bag a)=(al.filter λc=>fitA F cfC t.bag v a c).map λc=>kC (NT.add v t).bag (BW a v c):=by
 have hv:=ho.1
 have hb:=t.In_bag hn ho.2.2
 unfold addsC
 have h1:(λc=>(elems (iand .u32 (F.getD v 0) t.bag)).all λu=> !((idx (kC t.bag a).li u).getD 0==c))=λc=>fitA F cfC t.bag v a c:=by
  funext c
  unfold fitA
  rw[Bool.eq_iff_iff,List.all_eq_true,List.all_eq_true]
  have hx':∀x∈elems (iand .u32 (F.getD v 0) t.bag),(idx (kC t.bag a).li x).getD 0=a x.toNat:=λx hx=>by
   obtain⟨u,_,hu,rfl⟩:=mem_elems.1 hx
   rw[B8 (hF.vs v hv) hb.1,Bool.and_eq_true] at hu
   have hun:=hb.2 u hu.2
   unfold kC
   rw[c16_idx _ (by omega),if_pos hu.2,Int.toNat_natCast]
   rfl
  constructor
  ·intro h x hx
   have:=h x hx
   rw[hx' x hx] at this
   exact this
  ·intro h x hx
   rw[hx' x hx]
   exact h x hx
 rw[h1]
 refine List.map_congr_left λc _=> ?_
 unfold kC
 rw[cset_c16]
 refine EX λi hi=> ?_
 rw[E3 (by omega)]
 unfold upd BW
 by_cases e:i=v
 ·subst e
  rw[if_pos rfl,if_pos (by simp),if_pos rfl]
 ·rw[if_neg (by omega),decide_eq_false e,Bool.or_false,if_neg e]
theorem dropC_ok {v:Nat}{t:NT}(ho:(NT.drop v t).ok n)(a:Nat→Int):cset (kC t.bag a) v 0=kC (NT.drop v t).bag a:=by
 have hv:=ho.1
 unfold kC
 rw[cset_c16]
 refine EX λi hi=> ?_
 rw[EJ (by omega)]
 unfold upd
 by_cases e:i=v
 ·subst e
  rw[if_pos rfl,if_neg (by simp)]
 ·rw[if_neg (by omega),decide_eq_false e,Bool.not_false,Bool.and_true]
theorem meetC_ok {t u:NT}(ho:(NT.meet t u).ok n){a b:Nat→Int}:
  (kC t.bag a=kC u.bag b↔((elems t.bag).all λx=>a x.toNat==b x.toNat)=true)∧kC t.bag (λw=>if t.dm w then a w else b w)=kC t.bag a:=by
 have hb:=t.In_bag hn ho.2.1
 have hbu:u.bag=t.bag:=ho.1.symm
 constructor
 ·rw[List.all_eq_true,hbu]
  constructor
  ·intro h x hx
   obtain⟨w,_,hw,rfl⟩:=mem_elems.1 hx
   rw[Int.toNat_natCast,beq_iff_eq]
   have:=c16_inj h (i:=w) (by have:=hb.2 w hw;omega)
   rwa [if_pos hw,if_pos hw] at this
  ·intro h
   refine EX λi _=> ?_
   by_cases hw:has t.bag i=true
   ·rw[if_pos hw,if_pos hw]
    have:=h (i:Int) ((AT hb.1).2 hw)
    rwa [Int.toNat_natCast,beq_iff_eq] at this
   ·rw[if_neg hw,if_neg hw]
 ·refine EX λi _=> ?_
  by_cases hw:has t.bag i=true
  ·rw[if_pos hw,if_pos hw]
   exact if_pos (.inr hw)
  ·rw[if_neg hw,if_neg hw]
end
end Go.Sx

namespace Go.Sx
def mxF (a b:Int):Int:=if a<b then b else a
theorem F4 (a b:Int):mxF a b=max a b:=by unfold mxF;split<;>omega
theorem mxC :OpC mxF:=⟨λa b=>by rw[F4,F4];omega,λa b c=>by rw[F4,F4,F4,F4];omega⟩
theorem mx_add (c a b:Int):mxF a b+c=mxF (a+c) (b+c):=by unfold mxF;split<;>split<;>omega
theorem mx_add' (c a b:Int):c+mxF a b=mxF (c+a) (c+b):=by unfold mxF;split<;>split<;>omega
theorem F2 (a b:Int):mxF a b=a∨mxF a b=b:=by unfold mxF;split<;>simp
section
variable {K K' : Type} [DecidableEq K] [DecidableEq K'] {op : Int → Int → Int}
theorem tab_some {k:K}{z:Int}:∀{Q:List (K×Int)},(k,z)∈Q→∃y,AS op Q k=some y
 |[],h=>by cases h
 |q::Q,hm=>by
  have e1:AS op (q::Q) k=opO op (atK k q) (AS op Q k):=rfl
  rw[e1]
  rcases List.mem_cons.1 hm with rfl|hm
  ·rw[show atK k (k,z)=some z from if_pos rfl]
   cases AS op Q k<;>simp[opO]
  ·obtain⟨y,hy⟩:=tab_some hm
   rw[hy]
   cases atK k q<;>simp[opO]
theorem GP (hh:∀a b,op a b=a∨op a b=b):∀{P:List (K×Int)} {k:K} {y:Int},AS op P k=some y→(k,y)∈P
 |[],_,_,h=>by cases h
 |p::P,k,y,h=>by
  have e:AS op (p::P) k=opO op (atK k p) (AS op P k):=rfl
  rw[e] at h
  unfold atK at h
  split at h
  ·rename_i hk
   cases hx:AS op P k with
   |none=>
    rw[hx,DS] at h;cases h
    rw[←hk];exact List.mem_cons_self ..
   |some z=>
    rw[hx] at h
    have h:op p.2 z=y:=Option.some.inj h
    rcases hh p.2 z with e|e
    ·rw[←h,e,←hk];exact List.mem_cons_self ..
    ·rw[←h,e];exact List.mem_cons_of_mem _ (GP hh hx)
  ·exact List.mem_cons_of_mem _ (GP hh (P:=P) h)
theorem FA (ho:OpC op)(hh:∀a b,op a b=a∨op a b=b){em:K→List (K'×(Int→Int))}(hom:∀k,∀c∈em k,∀a b,c.2 (op a b)=op (c.2 a) (c.2 b)){P:List (K×Int)}{Q:List (K'×Int)}
  {body:K×Int→(K'→Option Int)→Option (K'→Option Int)}
  (hbody:∀e Q',e∈P→body e (AS op Q')=some (AS op (Q'++BS em e))):
  BU (AS op P) body (AS op Q)=some (AS op (Q++P.flatMap (BS em))):=by
 refine rangeF_tab ho hom λl hl l1 e l2 he=> ?_
 have hel:e∈l:=by rw[he];simp
 have:=hbody e (Q++l1.flatMap (BS em)) (GP hh ((hl.2 e.1 e.2).2 hel))
 rw[this,List.append_assoc]
end
section
variable {K : Type} [DecidableEq K] {n : Nat} {F al : LI} {cf : Int → Int → Bool} {κ : Int → (Nat → Int) → K}
structure Kys (F al:LI)(cf:Int→Int→Bool)(n:Nat)(κ:Int→(Nat→Int)→K)(BG:Nat→Int→K→List K)(dk:Nat→K→K):Prop where
 add:∀v t a,(NT.add v t).ok n→BG v t.bag (κ t.bag a)=(al.filter λc=>fitA F cf t.bag v a c).map λc=>κ (NT.add v t).bag (BW a v c)
 drop:∀v t a,(NT.drop v t).ok n→dk v (κ t.bag a)=κ (NT.drop v t).bag a
 meet:∀t u a b,(NT.meet t u).ok n→(∀v,t.dm v→a v∈al)→(∀v,u.dm v→b v∈al)→(κ t.bag a=κ u.bag b↔((elems t.bag).all λx=>a x.toNat==b x.toNat)=true)∧κ t.bag (λw=>if t.dm w then a w else b w)=κ t.bag a
variable {BG : Nat → Int → K → List K} {dk : Nat → K → K} {good : K → Prop}
variable {addB dropB : K × Int → Int → Int → (K → Option Int) → Option (K → Option Int)} {Dn : K × Int → K × Int → (K → Option Int) → Option (K → Option Int)}
def one1 (_:NT)(_:Nat→Int):Int:=1
theorem TP_one_tot (t:NT):Du (TP κ one1 F al cf t)=((LLa F al cf t).length:Int):=by
 unfold TP one1
 induction LLa F al cf t with
 |nil=>rfl
 |cons a l ih=>
  have:Du ((a::l).map λa=>(κ t.bag a,(1:Int)))=1+Du (l.map λa=>(κ t.bag a,(1:Int))):=rfl
  rw[this,ih,List.length_cons];omega
theorem runSum_ok (h7:n≤7)(hal:al.Nodup)(h4:al.length≤4)(hK:Kys F al cf n κ BG dk)(hgood:∀b a,good (κ b a))
  (hA:∀(v:Nat) (b:Int) (e:K×Int) Q,v<n→In n b→good e.1→SmI2 (Q++(BG v b e.1).map λk=>(k,e.2))→addB e v b (AS Ch Q)=some (AS Ch (Q++(BG v b e.1).map λk=>(k,e.2))))
  (hD:∀(v:Nat) (b:Int) (e:K×Int) Q,v<n→In n b→good e.1→SmI2 (Q++[(dk v e.1,e.2)])→dropB e v b (AS Ch Q)=some (AS Ch (Q++[(dk v e.1,e.2)])))
  (hM:∀(e e2:K×Int) Q,good e.1→good e2.1→SmI2 (Q++if e.1=e2.1 then [(e.1,e.2*e2.2)] else [])→Dn e e2 (AS Ch Q)=some (AS Ch (Q++if e.1=e2.1 then [(e.1,e.2*e2.2)] else [])))
  {T:NT} (ho:T.ok n) (hf:T.fine) (hsz:T.size≤200):
  runG addB dropB Dn (A7 T).1 (A7 T).2.1 (A7 T).2.2.1 (A7 T).2.2.2 (AS Ch [(κ 0 (λ_=>0),1)])=some (AS Ch (TP κ one1 F al cf T)):=by
 have h16:n≤16:=by omega
 have hsm:∀t:NT,t.ok n→t.fine→SmI2 (TP κ one1 F al cf t):=λt ho hf=>by
  refine⟨λp hp=> ?_,?_⟩
  ·obtain⟨a,_,rfl⟩:=List.mem_map.1 hp
   show (0:Int)≤1
   omega
  ·rw[TP_one_tot]
   have h1:=LLa_len h16 hal ho hf (F:=F) (cf:=cf)
   have h2:(al.length+1)^n≤5^7:=Nat.le_trans (Nat.pow_le_pow_left (by omega) n) (Nat.pow_le_pow_right (by omega) h7)
   omega
 have hg:∀t:NT,∀p∈TP κ one1 F al cf t,good p.1:=λt p hp=>by
  obtain⟨a,_,rfl⟩:=List.mem_map.1 hp
  exact hgood _ _
 refine runG_ok h16 (λt=>AS Ch (TP κ one1 F al cf t)) ho hf hsz (λv t ho hf=> ?_) (λv t ho hf=> ?_) (λt u ho hf=> ?_)
 ·obtain⟨f1,_⟩:=EE h16 ho hf
  have hTP:=TP_add κ one1 (F:=F) (al:=al) (cf:=cf) (v:=v) (t:=t) (BG:=BG v t.bag) (λa _=>hK.add v t a ho) (λ_ _ _=>rfl)
  have:=F3 (Q:=[]) (em:=λs=>(BG v t.bag s).map λk=>(k,id)) (P:=TP κ one1 F al cf t) (body:=λe tab=>addB e v t.bag tab) (λk c hc a b=>by
   obtain⟨q,_,rfl⟩:=List.mem_map.1 hc;rfl) (λk c hc a ha=>by
   obtain⟨q,_,rfl⟩:=List.mem_map.1 hc;exact ha) (hsm t ho.2.2 f1).nn (by rw[List.nil_append,hTP];exact hsm _ ho hf) (λe Q' hk he hB=>by
   obtain⟨p,hp,hpe⟩:=hk
   have hem:BS (λs=>(BG v t.bag s).map λk=>(k,id)) e=(BG v t.bag e.1).map λk=>(k,e.2):=by
    unfold BS;rw[List.map_map];rfl
   rw[hem] at hB ⊢
   exact hA v t.bag e Q' ho.1 (t.In_bag h16 ho.2.2) (hpe▸hg t p hp) hB)
  rw[List.nil_append,hTP] at this
  exact this
 ·obtain⟨f1,_⟩:=Es h16 ho hf
  have hTP:=TP_drop κ one1 (F:=F) (al:=al) (cf:=cf) (v:=v) (t:=t) (dk:=dk v) (df:=λ_ x=>x) (λa _=>hK.drop v t a ho) (λ_ _=>rfl)
  have:=F3 (Q:=[]) (em:=λs=>[(dk v s,λx=>x)]) (P:=TP κ one1 F al cf t) (body:=λe tab=>dropB e v (NT.drop v t).bag tab) (λk c hc a b=>by
   rw[List.mem_singleton.1 hc]) (λk c hc a ha=>by
   rw[List.mem_singleton.1 hc];exact ha) (hsm t ho.2.2 f1).nn (by rw[List.nil_append,hTP];exact hsm _ ho hf) (λe Q' hk he hB=>by
   obtain⟨p,hp,hpe⟩:=hk
   exact hD v (NT.drop v t).bag e Q' ho.1 (NT.In_bag h16 _ ho) (hpe▸hg t p hp) hB)
  rw[List.nil_append,hTP] at this
  exact this
 ·obtain⟨f1,f2,_⟩:=DZ h16 ho hf
  have hTP:=TP_meet κ one1 (F:=F) (al:=al) (cf:=cf) (t:=t) (u:=u) (both:=λx y=>x*y) ho.1 (λa ha b hb=>(hK.meet t u a b ho (Dj h16 t ho.2.1 a ha).1 (Dj h16 u ho.2.2 b hb).1).1) (λa ha b hb=>(hK.meet t u a b ho (Dj h16 t ho.2.1 a ha).1 (Dj h16 u ho.2.2 b hb).1).2) (λ_ _ _ _ _=>rfl)
  have hP2:=hsm u ho.2.2 f2
  have hem:∀e:K×Int,BS (emM (λx y=>x*y) (TP κ one1 F al cf u)) e=(TP κ one1 F al cf u).flatMap (BS λs=>if e.1=s then [(e.1,λy=>e.2*y)] else []):=by
   intro e
   unfold BS emM
   rw[List.map_flatMap]
   refine DC λp _=> ?_
   dsimp only
   split<;>rfl
  have:=F3 (Q:=[]) (em:=emM (λx y=>x*y) (TP κ one1 F al cf u)) (P:=TP κ one1 F al cf t) (body:=λe tab=>BU (AS Ch (TP κ one1 F al cf u)) (λe2 tab2=>Dn e e2 tab2) tab) (λk c hc a b=>by
   obtain⟨p,hp,hc⟩:=List.mem_flatMap.1 hc
   split at hc
   ·rw[List.mem_singleton.1 hc];exact Int.add_mul _ _ _
   ·cases hc) (λk c hc a ha=>by
   obtain⟨p,hp,hc⟩:=List.mem_flatMap.1 hc
   split at hc
   ·rw[List.mem_singleton.1 hc];exact Int.mul_nonneg ha (hP2.nn p hp)
   ·cases hc) (hsm t ho.2.1 f1).nn (by rw[List.nil_append,hTP];exact hsm _ ho hf) (λe Q' hk he hB=>by
   obtain⟨p,hp,hpe⟩:=hk
   have hge:good e.1:=hpe▸hg t p hp
   rw[hem] at hB ⊢
   refine F3 (Q:=Q') (em:=λs=>if e.1=s then [(e.1,λy=>e.2*y)] else []) (λk c hc a b=> ?_) (λk c hc a ha=> ?_) hP2.nn hB (λe2 Q2 hk2 he2 hB2=> ?_)
   ·split at hc
    ·rw[List.mem_singleton.1 hc];exact Int.mul_add _ _ _
    ·cases hc
   ·split at hc
    ·rw[List.mem_singleton.1 hc];exact Int.mul_nonneg he ha
    ·cases hc
   ·obtain⟨p2,hp2,hpe2⟩:=hk2
    have hif:BS (λs=>if e.1=s then [(e.1,λy=>e.2*y)] else []) e2=if e.1=e2.1 then [(e.1,e.2*e2.2)] else []:=by
     unfold BS
     dsimp only
     split<;>rfl
    rw[hif] at hB2 ⊢
    exact hM e e2 Q2 hge (hpe2▸hg u p2 hp2) hB2)
  rw[List.nil_append,hTP] at this
  exact this
end
end Go.Sx

namespace Go.Sx
section
variable {K : Type} [DecidableEq K] {n : Nat} {F al : LI} {cf : Int → Int → Bool} {κ : Int → (Nat → Int) → K}
variable {BG : Nat → Int → K → List K} {dk : Nat → K → K} {good : K → Prop} {df : Nat → K → Int → Int} {w : Nat → Int} {B : Int}
variable {addB dropB : K × Int → Int → Int → (K → Option Int) → Option (K → Option Int)} {Dn : K × Int → K × Int → (K → Option Int) → Option (K → Option Int)}
theorem runMax_ok (h16:n≤16)(hw:∀v,v<n→0≤w v∧w v≤B)(hB0:0≤B)(hK:Kys F al cf n κ BG dk)(hgood:∀b a,good (κ b a))
  (hdf:∀v t a x,(NT.drop v t).ok n→df v (κ t.bag a) x=x+(if a v=1 then w v else 0)) (hdh:∀v k x y,df v k (mxF x y)=mxF (df v k x) (df v k y))
  (hA:∀(v:Nat) (b:Int) (e:K×Int) Q,v<n→In n b→good e.1→addB e v b (AS mxF Q)=some (AS mxF (Q++(BG v b e.1).map λk=>(k,e.2))))
  (hD:∀(v:Nat) (b:Int) (e:K×Int) Q,v<n→In n b→good e.1→0≤e.2→e.2≤n*B→dropB e v b (AS mxF Q)=some (AS mxF (Q++[(dk v e.1,df v e.1 e.2)])))
  (hM:∀(e e2:K×Int) Q,good e.1→good e2.1→0≤e.2→e.2≤n*B→0≤e2.2→e2.2≤n*B→Dn e e2 (AS mxF Q)=some (AS mxF (Q++if e.1=e2.1 then [(e.1,e.2+e2.2)] else [])))
  {T:NT} (ho:T.ok n) (hf:T.fine) (hsz:T.size≤200):
  runG addB dropB Dn (A7 T).1 (A7 T).2.1 (A7 T).2.2.1 (A7 T).2.2.2 (AS mxF [(κ 0 (λ_=>0),0)])=some (AS mxF (TP κ (CJ n w) F al cf T)):=by
 have hg:∀t:NT,∀p∈TP κ (CJ n w) F al cf t,good p.1∧0≤p.2∧p.2≤n*B:=λt p hp=>by
  obtain⟨a,_,rfl⟩:=List.mem_map.1 hp
  exact⟨hgood _ _,valW_bd hw hB0 t a⟩
 have hleaf:AS mxF [(κ 0 (λ_=>0),0)]=AS mxF (TP κ (CJ n w) F al cf .leaf):=by
  show _=AS mxF [(κ 0 (λ_=>0),CJ n w .leaf _)]
  rw[valW_leaf]
 rw[hleaf]
 refine runG_ok h16 (λt=>AS mxF (TP κ (CJ n w) F al cf t)) ho hf hsz (λv t ho hf=> ?_) (λv t ho hf=> ?_) (λt u ho hf=> ?_)
 ·obtain⟨f1,f2⟩:=EE h16 ho hf
  have hTP:=TP_add κ (CJ n w) (F:=F) (al:=al) (cf:=cf) (v:=v) (t:=t) (BG:=BG v t.bag) (λa _=>hK.add v t a ho) (λa _ c=>valW_add f2 a c)
  have:=FA mxC F2 (Q:=[]) (em:=λs=>(BG v t.bag s).map λk=>(k,id)) (P:=TP κ (CJ n w) F al cf t) (body:=λe tab=>addB e v t.bag tab) (λk c hc a b=>by
   obtain⟨q,_,rfl⟩:=List.mem_map.1 hc;rfl) (λe Q' he=>by
   have hem:BS (λs=>(BG v t.bag s).map λk=>(k,id)) e=(BG v t.bag e.1).map λk=>(k,e.2):=by
    unfold BS;rw[List.map_map];rfl
   rw[hem]
   exact hA v t.bag e Q' ho.1 (t.In_bag h16 ho.2.2) (hg t e he).1)
  rw[List.nil_append,hTP] at this
  exact this
 ·obtain⟨f1,f2⟩:=Es h16 ho hf
  have hTP:=TP_drop κ (CJ n w) (F:=F) (al:=al) (cf:=cf) (v:=v) (t:=t) (dk:=dk v) (df:=df v) (λa _=>hK.drop v t a ho) (λa _=>by rw[hdf v t a _ ho,valW_drop ho.1 f2])
  have:=FA mxC F2 (Q:=[]) (em:=λs=>[(dk v s,df v s)]) (P:=TP κ (CJ n w) F al cf t) (body:=λe tab=>dropB e v (NT.drop v t).bag tab) (λk c hc a b=>by
   rw[List.mem_singleton.1 hc];exact hdh v k a b) (λe Q' he=>by
   obtain⟨g1,g2,g3⟩:=hg t e he
   exact hD v (NT.drop v t).bag e Q' ho.1 (NT.In_bag h16 _ ho) g1 g2 g3)
  rw[List.nil_append,hTP] at this
  exact this
 ·obtain⟨f1,f2,f3⟩:=DZ h16 ho hf
  have hb:=t.In_bag h16 ho.2.1
  have hTP:=TP_meet κ (CJ n w) (F:=F) (al:=al) (cf:=cf) (t:=t) (u:=u) (both:=λx y=>x+y) ho.1 (λa ha b hb=>(hK.meet t u a b ho (Dj h16 t ho.2.1 a ha).1 (Dj h16 u ho.2.2 b hb).1).1) (λa ha b hb=>(hK.meet t u a b ho (Dj h16 t ho.2.1 a ha).1 (Dj h16 u ho.2.2 b hb).1).2) (λa _ b _ hag=>valW_meet (F:=F) (al:=al) (cf:=cf) f3 f1 f2 ho.1 λv hv=>by
    rw[List.all_eq_true] at hag
    have:=hag (v:Int) ((AT hb.1).2 hv)
    rwa [Int.toNat_natCast,beq_iff_eq] at this)
  have hem:∀e:K×Int,BS (emM (λx y=>x+y) (TP κ (CJ n w) F al cf u)) e=(TP κ (CJ n w) F al cf u).flatMap (BS λs=>if e.1=s then [(e.1,λy=>e.2+y)] else []):=by
   intro e
   unfold BS emM
   rw[List.map_flatMap]
   refine DC λp _=> ?_
   dsimp only
   split<;>rfl
  have:=FA mxC F2 (Q:=[]) (em:=emM (λx y=>x+y) (TP κ (CJ n w) F al cf u)) (P:=TP κ (CJ n w) F al cf t) (body:=λe tab=>BU (AS mxF (TP κ (CJ n w) F al cf u)) (λe2 tab2=>Dn e e2 tab2) tab) (λk c hc a b=>by
   obtain⟨p,hp,hc⟩:=List.mem_flatMap.1 hc
   split at hc
   ·rw[List.mem_singleton.1 hc];exact mx_add _ _ _
   ·cases hc) (λe Q' he=>by
   obtain⟨g1,g2,g3⟩:=hg t e he
   rw[hem]
   refine FA mxC F2 (Q:=Q') (em:=λs=>if e.1=s then [(e.1,λy=>e.2+y)] else []) (λk c hc a b=> ?_) (λe2 Q2 he2=> ?_)
   ·split at hc
    ·rw[List.mem_singleton.1 hc];exact mx_add' _ _ _
    ·cases hc
   ·obtain⟨k1,k2,k3⟩:=hg u e2 he2
    have hif:BS (λs=>if e.1=s then [(e.1,λy=>e.2+y)] else []) e2=if e.1=e2.1 then [(e.1,e.2+e2.2)] else []:=by
     unfold BS
     dsimp only
     split<;>rfl
    rw[hif]
    exact hM e e2 Q2 g1 k1 g2 g3 k2 k3)
  rw[List.nil_append,hTP] at this
  exact this
end
theorem kysS {n:Nat}(hn:n≤16){F:LI}(hF:FOk F n):Kys F alS cfS n kS (λv _ s=>DL F v s) (λv s=>iandNot .u32 s (ishl .u32 1 (v:Int))):=
 ⟨λv t a ho=>addsS_ok hn hF ho a,λv t a ho=>(dropS_ok hn ho a).1,λt u a b ho ha hb=>meetS_ok hn ho ha hb⟩
theorem kysC {n:Nat}(hn:n≤16){F:LI}(hF:FOk F n)(al:LI):Kys F al cfC n kC (λv b s=>addsC F al b v s) (λv s=>cset s v 0):=
 ⟨λv t a ho=>addsC_ok hn hF ho a,λv t a ho=>dropC_ok hn ho a,λt u a b ho _ _=>meetC_ok hn ho⟩
section
variable {K : Type} [DecidableEq K] {F al : LI} {cf : Int → Int → Bool} {κ : Int → (Nat → Int) → K}
theorem sum_keys {k:K}:∀{P:List (K×Int)},(∀p∈P,p=(k,1))→(AS Ch P k).getD 0=(P.length:Int)
 |[],_=>rfl
 |p::P,h=>by
  have h0:=h p (List.mem_cons_self ..)
  have ih:=sum_keys (P:=P) λx hx=>h x (List.mem_cons_of_mem _ hx)
  subst h0
  have e:AS Ch ((k,1)::P) k=opO Ch (some 1) (AS Ch P k):=by
   show opO Ch (atK k (k,1)) _=_
   rw[show atK k (k,(1:Int))=some 1 from if_pos rfl]
   rfl
  rw[e,List.length_cons]
  cases hh:AS Ch P k with
  |none=>
   rw[hh] at ih
   have ih:(0:Int)=(P.length:Int):=ih
   show (1:Int)=_
   omega
  |some y=>
   rw[hh] at ih
   have ih:y=(P.length:Int):=ih
   show (1:Int)+y=_
   omega
end
end Go.Sx

namespace Go.Sx
theorem gath_loop {K:Type}[DecidableEq K]{op:Int→Int→Int}{gat:(K→Option Int)→K→Int→Option (K→Option Int)}{x:Int}{l:List K}(hl:l.length<1000)(Q:List (K×Int))
  (hg:∀i (hi:i<l.length),gat (AS op (Q++(l.take i).map λk=>(k,x))) l[i] x=some (AS op (Q++(l.take i).map (λk=>(k,x))++[(l[i],x)]))):
  ((Az (σ:=(K→Option Int)×Int) (ρ:=(K→Option Int)) (λs=>match s with|(t,i)=>cond (decide (i<(l.length:Int))) ((idx l i).bind λe=>(gat t e x).bind λy=>some (.inl (y,(IntKind.i64.wrap (i+1))))) (some (.inr t))) (AS op Q,0)).bind λt=>some t)=some (AS op (Q++l.map λk=>(k,x))):=by
 refine(BY (λi=>(AS op (Q++(l.take i).map λk=>(k,x)),(i:Int))) l.length (AS op (Q++l.map λk=>(k,x))) (by simp) (λi hi=> ?_) ?_).trans rfl
 ·dsimp only
  rw[dlt hi,cT,AC hi,bs,hg i hi,bs,wq i,Cx hi,List.map_append,List.append_assoc]
  rfl
 ·dsimp only
  rw[Be,cF,List.take_length]
abbrev SMk :Type:=Int→Option Int
noncomputable def addBS (gat:SMk→Int→Int→Option SMk)(F:LI)(e:Int×Int)(v b:Int)(tab:SMk):Option SMk:=
 (D.h0 e.1 v b F).bind λy=>(Az (σ:=SMk×Int) (ρ:=SMk) (λs=>match s with|(t,i)=>cond (decide (i<(y.length:Int))) ((idx y i).bind λk=>(gat t k e.2).bind λz=>some (.inl (z,(IntKind.i64.wrap (i+1))))) (some (.inr t))) (tab,0)).bind λt=>some t
noncomputable def dropBS (gat:SMk→Int→Int→Option SMk)(dr:Int→Int→Int→Int→Option SMk)(e:Int×Int)(v b:Int)(tab:SMk):Option SMk:=
 (dr e.1 v b e.2).bind λy=>(BU (σ:=SMk) y (λe2 tab2=>(gat tab2 e2.1 e2.2).bind λz=>some z) tab).bind λt=>some t
noncomputable def meetBS (gat:SMk→Int→Int→Option SMk)(both:Int→Int→Option Int)(e e2:Int×Int)(tab:SMk):Option SMk:=
 (D.n0 e.1 e2.1).bind λy=>cond y.2 ((both e.2 e2.2).bind λz=>(gat tab y.1 z).bind λw=>some w) (some tab)
theorem FU {n:Nat}(hn:n≤16){F:LI}(hF:FOk F n){v:Nat}(hv:v<n)(s b:Int):D.h0 s v b F=some (DL F v s):=by
 have hl:=hF.len
 unfold D.h0 DL
 rw[show idx F (v:Int)=some (F.getD v 0) by rw[AC (by omega),AH (by omega)],bs,Cc]
 cases (iand .u32 (F.getD v 0) s !=0)<;>rfl
theorem addsS_len (F:LI)(v:Nat)(s:Int):(DL F v s).length≤2:=by
 unfold DL
 split<;>simp
theorem gatSt {A:LI}{Q:List (Int×Int)}{k x:Int}(hB:SmI2 (Q++[(k,x)])):
  D.T A (AS Ch Q) k x=some (AS Ch (Q++[(k,x)])):=gatM (A:=A) hB
theorem StablesBy_ok {g:LL}{T:NT}(hg:GOk g)(h7:g.length≤7)(h:NOk g T):
  D.N g (A7 T).1 (A7 T).2.1 (A7 T).2.2.1 (A7 T).2.2.2=some ((SM g).length:Int):=by
 have h16:=hg.n16
 have hF:=FOk.of hg
 have hf:=h.fine hg
 have hone:∀(k x:Int),BN (mf0:AJ) k x=AS Ch [(k,x)]:=λk x=>Gn (K:=Int) addC (Q:=[]) (k:=k) (λp hp=>by cases hp) x
 have hrun:D.Q1 (A7 T).1 (A7 T).2.1 (A7 T).2.2.1 (A7 T).2.2.2 (BN (mf0:AJ) 0 1) (g.map mk)=some (AS Ch (TP kS one1 (g.map mk) alS cfS T)):=by
  have hstart:BN (mf0:AJ) 0 1=AS Ch [(kS 0 (λ_=>0),1)]:=by
   rw[hone]
   have:kS 0 (λ_=>0)=0:=VS.ext (De _ _) VS.zero λv _=>by
    rw[Bool.eq_iff_iff,C5 (n:=0) (by omega) ⟨VS.zero,λw hw=>by rw[Bv] at hw;cases hw⟩,Bv]
    simp
   rw[this]
  rw[hstart]
  refine Eq.trans ?_ (runSum_ok (addB:=addBS (D.T (g.map mk)) (g.map mk)) (dropB:=dropBS (D.T (g.map mk)) D.a1) (Dn:=meetBS (D.T (g.map mk)) D.V) (good:=VS) h7 (by decide) (by decide) (kysS h16 hF) (λb a=>De b a) ?_ ?_ ?_ h.ok hf h.size)
  ·rfl
  ·intro v b e Q hv hb hgd hB
   unfold addBS
   rw[FU h16 hF hv,bs]
   have hal:=addsS_len (g.map mk) v e.1
   refine gath_loop (by omega) Q λi hi=> ?_
   refine gatSt ?_
   have:(Q++(DL (g.map mk) v e.1).map λk=>(k,e.2))=(Q++((DL (g.map mk) v e.1).take i).map (λk=>(k,e.2))++[((DL (g.map mk) v e.1)[i],e.2)])++((DL (g.map mk) v e.1).drop (i+1)).map λk=>(k,e.2):=by
    have h1:DL (g.map mk) v e.1=(DL (g.map mk) v e.1).take i++(DL (g.map mk) v e.1)[i]::(DL (g.map mk) v e.1).drop (i+1):=by
     rw[←List.drop_eq_getElem_cons hi,List.take_append_drop]
    have h2:=congrArg (List.map λk=>(k,e.2)) h1
    rw[List.map_append,List.map_cons] at h2
    rw[h2]
    simp
   rw[this] at hB
   exact hB.left
  ·intro v b e Q hv hb hgd hB
   have h1:=hB.right.one
   unfold dropBS D.a1
   rw[GZ hgd (by omega),bs,Cc,bs]
   have hw:IntKind.i64.wrap (e.2+0)=e.2:=by rw[Int.add_zero];exact w64 (by omega) (by omega)
   have hy:(cond (has e.1 v) ((D.G1 (v:Int)).bind λy_9=>(some (ishl .u32 1 (v:Int))).bind λy_20=>some (BN (mf0:AJ) (iandNot .u32 e.1 y_20) (IntKind.i64.wrap (e.2+y_9)))) (some (BN (mf0:AJ) (iandNot .u32 e.1 (ishl .u32 1 (v:Int))) e.2)))=some (AS Ch [(iandNot .u32 e.1 (ishl .u32 1 (v:Int)),e.2)]):=by
    rw[hone]
    cases has e.1 v with
    |true=>
     show some (BN (mf0:AJ) _ (IntKind.i64.wrap (e.2+0)))=_
     rw[hw,hone]
    |false=>rfl
   refine FC hy ?_
   refine FC (F3 (Q:=Q) (em:=λs=>[(s,id)]) (λk c hc a b=> ?_) (λk c hc a ha=> ?_) hB.right.nn ?_ (λe2 Q2 hk2 he2 hB2=> ?_)) ?_
   ·rw[List.mem_singleton.1 hc];rfl
   ·rw[List.mem_singleton.1 hc];exact ha
   ·rw[Fj];exact hB
   ·have hB2:SmI2 (Q2++[(e2.1,e2.2)]):=hB2
    rw[gatSt hB2,bs];rfl
   ·rw[Fj]
  ·intro e e2 Q hg1 hg2 hB
   unfold meetBS D.n0
   rw[bs]
   dsimp only
   by_cases hd:e.1=e2.1
   ·rw[if_pos hd] at hB ⊢
    have h1:=hB.right.one
    rw[show (e.1==e2.1)=true from beq_iff_eq.2 hd,cT]
    unfold D.V
    rw[bs,w64 (by omega) (by omega),gatSt hB,bs]
   ·rw[if_neg hd,List.append_nil,show (e.1==e2.1)=false from beq_eq_false_iff_ne.2 hd,cF]
 unfold D.N
 rw[Dt hg (by omega) h,bs,Bool.not_true,cF,E2 g hg,bs]
 unfold D.S1
 rw[bs,hrun,bs]
 have hk0:∀a,kS T.bag a=0:=λa=>VS.ext (De _ _) VS.zero λv _=>by
  rw[h.bag,Bool.eq_iff_iff,C5 (n:=0) (by omega) ⟨VS.zero,λw hw=>by rw[Bv] at hw;cases hw⟩,Bv]
  simp
 rw[sum_keys (λp hp=>by
  obtain⟨a,_,rfl⟩:=List.mem_map.1 hp
  rw[hk0];rfl)]
 have:=(FO hg h).length_eq
 rw[List.length_map] at this
 unfold TP
 rw[List.length_map,this]
theorem mx_le (a b:Int):a≤mxF a b∧b≤mxF a b:=by unfold mxF;split<;>omega
theorem tab_max {K:Type}[DecidableEq K]:∀{P:List (K×Int)} {k:K} {y z:Int},AS mxF P k=some y→(k,z)∈P→z≤y
 |[],_,_,_,h,_=>by cases h
 |p::P,k,y,z,h,hm=>by
  have e:AS mxF (p::P) k=opO mxF (atK k p) (AS mxF P k):=rfl
  rw[e] at h
  rcases List.mem_cons.1 hm with rfl|hm
  ·rw[show atK k (k,z)=some z from if_pos rfl] at h
   cases hx:AS mxF P k with
   |none=>rw[hx,DS] at h;cases h;exact Int.le_refl _
   |some u=>
    rw[hx] at h
    have h:mxF z u=y:=Option.some.inj h
    have:=mx_le z u
    omega
  ·obtain⟨u,hu⟩:=tab_some (op:=mxF) hm
   have hz:=tab_max hu hm
   rw[hu] at h
   unfold atK at h
   split at h
   ·have h:mxF p.2 u=y:=Option.some.inj h
    have:=mx_le p.2 u
    omega
   ·cases h;exact hz
theorem gatHv {A W:LI}{Q:List (Int×Int)}{k x:Int}:
  D.O A W (AS mxF Q) k x=some (AS mxF (Q++[(k,x)])):=by
 unfold D.O
 rw[EZ mxC]
 cases h:AS mxF Q k with
 |none=>rfl
 |some y=>rfl
structure WOk (n:Nat)(ws:LI):Prop where
 len:ws.length=n
 rng:∀x∈ws,0≤x∧x≤1000
theorem goodWeights_eq {g:LL}{ws:LI}(h:WOk g.length ws)(hn:g.length≤16):D.E g ws=some true:=by
 have hl:=h.len
 unfold D.E D.X1 D.V1
 rw[show ((ws.length:Int)==(g.length:Int))=true from beq_iff_eq.2 (by omega),cT]
 have key:=Db (ρ:=Unit ⊕ Int) (step:=(fun(x_40:Int)=>cond (decide (x_40<(ws.length:Int))) ((idx ws x_40).bind λe_60=>(D.Z0 e_60).bind λy_66=>cond y_66 (some (.inr (.inr x_40))) (some (.inl (IntKind.i64.wrap (x_40+1))))) (some (.inr (.inl ()))))) ws.length (λi=>none) (.inl ()) (λj hj=>by
   have hr:=h.rng _ (List.getElem_mem hj)
   unfold D.Z0 D.t
   rw[dlt hj,cT,AC hj,bs,bs,decide_eq_true hr.1,decide_eq_true hr.2,wq j]
   rfl) (by simp only[Be,cF])
 rw[key,EY (λi _=>rfl)]
 rfl
theorem Gv {g:LL}{T:NT}(hg:GOk g)(h7:g.length≤7)(h:NOk g T){ws:LI}(hw:WOk g.length ws):
  ∃r,D.y g (A7 T).1 (A7 T).2.1 (A7 T).2.2.1 (A7 T).2.2.2 ws=some r∧(∃m∈SM g,wt (λv=>ws.getD v 0) g.length m=r)∧∀m∈SM g,wt (λv=>ws.getD v 0) g.length m≤r:=by
 have h16:=hg.n16
 have hF:=FOk.of hg
 have hf:=h.fine hg
 have hl:=hw.len
 have hone:∀(k x:Int),BN (mf0:AJ) k x=AS mxF [(k,x)]:=λk x=>Gn (K:=Int) mxC (Q:=[]) (k:=k) (λp hp=>by cases hp) x
 have hwb:∀v,v<g.length→0≤ws.getD v 0∧ws.getD v 0≤1000:=λv hv=>by
  rw[AH (by omega)]
  exact hw.rng _ (List.getElem_mem _)
 have hrun:D.F1 (A7 T).1 (A7 T).2.1 (A7 T).2.2.1 (A7 T).2.2.2 (BN (mf0:AJ) 0 0) (g.map mk) ws=some (AS mxF (TP kS (CJ g.length λv=>ws.getD v 0) (g.map mk) alS cfS T)):=by
  have hstart:BN (mf0:AJ) 0 0=AS mxF [(kS 0 (λ_=>0),0)]:=by
   rw[hone]
   have:kS 0 (λ_=>0)=0:=VS.ext (De _ _) VS.zero λv _=>by
    rw[Bool.eq_iff_iff,C5 (n:=0) (by omega) ⟨VS.zero,λw hw=>by rw[Bv] at hw;cases hw⟩,Bv]
    simp
   rw[this]
  rw[hstart]
  refine Eq.trans ?_ (runMax_ok (w:=λv=>ws.getD v 0) (B:=1000) (df:=λv s x=>if has s v=true then x+ws.getD v 0 else x) (addB:=addBS (D.O (g.map mk) ws) (g.map mk)) (dropB:=dropBS (D.O (g.map mk) ws) (λa b c d=>D.y0 a b c d ws)) (Dn:=meetBS (D.O (g.map mk) ws) D.I) (good:=VS) h16 hwb (by omega) (kysS h16 hF) (λb a=>De b a) ?_ ?_ ?_ ?_ ?_ h.ok hf h.size)
  ·rfl
  ·intro v t a x ho
   have:=(dropS_ok h16 ho a).2
   by_cases e:a v=1
   ·rw[if_pos e,if_pos (this.2 e)]
   ·rw[if_neg e,if_neg (λhh=>e (this.1 hh)),Int.add_zero]
  ·intro v k x y
   split
   ·exact mx_add _ _ _
   ·rfl
  ·intro v b e Q hv hb hgd
   unfold addBS
   rw[FU h16 hF hv,bs]
   have hal:=addsS_len (g.map mk) v e.1
   exact gath_loop (by omega) Q λi hi=>gatHv
  ·intro v b e Q hv hb hgd h0 h1
   have hv1:=hwb v hv
   unfold dropBS
   show (D.y0 e.1 (v:Int) b e.2 ws).bind _=_
   unfold D.y0 D.A1
   rw[GZ hgd (by omega),bs,Cc,bs,show idx ws (v:Int)=some (ws.getD v 0) by rw[AC (by omega),AH (by omega)]]
   have hy:(cond (has e.1 v) (((some (ws.getD v 0)).bind λe_1=>some e_1).bind λy_9=>(some (ishl .u32 1 (v:Int))).bind λy_20=>some (BN (mf0:AJ) (iandNot .u32 e.1 y_20) (IntKind.i64.wrap (e.2+y_9)))) (some (BN (mf0:AJ) (iandNot .u32 e.1 (ishl .u32 1 (v:Int))) e.2)))=some (AS mxF [(iandNot .u32 e.1 (ishl .u32 1 (v:Int)),if has e.1 v=true then e.2+ws.getD v 0 else e.2)]):=by
    cases has e.1 v with
    |true=>
     show some (BN (mf0:AJ) _ (IntKind.i64.wrap (e.2+ws.getD v 0)))=_
     rw[w64 (by omega) (by omega),hone,if_pos rfl]
    |false=>rw[cF,hone,if_neg (by simp)]
   refine FC hy ?_
   refine FC (FA mxC F2 (Q:=Q) (em:=λs=>[(s,id)]) (λk c hc a b=> ?_) (λe2 Q2 he2=> ?_)) ?_
   ·rw[List.mem_singleton.1 hc];rfl
   ·rw[gatHv,bs];rfl
   ·rw[Fj]
  ·intro e e2 Q hg1 hg2 h0 h1 h2 h3
   unfold meetBS D.n0
   rw[bs]
   dsimp only
   by_cases hd:e.1=e2.1
   ·rw[if_pos hd,show (e.1==e2.1)=true from beq_iff_eq.2 hd,cT]
    unfold D.I
    rw[bs,w64 (by omega) (by omega),gatHv,bs]
   ·rw[if_neg hd,List.append_nil,show (e.1==e2.1)=false from beq_eq_false_iff_ne.2 hd,cF]
 have hk0:∀a,kS T.bag a=0:=λa=>VS.ext (De _ _) VS.zero λv _=>by
  rw[h.bag,Bool.eq_iff_iff,C5 (n:=0) (by omega) ⟨VS.zero,λw hw=>by rw[Bv] at hw;cases hw⟩,Bv]
  simp
 have hmem:∀z,((0:Int),z)∈TP kS (CJ g.length λv=>ws.getD v 0) (g.map mk) alS cfS T↔∃m∈SM g,wt (λv=>ws.getD v 0) g.length m=z:=λz=>by
  unfold TP
  rw[List.mem_map]
  constructor
  ·rintro⟨a,ha,e⟩
   refine⟨kS (full g.length) a,(FO hg h).mem_iff.1 (List.mem_map.2 ⟨a,ha,rfl⟩),?_⟩
   rw[←val_root hg h]
   exact(Prod.mk.inj e).2
  ·rintro⟨m,hm,rfl⟩
   obtain⟨a,ha,rfl⟩:=List.mem_map.1 ((FO hg h).mem_iff.2 hm)
   exact⟨a,ha,Prod.ext (hk0 a) (val_root hg h _ a)⟩
 have h0:(0:Int)∈SM g:=(Ee hg 0).2 ⟨⟨VS.zero,λw hw=>by rw[Bv] at hw;cases hw⟩,λu w hu=>by rw[Bv] at hu;cases hu⟩
 obtain⟨y,hy⟩:=tab_some (op:=mxF) ((hmem _).2 ⟨0,h0,rfl⟩)
 refine⟨y,?_,(hmem y).1 (GP F2 hy),λm hm=>tab_max hy ((hmem _).2 ⟨m,hm,rfl⟩)⟩
 unfold D.y
 rw[Dt hg (by omega) h,bs,Bool.not_true,cF,goodWeights_eq hw h16,bs,Bool.not_true,bs,cF,E2 g hg,bs]
 unfold D.I1
 rw[bs,hrun,bs,hy]
 rfl
theorem bitV {s:Int}(h:VS s){v:Nat}(hv:v<64):iand .i64 (BZ .i64 s (v:Int)) 1=if has s v=true then 1 else 0:=by
 have h1:=bit64 h hv
 have h2:=bit64z h hv
 cases hh:has s v with
 |true=>rw[hh] at h1;rw[if_pos rfl];exact beq_iff_eq.1 h1
 |false=>rw[hh] at h2;rw[if_neg (by simp)];exact beq_iff_eq.1 h2
theorem StablesMany_ok {g:LL}(hg:GOk g):D.d1 g=some ((SM g).length:Int):=by
 have h16:=hg.n16
 have hp16:(2:Nat)^g.length≤2^16:=Nat.pow_le_pow_right (by omega) h16
 have hp0:0<(2:Nat)^g.length:=Nat.pow_pos (by omega)
 unfold D.d1
 rw[CY g hg.sh2,FT hg,bs,Bool.not_true,cF,Eu hg,bs,GD hg]
 refine(BY (λi=>((((List.range i).filter λj:Nat=>stB g (j:Int)).length:Int),(i:Int))) (2^g.length) ((SM g).length:Int) rfl (λi hi=> ?_) ?_).trans rfl
 ·dsimp only
  have hb:=In.of hi h16
  have hle:((List.range i).filter λj:Nat=>stB g (j:Int)).length≤i:=Nat.le_trans (List.length_filter_le _ _) (by simp)
  have e1:decide ((i:Int)≤full g.length)=true:=by rw[Em h16,decide_eq_true_eq];omega
  rw[bs,e1,cT,FB hg hb.1,bs,wq i,List.range_succ,List.filter_append,List.length_append,List.filter_cons,List.filter_nil]
  cases stB g (i:Int) with
  |true=>
   rw[cT,w64 (by omega) (by omega)]
   rfl
  |false=>rw[cF];rfl
 ·dsimp only
  have e1:decide ((((2:Nat)^g.length:Nat):Int)≤full g.length)=false:=by rw[Em h16,decide_eq_false_iff_not];omega
  rw[bs,e1,cF]
  unfold SM
  rw[List.length_map]
theorem Hp {g:LL}{ws:LI}(h:WOk g.length ws)(hn:g.length≤16):D.q1 g ws=some true:=by
 have hl:=h.len
 unfold D.q1
 rw[show ((ws.length:Int) !=(g.length:Int))=false by simp;omega,cF]
 refine(C7 ws.length (λ_=>true) (.inl ()) (.inr false) (λi hi=> ?_) ?_).trans ?_
 ·have hr:=h.rng _ (List.getElem_mem hi)
  rw[dlt hi,cT,AC hi,bs,Eo,bs,decide_eq_true hr.1,decide_eq_true hr.2,wq i]
  rfl
 ·rw[Be,cF]
 ·rw[(Cg _ _).2 (λ_ _=>rfl)]
  rfl
theorem wt_nn {w:Nat→Int}{n:Nat}(hw:∀v,v<n→0≤w v∧w v≤1000)(m:Int):0≤wt w n m∧wt w n m≤n*1000:=F7 λv hv=>by
 have:=hw v hv
 split<;>omega
theorem G4 {g:LL}(hg:GOk g){ws:LI}(hw:WOk g.length ws):
  ∃s r,D.W0 g ws=some (s,r)∧(∃m∈SM g,wt (λv=>ws.getD v 0) g.length m=r)∧∀m∈SM g,wt (λv=>ws.getD v 0) g.length m≤r:=by
 have h16:=hg.n16
 have hl:=hw.len
 have hp16:(2:Nat)^g.length≤2^16:=Nat.pow_le_pow_right (by omega) h16
 have hp0:0<(2:Nat)^g.length:=Nat.pow_pos (by omega)
 have hwb:∀v,v<g.length→0≤ws.getD v 0∧ws.getD v 0≤1000:=λv hv=>by
  rw[AH (by omega)]
  exact hw.rng _ (List.getElem_mem _)
 have h0:(0:Int)∈SM g:=(Ee hg 0).2 ⟨⟨VS.zero,λw hw=>by rw[Bv] at hw;cases hw⟩,λu w hu=>by rw[Bv] at hu;cases hu⟩
 have hz:wt (λv=>ws.getD v 0) g.length 0=0:=by
  unfold wt
  have:∀m,CI (λv=>if has 0 v=true then ws.getD v 0 else 0) m=0:=λm=>by
   induction m with
   |zero=>rfl
   |succ m ih=>rw[CI,ih,Bv,if_neg (by simp)];rfl
  exact this _
 have hlt:∀m∈SM g,m<((2^g.length:Nat):Int)∧0≤m:=λm hm=>by
  unfold SM at hm
  obtain⟨i,hi,rfl⟩:=List.mem_map.1 hm
  have:=List.mem_range.1 (List.mem_filter.1 hi).1
  simp only[Int.ofNat_eq_natCast]
  omega
 unfold D.W0
 rw[CY g hg.sh2,FT hg,bs,Bool.not_true,cF,Hp hw h16,bs,Bool.not_true,bs,cF,Eu hg,bs,GD hg]
 have key:=BC (k:=λz:Int×Int=>(D.c0 z.1).bind λy=>some (y,z.2)) (Q:=λy:LI×Int=>(∃m∈SM g,wt (λv=>ws.getD v 0) g.length m=y.2)∧∀m∈SM g,wt (λv=>ws.getD v 0) g.length m≤y.2)
  (step:=(fun(s_2610:Int×Int×Int)=>match s_2610 with|(x_2613,x_2614,x_2615)=>(some (full g.length)).bind λy_3470=>cond (decide (x_2615≤y_3470)) ((Az (σ:=Int×Int) (ρ:=(Int)) (fun(s_3501:Int×Int)=>match s_3501 with|(x_3504,x_3505)=>cond (decide (x_3505<(ws.length:Int))) ((idx ws x_3505).bind λe_3519=>cond (decide ((IntKind.u64.wrap x_3505)<0)) none (some (.inl ((IntKind.i64.wrap (x_3504+(IntKind.i64.wrap (e_3519*(iand .i64 (BZ .i64 x_2615 (IntKind.u64.wrap x_3505)) 1))))),(IntKind.i64.wrap (x_3505+1)))))) (some (.inr x_3504))) (0,0)).bind λx_3516=>(D.z x_2615).bind λy_3526=>(D.z x_2613).bind λy_3533=>(cond (decide (x_3516<x_2614)) (some true) ((cond (x_3516==x_2614) ((cond (decide (y_3533<y_3526)) (some true) ((cond (y_3526==y_3533) ((D.P x_2615 x_2613).bind λy_4300=>some (!y_4300)) (some false)).bind λb_4298=>some b_4298)).bind λb_4279=>some b_4279) (some false)).bind λb_4222=>some b_4222)).bind λb_4051=>cond b_4051 (some (.inl (x_2613,x_2614,(IntKind.i64.wrap (x_2615+1))))) ((D.S (g.map mk) x_2615).bind λy_4308=>cond y_4308 (some (.inl (x_2615,x_3516,(IntKind.i64.wrap (x_2615+1))))) (some (.inl (x_2613,x_2614,(IntKind.i64.wrap (x_2615+1))))))) (some (.inr (x_2613,x_2614)))))
  (s:=(0,0,0))
  (λst=>∃i:Nat,st.2.2=(i:Int)∧i≤2^g.length∧st.1∈SM g∧wt (λv=>ws.getD v 0) g.length st.1=st.2.1∧∀m∈SM g,m<(i:Int)→wt (λv=>ws.getD v 0) g.length m≤st.2.1) (λst=>2^g.length-st.2.2.toNat) (λz=>z.1∈SM g∧wt (λv=>ws.getD v 0) g.length z.1=z.2∧∀m∈SM g,wt (λv=>ws.getD v 0) g.length m≤z.2) (by
   rintro⟨Y,r,_⟩ ⟨i,rfl,hi,hY,hr,hmax⟩
   dsimp only at hY hr hmax ⊢
   rw[bs]
   by_cases hlt':i<2^g.length
   ·have hb:=In.of hlt' h16
    have hYv:=((Ee hg Y).1 hY).1.1
    have e1:decide ((i:Int)≤full g.length)=true:=by rw[Em h16,decide_eq_true_eq];omega
    have hw':IntKind.i64.wrap ((i:Int)+1)=((i+1:Nat):Int):=wi (by omega)
    have hsum:(Az (σ:=Int×Int) (ρ:=(Int)) (fun(s_3501:Int×Int)=>match s_3501 with|(x_3504,x_3505)=>cond (decide (x_3505<(ws.length:Int))) ((idx ws x_3505).bind λe_3519=>cond (decide ((IntKind.u64.wrap x_3505)<0)) none (some (.inl ((IntKind.i64.wrap (x_3504+(IntKind.i64.wrap (e_3519*(iand .i64 (BZ .i64 (i:Int) (IntKind.u64.wrap x_3505)) 1))))),(IntKind.i64.wrap (x_3505+1)))))) (some (.inr x_3504))) (0,0))=some (wt (λv=>ws.getD v 0) g.length (i:Int)):=by
     have:=BY (k:=λx=>some x) (step:=(fun(s_3501:Int×Int)=>match s_3501 with|(x_3504,x_3505)=>cond (decide (x_3505<(ws.length:Int))) ((idx ws x_3505).bind λe_3519=>cond (decide ((IntKind.u64.wrap x_3505)<0)) none (some (.inl ((IntKind.i64.wrap (x_3504+(IntKind.i64.wrap (e_3519*(iand .i64 (BZ .i64 (i:Int) (IntKind.u64.wrap x_3505)) 1))))),(IntKind.i64.wrap (x_3505+1)))))) (some (.inr x_3504)))) (λv=>(CI (λv=>if has (i:Int) v=true then ws.getD v 0 else 0) v,(v:Int))) ws.length (wt (λv=>ws.getD v 0) g.length (i:Int)) rfl (λv hv=>by
      have hvn:v<g.length:=by omega
      have hb1:=hwb v hvn
      have hb2:=F7 (f:=λv=>if has (i:Int) v=true then ws.getD v 0 else 0) (B:=1000) (m:=v) (λu hu=>by
       have:=hwb u (by omega)
       split<;>omega)
      dsimp only
      rw[dlt hv,cT,AC hv,bs,uw (by omega),E6,cF,bitV hb.1 (by omega),←AH (d:=0) hv]
      have hm:IntKind.i64.wrap (ws.getD v 0*(if has (i:Int) v=true then 1 else 0))=if has (i:Int) v=true then ws.getD v 0 else 0:=by
       split
       ·rw[Int.mul_one,w64 (by omega) (by omega)]
       ·rw[Int.mul_zero,w64 (by omega) (by omega)]
      have hm2:0≤(if has (i:Int) v=true then ws.getD v 0 else 0)∧(if has (i:Int) v=true then ws.getD v 0 else 0)≤1000:=by
       split<;>omega
      rw[hm,wq v,w64 (by omega) (by omega)]
      rfl) (by
      dsimp only
      rw[Be,cF,hl]
      rfl)
     rw[bind_id] at this
     exact this
    rw[e1,cT,hsum,bs,E8 hb.1,bs,E8 hYv,bs,hw']
    have hskip:∃b,(cond (decide (wt (λv=>ws.getD v 0) g.length (i:Int)<r)) (some true) ((cond (wt (λv=>ws.getD v 0) g.length (i:Int)==r) ((cond (decide (((elems Y).length:Int)<((elems (i:Int)).length:Int))) (some true) ((cond (((elems (i:Int)).length:Int)==((elems Y).length:Int)) ((D.P (i:Int) Y).bind λy_4300=>some (!y_4300)) (some false)).bind λb_4298=>some b_4298)).bind λb_4279=>some b_4279) (some false)).bind λb_4222=>some b_4222))=some b∧(b=true→wt (λv=>ws.getD v 0) g.length (i:Int)≤r)∧(b=false→r≤wt (λv=>ws.getD v 0) g.length (i:Int)):=by
     obtain⟨q,eq,_⟩:=l25Less_eq hb.1 hYv
     rw[eq]
     by_cases c1:wt (λv=>ws.getD v 0) g.length (i:Int)<r
     ·exact⟨true,by rw[decide_eq_true c1];rfl,λ_=>by omega,λh=>by cases h⟩
     ·rw[decide_eq_false c1,cF]
      by_cases c2:wt (λv=>ws.getD v 0) g.length (i:Int)=r
      ·rw[show (wt (λv=>ws.getD v 0) g.length (i:Int)==r)=true from beq_iff_eq.2 c2,cT]
       have:∃b,((((cond (decide (((elems Y).length:Int)<((elems (i:Int)).length:Int))) (some true) ((cond (((elems (i:Int)).length:Int)==((elems Y).length:Int)) ((some q).bind λy_4300=>some (!y_4300)) (some false)).bind λb_4298=>some b_4298)).bind λb_4279=>some b_4279)).bind λb_4222=>some b_4222)=some b:=by
        cases decide (((elems Y).length:Int)<((elems (i:Int)).length:Int))
        ·cases (((elems (i:Int)).length:Int)==((elems Y).length:Int))<;>exact⟨_,rfl⟩
        ·exact⟨_,rfl⟩
       obtain⟨b,hb'⟩:=this
       exact⟨b,hb',λ_=>by omega,λ_=>by omega⟩
      ·exact⟨false,by rw[show (wt (λv=>ws.getD v 0) g.length (i:Int)==r)=false from beq_eq_false_iff_ne.2 c2];rfl,λh=>(by cases h),λ_=>by omega⟩
    obtain⟨b,eb,hb1,hb2⟩:=hskip
    rw[eb,bs]
    have hmax':∀m∈SM g,m<((i+1:Nat):Int)→m≠(i:Int)→wt (λv=>ws.getD v 0) g.length m≤r:=λm hm hlt hne=>hmax m hm (by omega)
    cases b with
    |true=>
     rw[cT]
     refine⟨_,rfl,⟨i+1,rfl,hlt',hY,hr,λm hm hl=> ?_⟩,by dsimp only;omega⟩
     by_cases e:m=(i:Int)
     ·rw[e];exact hb1 rfl
     ·exact hmax' m hm hl e
    |false=>
     rw[cF,FB hg hb.1,bs]
     cases hs:stB g (i:Int) with
     |true=>
      rw[cT]
      refine⟨_,rfl,⟨i+1,rfl,hlt',(Ee hg _).2 ⟨hb,(Fk hg hb).1 hs⟩,rfl,λm hm hl=> ?_⟩,by dsimp only;omega⟩
      by_cases e:m=(i:Int)
      ·rw[e];exact Int.le_refl _
      ·have h1:=hmax' m hm hl e
       have h2:=hb2 rfl
       dsimp only
       omega
     |false=>
      rw[cF]
      refine⟨_,rfl,⟨i+1,rfl,hlt',hY,hr,λm hm hl=> ?_⟩,by dsimp only;omega⟩
      refine hmax' m hm hl λe=> ?_
      rw[e] at hm
      have:=(Fk hg hb).2 ((Ee hg _).1 hm).2
      rw[hs] at this;cases this
   ·obtain rfl:i=2^g.length:=by omega
    have e1:decide ((((2:Nat)^g.length:Nat):Int)≤full g.length)=false:=by rw[Em h16,decide_eq_false_iff_not];omega
    rw[e1,cF]
    exact⟨_,rfl,hY,hr,λm hm=>hmax m hm (hlt m hm).1⟩) ⟨0,rfl,by omega,h0,hz,λm hm hl=>by have:=(hlt m hm).2;omega⟩ (λz hz=>⟨_,by rw[l25Set_eq (((Ee hg z.1).1 hz.1).1.s16 h16),bs],⟨z.1,hz.1,hz.2.1⟩,hz.2.2⟩)
 obtain⟨y,e,h1,h2⟩:=key
 exact⟨y.1,y.2,e,h1,h2⟩
def Cv (g:LL)(Z:Int):Prop:=In g.length Z∧iandNot .u32 (full g.length) Z∈SM g
theorem In.full {n:Nat}(hn:n≤16):In n (full n):=⟨Dp _,λw hw=>by rw[DA hn,decide_eq_true_eq] at hw;exact hw⟩
theorem LeastCover_ok {g:LL}(hg:GOk g):∃Y,D.S0 g=some (elems Y)∧Cv g Y∧∀Z,Cv g Z→(elems Y).length≤(elems Z).length:=by
 have h16:=hg.n16
 have hp16:(2:Nat)^g.length≤2^16:=Nat.pow_le_pow_right (by omega) h16
 have hp0:0<(2:Nat)^g.length:=Nat.pow_pos (by omega)
 have hst:∀{b:Int},In g.length b→(stB g (iandNot .u32 (full g.length) b)=true↔Cv g b):=fun{b} hb=>by
  have hI:In g.length (iandNot .u32 (full g.length) b):=(In.full h16).andNot hb.1
  rw[Fk hg hI]
  exact⟨λh=>⟨hb,(Ee hg _).2 ⟨hI,h⟩⟩,λh=>((Ee hg _).1 h.2).2⟩
 have hfull:Cv g (full g.length):=by
  refine(hst (In.full h16)).1 ((Fk hg ((In.full h16).andNot (Dp _))).2 λu w hu=> ?_)
  rw[A8 (Dp _) (Dp _)] at hu
  rw[Bool.and_not_self] at hu
  cases hu
 have hno:∀Z,Cv g Z→Z<((2^g.length:Nat):Int):=λZ hZ=>by
  obtain⟨m,rfl,hm⟩:=(hZ.1.s16 h16).nat
  have:m<2^g.length:=by
   apply Nat.lt_pow_two_of_testBit
   intro j hj
   cases hc:m.testBit j
   ·rfl
   ·have:=hZ.1.2 j (by rw[B7];exact hc)
    omega
  omega
 unfold D.S0
 rw[CY g hg.sh2,FT hg,bs,Bool.not_true,cF,Eu hg,bs,GD hg,bs]
 obtain⟨y,e,Y,rfl,h1,h2⟩:=BC (Q:=λy=>∃Y,y=elems Y∧Cv g Y∧∀Z,Cv g Z→(elems Y).length≤(elems Z).length) (k:=λx=>(D.c0 x).bind λy=>some y)
  (step:=(fun(s_288:Int×Int)=>match s_288 with|(x_291,x_292)=>(some (full g.length)).bind λy_421=>cond (decide (x_292≤y_421)) ((D.z x_292).bind λy_429=>(D.z x_291).bind λy_436=>(cond (decide (y_436<y_429)) (some true) ((cond (y_429==y_436) ((D.P x_292 x_291).bind λy_519=>some (!y_519)) (some false)).bind λb_517=>some b_517)).bind λb_498=>cond b_498 (some (.inl (x_291,(IntKind.i64.wrap (x_292+1))))) ((some (full g.length)).bind λy_527=>(D.S (g.map mk) (iandNot .i64 y_527 x_292)).bind λy_534=>cond y_534 (some (.inl (x_292,(IntKind.i64.wrap (x_292+1))))) (some (.inl (x_291,(IntKind.i64.wrap (x_292+1))))))) (some (.inr x_291))))
  (s:=(full g.length,0))
  (λst=>∃i:Nat,st.2=(i:Int)∧i≤2^g.length∧Cv g st.1∧∀Z,Cv g Z→Z<(i:Int)→(elems st.1).length≤(elems Z).length) (λst=>2^g.length-st.2.toNat) (λY=>Cv g Y∧∀Z,Cv g Z→(elems Y).length≤(elems Z).length) (by
   rintro⟨Y,_⟩ ⟨i,rfl,hi,hY,hmin⟩
   dsimp only at hY hmin ⊢
   rw[bs]
   by_cases hlt:i<2^g.length
   ·have hb:=In.of hlt h16
    have e1:decide ((i:Int)≤full g.length)=true:=by rw[Em h16,decide_eq_true_eq];omega
    have hw:IntKind.i64.wrap ((i:Int)+1)=((i+1:Nat):Int):=wi (by omega)
    rw[e1,cT,E8 hb.1,bs,E8 hY.1.1,bs,hw]
    have hskip:∃b,(cond (decide (((elems Y).length:Int)<((elems (i:Int)).length:Int))) (some true) ((cond (((elems (i:Int)).length:Int)==((elems Y).length:Int)) ((D.P (i:Int) Y).bind λy_519=>some (!y_519)) (some false)).bind λb_517=>some b_517))=some b∧(b=true→(elems Y).length≤(elems (i:Int)).length)∧(b=false→(elems (i:Int)).length≤(elems Y).length):=by
     obtain⟨r,er,_⟩:=l25Less_eq hb.1 hY.1.1
     rw[er]
     by_cases c1:(elems Y).length<(elems (i:Int)).length
     ·exact⟨true,by rw[decide_eq_true (by omega)];rfl,λ_=>by omega,λh=>by cases h⟩
     ·rw[decide_eq_false (by omega),cF]
      by_cases c2:(elems (i:Int)).length=(elems Y).length
      ·exact⟨!r,by rw[c2,beq_self_eq_true];rfl,λ_=>by omega,λ_=>by omega⟩
      ·exact⟨false,by rw[show ((((elems (i:Int)).length:Int))==((elems Y).length:Int))=false from beq_eq_false_iff_ne.2 (by omega)];rfl,λh=>(by cases h),λ_=>by omega⟩
    obtain⟨b,eb,hb1,hb2⟩:=hskip
    rw[eb,bs]
    have hmin':∀Z,Cv g Z→Z<((i+1:Nat):Int)→Z≠(i:Int)→(elems Y).length≤(elems Z).length:=λZ hZ hlt hne=>hmin Z hZ (by omega)
    cases b with
    |true=>
     rw[cT]
     refine⟨_,rfl,⟨i+1,rfl,hlt,hY,λZ hZ hl=> ?_⟩,by dsimp only;omega⟩
     by_cases e:Z=(i:Int)
     ·rw[e];exact hb1 rfl
     ·exact hmin' Z hZ hl e
    |false=>
     rw[cF,bs,andnot64 (Dp _) hb.1,FB hg (VS.iandNot _ _),bs]
     cases hs:stB g (iandNot .u32 (full g.length) (i:Int)) with
     |true=>
      rw[cT]
      refine⟨_,rfl,⟨i+1,rfl,hlt,(hst hb).1 hs,λZ hZ hl=> ?_⟩,by dsimp only;omega⟩
      by_cases e:Z=(i:Int)
      ·rw[e];exact Nat.le_refl _
      ·exact Nat.le_trans (hb2 rfl) (hmin' Z hZ hl e)
     |false=>
      rw[cF]
      refine⟨_,rfl,⟨i+1,rfl,hlt,hY,λZ hZ hl=> ?_⟩,by dsimp only;omega⟩
      refine hmin' Z hZ hl λe=> ?_
      rw[e] at hZ
      have:=(hst hb).2 hZ
      rw[hs] at this;cases this
   ·obtain rfl:i=2^g.length:=by omega
    have e1:decide ((((2:Nat)^g.length:Nat):Int)≤full g.length)=false:=by rw[Em h16,decide_eq_false_iff_not];omega
    rw[e1,cF]
    exact⟨_,rfl,hY,λZ hZ=>hmin Z hZ (hno Z hZ)⟩) ⟨0,rfl,by omega,hfull,λZ hZ hl=>by
     have:=(hZ.1.s16 h16).1
     omega⟩ (λr hr=>⟨_,by rw[l25Set_eq (hr.1.1.s16 h16),bs],r,rfl,hr⟩)
 exact⟨Y,e,h1,h2⟩
theorem wt_ones {n:Nat}(hn:n≤16){m:Int}(hm:In n m){w:Nat→Int}(hw:∀v,v<n→w v=1):wt w n m=((elems m).length:Int):=by
 rw[EU hn hm]
 unfold wt
 have:∀k,k≤n→CI (λv=>if has m v=true then w v else 0) k=(Dc k (λv=>has m v=true):Int):=by
  intro k
  induction k with
  |zero=>intro _;rfl
  |succ k ih=>
   intro hk
   rw[CI,ih (by omega)]
   show _=(((Dc k (λv=>has m v=true))+indP (has m k=true):Nat):Int)
   by_cases h:has m k=true
   ·rw[if_pos h,C2 h,hw k (by omega)];omega
   ·rw[if_neg h,Cz h];omega
 exact this n (Nat.le_refl _)
theorem cover_size {g:LL}(hg:GOk g){Y:Int}(hY:Cv g Y)(hmin:∀Z,Cv g Z→(elems Y).length≤(elems Z).length){w:Nat→Int}(hw:∀v,v<g.length→w v=1){r:Int}(h1:∃m∈SM g,wt w g.length m=r)(h2:∀m∈SM g,wt w g.length m≤r):(g.length:Int)-r=((elems Y).length:Int):=by
 have h16:=hg.n16
 have hlen:∀{a b:Int},In g.length a→In g.length b→(∀v,v<g.length→(has b v=true↔¬has a v=true))→(elems a).length+(elems b).length=g.length:=fun{a b} ha hb h=>by
  rw[EU h16 ha,EU h16 hb]
  have h3:=Ff (n:=g.length) (λ_=>True) (λv=>has a v=true)
  rw[Fu] at h3
  rw[D7 (p:=λv=>has b v=true) (q:=λv=>¬has a v=true∧True) λv hv=>by rw[h v hv];simp]
  rw[D7 (p:=λv=>has a v=true) (q:=λv=>has a v=true∧True) λv hv=>by simp]
  omega
 have hcm:∀{a:Int},In g.length a→∀v,v<g.length→(has (iandNot .u32 (full g.length) a) v=true↔¬has a v=true):=fun{a} ha v hv=>by
  rw[A8 (Dp _) ha.1,DA h16,decide_eq_true hv]
  simp
 obtain⟨m,hm,rfl⟩:=h1
 have hmI:=((Ee hg m).1 hm).1
 have hL:=hlen hY.1 ((In.full h16).andNot hY.1.1) (hcm hY.1)
 have e1:=h2 _ hY.2
 rw[wt_ones h16 ((In.full h16).andNot hY.1.1) hw,wt_ones h16 hmI hw] at e1
 have hZI:=(In.full h16).andNot hmI.1
 have hZ:Cv g (iandNot .u32 (full g.length) m):=by
  refine⟨hZI,?_⟩
  have:iandNot .u32 (full g.length) (iandNot .u32 (full g.length) m)=m:=by
   refine VS.ext (VS.iandNot _ _) hmI.1 λv _=> ?_
   rw[A8 (Dp _) (VS.iandNot _ _),A8 (Dp _) hmI.1,DA h16]
   by_cases hv:v<g.length
   ·rw[decide_eq_true hv];simp
   ·have:has m v=false:=by
     cases hh:has m v with
     |false=>rfl
     |true=>exact absurd (hmI.2 v hh) hv
    rw[this,decide_eq_false hv];rfl
  rw[this];exact hm
 have hM:=hlen hmI hZI (hcm hmI)
 have e2:=hmin _ hZ
 rw[wt_ones h16 hmI hw]
 omega
def cfn (k:Nat):LI:=(List.range k).map λi:Nat=>((i:Int)+1)
theorem cfn_nd (k:Nat):(cfn k).Nodup:=by
 unfold cfn List.Nodup
 rw[List.pairwise_map]
 exact(List.nodup_range (n:=k)).imp fun{a b} h e=>h (by
  have e:(a:Int)+1=(b:Int)+1:=e
  omega)
theorem GQ (k:Nat):(cfn k).length=k:=by simp[cfn]
theorem hasC_eq {s:C16}{l:LI}(hl:l.length≤1000)(h:∀u∈l,0≤u∧u<16)(c:Int):
  D.t1 l s.c0 s.c1 s.c2 s.c3 s.c4 s.c5 s.c6 s.c7 s.c8 s.c9 s.c10 s.c11 s.c12 s.c13 s.c14 s.c15 c=some (l.any λu=>(idx s.li u).getD 0==c):=by
 have hidx:∀u,0≤u→u<16→idx s.li u=some ((idx s.li u).getD 0):=λu h0 h1=>by
  obtain⟨v,rfl⟩:∃v:Nat,u=v:=⟨u.toNat,by omega⟩
  rw[AC (show v<s.li.length by show v<16;omega)]
  rfl
 unfold D.t1 D.E1
 have key:=Db (ρ:=Unit ⊕ Int) (step:=(fun(x_40:Int)=>cond (decide (x_40<(l.length:Int))) ((idx l x_40).bind λe_60=>(D.E0 e_60 s.c0 s.c1 s.c2 s.c3 s.c4 s.c5 s.c6 s.c7 s.c8 s.c9 s.c10 s.c11 s.c12 s.c13 s.c14 s.c15 c).bind λy_66=>cond y_66 (some (.inr (.inr x_40))) (some (.inl (IntKind.i64.wrap (x_40+1))))) (some (.inr (.inl ()))))) l.length (λi=>if(idx s.li (l.getD i 0)).getD 0==c then some (.inr (i:Int)) else none) (.inl ()) (λi hi=>by
   obtain⟨h0,h1⟩:=h _ (List.getElem_mem hi)
   have:D.E0 l[i] s.c0 s.c1 s.c2 s.c3 s.c4 s.c5 s.c6 s.c7 s.c8 s.c9 s.c10 s.c11 s.c12 s.c13 s.c14 s.c15 c=some ((idx s.li l[i]).getD 0==c):=by
    unfold D.E0
    show (idx s.li l[i]).bind _=_
    rw[hidx _ h0 h1,bs]
    rfl
   rw[dlt hi,cT,AC hi,bs,this,bs,wq i,AH hi]
   cases ((idx s.li l[i]).getD 0==c)<;>rfl) (by simp only[Be,cF])
 rw[key]
 have hany:(l.any λu=>(idx s.li u).getD 0==c)=(List.range l.length).any λi=>(idx s.li (l.getD i 0)).getD 0==c:=
  (EO l (λu=>(idx s.li u).getD 0==c) _ (λi hi=>by rw[AH hi])).symm
 rw[hany]
 have:∀L:List Nat,(((L.findSome? λi=>if((idx s.li (l.getD i 0)).getD 0==c)=true then some (Sum.inr (i:Int):Unit ⊕ Int) else none).getD (.inl ()))= .inl ()∧(L.any λi=>(idx s.li (l.getD i 0)).getD 0==c)=false)∨∃j:Nat,((L.findSome? λi=>if((idx s.li (l.getD i 0)).getD 0==c)=true then some (Sum.inr (i:Int):Unit ⊕ Int) else none).getD (.inl ()))= .inr (j:Int)∧(L.any λi=>(idx s.li (l.getD i 0)).getD 0==c)=true:=by
  intro L
  induction L with
  |nil=>exact .inl ⟨rfl,rfl⟩
  |cons i L ih=>
   rw[List.findSome?_cons,List.any_cons]
   by_cases hc:((idx s.li (l.getD i 0)).getD 0==c)=true
   ·right
    rw[if_pos hc,hc]
    exact⟨i,rfl,rfl⟩
   ·rw[if_neg hc,show ((idx s.li (l.getD i 0)).getD 0==c)=false by simpa using hc]
    exact ih
 rcases this (List.range l.length) with⟨h1,h2⟩|⟨j,h1,h2⟩
 ·rw[h1,h2];rfl
 ·rw[h1,h2,bs]
  show ((some (j:Int)).bind λy=>some (decide ((0:Int)≤y)))=_
  rw[bs,decide_eq_true (by omega)]
theorem colours1_eq {n:Nat}(hn:n≤16){F:LI}(hF:FOk F n){v:Nat}(hv:v<n)(s:C16){b:Int}(hb:In n b){k:Nat}(hk:k≤4):
  D.x s.c0 s.c1 s.c2 s.c3 s.c4 s.c5 s.c6 s.c7 s.c8 s.c9 s.c10 s.c11 s.c12 s.c13 s.c14 s.c15 v b k F=some (addsC F (cfn k) b v s):=by
 have hl:=hF.len
 have hX:VS (iand .u32 (F.getD v 0) b):=VS.iand _ _
 have hXn:∀u∈elems (iand .u32 (F.getD v 0) b),0≤u∧u<16:=λu hu=>by
  obtain⟨w,_,hw,rfl⟩:=mem_elems.1 hu
  rw[B8 (hF.vs v hv) hb.1,Bool.and_eq_true] at hw
  have:=hb.2 w hw.2
  omega
 have hXl:=Ce (iand .u32 (F.getD v 0) b)
 have hvi:∃z,idx s.li (v:Int)=some z:=⟨_,AC (show v<s.li.length by show v<16;omega)⟩
 obtain⟨z,hz⟩:=hvi
 unfold D.x
 refine(BY (λi=>(((cfn i).filter λc=>(elems (iand .u32 (F.getD v 0) b)).all λu=> !((idx s.li u).getD 0==c)).map λc=>cset s v c,(i:Int)+1)) k (addsC F (cfn k) b v s) (by simp[cfn]) (λi hi=> ?_) ?_).trans rfl
 ·dsimp only
  have hw1:IntKind.i64.wrap ((i:Int)+1)=(i:Int)+1:=w64 (by omega) (by omega)
  have hw2:IntKind.i8.wrap ((i:Int)+1+1)=((i+1:Nat):Int)+1:=by
   have:i=0∨i=1∨i=2∨i=3:=by omega
   rcases this with rfl|rfl|rfl|rfl<;>decide
  have hcf:cfn (i+1)=cfn i++[(i:Int)+1]:=by
   unfold cfn
   rw[List.range_succ,List.map_append];rfl
  have hlen:(((cfn i).filter λc=>(elems (iand .u32 (F.getD v 0) b)).all λu=> !((idx s.li u).getD 0==c)).map λc=>cset s v c).length≤4:=by
   rw[List.length_map]
   refine Nat.le_trans (List.length_filter_le _ _) ?_
   rw[GQ];omega
  rw[hw1,decide_eq_true (by omega),cT,show idx F (v:Int)=some (F.getD v 0) by rw[AC (by omega),AH (by omega)],bs,D8 _ hX,bs,hasC_eq (by omega) hXn,bs,hw2,hcf,List.filter_append,List.map_append,List.filter_cons,List.filter_nil]
  have hall:((elems (iand .u32 (F.getD v 0) b)).all λu=> !((idx s.li u).getD 0==(i:Int)+1))= !((elems (iand .u32 (F.getD v 0) b)).any λu=>(idx s.li u).getD 0==(i:Int)+1):=by
   rw[List.not_any_eq_all_not]
  rw[hall]
  cases ((elems (iand .u32 (F.getD v 0) b)).any λu=>(idx s.li u).getD 0==(i:Int)+1) with
  |true=>simp
  |false=>
   show ((idx s.li (v:Int)).bind λ_=>(AR _ [cset s v ((i:Int)+1)]).bind _)=_
   rw[hz,bs,A5 (by simp only[List.length_singleton];omega),bs]
   rfl
 ·dsimp only
  rw[w64 (by omega) (by omega),decide_eq_false (by omega),cF]
  rfl
abbrev CMk :Type:=C16→Option Int
noncomputable def gatCo (k:Int)(F:LI)(tab:CMk)(s:C16)(x:Int):Option CMk:=D.d0 k F tab s.c0 s.c1 s.c2 s.c3 s.c4 s.c5 s.c6 s.c7 s.c8 s.c9 s.c10 s.c11 s.c12 s.c13 s.c14 s.c15 x
noncomputable def addBC (k:Int)(F:LI)(e:C16×Int)(v b:Int)(tab:CMk):Option CMk:=
 (D.x e.1.c0 e.1.c1 e.1.c2 e.1.c3 e.1.c4 e.1.c5 e.1.c6 e.1.c7 e.1.c8 e.1.c9 e.1.c10 e.1.c11 e.1.c12 e.1.c13 e.1.c14 e.1.c15 v b k F).bind λy=>(Az (σ:=CMk×List C16×Int) (ρ:=CMk) (λs=>match s with|(t,l,i)=>cond (decide (i<(y.length:Int))) ((idx l i).bind λq=>(gatCo k F t q e.2).bind λz=>some (.inl (z,l,(IntKind.i64.wrap (i+1))))) (some (.inr t))) (tab,y,0)).bind λt=>some t
noncomputable def dropBC (k:Int)(F:LI)(e:C16×Int)(v b:Int)(tab:CMk):Option CMk:=
 (D.N0 e.1.c0 e.1.c1 e.1.c2 e.1.c3 e.1.c4 e.1.c5 e.1.c6 e.1.c7 e.1.c8 e.1.c9 e.1.c10 e.1.c11 e.1.c12 e.1.c13 e.1.c14 e.1.c15 v b e.2).bind λy=>(BU (σ:=CMk) y (λe2 tab2=>(gatCo k F tab2 e2.1 e2.2).bind λz=>some z) tab).bind λt=>some t
noncomputable def meetBC (k:Int)(F:LI)(e e2:C16×Int)(tab:CMk):Option CMk:=
 (D.Y0 e.1.c0 e.1.c1 e.1.c2 e.1.c3 e.1.c4 e.1.c5 e.1.c6 e.1.c7 e.1.c8 e.1.c9 e.1.c10 e.1.c11 e.1.c12 e.1.c13 e.1.c14 e.1.c15 e2.1.c0 e2.1.c1 e2.1.c2 e2.1.c3 e2.1.c4 e2.1.c5 e2.1.c6 e2.1.c7 e2.1.c8 e2.1.c9 e2.1.c10 e2.1.c11 e2.1.c12 e2.1.c13 e2.1.c14 e2.1.c15).bind λy=>cond y.2.2.2.2.2.2.2.2.2.2.2.2.2.2.2.2 ((D.V e.2 e2.2).bind λz=>(gatCo k F tab ⟨y.1,y.2.1,y.2.2.1,y.2.2.2.1,y.2.2.2.2.1,y.2.2.2.2.2.1,y.2.2.2.2.2.2.1,y.2.2.2.2.2.2.2.1,y.2.2.2.2.2.2.2.2.1,y.2.2.2.2.2.2.2.2.2.1,y.2.2.2.2.2.2.2.2.2.2.1,y.2.2.2.2.2.2.2.2.2.2.2.1,y.2.2.2.2.2.2.2.2.2.2.2.2.1,y.2.2.2.2.2.2.2.2.2.2.2.2.2.1,y.2.2.2.2.2.2.2.2.2.2.2.2.2.2.1,y.2.2.2.2.2.2.2.2.2.2.2.2.2.2.2.1⟩ z).bind λw=>some w) (some tab)
theorem gatCo_ok {k:Int}{F:LI}{Q:List (C16×Int)}{s:C16}{x:Int}(hB:SmI2 (Q++[(s,x)])):gatCo k F (AS Ch Q) s x=some (AS Ch (Q++[(s,x)])):=by
 unfold gatCo D.d0
 rw[EZ addC]
 have hx:=hB.right.one
 have hq:=hB.left
 have ht:=hB.tot
 rw[DQ] at ht
 have e1:Du [(s,x)]=x+0:=rfl
 show cond ((AS Ch Q s).isSome) ((D.I ((AS Ch Q s).getD 0) x).bind λy=>some (BN (AS Ch Q) s y)) (some (BN (AS Ch Q) s x))=_
 cases h:AS Ch Q s with
 |none=>rfl
 |some y=>
  have hy:=tab_le hq.nn h
  unfold D.I
  show cond true _ _=_
  rw[cT]
  show (some (IntKind.i64.wrap (y+x))).bind _=_
  rw[w64 (by omega) (by omega)]
  rfl
theorem gath_loopC {k:Int}{F:LI}{x:Int}{l:List C16}(hl:l.length<1000)(Q:List (C16×Int))(hB:SmI2 (Q++l.map λq=>(q,x))):
  ((Az (σ:=CMk×List C16×Int) (ρ:=CMk) (λs=>match s with|(t,l',i)=>cond (decide (i<(l.length:Int))) ((idx l' i).bind λq=>(gatCo k F t q x).bind λz=>some (.inl (z,l',(IntKind.i64.wrap (i+1))))) (some (.inr t))) (AS Ch Q,l,0)).bind λt=>some t)=some (AS Ch (Q++l.map λq=>(q,x))):=by
 refine(BY (λi=>(AS Ch (Q++(l.take i).map λq=>(q,x)),l,(i:Int))) l.length (AS Ch (Q++l.map λq=>(q,x))) (by simp) (λi hi=> ?_) ?_).trans rfl
 ·dsimp only
  have h1:l=l.take i++l[i]::l.drop (i+1):=by rw[←List.drop_eq_getElem_cons hi,List.take_append_drop]
  have h2:=congrArg (List.map λq=>(q,x)) h1
  rw[List.map_append,List.map_cons] at h2
  have h3:SmI2 ((Q++(l.take i).map λq=>(q,x))++[(l[i],x)]):=by
   rw[h2] at hB
   have:Q++((l.take i).map (λq=>(q,x))++(l[i],x)::(l.drop (i+1)).map λq=>(q,x))=((Q++(l.take i).map λq=>(q,x))++[(l[i],x)])++(l.drop (i+1)).map λq=>(q,x):=by simp
   rw[this] at hB
   exact hB.left
  rw[dlt hi,cT,AC hi,bs,gatCo_ok h3,bs,wq i,Cx hi,List.map_append,List.append_assoc]
  rfl
 ·dsimp only
  rw[Be,cF,List.take_length]
theorem ColoursBy_ok {g:LL}{T:NT}(hg:GOk g)(h7:g.length≤7)(h:NOk g T){k:Nat}(hk:k≤4):
  D.c g (A7 T).1 (A7 T).2.1 (A7 T).2.2.1 (A7 T).2.2.2 k=some ((LLa (g.map mk) (cfn k) cfC T).length:Int):=by
 have h16:=hg.n16
 have hF:=FOk.of hg
 have hf:=h.fine hg
 have hone:∀(s:C16) (x:Int),BN (mf0:Bt) s x=AS Ch [(s,x)]:=λs x=>Gn (K:=C16) addC (Q:=[]) (k:=s) (λp hp=>by cases hp) x
 have hk0:∀b:Int,(∀v,has b v=false)→∀a,kC b a=(⟨0,0,0,0,0,0,0,0,0,0,0,0,0,0,0,0⟩:C16):=λb hb a=>by
  show c16 _=c16 λ_=>0
  refine EX λi _=> ?_
  rw[hb,if_neg (by simp)]
 have hrun:D.O1 (A7 T).1 (A7 T).2.1 (A7 T).2.2.1 (A7 T).2.2.2 (BN (mf0:Bt) (⟨0,0,0,0,0,0,0,0,0,0,0,0,0,0,0,0⟩:C16) 1) k (g.map mk)=some (AS Ch (TP kC one1 (g.map mk) (cfn k) cfC T)):=by
  have hstart:BN (mf0:Bt) (⟨0,0,0,0,0,0,0,0,0,0,0,0,0,0,0,0⟩:C16) 1=AS Ch [(kC 0 (λ_=>0),1)]:=by
   rw[hone,hk0 0 (λv=>Bv v)]
  rw[hstart]
  refine Eq.trans ?_ (runSum_ok (addB:=addBC k (g.map mk)) (dropB:=dropBC k (g.map mk)) (Dn:=meetBC k (g.map mk)) (good:=λ_=>True) h7 (cfn_nd k) (by rw[GQ];exact hk) (kysC h16 hF (cfn k)) (λb a=>trivial) ?_ ?_ ?_ h.ok hf h.size)
  ·rfl
  ·intro v b e Q hv hb _ hB
   unfold addBC
   rw[colours1_eq h16 hF hv e.1 hb hk,bs]
   refine gath_loopC ?_ Q hB
   unfold addsC
   rw[List.length_map]
   have h1:=List.length_filter_le (λc=>(elems (iand .u32 ((g.map mk).getD v 0) b)).all λu=> !((idx e.1.li u).getD 0==c)) (cfn k)
   rw[GQ] at h1
   omega
  ·intro v b e Q hv hb _ hB
   unfold dropBC D.N0
   have hvi:idx e.1.li (v:Int)=some (e.1.li[v]'(show v<16 by omega)):=AC (show v<e.1.li.length by show v<16;omega)
   show ((((idx e.1.li (v:Int)).bind λ_=>some (BN (mf0:Bt) (cset e.1 v 0) e.2)).bind _))=_
   rw[hvi,bs,hone,bs]
   refine FC (F3 (Q:=Q) (em:=λs=>[(s,id)]) (λk c hc a b=> ?_) (λk c hc a ha=> ?_) hB.right.nn ?_ (λe2 Q2 hk2 he2 hB2=> ?_)) ?_
   ·rw[List.mem_singleton.1 hc];rfl
   ·rw[List.mem_singleton.1 hc];exact ha
   ·rw[Fj];exact hB
   ·have hB2:SmI2 (Q2++[(e2.1,e2.2)]):=hB2
    rw[gatCo_ok hB2,bs];rfl
   ·rw[Fj]
  ·intro e e2 Q _ _ hB
   unfold meetBC D.Y0
   rw[bs]
   show cond (e.1==e2.1) ((D.V e.2 e2.2).bind λz=>(gatCo k (g.map mk) (AS Ch Q) e.1 z).bind λw=>some w) (some (AS Ch Q))=_
   by_cases hd:e.1=e2.1
   ·rw[if_pos hd] at hB ⊢
    have h1:=hB.right.one
    rw[show (e.1==e2.1)=true from beq_iff_eq.2 hd,cT]
    unfold D.V
    rw[bs,w64 (by omega) (by omega),gatCo_ok hB,bs]
   ·rw[if_neg hd,List.append_nil,show (e.1==e2.1)=false from beq_eq_false_iff_ne.2 hd,cF]
 unfold D.c D.t
 rw[Dt hg (by omega) h,bs,Bool.not_true,cF,bs,decide_eq_true (show (0:Int)≤(k:Int) by omega),decide_eq_true (show (k:Int)≤4 by omega),Bool.and_self,Bool.not_true,bs,cF,E2 g hg,bs,hrun,bs]
 rw[sum_keys (λp hp=>by
  obtain⟨a,_,rfl⟩:=List.mem_map.1 hp
  rw[hk0 T.bag (λv=>by rw[h.bag];exact Bv v)];rfl)]
 unfold TP
 rw[List.length_map]
theorem l26_ok {n:Nat}(hn:n≤16){F:LI}(hF:FOk F n):∀(m fuel v:Nat) (sets out:LI),v+m=n→m<fuel→sets.length≤v→(∀s∈sets,VS s)→out.length=n+1→
  (∀L,0≤out.getD L 0∧out.getD L 0+((WW F m v sets).count L:Int)≤2^60)→
  ∃r,D.X fuel F v sets out=some r∧r.length=n+1∧∀L,r.getD L 0=out.getD L 0+((WW F m v sets).count L:Int)
 |0,0,_,_,_,_,h,_,_,_,_=>by omega
 |0,fuel+1,v,sets,out,hvm,_,hsl,hvs,hol,hb=>by
  have hl:=hF.len
  have hi:sets.length<out.length:=by omega
  obtain⟨b0,b1⟩:=hb sets.length
  rw[WW,List.count_singleton,if_pos (by simp)] at b1
  refine⟨out.set sets.length (out.getD sets.length 0+1),?_,by rw[List.length_set];exact hol,λL=> ?_⟩
  ·unfold D.X
   rw[show ((v:Int)==(F.length:Int))=true from beq_iff_eq.2 (by omega),cT,AC hi,bs,bs,Int.toNat_natCast,←AH (d:=0) hi,w64 (by omega) (by omega)]
  ·rw[DT _ _ _ _ hi,WW,List.count_singleton]
   by_cases e:L=sets.length
   ·subst e;rw[if_pos rfl,if_pos (by simp)];rfl
   ·rw[if_neg e,if_neg (by simp;omega)];simp
 |m+1,0,_,_,_,_,h,_,_,_,_=>by omega
 |m+1,fuel+1,v,sets,out,hvm,hfu,hsl,hvs,hol,hb=>by
  have hl:=hF.len
  have hvn:v<n:=by omega
  have hFv:=hF.vs v hvn
  have hfi:idx F (v:Int)=some (F.getD v 0):=by rw[AC (by omega),AH (by omega)]
  have hsh:Sh sets:=by unfold Sh;omega
  have hw1:IntKind.i64.wrap ((v:Int)+1)=((v+1:Nat):Int):=wi (by omega)
  have hsh1:ishl .i64 1 (IntKind.u64.wrap (v:Int))=ishl .u32 1 (v:Int):=by rw[uw (by omega),shl64 (by omega)]
  generalize hf:(λi=>if iand .u32 (sets.getD i 0) (F.getD v 0)=0 then WW F m (v+1) (sets.set i (ior .u32 (sets.getD i 0) (ishl .u32 1 (v:Int)))) else [])=f
  have hWW:WW F (m+1) v sets=(List.range sets.length).flatMap f++WW F m (v+1) (sets++[ishl .u32 1 (v:Int)]):=by rw[WW,hf]
  have hpre:∀i,i≤sets.length→∀L,(((List.range i).flatMap f).count L:Int)+((WW F m (v+1) (sets++[ishl .u32 1 (v:Int)])).count L:Int)≤((WW F (m+1) v sets).count L:Int):=λi hi L=>by
   rw[hWW,List.count_append]
   have:((List.range i).flatMap f).count L≤((List.range sets.length).flatMap f).count L:=by
    have e:List.range sets.length=List.range i++(List.range' i (sets.length-i)):=by
     have e0:=List.range'_append_1 (s:=0) (m:=i) (n:=sets.length-i)
     rw[Nat.zero_add,Nat.add_sub_cancel' hi] at e0
     rw[List.range_eq_range',List.range_eq_range']
     exact e0.symm
    rw[e,List.flatMap_append,List.count_append]
    omega
   omega
  unfold D.X
  rw[show ((v:Int)==(F.length:Int))=false from beq_eq_false_iff_ne.2 (by omega),cF]
  refine BC (Q:=λr:LI=>r.length=n+1∧∀L,r.getD L 0=out.getD L 0+((WW F (m+1) v sets).count L:Int)) (λst:LI×Int=>∃i:Nat,st.2=(i:Int)∧i≤sets.length∧st.1.length=n+1∧∀L,st.1.getD L 0=out.getD L 0+(((List.range i).flatMap f).count L:Int)) (λst=>sets.length-st.2.toNat) (λr=>r.length=n+1∧∀L,r.getD L 0=out.getD L 0+(((List.range sets.length).flatMap f).count L:Int)) ?_ ⟨0,rfl,Nat.zero_le _,hol,λL=>by simp⟩ ?_
  ·rintro⟨o,_⟩ ⟨i,rfl,hi,ho,hc⟩
   dsimp only at ho hc ⊢
   by_cases hlt:i<sets.length
   ·have hgs:sets[i]=sets.getD i 0:=(AH hlt 0).symm
    have hsv:=hvs _ (List.getElem_mem hlt)
    have hrs:∀L,(((List.range (i+1)).flatMap f).count L:Int)=(((List.range i).flatMap f).count L:Int)+((f i).count L:Int):=λL=>by
     rw[List.range_succ,List.flatMap_append,List.count_append]
     simp
    rw[dlt hlt,cT,AC hlt,bs,hfi,bs,and6432 hsv hFv,hgs]
    rw[hgs] at hsv
    by_cases hz:iand .u32 (sets.getD i 0) (F.getD v 0)=0
    ·have hfi':f i=WW F m (v+1) (sets.set i (ior .u32 (sets.getD i 0) (ishl .u32 1 (v:Int)))):=by rw[←hf];exact if_pos hz
     rw[show (iand .u32 (sets.getD i 0) (F.getD v 0)==0)=true from beq_iff_eq.2 hz,cT,DE sets hsh,bs,AC hlt,bs,uw (by omega),E6,cF,bs,Int.toNat_natCast,shl64 (by omega),hgs,or6432 hsv (VS.ishl _ _),hw1]
     obtain⟨r,er,r1,r2⟩:=l26_ok hn hF m fuel (v+1) (sets.set i (ior .u32 (sets.getD i 0) (ishl .u32 1 (v:Int)))) o (by omega) (by omega) (by rw[List.length_set];omega) (λs hs=>by
       rcases List.mem_or_eq_of_mem_set hs with hs|rfl
       ·exact hvs s hs
       ·exact VS.ior _ _) ho (λL=>by
       have h1:=hb L
       have h2:=hpre (i+1) hlt L
       rw[hrs,hfi'] at h2
       have h3:=hc L
       have h4:(0:Int)≤(((List.range i).flatMap f).count L:Int):=Int.natCast_nonneg _
       have h5:(0:Int)≤((WW F m (v+1) (sets++[ishl .u32 1 (v:Int)])).count L:Int):=Int.natCast_nonneg _
       constructor
       ·omega
       ·omega)
     rw[er,bs,wq i]
     refine⟨_,rfl,⟨i+1,rfl,hlt,r1,λL=> ?_⟩,by dsimp only;omega⟩
     rw[r2,hc,hrs,hfi'];omega
    ·have hfi':f i=[]:=by rw[←hf];exact if_neg hz
     rw[show (iand .u32 (sets.getD i 0) (F.getD v 0)==0)=false from beq_eq_false_iff_ne.2 hz,cF,wq i]
     refine⟨_,rfl,⟨i+1,rfl,hlt,ho,λL=> ?_⟩,by dsimp only;omega⟩
     rw[hc,hrs,hfi'];simp
   ·obtain rfl:i=sets.length:=by omega
    rw[Be,cF]
    exact⟨_,rfl,ho,hc⟩
  ·rintro o ⟨ho,hc⟩
   rw[DE sets hsh,bs,uw (by omega),E6,cF,shl64 (by omega),A5 (by simp;omega),bs,hw1]
   obtain⟨r,er,r1,r2⟩:=l26_ok hn hF m fuel (v+1) (sets++[ishl .u32 1 (v:Int)]) o (by omega) (by omega) (by simp;omega) (λs hs=>by
     rcases List.mem_append.1 hs with hs|hs
     ·exact hvs s hs
     ·rw[List.mem_singleton.1 hs];exact VS.ishl _ _) ho (λL=>by
     have h1:=hb L
     have h2:=hpre sets.length (Nat.le_refl _) L
     have h3:=hc L
     have h4:(0:Int)≤(((List.range sets.length).flatMap f).count L:Int):=Int.natCast_nonneg _
     constructor
     ·omega
     ·omega)
   rw[er,bs]
   refine⟨r,rfl,r1,λL=> ?_⟩
   rw[r2,hc,hWW,List.count_append];omega
theorem WW_le {F:LI}:∀(m v:Nat) (sets:LI),∀L∈WW F m v sets,L≤sets.length+m
 |0,v,sets,L,h=>by rw[WW,List.mem_singleton] at h;omega
 |m+1,v,sets,L,h=>by
  rw[WW,List.mem_append] at h
  rcases h with h|h
  ·obtain⟨i,_,h⟩:=List.mem_flatMap.1 h
   split at h
   ·have:=WW_le m (v+1) _ L h
    rw[List.length_set] at this;omega
   ·cases h
  ·have:=WW_le m (v+1) _ L h
   rw[List.length_append,List.length_singleton] at this;omega
theorem Hf {α β:Type}{f:α→List β}{B:Nat}:∀{l:List α},(∀a∈l,(f a).length≤B)→(l.flatMap f).length≤l.length*B
 |[],_=>by simp
 |a::l,h=>by
  have h1:=h a (List.mem_cons_self ..)
  have h2:=Hf (l:=l) λb hb=>h b (List.mem_cons_of_mem _ hb)
  rw[List.flatMap_cons,List.length_append,List.length_cons,Nat.add_mul];omega
theorem WW_len {F:LI}:∀(m v:Nat) (sets:LI),sets.length+m≤16→(WW F m v sets).length≤17^m
 |0,v,sets,_=>by simp[WW]
 |m+1,v,sets,h=>by
  rw[WW,List.length_append]
  have h1:=Hf (B:=17^m) (l:=List.range sets.length) (f:=λi=>if iand .u32 (sets.getD i 0) (F.getD v 0)=0 then WW F m (v+1) (sets.set i (ior .u32 (sets.getD i 0) (ishl .u32 1 (v:Int)))) else []) (λi _=>by
   split
   ·exact WW_len m (v+1) _ (by rw[List.length_set];omega)
   ·exact Nat.zero_le _)
  have h2:=WW_len (F:=F) m (v+1) (sets++[ishl .u32 1 (v:Int)]) (by rw[List.length_append,List.length_singleton];omega)
  rw[List.length_range] at h1
  have h3:sets.length*17^m≤15*17^m:=Nat.mul_le_mul_right _ (by omega)
  rw[Nat.pow_succ]
  omega
theorem sum_count {f:Nat→Int}{n:Nat}:∀{l:List Nat},(∀x∈l,x<n)→CI (λL=>(l.count L:Int)*f L) n=Cm (l.map f)
 |[],_=>by
  have:∀m,CI (λL=>(([]:List Nat).count L:Int)*f L) m=0:=λm=>by
   induction m with
   |zero=>rfl
   |succ m ih=>rw[CI,ih];simp
  exact this n
 |x::l,h=>by
  rw[List.map_cons,Cm,←sum_count (l:=l) λy hy=>h y (List.mem_cons_of_mem _ hy),←sumI_one (f:=f) (x:=f x) (h x (List.mem_cons_self ..)),←Ga]
  refine DG λL _=> ?_
  rw[List.count_cons]
  by_cases e:L=x
  ·subst e
   rw[if_pos rfl,if_pos (by simp),Int.natCast_add,Int.add_mul]
   show _+1*f L=_
   omega
  ·rw[if_neg e,if_neg (by simp;exact λh=>e h.symm)]
   simp
theorem ffk_bd {k:Nat}(hk:k≤4):∀L,0≤ffk k L∧ffk k L≤24
 |0=>by show (0:Int)≤1∧(1:Int)≤24;omega
 |1=>by show 0≤1*max ((k:Int)-(0:Nat)) 0∧1*max ((k:Int)-(0:Nat)) 0≤24;omega
 |L+2=>by
  by_cases h:k<L+2
  ·rw[ffk_zero h];omega
  ·have hk':∀k:Fin 5,∀L:Fin 5,0≤ffk (k.val:Int) L.val∧ffk (k.val:Int) L.val≤24:=by decide
   exact hk' ⟨k,by omega⟩ ⟨L+2,by omega⟩
theorem ColourWays_ok {g:LL}(hg:GOk g)(h7:g.length≤7){k:Nat}(hk:k≤4):D.O0 g k=some (Cm ((WW (g.map mk) g.length 0 []).map (ffk k))):=by
 have h16:=hg.n16
 have hF:=FOk.of hg
 have hsm:D.t0 g=some true:=by
  unfold D.t0
  rw[CY g hg.sh2,FT hg,bs,decide_eq_true (by omega)];rfl
 have hrep:∀L,(List.replicate (g.length+1) (0:Int)).getD L 0=0:=λL=>by
  rw[List.getD_eq_getElem?_getD,List.getElem?_replicate]
  split<;>rfl
 have hcl:∀L,((WW (g.map mk) g.length 0 []).count L:Int)≤410338673:=λL=>by
  have h1:=List.count_le_length (a:=L) (l:=WW (g.map mk) g.length 0 [])
  have h2:=WW_len (F:=g.map mk) g.length 0 [] (by simp;omega)
  have h3:17^g.length≤17^7:=Nat.pow_le_pow_right (by omega) h7
  have h4:(17:Nat)^7=410338673:=by decide
  omega
 obtain⟨r,er,r1,r2⟩:=l26_ok h16 hF g.length Bx 0 [] (List.replicate (g.length+1) 0) (by omega) (by have:=ER;omega) (Nat.le_refl _) (λs hs=>by cases hs) (by simp) (λL=>by
  rw[hrep]
  have:=hcl L
  omega)
 have hpart:D.m1 g=some r:=by
  unfold D.m1 D.k
  rw[hsm,bs,Bool.not_true,cF,Eu hg,bs,w64 (by omega) (by omega)]
  have hm:C4 (0:Int) ((g.length:Int)+1) ((g.length:Int)+1)=some (List.replicate (g.length+1) 0):=by
   unfold C4
   rw[if_pos (by omega),show ((g.length:Int)+1).toNat=g.length+1 by omega]
  rw[hm,bs]
  have er:D.X Bx (g.map mk) 0 [] (List.replicate (g.length+1) 0)=some r:=er
  rw[er];rfl
 unfold D.O0
 rw[hsm,bs,Bool.not_true,cF,Eo,bs,decide_eq_true (show (0:Int)≤(k:Int) by omega),decide_eq_true (show (k:Int)≤16 by omega),Bool.and_self,Bool.not_true,bs,cF,hpart,bs,←sum_count (n:=g.length+1) (λx hx=>by have:=WW_le _ _ _ x hx;simp at this;omega)]
 refine(BY (λi=>(CI (λL=>((WW (g.map mk) g.length 0 []).count L:Int)*ffk k L) i,(i:Int))) (g.length+1) (CI (λL=>((WW (g.map mk) g.length 0 []).count L:Int)*ffk k L) (g.length+1)) rfl (λi hi=> ?_) ?_).trans rfl
 ·dsimp only
  have hir:i<r.length:=by omega
  have hv:r[i]=((WW (g.map mk) g.length 0 []).count i:Int):=by
   rw[←AH hir 0,r2,hrep,Int.zero_add]
  have hc0:(0:Int)≤((WW (g.map mk) g.length 0 []).count i:Int):=Int.natCast_nonneg _
  have hc1:=hcl i
  generalize hcg:((WW (g.map mk) g.length 0 []).count i:Int)=c at hv hc0 hc1
  have hin:((Az (σ:=Int×Int) (ρ:=(Int)) (fun(s_259:Int×Int)=>match s_259 with|(x_262,x_263)=>cond (decide (x_263<(i:Int))) ((D.M (IntKind.i64.wrap ((k:Int)-x_263)) 0).bind λy_277=>some (.inl ((IntKind.i64.wrap (x_262*y_277)),(IntKind.i64.wrap (x_263+1))))) (some (.inr x_262))) (c,0)))=some (c*ffk k i):=by
   have:=BY (k:=λx=>some x) (step:=(fun(s_259:Int×Int)=>match s_259 with|(x_262,x_263)=>cond (decide (x_263<(i:Int))) ((D.M (IntKind.i64.wrap ((k:Int)-x_263)) 0).bind λy_277=>some (.inl ((IntKind.i64.wrap (x_262*y_277)),(IntKind.i64.wrap (x_263+1))))) (some (.inr x_262)))) (s0:=(c,0)) (λj=>(c*ffk k j,(j:Int))) i (c*ffk k i) (by simp[ffk]) (λj hj=>by
    obtain⟨f0,f1⟩:=ffk_bd hk (j+1)
    have hm0:0≤c*ffk k (j+1):=Int.mul_nonneg hc0 f0
    have hm1:c*ffk k (j+1)≤410338673*24:=Int.mul_le_mul hc1 f1 f0 (by omega)
    dsimp only
    have e1:c*ffk k j*max ((k:Int)-j) 0=c*ffk k (j+1):=by rw[ffk,Int.mul_assoc]
    rw[dlt hj,cT,w64 (by omega) (by omega),l1Max_eq,bs,e1,w64 (by omega) (by omega),wq j]) (by
    dsimp only
    rw[Be,cF])
   rw[bind_id] at this
   exact this
  obtain⟨f0,f1⟩:=ffk_bd hk i
  have hm0:0≤c*ffk k i:=Int.mul_nonneg hc0 f0
  have hm1:c*ffk k i≤410338673*24:=Int.mul_le_mul hc1 f1 f0 (by omega)
  have hsb:=F7 (f:=λL=>((WW (g.map mk) g.length 0 []).count L:Int)*ffk k L) (B:=410338673*24) (m:=i) (λL _=>by
   obtain⟨g0,g1⟩:=ffk_bd hk L
   exact⟨Int.mul_nonneg (Int.natCast_nonneg _) g0,Int.mul_le_mul (hcl L) g1 g0 (by omega)⟩)
  rw[show decide ((i:Int)<(r.length:Int))=true from dlt hir,cT,AC hir,bs,hv,hin,bs,wq i,w64 (by omega) (by omega)]
  show _=some (Sum.inl (CI _ i+((WW (g.map mk) g.length 0 []).count i:Int)*ffk k i,_))
  rw[hcg]
 ·dsimp only
  rw[show decide (((g.length+1:Nat):Int)<(r.length:Int))=false by rw[r1];simp,cF]
section
variable {g T : LL} (R : Rot g T)
include R
end
end Go.Sx

namespace Go.Sx
section
variable {g : LL} (hg : GOk g)
include hg
end
end Go.Sx

namespace Go.Sx
def prI {α:Type}(c:Nat→Nat→α)(a b i:Nat):List α:=(if b=0 then(List.range' (i+1) (a-(i+1))).map (c i) else [])++(List.range' 0 b).map λx=>c i (a+x)
def prL {α:Type}(c:Nat→Nat→α)(a b:Nat):Nat→List α
 |0=>[]
 |i+1=>prL c a b i++prI c a b i
def prN (a b:Nat):List (Nat×Nat):=prL Prod.mk a b a
def nd (a b i:Nat):Nat:=((List.range (a+b)).filter λw=>decide ((i,w)∈prN a b∨(w,i)∈prN a b)).length
section
variable {g : LL} (hg : GOk g)
include hg
end
end Go.Sx

namespace Go.Sx
section
variable {g : LL} (hg : GOk g)
include hg
end
end Go.Sx

namespace Go.Sx
section
variable {g : LL} (hg : GOk g)
include hg
end
end Go.Sx

namespace Go.Sx
section
variable {g : LL} (hg : GOk g)
include hg
end
end Go.Sx

namespace Go.Sx
section
variable {g : LL} (hg : GOk g)
include hg
end
end Go.Sx

namespace Go.Sx
section
variable {g : LL} (hg : GOk g)
include hg
end
end Go.Sx

namespace Go.Sx
theorem without_eq (xs:LI)(v:Int)(h:xs.length≤1000):D.X0 xs v=some (xs.filter λx=>x !=v):=by
 unfold D.X0
 refine(BY (λi=>((xs.take i).filter (λx=>x !=v),(i:Int))) xs.length (xs.filter λx=>x !=v) (by simp) (λi hi=> ?_) ?_).trans rfl
 ·have hfl:=List.length_filter_le (λx=>x !=v) (xs.take i)
  rw[List.length_take] at hfl
  dsimp only
  rw[dlt hi,cT,AC hi,bs,wi (by omega),List.take_succ_eq_append_getElem hi,List.filter_append]
  cases hc:xs[i] !=v with
  |true=>rw[cT,bs,A5 (by simp;omega),bs];simp[hc]
  |false=>rw[cF];simp[hc]
 ·dsimp only
  rw[Be,cF,List.take_length]
section
variable {g : LL} (hg : GOk g)
include hg
end
end Go.Sx

namespace Go.Sx
theorem elems_drop {s:Int}(hs:VS s){v:Nat}(hv:v<32):(elems s).filter (λx=>x !=(v:Int))=elems (iandNot .u32 s (ishl .u32 1 (v:Int))):=by
 refine Inc.ext ((BP s).sublist List.filter_sublist) (BP _) λz=> ?_
 rw[List.mem_filter,mem_elems,mem_elems,bne_iff_ne]
 constructor
 ·rintro⟨⟨w,h1,h2,rfl⟩,h3⟩
  exact⟨w,h1,by rw[A8 hs (VS.ishl _ _),h2,BX hv,decide_eq_false (λe=>h3 (by rw[e]))];rfl,rfl⟩
 ·rintro⟨w,h1,h2,rfl⟩
  rw[A8 hs (VS.ishl _ _),BX hv,Bool.and_eq_true,Bool.not_eq_true',decide_eq_false_iff_not] at h2
  exact⟨⟨w,h1,h2.1,rfl⟩,λe=>h2.2 (by omega)⟩
theorem Hg {s t:Int}(hs:VS s)(ht:VS t):(elems s).filter (λx=> !decide (x∈elems t))=elems (iandNot .u32 s t):=by
 refine Inc.ext ((BP s).sublist List.filter_sublist) (BP _) λz=> ?_
 rw[List.mem_filter,Bool.not_eq_true',decide_eq_false_iff_not]
 constructor
 ·rintro⟨h0,h3⟩
  obtain⟨w,h1,h2,rfl⟩:=mem_elems.1 h0
  rw[AT ht] at h3
  exact mem_elems.2 ⟨w,h1,by rw[A8 hs ht,h2];simpa using h3,rfl⟩
 ·intro h0
  obtain⟨w,h1,h2,rfl⟩:=mem_elems.1 h0
  rw[A8 hs ht,Bool.and_eq_true,Bool.not_eq_true'] at h2
  exact⟨mem_elems.2 ⟨w,h1,h2.1,rfl⟩,by rw[AT ht,h2.2];simp⟩
theorem Fz {S:NS}(h:NSq S)(hl:S.1.length≤1000000)(k v:Int)(b c:LI):D.p S.1 S.2.1 S.2.2.1 S.2.2.2 k v b c=some (S.1++[k],S.2.1++[v],S.2.2.1++[b],S.2.2.2++[c]):=by
 have h1:=h.v;have h2:=h.b;have h3:=h.c
 unfold D.p
 rw[A5 (by simp;omega),bs,A5 (by simp;omega),bs,A5 (by simp;omega),bs,A5 (by simp;omega),bs]
theorem spush_drop {S:NS}(h:NSq S)(t:NT)(hl:S.1.length+t.size≤900000)(v:Nat):
  D.p (app S t).1 (app S t).2.1 (app S t).2.2.1 (app S t).2.2.2 3 (v:Int) (elems (NT.drop v t).bag) [IntKind.i64.wrap (((app S t).1.length:Int)-1)]=some (app S (.drop v t)):=by
 have hp:=t.size_pos
 rw[Fz (h.app t) (by rw[Ca];omega),Ca,w64 (by omega) (by omega),←DP _ _ hp]
 unfold app
 simp only[NT.ks,NT.vs,NT.bs,NT.cs,List.append_assoc]
theorem spush_add {S:NS}(h:NSq S)(t:NT)(hl:S.1.length+t.size≤900000)(v:Nat):
  D.p (app S t).1 (app S t).2.1 (app S t).2.2.1 (app S t).2.2.2 2 (v:Int) (elems (NT.add v t).bag) [IntKind.i64.wrap (((app S t).1.length:Int)-1)]=some (app S (.add v t)):=by
 have hp:=t.size_pos
 rw[Fz (h.app t) (by rw[Ca];omega),Ca,w64 (by omega) (by omega),←DP _ _ hp]
 unfold app
 simp only[NT.ks,NT.vs,NT.bs,NT.cs,List.append_assoc]
theorem has_drops (w:Nat):∀(l:LI) (t:NT),(∀x∈l,∃v:Nat,x=v∧v<32)→has (BD t l).bag w=(has t.bag w&& !decide ((w:Int)∈l))
 |[],t,_=>by simp[BD]
 |x::l,t,h=>by
  obtain⟨v,rfl,hv⟩:=h x (List.mem_cons_self ..)
  show has (BD (.drop v t) l).bag w=_
  rw[has_drops w l (.drop v t) (λy hy=>h y (List.mem_cons_of_mem _ hy)),EJ hv]
  by_cases e:w=v
  ·subst e;simp
  ·rw[decide_eq_false e,Bool.not_false,Bool.and_true]
   have:((w:Int)∈(v:Int)::l)=((w:Int)∈l):=by
    rw[List.mem_cons]
    exact propext ⟨λh=>h.resolve_left (by omega),.inr⟩
   simp only[this]
theorem sch_eq {S:NS}(h:NSq S)(t:NT){to:Int}(hto:VS to)(hl:S.1.length+t.size≤800000):
  D.a0 (app S t).1 (app S t).2.1 (app S t).2.2.1 (app S t).2.2.2 (elems t.bag) (elems to)=some (app S (chg t to)):=by
 have hT:=t.bag_vs
 have e0:=Ce t.bag
 have e1:=Ce to
 unfold D.a0
 generalize hL:elems t.bag=L at e0
 have hgo:∀i,i≤L.length→(BD t ((L.take i).filter λx=> !decide (x∈elems to))).size≤t.size+32:=λi hi=>by
  rw[D9]
  have:=List.length_filter_le (λx=> !decide (x∈elems to)) (L.take i)
  rw[List.length_take] at this
  omega
 have hLv:∀i (hi:i<L.length),∃v:Nat,L[i]=(v:Int)∧v<32:=λi hi=>by
  subst hL
  obtain⟨v,h1,h2,_⟩:=EF hi
  exact⟨v,h1,h2⟩
 have hLl:L.filter (λx=> !decide (x∈elems to))=elems (iandNot .u32 t.bag to):=by rw[←hL];exact Hg hT hto
 refine(BY (λi=>(elems (BD t ((L.take i).filter λx=> !decide (x∈elems to))).bag,(i:Int),(app S (BD t ((L.take i).filter λx=> !decide (x∈elems to)))).1,(app S (BD t ((L.take i).filter λx=> !decide (x∈elems to)))).2.1,(app S (BD t ((L.take i).filter λx=> !decide (x∈elems to)))).2.2.1,(app S (BD t ((L.take i).filter λx=> !decide (x∈elems to)))).2.2.2)) L.length (elems (BD t (L.filter λx=> !decide (x∈elems to))).bag,(app S (BD t (L.filter λx=> !decide (x∈elems to)))).1,(app S (BD t (L.filter λx=> !decide (x∈elems to)))).2.1,(app S (BD t (L.filter λx=> !decide (x∈elems to)))).2.2.1,(app S (BD t (L.filter λx=> !decide (x∈elems to)))).2.2.2) (by rw[←hL];rfl) (λi hi=> ?_) ?_).trans ?_
 ·dsimp only
  obtain⟨v,ev,hv⟩:=hLv i hi
  have hs:=hgo i (by omega)
  rw[dlt hi,cT,AC hi,bs,Df _ _ (by unfold Sh;omega),bs,wi (by omega),Cx hi,List.filter_append,List.filter_cons,List.filter_nil]
  by_cases hm:L[i]∈elems to
  ·rw[decide_eq_true hm]
   simp
  ·rw[decide_eq_false hm,Bool.not_false,cT,if_pos rfl]
   have et:BD t ((L.take i).filter (λx=> !decide (x∈elems to))++[L[i]])= .drop v (BD t ((L.take i).filter λx=> !decide (x∈elems to))):=by
    unfold BD
    rw[List.foldl_append,List.foldl_cons,List.foldl_nil,ev]
    rfl
   rw[et]
   generalize BD t ((L.take i).filter λx=> !decide (x∈elems to))=t' at hs ⊢
   have e2:=Ce t'.bag
   rw[bs,without_eq _ _ (by omega),bs,bs,ev,elems_drop t'.bag_vs hv]
   have:=spush_drop h t' (by omega) v
   rw[show iandNot .u32 t'.bag (ishl .u32 1 (v:Int))=(NT.drop v t').bag from rfl,this,bs]
 ·dsimp only
  rw[Be,cF,List.take_length]
 ·dsimp only
  rw[hLl]
  have hd:=D9 (elems (iandNot .u32 t.bag to)) t
  have e3:=Ce (iandNot .u32 t.bag to)
  have ec:chg t to=BG (BD t (elems (iandNot .u32 t.bag to))) (elems (iandNot .u32 to (BD t (elems (iandNot .u32 t.bag to))).bag)):=rfl
  rw[ec]
  have hbag:iandNot .u32 to (BD t (elems (iandNot .u32 t.bag to))).bag=iandNot .u32 to t.bag:=by
   refine VS.ext (VS.iandNot _ _) (VS.iandNot _ _) λw _=> ?_
   rw[A8 hto (NT.bag_vs _),A8 hto hT,has_drops w _ _ (λx hx=>by
    obtain⟨v,h1,_,rfl⟩:=mem_elems.1 hx
    exact⟨v,rfl,h1⟩)]
   have:=AT (v:=w) (VS.iandNot t.bag to)
   rw[A8 hT hto] at this
   have e:decide ((w:Int)∈elems (iandNot .u32 t.bag to))=(has t.bag w&& !has to w):=by
    rw[Bool.eq_iff_iff,decide_eq_true_eq,this]
   rw[e]
   cases has t.bag w<;>cases has to w<;>rfl
  rw[hbag]
  generalize BD t (elems (iandNot .u32 t.bag to))=t1 at hd ⊢
  generalize hL2:elems to=L2 at e1 ⊢
  have hL2l:L2.filter (λx=> !decide (x∈L))=elems (iandNot .u32 to t.bag):=by rw[←hL2,←hL];exact Hg hto hT
  rw[←hL2l]
  have hgo2:∀i,i≤L2.length→(BG t1 ((L2.take i).filter λx=> !decide (x∈L))).size≤t1.size+32:=λi hi=>by
   rw[FG]
   have:=List.length_filter_le (λx=> !decide (x∈L)) (L2.take i)
   rw[List.length_take] at this
   omega
  refine(BY (λi=>(elems (BG t1 ((L2.take i).filter λx=> !decide (x∈L))).bag,(i:Int),(app S (BG t1 ((L2.take i).filter λx=> !decide (x∈L)))).1,(app S (BG t1 ((L2.take i).filter λx=> !decide (x∈L)))).2.1,(app S (BG t1 ((L2.take i).filter λx=> !decide (x∈L)))).2.2.1,(app S (BG t1 ((L2.take i).filter λx=> !decide (x∈L)))).2.2.2)) L2.length ((app S (BG t1 (L2.filter λx=> !decide (x∈L)))).1,(app S (BG t1 (L2.filter λx=> !decide (x∈L)))).2.1,(app S (BG t1 (L2.filter λx=> !decide (x∈L)))).2.2.1,(app S (BG t1 (L2.filter λx=> !decide (x∈L)))).2.2.2) rfl (λi hi=> ?_) ?_).trans rfl
  ·dsimp only
   obtain⟨v,ev,hv⟩:∃v:Nat,L2[i]=(v:Int)∧v<32:=by
    subst hL2
    obtain⟨v,h1,h2,_⟩:=EF hi
    exact⟨v,h1,h2⟩
   have hs:=hgo2 i (by omega)
   rw[dlt hi,cT,AC hi,bs,Df _ _ (by unfold Sh;omega),bs,wi (by omega),Cx hi,List.filter_append,List.filter_cons,List.filter_nil]
   by_cases hm:L2[i]∈L
   ·rw[decide_eq_true hm]
    simp
   ·rw[decide_eq_false hm,Bool.not_false,cT,if_pos rfl]
    have et:BG t1 ((L2.take i).filter (λx=> !decide (x∈L))++[L2[i]])= .add v (BG t1 ((L2.take i).filter λx=> !decide (x∈L))):=by
     unfold BG
     rw[List.foldl_append,List.foldl_cons,List.foldl_nil,ev]
     rfl
    rw[et]
    generalize BG t1 ((L2.take i).filter λx=> !decide (x∈L))=t' at hs ⊢
    have e2:=Ce t'.bag
    rw[bs,DW _ _ (BP _) (by omega),bs,bs,ev,G5 t'.bag_vs hv]
    have:=spush_add h t' (by omega) v
    rw[show ior .u32 t'.bag (ishl .u32 1 (v:Int))=(NT.add v t').bag from rfl,this,bs]
  ·dsimp only
   rw[Be,cF,List.take_length]
open Classical in
theorem linked_eq {B K:LL}{N:Nat}(hK:∀l∈K,D3 N l)(hl:K.length≤1000)(a c:Nat):D.J0 B K (a:Int) (c:Int)=some (decide (Lk K (a:Int) (c:Int))):=by
 unfold D.J0
 refine(GJ K.length (λi=>decide (K.getD i []=[min (a:Int) c,max (a:Int) c])&&((a:Int) !=(c:Int))) true (λi hi=> ?_) ?_ rfl rfl).trans ?_
 ·obtain⟨x,y,e,hxy,_⟩:=hK _ (List.getElem_mem hi)
  have h0:idx K[i] 0=some (x:Int):=by rw[e];rfl
  have h1:idx K[i] 1=some (y:Int):=by rw[e];rfl
  rw[dlt hi,cT,AC hi,bs,h0,bs,l1Min_eq,bs,bs,h1,bs,l1Max_eq,bs,wq i,AH hi,e]
  have hd:(decide ([(x:Int),(y:Int)]=[min (a:Int) c,max (a:Int) c]))=(((x:Int)==min (a:Int) c)&&((y:Int)==max (a:Int) c)):=by
   rw[Bool.eq_iff_iff,decide_eq_true_eq,Bool.and_eq_true,beq_iff_eq,beq_iff_eq]
   simp
  rw[hd]
  cases ((x:Int)==min (a:Int) c) with
  |false=>rfl
  |true=>
   rw[cT,bs,Bool.true_and]
   cases (((y:Int)==max (a:Int) c)&&((a:Int) !=(c:Int)))<;>rfl
 ·rw[Be,cF]
 ·congr 1
  rw[Bool.eq_iff_iff,List.any_eq_true,decide_eq_true_eq]
  constructor
  ·rintro⟨i,hi,h⟩
   rw[Bool.and_eq_true,decide_eq_true_eq,bne_iff_ne] at h
   have hi:=List.mem_range.1 hi
   rw[AH hi] at h
   have hm:[min (a:Int) c,max (a:Int) c]∈K:=by rw[←h.1];exact List.getElem_mem hi
   by_cases hac:(a:Int)≤c
   ·left;rwa [show min (a:Int) c=a by omega,show max (a:Int) c=c by omega] at hm
   ·right;rwa [show min (a:Int) c=c by omega,show max (a:Int) c=a by omega] at hm
  ·intro h
   have key:∀x y:Nat,[(x:Int),(y:Int)]∈K→x<y:=λx y hm=>by
    obtain⟨x',y',e,hxy,_⟩:=hK _ hm
    simp only[List.cons.injEq,and_true] at e
    omega
   rcases h with h|h
   ·have hlt:=key _ _ h
    obtain⟨i,hi,e⟩:=List.getElem_of_mem h
    refine⟨i,List.mem_range.2 hi,?_⟩
    rw[Bool.and_eq_true,decide_eq_true_eq,bne_iff_ne,AH hi,e,show min (a:Int) c=a by omega,show max (a:Int) c=c by omega]
    exact⟨rfl,by omega⟩
   ·have hlt:=key _ _ h
    obtain⟨i,hi,e⟩:=List.getElem_of_mem h
    refine⟨i,List.mem_range.2 hi,?_⟩
    rw[Bool.and_eq_true,decide_eq_true_eq,bne_iff_ne,AH hi,e,show min (a:Int) c=c by omega,show max (a:Int) c=a by omega]
    exact⟨rfl,by omega⟩
theorem spush_meet {S:NS}(h:NSq S)(t u:NT)(hl:S.1.length+t.size+u.size≤900000):
  D.p (app (app S t) u).1 (app (app S t) u).2.1 (app (app S t) u).2.2.1 (app (app S t) u).2.2.2 4 (-1) (elems t.bag) [((S.1.length+t.size-1:Nat):Int),IntKind.i64.wrap (((app (app S t) u).1.length:Int)-1)]=some (app S (.meet t u)):=by
 have hp:=t.size_pos;have hq:=u.size_pos
 rw[Fz ((h.app t).app u) (by rw[Ca,Ca];omega),Ca,Ca,w64 (by omega) (by omega)]
 unfold app
 simp only[NT.ks,NT.vs,NT.bs,NT.cs,List.append_assoc,List.length_append,t.ks_len,u.ks_len,DP _ _ hp,DP _ _ hq]
theorem spush_leaf {S:NS}(h:NSq S)(hl:S.1.length≤900000):D.p S.1 S.2.1 S.2.2.1 S.2.2.2 1 (-1) [] []=some (app S .leaf):=by
 rw[Fz h (by omega)]
 rfl
section
variable {n N : Nat} {M A : LI} {B K : LL}
open Classical in
theorem BT.sgen_eq (h:BT n N M A K)(hBl:B.length=N)(hK:∀l∈K,D3 N l)(hKl:K.length≤1000)(hB:∀x:Nat,x<N→idx B (x:Int)=some (elems (M.getD x 0))):∀(F b:Nat) (fr:Int) (S:NS),b<N→(fr= -1∨∃a:Nat,fr=a∧Lk K (b:Int) (a:Int))→B2 N K fr b≤F→NSq S→
  S.1.length+(2*n+2)*B2 N K fr b≤800000-100→D.g0 F B K S.1 S.2.1 S.2.2.1 S.2.2.2 b fr=some (app S (bld M A F b fr))
 |0,b,fr,S,hb,hf,hF,_,_=>by have:=h.sides_lt hb hf;omega
 |F+1,b,fr,S,hb,hf,hF,hS,hsz=>by
  have hn:=h.n16
  have hN:=h.N16
  have hAl:=h.net.net.len
  have hMb:=h.ins b hb
  have hsd:=h.sides_lt hb hf
  have hgl:=h
  rw[D.g0]
  have hkid:∀c∈Bz A (b:Int) fr,∃d:Nat,c=d∧d<N∧Lk K (b:Int) (d:Int)∧(d:Int)≠fr∧B2 N K (b:Int) d≤F∧(bld M A F c b).ok n∧(bld M A F c b).bag=M.getD d 0∧
    (bld M A F c b).size≤(2*n+2)*B2 N K (b:Int) d∧(chg (bld M A F c b) (M.getD b 0)).ok n∧(chg (bld M A F c b) (M.getD b 0)).bag=M.getD b 0∧(chg (bld M A F c b) (M.getD b 0)).size+1≤(2*n+2)*B2 N K (b:Int) d:=by
   intro c hc
   obtain⟨d,rfl,h1,h2⟩:=(h.kids hb).1 hc
   obtain⟨_,hd,_⟩:=h.tree.lt h1
   have hlt:=h.kid_lt hb hf hc
   obtain⟨i1,i2,i3,i4,i5⟩:=h.bld_ok F d b hd (.inr ⟨b,rfl,h1.symm⟩) (by omega)
   obtain⟨j1,j2,j3,j4,j5⟩:=chg_ok hn i1 hMb
   exact⟨d,rfl,hd,h1,h2,by omega,i1,i2,by omega,j1,j2,by omega⟩
  have hacc:∀(l:LI) (t:NT) (r:List NT),(∀c∈l,c∈Bz A (b:Int) fr)→kts M A F b l=t::r→
    (r.foldl .meet t).bag=M.getD b 0∧(r.foldl .meet t).size+1≤(2*n+2)*lsm (λc:Int=>B2 N K (b:Int) c.toNat) l:=by
   intro l t r hl he
   cases l with
   |nil=>cases he
   |cons c l=>
    obtain⟨e1,e2⟩:=List.cons.inj he
    subst e1;subst e2
    obtain⟨d,rfl,_,_,_,_,_,_,_,q1,q2,q3⟩:=hkid c (hl c (List.mem_cons_self ..))
    obtain⟨j1,j2,_,_,j5⟩:=Gp (n:=n) (m:=M.getD b 0) (l.map λc=>chg (bld M A F c b) (M.getD b 0)) (chg (bld M A F d b) (M.getD b 0)) q1 q2 (λu hu=>by
     obtain⟨c',hc',rfl⟩:=List.mem_map.1 hu
     obtain⟨_,_,_,_,_,_,_,_,_,p1,p2,_⟩:=hkid c' (hl c' (List.mem_cons_of_mem _ hc'))
     exact⟨p1,p2⟩)
    refine⟨j2,?_⟩
    rw[j5,F5]
    have hs:lsm (λc:Int=>(chg (bld M A F c b) (M.getD b 0)).size+1) l≤lsm (λc:Int=>(2*n+2)*B2 N K (b:Int) c.toNat) l:=lsm_le λc' hc'=>by
     obtain⟨d',rfl,_,_,_,_,_,_,_,_,_,q5⟩:=hkid c' (hl c' (List.mem_cons_of_mem _ hc'))
     exact q5
    rw[GR] at hs
    rw[lsm,Nat.mul_add]
    have q3:(chg (bld M A F (d:Int) b) (M.getD b 0)).size+1≤(2*n+2)*B2 N K (b:Int) (d:Int).toNat:=q3
    omega
  have hlsub:∀(l m:LI),l++m=Bz A (b:Int) fr→(2*n+2)*lsm (λc:Int=>B2 N K (b:Int) c.toNat) l+(2*n+2)*lsm (λc:Int=>B2 N K (b:Int) c.toNat) m+(2*n+2)≤(2*n+2)*B2 N K fr b:=by
   intro l m e
   rw[←e,CX] at hsd
   have:=Nat.mul_le_mul_left (2*n+2) hsd
   rw[Nat.mul_add,Nat.mul_add] at this
   omega
  generalize hL:(List.range N).map Int.ofNat=L
  have hLl:L.length=N:=by rw[←hL];simp
  have hLi:∀i (hi:i<L.length),L[i]=(i:Int):=λi hi=>by subst hL;simp
  have hLk:Bz A (b:Int) fr=L.filter (λc=>decide (c≠fr∧Lk K (b:Int) c)):=by
   refine Inc.ext ?_ ?_ λz=> ?_
   ·unfold Bz
    exact(BP _).sublist List.filter_sublist
   ·have hLinc:Inc L:=by
     subst hL
     unfold Inc
     rw[List.pairwise_map]
     exact List.pairwise_lt_range.imp fun{a b} h=>by simp only[Int.ofNat_eq_natCast];omega
    exact hLinc.sublist List.filter_sublist
   ·rw[h.kids hb,List.mem_filter,decide_eq_true_eq]
    constructor
    ·rintro⟨d,rfl,h1,h2⟩
     obtain⟨_,hd,_⟩:=h.tree.lt h1
     exact⟨by rw[←hL];exact List.mem_map.2 ⟨d,List.mem_range.2 hd,rfl⟩,h2,h1⟩
    ·rintro⟨h0,h2,h1⟩
     rw[←hL] at h0
     obtain⟨d,_,rfl⟩:=List.mem_map.1 h0
     exact⟨d,rfl,h1,h2⟩
  refine(BY (λi=>((C3 S (kts M A F b ((L.take i).filter λc=>decide (c≠fr∧Lk K (b:Int) c)))).1,(i:Int),(C3 S (kts M A F b ((L.take i).filter λc=>decide (c≠fr∧Lk K (b:Int) c)))).2.1,(C3 S (kts M A F b ((L.take i).filter λc=>decide (c≠fr∧Lk K (b:Int) c)))).2.2.1,
   (C3 S (kts M A F b ((L.take i).filter λc=>decide (c≠fr∧Lk K (b:Int) c)))).2.2.2.1,(C3 S (kts M A F b ((L.take i).filter λc=>decide (c≠fr∧Lk K (b:Int) c)))).2.2.2.2)) N
   ((C3 S (kts M A F b (Bz A b fr))).1,(C3 S (kts M A F b (Bz A b fr))).2.1,(C3 S (kts M A F b (Bz A b fr))).2.2.1,(C3 S (kts M A F b (Bz A b fr))).2.2.2.1,(C3 S (kts M A F b (Bz A b fr))).2.2.2.2) rfl (λi hi=> ?_) ?_).trans ?_
  ·dsimp only
   have hiL:i<L.length:=by omega
   rw[show decide ((i:Int)<(B.length:Int))=true by rw[decide_eq_true_eq];omega,cT,wi (by omega),Cx hiL,List.filter_append,hLi i hiL]
   have hskip:((cond ((i:Int)==fr) (some true) ((D.J0 B K (b:Int) (i:Int)).bind λy_808=>some (!y_808))))=some (!decide ((i:Int)≠fr∧Lk K (b:Int) (i:Int))):=by
    rw[linked_eq hK hKl]
    by_cases e:(i:Int)=fr
    ·rw[beq_iff_eq.2 e,cT,decide_eq_false (λk=>k.1 e)];rfl
    ·rw[beq_eq_false_iff_ne.2 e,cF,bs]
     congr 2
     rw[Bool.eq_iff_iff,decide_eq_true_eq,decide_eq_true_eq]
     exact⟨λk=>⟨e,k⟩,λk=>k.2⟩
   rw[hskip,bs]
   by_cases hdf:(i:Int)≠fr∧Lk K (b:Int) (i:Int)
   ·rw[decide_eq_true hdf,Bool.not_true,cF,show List.filter (λc=>decide (c≠fr∧Lk K (b:Int) c)) [(i:Int)]=[(i:Int)] by rw[List.filter_cons,if_pos (decide_eq_true hdf)];rfl]
    have hsplit:(L.take i).filter (λc=>decide (c≠fr∧Lk K (b:Int) c))++((i:Int)::(L.drop (i+1)).filter (λc=>decide (c≠fr∧Lk K (b:Int) c)))=Bz A (b:Int) fr:=by
     rw[hLk]
     conv=>rhs;rw[←List.take_append_drop i L]
     rw[List.filter_append,List.drop_eq_getElem_cons hiL,hLi i hiL,List.filter_cons,if_pos (decide_eq_true hdf)]
    generalize hl:(L.take i).filter (λc=>decide (c≠fr∧Lk K (b:Int) c))=l at hsplit ⊢
    have hlm:∀c∈l,c∈Bz A (b:Int) fr:=λc hc=>by rw[←hsplit];exact List.mem_append_left _ hc
    have hdm:(i:Int)∈Bz A (b:Int) fr:=by rw[←hsplit];exact List.mem_append_right _ (List.mem_cons_self ..)
    have hb2:=hlsub _ _ hsplit
    rw[lsm,Nat.mul_add] at hb2
    obtain⟨d',e,hd,h1,h2,h3,k1,k2,k3,k4,k5,k6⟩:=hkid _ hdm
    obtain rfl:i=d':=by omega
    have hb2:(2*n+2)*lsm (λc:Int=>B2 N K (b:Int) c.toNat) l+((2*n+2)*B2 N K (b:Int) i+(2*n+2)*lsm (λc:Int=>B2 N K (b:Int) c.toNat) ((L.drop (i+1)).filter (λc=>decide (c≠fr∧Lk K (b:Int) c))))+(2*n+2)≤(2*n+2)*B2 N K fr b:=hb2
    have hkts:kts M A F b (l++[(i:Int)])=kts M A F b l++[chg (bld M A F i b) (M.getD b 0)]:=by unfold kts;rw[List.map_append];rfl
    have hlk:Lk K (i:Int) (b:Int):=h1.symm
    have hgen:=fun(S':NS) (hS':NSq S') (hs':S'.1.length+(2*n+2)*B2 N K (b:Int) i≤800000-100)=>h.sgen_eq hBl hK hKl hB F i (b:Int) S' hd (.inr ⟨b,rfl,hlk⟩) h3 hS' hs'
    rw[hkts]
    cases hk:kts M A F b l with
    |nil=>
     simp only[C3,List.nil_append]
     rw[hgen S hS (by omega),bs,hB i hd,bs,hB b hb,bs,←k2,sch_eq hS _ hMb.1 (by omega),bs]
     refine condF rfl ?_
     have:=(chg (bld M A F i b) (M.getD b 0)).size_pos
     rw[Ca,w64 (by omega) (by omega),←DP _ _ this]
     rfl
    |cons t r=>
     obtain⟨g1,g2⟩:=hacc l t r hlm hk
     have hg0:=(r.foldl NT.meet t).size_pos
     simp only[C3,List.cons_append,meets_snoc]
     rw[hgen _ (hS.app _) (by rw[Ca];omega),bs,hB i hd,bs,hB b hb,bs,←k2,sch_eq (hS.app _) _ hMb.1 (by rw[Ca];omega),bs]
     refine condT (decide_eq_true (by omega)) ?_
     have hbl:=Ce (M.getD b 0)
     have hpm:=spush_meet hS (r.foldl NT.meet t) (chg (bld M A F i b) (M.getD b 0)) (by omega)
     rw[g1] at hpm
     rw[bs,DE _ (by unfold Sh;omega),bs,hpm,bs,bs]
     dsimp only
     have hq:=((r.foldl NT.meet t).meet (chg (bld M A F i b) (M.getD b 0))).size_pos
     have hqs:((r.foldl NT.meet t).meet (chg (bld M A F i b) (M.getD b 0))).size=(r.foldl NT.meet t).size+(chg (bld M A F i b) (M.getD b 0)).size+1:=rfl
     rw[Ca,w64 (by omega) (by omega),←DP _ _ hq]
   ·rw[decide_eq_false hdf,Bool.not_false,cT,show List.filter (λc=>decide (c≠fr∧Lk K (b:Int) c)) [(i:Int)]=[] by rw[List.filter_cons,if_neg (by rw[decide_eq_false hdf];simp)];rfl,List.append_nil]
  ·dsimp only
   rw[show decide ((N:Int)<(B.length:Int))=false by rw[decide_eq_false_iff_not];omega,cF,←hLl,List.take_length,←hLk]
  ·dsimp only
   rw[bld]
   simp only[Int.toNat_natCast]
   show _=some (app S (jo (kts M A F b (Bz A (b:Int) fr)) _))
   have hb2:=hlsub (Bz A (b:Int) fr) [] (List.append_nil _)
   cases hk:kts M A F b (Bz A (b:Int) fr) with
   |nil=>
    simp only[C3,jo]
    refine condT rfl ?_
    rw[spush_leaf hS (by omega),bs,hB b hb,bs]
    have:=sch_eq hS .leaf (to:=M.getD b 0) hMb.1 (by simp only[NT.size];omega)
    rw[show NT.leaf.bag=0 from rfl,Cr] at this
    rw[this,bs]
   |cons t r=>
    have hg0:=(r.foldl NT.meet t).size_pos
    simp only[C3,jo]
    exact condF (decide_eq_false (by omega)) rfl
end
end Go.Sx

namespace Go.Sx
section
variable {g B K : LL}
open Classical in
theorem spec_NiceOf_ok (hg:GOk g)(hT:TB g B K)(h7:g.length≤7)(hB7:B.length≤7){A:LI}(hA:NetL A B.length K){T:NT}(hTe:T=chg (bld (B.map mk) A Bx 0 (-1)) 0):
  D.U0 g B K=some (T.ks,T.vs,T.bs,T.cs 0,true):=by
 have h16:=hg.n16
 have hN:=hT.n1
 have hKl:=hT.many
 have hR:=ER
 have hbt:=bt_of hg hT hA
 have hsets:∀b∈B,b.length≤8:=λb hb=>by have:=(hT.sets b hb).length_le (by omega);omega
 have hok:=nice_T hg hT hA h7 hB7 (F:=Bx) (by omega)
 rw[←hTe] at hok
 have hBs:Sh2 B:=⟨by unfold Sh;omega,λb hb=>by have:=hsets b hb;unfold Sh;omega⟩
 have hKs:Sh2 K:=⟨by unfold Sh;omega,λl hl=>by obtain⟨a,b,rfl,_⟩:=hT.lks l hl;unfold Sh;simp⟩
 have hav:B2 B.length K (-1) 0≤B.length:=by
  have:=Fl (n:=B.length) (p:=λx=>Avt K (-1) 0 x) (q:=λ_=>True) (λ_ _ _=>trivial)
  rw[Fu] at this
  exact this
 have hmul:=Nat.mul_le_mul (show 2*g.length+2≤16 by omega) (Nat.le_trans hav hB7)
 obtain⟨i1,i2,i3,i4,i5⟩:=hbt.bld_ok Bx 0 (-1) (by omega) (.inl rfl) (by omega)
 have i2:(bld (B.map mk) A Bx 0 (-1)).bag=(B.map mk).getD 0 0:=i2
 have hsq:NSq ([],[],[],[]):=⟨rfl,rfl,rfl⟩
 have hB:∀x:Nat,x<B.length→idx B (x:Int)=some (elems ((B.map mk).getD x 0)):=λx hx=>by
  have hs:=hT.sets _ (List.getElem_mem hx)
  rw[AC hx,AH (by simpa using hx),List.getElem_map,elems_mk h16 hs.1 hs.2]
 have hgen:=hbt.sgen_eq rfl hT.lks (by omega) hB Bx 0 (-1) ([],[],[],[]) (by omega) (.inl rfl) (by omega) hsq (by show 0+_≤_;omega)
 have hgen:D.g0 Bx B K [] [] [] [] 0 (-1)=some (app ([],[],[],[]) (bld (B.map mk) A Bx 0 (-1))):=hgen
 have i5:(bld (B.map mk) A Bx 0 (-1)).size+g.length+1≤(2*g.length+2)*B2 B.length K (-1) 0:=i5
 have hchg:=sch_eq hsq (bld (B.map mk) A Bx 0 (-1)) (to:=0) VS.zero (by show 0+_≤_;omega)
 rw[Cr] at hchg
 have e0:idx B 0=some (elems (bld (B.map mk) A Bx 0 (-1)).bag):=by
  rw[i2];exact hB 0 (by omega)
 have hsz:=hok.size
 have hTl:(app ([],[],[],[]) T).1.length=T.size:=by rw[Ca];show 0+_=_;omega
 have hks:=T.ks_len
 have hvs:=T.vs_len
 have hbs:=T.bs_len
 have hcs:=NT.cs_len 0 T
 have hchg:D.a0 (app ([],[],[],[]) (bld (B.map mk) A Bx 0 (-1))).1 (app ([],[],[],[]) (bld (B.map mk) A Bx 0 (-1))).2.1 (app ([],[],[],[]) (bld (B.map mk) A Bx 0 (-1))).2.2.1 (app ([],[],[],[]) (bld (B.map mk) A Bx 0 (-1))).2.2.2 (elems (bld (B.map mk) A Bx 0 (-1)).bag) []=some (T.ks,T.vs,T.bs,T.cs 0):=by rw[hchg,←hTe];rfl
 unfold D.U0 D.B
 rw[Hm hg hBs hKs,bs,decide_eq_true hT,Bool.not_true,cF]
 have key:=Db (ρ:=Unit ⊕ (LI×LI×LL×LL×Bool)) (step:=(fun(x_56:Int)=>cond (decide (x_56<(B.length:Int))) ((idx B x_56).bind λe_70=>cond (decide ((8:Int)<(e_70.length:Int))) (some (.inr (.inr (([]:LI),([]:LI),([]:LL),([]:LL),false)))) (some (.inl (IntKind.i64.wrap (x_56+1))))) (some (.inr (.inl ()))))) B.length (λi=>none) (.inl ()) (λi hi=>by
   have:=hsets _ (List.getElem_mem hi)
   rw[dlt hi,cT,AC hi,bs,wi (by omega)]
   exact condF (decide_eq_false (by omega)) rfl) (by simp only[Be,cF])
 rw[key,EY (λi _=>rfl),Option.getD_none,bs]
 dsimp only
 rw[hgen,bs,e0,bs,hchg,bs]
 dsimp only
 rw[hks,decide_eq_false (show¬(200:Int)<(T.size:Int) by omega),cF]
 refine(BY (λi=>((i:Int),T.ks.take i,T.vs.take i,T.bs.take i,(T.cs 0).take i)) T.size (T.ks,T.vs,T.bs,T.cs 0) rfl (λi hi=> ?_) ?_).trans rfl
 ·dsimp only
  have hb:T.bs[i].length≤8:=by
   have:=(hok.small hg (b:=T.bs[i]) (List.getElem_mem _)).length_le (by omega)
   omega
  have hc:(T.cs 0)[i].length≤2:=(hok.kid hg (i:=i) (by omega)).2
  rw[dlt hi,cT,AC (by omega),bs,AC (by omega),bs,AC (by omega),bs,AC (by omega),bs,DE _ (by unfold Sh;omega),bs,DE _ (by unfold Sh;omega),bs]
  have hp:=Fz (S:=(T.ks.take i,T.vs.take i,T.bs.take i,(T.cs 0).take i)) ⟨by simp;omega,by simp;omega,by simp;omega⟩ (by simp;omega) T.ks[i] T.vs[i] T.bs[i] (T.cs 0)[i]
  dsimp only at hp
  rw[hp,bs,wi (by omega),Cx (by omega),Cx (by omega),Cx (by omega),Cx (by omega)]
 ·dsimp only
  rw[Be,cF,List.take_of_length_le (by omega),List.take_of_length_le (by omega),List.take_of_length_le (by omega),List.take_of_length_le (by omega)]
end
end Go.Sx

namespace Go.Sx
abbrev Fct :Type:=Int×Int×Int
def inr (x:Int)(n:Nat):Bool:=decide (0≤x)&&decide (x<(n:Int))
def okF (i:Nat)(x:Fct):Bool:=
 if x.1=1∨x.1=2 then inr x.2.1 3&&inr x.2.2 3
 else if x.1=3 then inr x.2.1 3&&inr x.2.2 2
 else if x.1=4 then inr x.2.1 i&&(x.2.2==0)
 else if x.1=5∨x.1=6 then inr x.2.1 i&&inr x.2.2 i
 else if x.1=7 then inr x.2.1 3&&inr x.2.2 i
 else if x.1=8 then inr x.2.1 2&&inr x.2.2 i
 else false
def frm (f:List Fct):Bool:=decide (1≤f.length)&&(decide (f.length≤40)&&(List.range f.length).all λi=>okF i (f.getD i (0,0,0)))
structure Nets (F:LI):Prop where
 n1:1≤F.length
 n8:F.length≤8
 vs:∀x∈F,VS x
def fr1 (L:LI)(x:Fct):Int:=
 if x.1=1∨x.1=2 then ior .u32 (ishl .u32 1 x.2.1) (ishl .u32 1 x.2.2)
 else if x.1=3 then ior .u32 (ishl .u32 1 x.2.1) (ishl .u32 1 (3+x.2.2))
 else if x.1=4 then L.getD x.2.1.toNat 0
 else if x.1=5∨x.1=6 then ior .u32 (L.getD x.2.1.toNat 0) (L.getD x.2.2.toNat 0)
 else if x.1=7 then iandNot .u32 (L.getD x.2.2.toNat 0) (ishl .u32 1 x.2.1)
 else if x.1=8 then iandNot .u32 (L.getD x.2.2.toNat 0) (ishl .u32 1 (3+x.2.1))
 else 0
def frN (f : List Fct) : Nat → LI
  | 0 => []
  | n + 1 => frN f n ++ [fr1 (frN f n) (f.getD n (0, 0, 0))]
def fre (f : List Fct) (i : Nat) : Int := fr1 (frN f i) (f.getD i (0, 0, 0))
def fq (f:List Fct)(i q:Nat):Bool:=has (fre f i) q
def neg (f:List Fct):List Fct:=f++[(4,((f.length-1:Nat):Int),0)]
section
variable {F : LI} (hF : Nets F) {f : List Fct} (hf : frm f = true) {B : List Bool}
include hF hf
end
end Go.Sx

namespace Go.Sx
structure Perm (n:Nat)(p:Nat→Nat):Prop where
 lt:∀i,i<n→p i<n
 inj:∀i j,i<n→j<n→p i=p j→i=j
 sur:∀u,u<n→∃i,i<n∧p i=u
section
variable {g : LL} (hg : GOk g)
include hg
end
end Go.Sx

namespace Go.Sx
theorem w6Graph_w9 (a:LI)(b c d:Int):D.I0 a b c d=D.c2 a b c d:=rfl
theorem w6Graph_ok {b:LI}{i:Int}(h:DK b i)(z:Int)(most:Nat)(h1:1≤most)(h8:most≤8):
  ∃y,D.I0 b i z (most:Int)=some y∧(GOk y.1∧y.1.length≤most∧y.2.1=b∧DK b y.2.2.1):=by
 rw[w6Graph_w9];exact w9Graph_ok h z most h1 h8
section
variable {g : LL} (hg : GOk g)
include hg
end
end Go.Sx

namespace Go.Sx
theorem w6Order_ok2 {b:LI}{i:Int}(h:DK b i)(z:Int){g:LL}(hg:GOk g):∃y,D.D0 b i z g=some y∧OOk g y.1∧y.2.1=b∧DK b y.2.2.1:=by
 have h16:=hg.n16
 unfold D.D0
 refine BC (λs:LI×Int×LI×Int×Int=>∃v:Nat,s.2.1=(v:Int)∧v≤g.length∧s.1.length=v∧(∀x∈s.1,0≤x∧x<(v:Int))∧s.1.Nodup∧s.2.2.1=b∧DK b s.2.2.2.1) (λs=>g.length-s.2.1.toNat) (λr=>OOk g r.1∧r.2.1=b∧DK b r.2.2.1) ?_ ⟨0,rfl,by omega,rfl,λx hx=>(by cases hx),List.nodup_nil,rfl,h⟩ (λr hr=>⟨_,rfl,hr⟩)
 rintro⟨l,_,b2,i,z⟩ ⟨v,rfl,hv,hl,hr,hn,rfl,hk⟩
 dsimp only at hl hr hn hk ⊢
 by_cases hlt:v<g.length
 ·rw[dlt hlt,cT,wi (by omega)]
  obtain⟨r,i',z',e,r0,r1,hk'⟩:=F9 hk z ((v+1:Nat):Int) (by omega)
  obtain⟨q,rfl⟩:=Int.eq_ofNat_of_zero_le r0
  have hq:q≤l.length:=by omega
  rw[e,bs]
  dsimp only
  rw[Ge hq,bs,A5 (by simp;omega),bs,List.nil_append,A5 (by simp;omega),bs,Hh hq,bs,A5 (by simp;omega),bs]
  have hp:(l.take q++[(v:Int)]++l.drop q).Perm ((v:Int)::l):=by
   rw[List.append_assoc,List.singleton_append]
   refine List.perm_middle.trans ?_
   rw[List.take_append_drop]
  refine⟨_,rfl,⟨v+1,rfl,by omega,by rw[hp.length_eq,List.length_cons,hl],λx hx=> ?_,?_,rfl,hk'⟩,by dsimp only;omega⟩
  ·rcases List.mem_cons.1 (hp.mem_iff.1 hx) with rfl|hx
   ·omega
   ·have:=hr x hx;omega
  ·refine hp.nodup_iff.2 (List.nodup_cons.2 ⟨λhm=> ?_,hn⟩)
   have:=hr _ hm;omega
 ·obtain rfl:v=g.length:=by omega
  rw[Be,cF]
  exact⟨_,rfl,⟨hl,hr,hn⟩,rfl,hk⟩
theorem CoverBy_ok {g:LL}{T:NT}(hg:GOk g)(h7:g.length≤7)(h:NOk g T){Y:Int}(hY:Cv g Y)(hmin:∀Z,Cv g Z→(elems Y).length≤(elems Z).length):
  D.z0 g (A7 T).1 (A7 T).2.1 (A7 T).2.2.1 (A7 T).2.2.2=some ((elems Y).length:Int):=by
 have hn1:=hg.n1
 have hw1:∀v,v<g.length→(List.replicate g.length (1:Int)).getD v 0=1:=λv hv=>by rw[AH (by simpa using hv)];simp
 have hrep:D.e1 [1] (g.length:Int)=some (List.replicate g.length 1):=by
  unfold D.e1
  rw[decide_eq_true (by omega),decide_eq_true (by omega)];rfl
 obtain⟨r,e,h1,h2⟩:=Gv hg h7 h (ws:=List.replicate g.length (1:Int)) ⟨by simp,λx hx=>by rw[List.eq_of_mem_replicate hx];omega⟩
 have hs:=cover_size hg hY hmin hw1 h1 h2
 have hb:0≤r∧r≤g.length*1000:=by
  obtain⟨m,_,rfl⟩:=h1
  exact wt_nn (λv hv=>by rw[hw1 v hv];omega) m
 unfold D.z0
 rw[Dt hg (by omega) h,bs,Bool.not_true,cF,hrep,bs,e,bs,hs,w64 (by omega) (by omega)]
theorem FnTables_true (code:LI)(hb:∀x∈code,0≤x∧x≤255):D.U1 code=some true:=by
 unfold D.U1 D.N1
 rw[bs]
 by_cases hl:(4096:Int)<(code.length:Int)
 ·rw[decide_eq_true hl,cT]
 ·rw[decide_eq_false hl,cF]
  obtain⟨z,ez,hk⟩:=roll_ok code 814 hb (by omega)
  rw[ez,bs]
  obtain⟨⟨g,b,i,z2⟩,eg,hg,h7,rfl,hk2⟩:=w6Graph_ok hk z 7 (by omega) (by omega)
  have eg:D.I0 b 0 z 7=_:=eg
  dsimp only at hg h7 hk2 ⊢
  rw[eg,bs]
  obtain⟨⟨o,b3,i3,z3⟩,eo,ho,rfl,hk3⟩:=w6Order_ok2 hk2 z2 hg
  dsimp only at eo ho hk3 ⊢
  rw[eo,bs]
  obtain⟨F,L,hF⟩:=fill_ex hg ho
  dsimp only
  rw[Hn hg ho hF,bs,bs]
  have hT:=DecompBy_TB hg ho hF
  have hlo:=ho.len
  have hB7:((List.range o.length).map (Dd o L)).length≤7:=by simp;omega
  obtain⟨A,hA,e⟩:=impl_NiceOf_ok hg hT h7 hB7
  have hN:=nice_T hg hT hA h7 hB7 (F:=Bx) (by have:=ER;omega)
  obtain⟨T,hTe⟩:∃T,T=chg (bld (((List.range o.length).map (Dd o L)).map mk) A Bx 0 (-1)) 0:=⟨_,rfl⟩
  have e':=spec_NiceOf_ok hg hT h7 hB7 hA hTe
  rw[←hTe] at e hN
  dsimp only
  rw[e,bs,e',bs]
  dsimp only
  have q1:D.H0 g T.ks T.vs T.bs (T.cs 0)=some true:=Hl hg (by omega) hN
  have q2:D.j g T.ks T.vs T.bs (T.cs 0)=some true:=Dt hg (by omega) hN
  rw[show ((true !=true)||((T.ks.length:Int) !=(T.ks.length:Int)))=false by simp,cF,Bool.not_true,cF,q1,bs,Bool.not_true,cF,q2,bs,Bool.not_true,bs,cF]
  suffices h:∃y,(Az _ _).bind _=some y∧y=true by
   obtain⟨y,h1,rfl⟩:=h;exact h1
  refine BC (λs:LI×Int×LI×Int×Int=>∃v:Nat,s.2.1=(v:Int)∧v≤g.length∧s.1.length=v∧(∀x∈s.1,0≤x∧x≤1000)∧s.2.2.1=b3∧DK b3 s.2.2.2.1) (λs=>g.length-s.2.1.toNat) (λr=>WOk g.length r.1∧r.2.1=b3∧DK b3 r.2.2.1) ?_ ⟨0,rfl,by omega,rfl,λx hx=>(by cases hx),rfl,hk3⟩ ?_
  ·rintro⟨l,_,_,i4,z4⟩ ⟨v,rfl,hv,hll,hr,rfl,hk4⟩
   dsimp only at hll hr hk4 ⊢
   by_cases hlt:v<g.length
   ·obtain⟨r,i',z',e,r0,r1,hk'⟩:=F9 hk4 z4 7 (by omega)
    rw[dlt hlt,cT,e,bs]
    dsimp only
    rw[A5 (by simp;omega),bs,wi (by omega)]
    refine⟨_,rfl,⟨v+1,rfl,by omega,by simp[hll],λx hx=> ?_,rfl,hk'⟩,by dsimp only;omega⟩
    rcases List.mem_append.1 hx with hx|hx
    ·exact hr x hx
    ·rw[List.mem_singleton.1 hx];omega
   ·obtain rfl:v=g.length:=by omega
    rw[Be,cF]
    exact⟨_,rfl,⟨hll,hr⟩,rfl,hk4⟩
  ·rintro⟨ws,_,i4,z4⟩ ⟨hw,rfl,hk4⟩
   dsimp only at hw hk4 ⊢
   obtain⟨k,i5,z5,ek,k0,k4,_⟩:=F9 hk4 z4 4 (by omega)
   obtain⟨k,rfl⟩:=Int.eq_ofNat_of_zero_le k0
   obtain⟨s,r,eh,⟨m1,hm1,hr1⟩,hr2⟩:=G4 hg hw
   obtain⟨r',eb,⟨m2,hm2,hr3⟩,hr4⟩:=Gv hg h7 hN hw
   have err:r'=r:=by
    have:=hr2 m2 hm2;have:=hr4 m1 hm1;omega
   subst err
   obtain⟨Y,ey,hY,hmin⟩:=LeastCover_ok hg
   have s1:D.N g T.ks T.vs T.bs (T.cs 0)=_:=StablesBy_ok hg h7 hN
   have s2:D.y g T.ks T.vs T.bs (T.cs 0) ws=_:=eb
   have s3:D.z0 g T.ks T.vs T.bs (T.cs 0)=_:=CoverBy_ok hg h7 hN hY hmin
   have s4:D.c g T.ks T.vs T.bs (T.cs 0) (k:Int)=_:=ColoursBy_ok hg h7 hN (by omega)
   have s5:=colour_count hg hN (cfn_nd k)
   rw[GQ] at s5
   rw[ek,bs,eh,bs,s1,bs,StablesMany_ok hg,bs,beq_self_eq_true,cT,s2,bs,bs]
   dsimp only
   rw[beq_self_eq_true,cT,s3,bs,ey,bs,beq_self_eq_true,cT,s4,bs,ColourWays_ok hg h7 (by omega),bs,s5,beq_self_eq_true]
   exact⟨_,rfl,rfl⟩
end Go.Sx
