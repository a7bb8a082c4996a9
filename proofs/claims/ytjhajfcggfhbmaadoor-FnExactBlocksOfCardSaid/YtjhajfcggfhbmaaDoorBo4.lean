/- Parts. -/
import Derived.Test.YtjhajfcggfhbmaaDoorBo3
set_option linter.unusedVariables false
set_option linter.unusedSimpArgs false
set_option linter.unusedSectionVars false
namespace Go.Sx
def Cq (g:LL)(x:LI):Prop:=∀u w:Nat,(u:Int)∈x→(w:Int)∈x→u≠w→adj g u w
structure Fin' (g:LL)(x:LI):Prop where
 inc:Inc x
 rng:∀z∈x,0≤z∧z<g.length
 cq:Cq g x
 mx:∀w,w<g.length→∃u:Nat,(u:Int)∈x∧¬adj g u w
def Sol (g:LL)(set left x:LI):Prop:=∃y,x=set++y∧(∀z∈y,z∈left)∧Fin' g x
structure SK (g:LL)(set left out:LI):Prop where
 inc:Inc (set++left)
 r1:∀z∈set++left,0≤z∧z<g.length
 r2:∀z∈out,0≤z∧z<g.length
 cq:Cq g set
 cn:∀w:Nat,w<g.length→(((w:Int)∈left∨(w:Int)∈out)↔∀u:Nat,(u:Int)∈set→adj g u w)
 len:out.length+left.length≤16
theorem inc_len {n:Nat}{x:LI}(hi:Inc x)(hr:∀z∈x,0≤z∧z<n):x.length≤n:=by
 have:=BB (m:=(List.range n).map Int.ofNat) hi.nodup (λz hz=>by
  have:=hr z hz
  exact List.mem_map.2 ⟨z.toNat,List.mem_range.2 (by omega),by show ((z.toNat:Nat):Int)=z;omega⟩)
 simpa using this
theorem SK.next {g:LL}(hg:GOk g){set left out:LI}(h:SK g set left out){i v:Nat}(hi:i<left.length)(hv:left[i]=(v:Int)):
  SK g (set++[(v:Int)]) ((left.drop (i+1)).filter λx=>decide (x∈row g v)) ((out++left.take i).filter λx=>decide (x∈row g v))∧
  (∀x,Sol g (set++[(v:Int)]) ((left.drop (i+1)).filter λx=>decide (x∈row g v)) x↔∃y,x=set++(v:Int)::y∧(∀z∈y,z∈left)∧Fin' g x):=by
 have hvm:(v:Int)∈left:=by rw[←hv];exact List.getElem_mem hi
 have hvr:=h.r1 _ (List.mem_append.2 (.inr hvm))
 have hvn:v<g.length:=by omega
 have hinc:=List.pairwise_append.1 h.inc
 have hsplit:left=left.take i++(v:Int)::left.drop (i+1):=by
  rw[←hv,List.getElem_cons_drop,List.take_append_drop]
 have hdrop:∀z,z∈left.drop (i+1)↔z∈left∧(v:Int)<z:=λz=>by
  have h2:=hinc.2.1
  rw[hsplit] at h2
  have h3:=List.pairwise_append.1 h2
  have h4:=List.pairwise_cons.1 h3.2.1
  constructor
  ·intro hz
   exact⟨List.mem_of_mem_drop hz,h4.1 z hz⟩
  ·rintro⟨h5,h6⟩
   rw[hsplit] at h5
   rcases List.mem_append.1 h5 with h5|h5
   ·have:=h3.2.2 z h5 (v:Int) (by simp);omega
   ·rcases List.mem_cons.1 h5 with rfl|h5
    ·omega
    ·exact h5
 refine⟨⟨?_,?_,?_,?_,?_,?_⟩,λx=> ?_⟩
 ·rw[List.append_assoc]
  refine List.pairwise_append.2 ⟨hinc.1,?_,λa ha b hb=> ?_⟩
  ·rw[List.singleton_append]
   refine List.pairwise_cons.2 ⟨λz hz=>((hdrop z).1 (List.mem_filter.1 hz).1).2,?_⟩
   exact List.Pairwise.filter _ (List.Pairwise.sublist (List.drop_sublist _ _) hinc.2.1)
  ·refine hinc.2.2 a ha b ?_
   rw[List.singleton_append] at hb
   rcases List.mem_cons.1 hb with rfl|hb
   ·exact hvm
   ·exact((hdrop b).1 (List.mem_filter.1 hb).1).1
 ·intro z hz
  rcases List.mem_append.1 hz with hz|hz
  ·rcases List.mem_append.1 hz with hz|hz
   ·exact h.r1 z (List.mem_append.2 (.inl hz))
   ·simp at hz;subst hz;exact hvr
  ·exact h.r1 z (List.mem_append.2 (.inr ((hdrop z).1 (List.mem_filter.1 hz).1).1))
 ·intro z hz
  rcases List.mem_append.1 (List.mem_filter.1 hz).1 with hz|hz
  ·exact h.r2 z hz
  ·exact h.r1 z (List.mem_append.2 (.inr (List.mem_of_mem_take hz)))
 ·intro u w hu hw hne
  have key:∀a:Nat,(a:Int)∈set→adj g a v:=λa ha=>(h.cn v hvn).1 (.inl hvm) a ha
  rcases List.mem_append.1 hu with hu1|hu1<;>rcases List.mem_append.1 hw with hw1|hw1
  ·exact h.cq u w hu1 hw1 hne
  ·have e:w=v:=by simp at hw1;omega
   rw[e];exact key u hu1
  ·have e:u=v:=by simp at hu1;omega
   rw[e]
   have:=h.r1 _ (List.mem_append.2 (.inl hw1))
   exact hg.sym w v (by omega) (key w hw1)
  ·simp at hu1 hw1;omega
 ·intro w hw
  have h1:=h.cn w hw
  have hself:(w:Int)∈row g v→w≠v:=λha e=>by subst e;exact hg.irr w hw ha
  constructor
  ·intro hm u hu
   have hm':((w:Int)∈left∨(w:Int)∈out)∧(w:Int)∈row g v:=by
    rcases hm with hm|hm
    ·obtain⟨a1,a2⟩:=List.mem_filter.1 hm
     exact⟨.inl ((hdrop _).1 a1).1,of_decide_eq_true a2⟩
    ·obtain⟨a1,a2⟩:=List.mem_filter.1 hm
     refine⟨?_,of_decide_eq_true a2⟩
     rcases List.mem_append.1 a1 with a1|a1
     ·exact .inr a1
     ·exact .inl (List.mem_of_mem_take a1)
   rcases List.mem_append.1 hu with hu|hu
   ·exact h1.1 hm'.1 u hu
   ·have:u=v:=by simp at hu;omega
    subst this;exact hm'.2
  ·intro hA
   have hav:(w:Int)∈row g v:=hA v (by simp)
   have hne:=hself hav
   rcases h1.2 (λu hu=>hA u (List.mem_append.2 (.inl hu))) with hm|hm
   ·rw[hsplit] at hm
    rcases List.mem_append.1 hm with hm|hm
    ·exact .inr (List.mem_filter.2 ⟨List.mem_append.2 (.inr hm),decide_eq_true hav⟩)
    ·rcases List.mem_cons.1 hm with hm|hm
     ·omega
     ·exact .inl (List.mem_filter.2 ⟨hm,decide_eq_true hav⟩)
   ·exact .inr (List.mem_filter.2 ⟨List.mem_append.2 (.inl hm),decide_eq_true hav⟩)
 ·have a1:((left.drop (i+1)).filter λx=>decide (x∈row g v)).length≤(left.drop (i+1)).length:=List.length_filter_le _ _
  have a2:((out++left.take i).filter λx=>decide (x∈row g v)).length≤(out++left.take i).length:=List.length_filter_le _ _
  have:=h.len
  simp only[List.length_drop,List.length_append,List.length_take] at a1 a2
  omega
 ·constructor
  ·rintro⟨y,rfl,hy,hf⟩
   exact⟨y,by simp,λz hz=>((hdrop z).1 (List.mem_filter.1 (hy z hz)).1).1,hf⟩
  ·rintro⟨y,rfl,hy,hf⟩
   refine⟨y,by simp,λz hz=> ?_,hf⟩
   have hz2:=hf.rng z (by simp[hz])
   have h6:=(List.pairwise_cons.1 (List.pairwise_append.1 hf.inc).2.1).1 z hz
   refine List.mem_filter.2 ⟨(hdrop z).2 ⟨hy z hz,h6⟩,decide_eq_true ?_⟩
   have:=hf.cq v z.toNat (by simp) (by rw[show ((z.toNat:Nat):Int)=z by omega];simp[hz]) (by omega)
   unfold adj at this
   rwa [show ((z.toNat:Nat):Int)=z by omega] at this
structure GC (g:LL)(l:LI):Prop where
 up:l.Pairwise λa b=>Bd a<Bd b
 mem:∀K,K∈l↔In g.length K∧MX (g.map mk) g.length K
def mis (F:LI)(n:Nat)(S:Int):Nat:=S2 n (λu w=>has S u&&(has S w&&(decide (w<u)&& !nb F w u)))
def cd (F:LI)(s v:Int):Int:=((Ao (iand .u32 (F.getD v.toNat 0) s)).length:Int)
def cf (n:Nat)(F:LI)(s v:Int):Int:=(mis F n (iand .u32 (F.getD v.toNat 0) s):Int)
section
variable {g : LL} (hg : GOk g)
include hg
theorem OOk.shl {o:LI}(ho:OOk g o):Sh o:=ho.sh hg
end
end Go.Sx

namespace Go.Sx
def S16 (s:Int):Prop:=0≤s∧s<65536
theorem S16.vs {s:Int}(h:S16 s):VS s:=⟨h.1,by have:=h.2;omega⟩
theorem S16.nat {s:Int}(h:S16 s):∃n:Nat,s=n∧n<65536:=⟨s.toNat,by have:=h.1;omega,by have:=h.1;have:=h.2;omega⟩
theorem S16.lt {s:Int}(h:S16 s){v:Nat}(hv:has s v=true):v<16:=by
 obtain⟨n,rfl,hn⟩:=h.nat
 rw[Bo] at hv
 have:=Nat.ge_two_pow_of_testBit hv
 apply Classical.byContradiction
 intro hc
 have h2:2^16≤2^v:=Nat.pow_le_pow_right (by omega) (by omega)
 omega
theorem In.of {n i:Nat}(h:i<2^n)(hn:n≤16):In n (i:Int):=by
 have:2^n≤2^16:=Nat.pow_le_pow_right (by omega) hn
 refine⟨⟨by omega,by omega⟩,λw hw=> ?_⟩
 rw[Bo] at hw
 have:=Nat.ge_two_pow_of_testBit hw
 apply Classical.byContradiction
 intro hc
 have h2:2^n≤2^w:=Nat.pow_le_pow_right (by omega) (by omega)
 omega
theorem l1Same_eq (x y:LI)(hx:Sh x):D.e0 x y=some (decide (x=y)):=by
 unfold Sh at hx
 unfold D.e0
 by_cases hl:x.length=y.length
 ·have e:((x.length:Int) !=(y.length:Int))=false:=by simp[hl]
  rw[e,cond_false]
  refine(Cj x.length (λi=>x.getD i 0==y.getD i 0) false (λi hi=> ?_) ?_ rfl rfl).trans ?_
  ·have hi':i<y.length:=by omega
   simp only[dlt hi,cond_true,Ay hi,Ay hi',bs,AU hi,AU hi',wq i]
   by_cases h:x[i]=y[i]
   ·have:(x[i] !=y[i])=false:=by simp[h]
    rw[this,cond_false,if_pos (by simp[h])]
   ·have:(x[i] !=y[i])=true:=by simp[h]
    rw[this,cond_true,if_neg (by simp[h])]
  ·simp only[A9,cond_false]
  ·congr 1
   rw[Bool.eq_iff_iff,CF,decide_eq_true_eq]
   constructor
   ·intro h
    exact ext_getD hl (λj hj=>by have:=h j hj;simpa using this)
   ·rintro rfl i _;simp
 ·have e:((x.length:Int) !=(y.length:Int))=true:=by simp;omega
  rw[e,cond_true,decide_eq_false (λh=>hl (by rw[h]))]
theorem loop_set {α S ρ β:Type}{step:S→Option (S ⊕ ρ)}{k:ρ→Option β}{s0:S}(xs ys:List α)(hl:xs.length=ys.length)(enc:List α→Int→S)(r:ρ)(h0:enc ys 0=s0)
  (hstep:∀l (i:Nat) (h:i<xs.length),l.length=xs.length→step (enc l i)=some (.inl (enc (l.set i xs[i]) ((i+1:Nat):Int))))
  (hend:step (enc xs xs.length)=some (.inr r)):(Ap step s0).bind k=k r:=by
 refine CT (λi=>enc (xs.take i++ys.drop i) (i:Int)) xs.length r (by simpa using h0) (λi hi=> ?_) ?_
 ·have e:(xs.take i++ys.drop i).set i xs[i]=xs.take (i+1)++ys.drop (i+1):=by
   rw[List.take_succ_eq_append_getElem hi,List.drop_eq_getElem_cons (show i<ys.length by omega),List.set_append_right _ _ (by simp;omega)]
   have e0:i-(xs.take i).length=0:=by rw[List.length_take];omega
   rw[e0,List.set_cons_zero,List.append_assoc];rfl
  rw[hstep _ i hi (by simp;omega),e]
 ·rw[←hend,List.take_length,hl,List.drop_length,List.append_nil]
theorem toS_eq (xs:LI)(h:Sh xs):D.n xs=some xs:=by
 unfold Sh at h
 unfold D.n
 rw[makeD_ok (by omega) (by omega),bs]
 refine(loop_set xs (List.replicate xs.length 0) (by simp) (λl i=>(l,i)) xs rfl (λl i hi hl=> ?_) ?_).trans rfl
 ·simp only[dlt hi,cond_true,Ay hi,Ay (show i<l.length by omega),bs,wq i,Int.toNat_natCast]
 ·simp only[A9,cond_false]
theorem toSS_eq (xs:LL)(h:Sh2 xs):D.R xs=some xs:=by
 obtain⟨h,h2⟩:=h
 unfold Sh at h
 unfold D.R
 rw[makeD_ok (by omega) (by omega),bs]
 refine(loop_set xs (List.replicate xs.length []) (by simp) (λl i=>(l,i)) xs rfl (λl i hi hl=> ?_) ?_).trans rfl
 ·simp only[dlt hi,cond_true,Ay hi,Ay (show i<l.length by omega),bs,wq i,Int.toNat_natCast,toS_eq _ (h2 _ (List.getElem_mem hi))]
 ·simp only[A9,cond_false]
theorem toGraph_eq (g:LL)(h:Sh2 g):D.o g=some g:=by
 unfold D.o;rw[toSS_eq g h];rfl
theorem DS {α:Type}[DecidableEq α](xs ys:List α)(d:α)(hl:xs.length=ys.length):(List.range xs.length).all (λi=>decide (xs.getD i d=ys.getD i d))=decide (xs=ys):=by
 rw[Bool.eq_iff_iff,CF,decide_eq_true_eq]
 constructor
 ·intro h
  apply List.ext_getElem hl
  intro i h1 h2
  have:=h i h1
  rw[AU h1,AU h2] at this
  exact of_decide_eq_true this
 ·rintro rfl i _;simp
theorem eqS_eq (xs ys:LI)(h:Sh xs):D.b xs ys=some (decide (xs=ys)):=by
 unfold Sh at h
 unfold D.b
 by_cases hl:xs.length=ys.length
 ·have e:((xs.length:Int) !=(ys.length:Int))=false:=by simp[hl]
  rw[e,cond_false,←DS xs ys 0 hl]
  refine Cj xs.length _ false (λi hi=> ?_) ?_ rfl rfl
  ·have hi':i<ys.length:=by omega
   simp only[dlt hi,cond_true,Ay hi,Ay hi',bs,wq i,AU hi,AU hi']
   by_cases hc:xs[i]=ys[i]
   ·simp[hc]
   ·have:(xs[i] !=ys[i])=true:=by simpa using hc
    simp[hc,this]
  ·simp only[A9,cond_false]
 ·have e:((xs.length:Int) !=(ys.length:Int))=true:=by simp;omega
  have:xs≠ys:=by rintro rfl;exact hl rfl
  simp[e,this]
theorem eqSS_eq (xs ys:LL)(h:Sh2 xs):D.p xs ys=some (decide (xs=ys)):=by
 obtain⟨h,h2⟩:=h
 unfold Sh at h
 unfold D.p
 by_cases hl:xs.length=ys.length
 ·have e:((xs.length:Int) !=(ys.length:Int))=false:=by simp[hl]
  rw[e,cond_false,←DS xs ys [] hl]
  refine Cj xs.length _ false (λi hi=> ?_) ?_ rfl rfl
  ·have hi':i<ys.length:=by omega
   simp only[dlt hi,cond_true,Ay hi,Ay hi',bs,wq i,AU hi,AU hi',eqS_eq _ _ (h2 _ (List.getElem_mem hi))]
   by_cases hc:xs[i]=ys[i]
   ·simp[hc]
   ·simp[hc]
  ·simp only[A9,cond_false]
 ·have e:((xs.length:Int) !=(ys.length:Int))=true:=by simp;omega
  have:xs≠ys:=by rintro rfl;exact hl rfl
  simp[e,this]
theorem eqGraph_eq (xs ys:LL)(h:Sh2 xs):D.h0 xs ys=some (decide (xs=ys)):=by
 unfold D.h0;rw[eqSS_eq xs ys h,bs];cases decide (xs=ys)<;>rfl
def tot :LL→Int
 |[]=>0
 |x::xs=>x.length+tot xs
theorem BE :∀xs,0≤tot xs
 |[]=>Int.le_refl _
 |x::xs=>by have:=BE xs;simp only[tot];omega
theorem DE :∀xs ys,tot (xs++ys)=tot xs+tot ys
 |[],ys=>by simp[tot]
 |x::xs,ys=>by simp only[List.cons_append,tot,DE xs ys];omega
theorem tot_mem :∀{xs:LL} {x},x∈xs→(x.length:Int)≤tot xs
 |y::xs,x,h=>by
  have:=BE xs
  simp only[tot]
  rcases List.mem_cons.1 h with rfl|h
  ·omega
  ·have:=tot_mem h;omega
theorem tot_take {xs:LL}{i:Nat}(h:i<xs.length):tot (xs.take (i+1))=tot (xs.take i)+xs[i].length:=by
 rw[List.take_succ_eq_append_getElem h,DE];simp[tot]
theorem tot_le {xs:LL}{n:Int}(h:∀x∈xs,(x.length:Int)≤n):tot xs≤xs.length*n:=by
 induction xs with
 |nil=>simp[tot]
 |cons x xs ih=>
  have:=ih (λy hy=>h y (by simp[hy]))
  have:=h x (by simp)
  simp only[tot,List.length_cons,Int.natCast_add,Int.add_mul];omega
theorem Sh2.of_tot {xs:LL}(h:Sh xs)(h2:tot xs≤4294967296):Sh2 xs:=⟨h,λx hx=>by have:=tot_mem hx;unfold Sh;omega⟩
theorem szS_eq (xs:LI)(k:Int)(hx:(xs.length:Int)≤9223372036854775807)(h0:0≤k)(h1:k≤1048576):
  D.k xs k=some (if(xs.length:Int)≤k then k-xs.length else-1):=by
 unfold D.k
 rw[w64 (by omega) (by omega)]
 by_cases h:k-(xs.length:Int)<0
 ·rw[if_neg (by omega)];simp[h]
 ·rw[if_pos (by omega)];simp[h]
theorem szSS_eq (xs:LL)(k:Int)(hx:(xs.length:Int)≤9223372036854775807)(hx2:∀x∈xs,(x.length:Int)≤9223372036854775807)(h0:0≤k)(h1:k≤1048576):
  ∃y,D.V xs k=some y∧(y<0∨(y+xs.length+tot xs=k∧0≤y)):=by
 unfold D.V
 rw[w64 (by omega) (by omega)]
 by_cases h:k-(xs.length:Int)<0
 ·simp only[h,decide_true,cond_true];exact⟨-1,rfl,.inl (by omega)⟩
 ·simp only[h,decide_false,cond_false]
  have key:∀(n i:Nat) (l:Int),i+n=xs.length→0≤l→l+tot (xs.take i)=k-xs.length→
    ∃r,Ap (σ:=Int×Int) (ρ:=(Int) ⊕ (Int)) (fun(s_39:Int×Int)=>match s_39 with|(x_42,x_43)=>cond (decide (x_43<(xs.length:Int))) ((idx xs x_43).bind λe_64=>(D.k e_64 x_42).bind λy_70=>cond (decide (y_70<0)) (some (.inr (.inr (-1)))) (some (.inl (y_70,(IntKind.i64.wrap (x_43+1)))))) (some (.inr (.inl x_42)))) (l,(i:Int))=some r∧
     (r= .inr (-1)∨∃y,r= .inl y∧y+xs.length+tot xs=k∧0≤y):=by
   intro n
   induction n with
   |zero=>
    intro i l hi hl he
    obtain rfl:i=xs.length:=by omega
    refine⟨.inl l,AX (by simp only[A9,cond_false]),.inr ⟨l,rfl,?_,hl⟩⟩
    rw[List.take_length] at he;omega
   |succ n ih=>
    intro i l hi hl he
    have hil:i<xs.length:=by omega
    have ht:=BE (xs.take i)
    have e1:=szS_eq xs[i] l (hx2 _ (List.getElem_mem hil)) hl (by omega)
    by_cases hc:(xs[i].length:Int)≤l
    ·rw[if_pos hc] at e1
     obtain⟨r,hr,hp⟩:=ih (i+1) (l-xs[i].length) (by omega) (by omega) (by rw[tot_take hil];omega)
     refine⟨r,?_,hp⟩
     rw[Bf (s':=(l-xs[i].length,((i+1:Nat):Int)))]
     ·exact hr
     ·have hd:decide (l-(xs[i].length:Int)<0)=false:=by simp;omega
      simp only[dlt hil,cond_true,Ay hil,bs,e1,hd,cond_false,wq i]
    ·rw[if_neg hc] at e1
     refine⟨.inr (-1),AX ?_,.inl rfl⟩
     have hd:decide ((-1:Int)<0)=true:=by decide
     simp only[dlt hil,cond_true,Ay hil,bs,e1,hd]
  obtain⟨r,hr,hp⟩:=key xs.length 0 (k-xs.length) (by omega) (by omega) (by simp[tot])
  rw[show ((0:Nat):Int)=0 from rfl] at hr
  rw[hr,bs]
  rcases hp with rfl|⟨y,rfl,h1,h2⟩
  ·exact⟨-1,rfl,.inl (by omega)⟩
  ·exact⟨y,rfl,.inr ⟨h1,h2⟩⟩
theorem szGraph_eq (xs:LL)(k:Int)(hx:(xs.length:Int)≤9223372036854775807)(hx2:∀x∈xs,(x.length:Int)≤9223372036854775807)(h0:0≤k)(h1:k≤1048576):
  ∃y,D.o0 xs k=some y∧(y<0∨(y+xs.length+tot xs=k∧0≤y)):=by
 obtain⟨y,e,h⟩:=szSS_eq xs k hx hx2 h0 h1
 unfold D.o0
 rw[e,bs]
 by_cases hy:y<0
 ·simp only[hy,decide_true,cond_true];exact⟨-1,rfl,.inl (by omega)⟩
 ·simp only[hy,decide_false,cond_false];exact⟨y,rfl,h⟩
def Bx (k:Int)(n:Nat):LI:=(List.range n).map fun(i:Nat)=>k+(i:Int)
theorem CC (k:Int)(n:Nat):(Bx k n).length=n:=by simp[Bx]
theorem numsI_get (k:Int){n i:Nat}(h:i<(Bx k n).length):(Bx k n)[i]=k+(i:Int):=by simp[Bx]
def A7 (k:Int):LL→LL
 |[]=>[]
 |x::xs=>Bx k x.length::A7 (k+x.length) xs
theorem marked_app :∀xs ys k,A7 k (xs++ys)=A7 k xs++A7 (k+tot xs) ys
 |[],ys,k=>by simp[A7,tot]
 |x::xs,ys,k=>by simp only[List.cons_append,A7,marked_app xs ys,tot];rw[show k+(x.length:Int)+tot xs=k+(x.length+tot xs) by omega]
theorem Ck :∀xs k,(A7 k xs).length=xs.length
 |[],_=>rfl
 |x::xs,k=>by simp[A7,Ck xs]
theorem marked_get :∀(xs:LL) (k:Int) (i:Nat) (h:i<xs.length),(A7 k xs)[i]'(by rw[Ck];exact h)=Bx (k+tot (xs.take i)) xs[i].length
 |x::xs,k,0,h=>by simp[A7,tot]
 |x::xs,k,i+1,h=>by
  simp only[A7,List.getElem_cons_succ,List.take_succ_cons,tot]
  rw[marked_get xs (k+x.length) i (by simpa using h)]
  congr 1;omega
theorem markS_eq (xs:LI)(k:Int)(h:Sh xs)(h0:0≤k)(h1:k≤4611686018427387904):D.i xs k=some (k+xs.length,Bx k xs.length):=by
 unfold Sh at h
 unfold D.i
 have e:(Bx k xs.length++xs.drop xs.length)=Bx k xs.length:=by simp
 refine(CT (λi=>(Bx k i++xs.drop i,k+(i:Int),(i:Int))) xs.length (Bx k xs.length,k+(xs.length:Int)) (by simp[Bx]) (λi hi=> ?_) ?_).trans rfl
 ·have hl:(Bx k i++xs.drop i).length=xs.length:=by simp[CC];omega
  have hi':i<(Bx k i++xs.drop i).length:=by omega
  have hset:(Bx k i++xs.drop i).set i (k+i)=Bx k (i+1)++xs.drop (i+1):=by
   rw[List.drop_eq_getElem_cons hi,List.set_append_right _ _ (by rw[CC];omega)]
   simp only[CC,Nat.sub_self,List.set_cons_zero]
   unfold Bx
   rw[List.range_succ,List.map_append];simp
  simp only[dlt hi',cond_true,Ay hi',bs,wq i,Int.toNat_natCast,hset]
  rw[w64 (by omega) (by omega)]
  have:k+(i:Int)+1=k+((i+1:Nat):Int):=by omega
  rw[this]
 ·simp only[e,CC,A9,cond_false]
theorem markSS_eq (xs:LL)(k:Int)(h:Sh2 xs)(h0:0≤k)(h1:k+tot xs≤4611686018427387904):D.C xs k=some (k+tot xs,A7 k xs):=by
 obtain⟨h,h2⟩:=h
 unfold Sh at h
 unfold D.C
 have hml:∀i,i≤xs.length→(A7 k (xs.take i)).length=i:=λi hi=>by rw[Ck,List.length_take];omega
 refine(CT (λi=>(A7 k (xs.take i)++xs.drop i,k+tot (xs.take i),(i:Int))) xs.length (A7 k xs,k+tot xs) (by simp[A7,tot]) (λi hi=> ?_) ?_).trans rfl
 ·have hm:=hml i (by omega)
  have hl:(A7 k (xs.take i)++xs.drop i).length=xs.length:=by simp[hm];omega
  have hi':i<(A7 k (xs.take i)++xs.drop i).length:=by omega
  have hg:(A7 k (xs.take i)++xs.drop i)[i]=xs[i]:=by
   rw[List.getElem_append_right (by omega)]
   simp[hm]
  have ht:=tot_take hi
  have htn:tot (xs.take (i+1))≤tot xs:=by
   have:=DE (xs.take (i+1)) (xs.drop (i+1))
   rw[List.take_append_drop] at this
   have:=BE (xs.drop (i+1));omega
  have htn0:=BE (xs.take i)
  have hset:(A7 k (xs.take i)++xs.drop i).set i (Bx (k+tot (xs.take i)) xs[i].length)=A7 k (xs.take (i+1))++xs.drop (i+1):=by
   have e0:i-(A7 k (xs.take i)).length=0:=by omega
   rw[List.drop_eq_getElem_cons hi,List.set_append_right _ _ (by omega),List.take_succ_eq_append_getElem hi,marked_app,e0,List.set_cons_zero,List.append_assoc]
   rfl
  simp only[dlt hi',cond_true,Ay hi',hg,bs,wq i,Int.toNat_natCast,markS_eq xs[i] (k+tot (xs.take i)) (h2 _ (List.getElem_mem hi)) (by omega) (by omega),hset]
  rw[ht]
  have:k+tot (xs.take i)+(xs[i].length:Int)=k+(tot (xs.take i)+(xs[i].length:Int)):=by omega
  rw[this]
 ·have e:A7 k (xs.take xs.length)++xs.drop xs.length=A7 k xs:=by simp
  simp only[e,Ck,A9,cond_false]
  simp only[List.take_length]
theorem markGraph_eq (xs:LL)(k:Int)(h:Sh2 xs)(h0:0≤k)(h1:k+tot xs≤4611686018427387904):D.Y xs k=some (k+tot xs,A7 k xs):=by
 unfold D.Y;rw[markSS_eq xs k h h0 h1];rfl
theorem heldS_eq (n:Nat)(k:Int)(h:n≤4294967296)(h0:0≤k)(h1:k≤4611686018427387904):D.h (Bx k n) k=some (k+n):=by
 unfold D.h
 rw[CC]
 refine(CT (λi=>(k+(i:Int),(i:Int))) n (.inl (k+(n:Int))) (by simp) (λi hi=> ?_) ?_).trans rfl
 ·have hi':i<(Bx k n).length:=by rw[CC];exact hi
  simp only[dlt hi,cond_true,Ay hi',numsI_get,bs,bne_self_eq_false,cond_false,wq i]
  rw[w64 (by omega) (by omega)]
  have:k+(i:Int)+1=k+((i+1:Nat):Int):=by omega
  rw[this]
 ·simp only[A9,cond_false]
theorem heldSS_eq (xs:LL)(k:Int)(h:Sh2 xs)(h0:0≤k)(h1:k+tot xs≤4611686018427387904):D.F (A7 k xs) k=some (k+tot xs):=by
 obtain⟨h,h2⟩:=h
 unfold Sh at h
 unfold D.F
 rw[Ck]
 refine(CT (λi=>(k+tot (xs.take i),(i:Int))) xs.length (.inl (k+tot xs)) (by simp[tot]) (λi hi=> ?_) ?_).trans rfl
 ·have hi':i<(A7 k xs).length:=by rw[Ck];exact hi
  have ht:=tot_take hi
  have htn:tot (xs.take (i+1))≤tot xs:=by
   have:=DE (xs.take (i+1)) (xs.drop (i+1))
   rw[List.take_append_drop] at this
   have:=BE (xs.drop (i+1));omega
  have htn0:=BE (xs.take i)
  simp only[dlt hi,cond_true,Ay hi',marked_get xs k i hi,bs,heldS_eq xs[i].length (k+tot (xs.take i)) (h2 _ (List.getElem_mem hi)) (by omega) (by omega),wq i]
  have hd:decide (k+tot (xs.take i)+(xs[i].length:Int)<0)=false:=by simp;omega
  simp only[hd,cond_false,ht]
  have:k+tot (xs.take i)+(xs[i].length:Int)=k+(tot (xs.take i)+(xs[i].length:Int)):=by omega
  rw[this]
 ·simp only[A9,cond_false,List.take_length]
structure PK (n:Nat)(o:LI):Prop where
 len:o.length=n
 rng:∀x∈o,0≤x∧x<n
 nd:o.Nodup
def pl (o:LI)(v:Nat):Nat:=o.idxOf (v:Int)
theorem PK.mem {n:Nat}{o:LI}(h:PK n o){v:Nat}(hv:v<n):(v:Int)∈o:=by
 by_cases hc:(v:Int)∈o
 ·exact hc
 ·have:=BB (l:=(v:Int)::o) (m:=(List.range n).map Int.ofNat) (List.nodup_cons.2 ⟨hc,h.nd⟩) (λx hx=>by
   have hx':0≤x∧x<n:=by
    rcases List.mem_cons.1 hx with rfl|hx
    ·omega
    ·exact h.rng x hx
   exact List.mem_map.2 ⟨x.toNat,List.mem_range.2 (by omega),by show ((x.toNat:Nat):Int)=x;omega⟩)
  have hl:=h.len
  simp at this;omega
theorem PK.pl_lt {n:Nat}{o:LI}(h:PK n o){v:Nat}(hv:v<n):pl o v<n:=by
 have:=List.idxOf_lt_length_iff.2 (h.mem hv)
 have hl:=h.len
 unfold pl;omega
theorem PK.pl_get {n:Nat}{o:LI}(h:PK n o){v:Nat}(hv:v<n)(hl:pl o v<o.length):o[pl o v]=(v:Int):=by
 unfold pl;exact List.getElem_idxOf _
theorem PK.pl_of {n:Nat}{o:LI}(h:PK n o){i v:Nat}(hi:i<o.length)(e:o[i]=(v:Int)):pl o v=i:=by
 have hv:v<n:=by have:=h.rng _ (List.getElem_mem hi);omega
 have hl:=h.pl_lt hv
 have h2:=h.pl_get hv (by rw[h.len];exact hl)
 have hl':pl o v<o.length:=by rw[h.len];exact hl
 have hnd:=List.pairwise_iff_getElem.1 h.nd
 rcases Nat.lt_trichotomy (pl o v) i with c|c|c
 ·exact absurd (h2.trans e.symm) (hnd _ _ hl' hi c)
 ·exact c
 ·exact absurd (h2.trans e.symm).symm (hnd _ _ hi hl' c)
theorem PK.at {n:Nat}{o:LI}(h:PK n o){i:Nat}(hi:i<o.length):∃v:Nat,o[i]=(v:Int)∧v<n∧pl o v=i:=by
 have:=h.rng _ (List.getElem_mem hi)
 have e:o[i]=((o[i].toNat:Nat):Int):=by omega
 exact⟨o[i].toNat,e,by omega,h.pl_of hi e⟩
structure Ris (n:Nat)(R:Int→Int→Prop)(rk:Int→Nat):Prop where
 up:∀x y,R x y→rk x<rk y
 lt:∀v:Nat,v<n→rk v<n
 tr:∀x y z,R x y→R y z→R x z
structure Ch (n:Nat)(R:Int→Int→Prop)(v:Int)(l:LI):Prop where
 hd:∃t,l=v::t
 pw:l.Pairwise R
 rng:∀x∈l,0≤x∧x<n
 mx:∀t:LI,(v::t).Pairwise R→(∀x∈t,0≤x∧x<n)→t.length+1≤l.length
theorem Ris.nodup {n:Nat}{R:Int→Int→Prop}{rk:Int→Nat}(h:Ris n R rk){l:LI}(hp:l.Pairwise R):l.Nodup:=
 List.Pairwise.imp (fun{x y} hxy e=>by subst e;have:=h.up x x hxy;omega) hp
theorem rng_len {n:Nat}{l:LI}(hd:l.Nodup)(hr:∀x∈l,0≤x∧x<n):l.length≤n:=by
 have:=BB (m:=(List.range n).map Int.ofNat) hd (λx hx=>by
  have:=hr x hx
  exact List.mem_map.2 ⟨x.toNat,List.mem_range.2 (by omega),by show ((x.toNat:Nat):Int)=x;omega⟩)
 simpa using this
theorem Ch.len {n:Nat}{R:Int→Int→Prop}{rk:Int→Nat}(h:Ris n R rk){v:Int}{l:LI}(hc:Ch n R v l):l.length≤n:=rng_len (h.nodup hc.pw) hc.rng
def Mon (ks ks':List (Option LI)):Prop:=∀(v:Nat) (l:LI),ks[v]? =some (some l)→ks'[v]? =some (some l)
theorem Mon.refl (ks:List (Option LI)):Mon ks ks:=λ_ _ h=>h
structure CL (g:LL)(x:LI):Prop where
 nd:x.Nodup
 rng:∀z∈x,0≤z∧z<g.length
 cq:∀u w:Nat,(u:Int)∈x→(w:Int)∈x→u≠w→adj g u w
def Cn (ad:Nat→Nat→Prop)(S:Nat→Prop)(x y:Nat):Prop:=∀T:Nat→Prop,T x→(∀a b,T a→ad a b→S b→T b)→T y
section
variable {ad : Nat → Nat → Prop} {S S' : Nat → Prop} {x y z : Nat}
theorem Cn.refl :Cn ad S x x:=λ_ h _=>h
theorem Cn.step (h:Cn ad S x y)(ha:ad y z)(hz:S z):Cn ad S x z:=λT h1 h2=>h2 _ _ (h T h1 h2) ha hz
theorem Cn.trans (h:Cn ad S x y)(h':Cn ad S y z):Cn ad S x z:=λT h1 h2=>h' T (h T h1 h2) h2
theorem Cn.mono (hs:∀w,S w→S' w)(h:Cn ad S x y):Cn ad S' x y:=λT h1 h2=>h T h1 (λa b p q r=>h2 a b p q (hs _ r))
theorem Cn.mem (h:Cn ad S x y)(hx:S x):S y:=h S hx (λ_ _ _ _ h=>h)
theorem Cn.sym (hs:∀a b,ad a b→ad b a)(hx:S x)(h:Cn ad S x y):Cn ad S y x:=(h (λw=>S w∧Cn ad S w x) ⟨hx,Cn.refl⟩ (λa b ⟨p1,p2⟩ q r=>⟨r,(Cn.refl.step (hs _ _ q) p1).trans p2⟩)).2
end
def BV (ad:Nat→Nat→Prop)(S:Nat→Prop):Prop:=∀x y,S x→S y→Cn ad S x y
abbrev Ad (F:LI)(a b:Nat):Prop:=nb F a b=true
abbrev El (s:Int)(x:Nat):Prop:=has s x=true
abbrev Mn (s:Int)(v x:Nat):Prop:=has s x=true∧x≠v
structure Parts (F:LI)(W:Nat→Prop)(l:LI):Prop where
 vs:∀s∈l,VS s
 ne:∀s∈l,∃v,El s v
 sub:∀s∈l,∀x,El s x→W x
 cn:∀s∈l,∀x y,El s x→(El s y↔Cn (Ad F) W x y)
 all:∀x,W x→∃s∈l,El s x
 dis:l.Pairwise λs t=>∀x,¬(El s x∧El t x)
theorem Parts.conn {F:LI}{W:Nat→Prop}{l:LI}(h:Parts F W l):l.length≤1↔BV (Ad F) W:=by
 constructor
 ·intro hl x y hx hy
  obtain⟨s,hs,h1⟩:=h.all x hx
  obtain⟨t,ht,h2⟩:=h.all y hy
  obtain⟨i,hi,rfl⟩:=List.getElem_of_mem hs
  obtain⟨j,hj,rfl⟩:=List.getElem_of_mem ht
  obtain rfl:i=j:=by omega
  exact(h.cn _ hs x y h1).1 h2
 ·intro hc
  apply Classical.byContradiction
  intro hl
  have h0:0<l.length:=by omega
  have h1:1<l.length:=by omega
  obtain⟨x,hx⟩:=h.ne _ (List.getElem_mem h0)
  obtain⟨y,hy⟩:=h.ne _ (List.getElem_mem h1)
  have hcn:=hc x y (h.sub _ (List.getElem_mem h0) x hx) (h.sub _ (List.getElem_mem h1) y hy)
  have:=(h.cn _ (List.getElem_mem h0) x y hx).2 hcn
  exact(List.pairwise_iff_getElem.1 h.dis) 0 1 h0 h1 (by omega) y ⟨this,hy⟩
section
variable {F : LI} {n : Nat} (hn : n ≤ 16) (hF : FOk F n)
include hn hF
theorem rch_cn {W:Int}{v:Nat}{S:Int}(hR:Rch F W v S)(x:Nat):El S x↔Cn (Ad F) (El W) v x:=
 ⟨λh=>hR.least (λx=>Cn (Ad F) (El W) v x) Cn.refl (λ_ _ p q r=>p.step q r) x h,λh=>h (El S) hR.me (λa b p q r=>hR.step a b p q r)⟩
theorem cn_sym {W:Nat→Prop}(hW:∀x,W x→x<n){x y:Nat}(hx:W x)(h:Cn (Ad F) W x y):Cn (Ad F) W y x:=
 (h (λw=>W w∧Cn (Ad F) W w x) ⟨hx,Cn.refl⟩ (λa b ⟨p1,p2⟩ q r=>⟨r,(Cn.refl.step (hF.sym a b (hW a p1) q) p1).trans p2⟩)).2
theorem CP {W:Int}(hW:In n W):∃l,D.r F W=some l∧Parts F (El W) l∧l.length≤16:=by
 have main:=AK (k:=λl=>some l) (Q:=λl=>Parts F (El W) l∧l.length≤16) (step:=fun(s_66:Int×LI)=>match s_66 with|(x_69,l_70)=>cond (x_69 !=0) ((D.q x_69).bind λy_109=>(D.O F y_109 x_69).bind λy_116=>(AG l_70 ([y_116]:LI)).bind λl_127=>some (.inl ((iandNot .u32 x_69 y_116),l_127))) (some (.inr l_70)))
  (s:=(W,([]:LI))) (λq=>VS q.1∧(∀x,El q.1 x→El W x)∧(∀s∈q.2,VS s)∧(∀s∈q.2,∃v,El s v)∧(∀s∈q.2,∀x,El s x→El W x)∧(∀s∈q.2,∀x y,El s x→(El s y↔Cn (Ad F) (El W) x y))∧(∀x,El W x→El q.1 x∨∃s∈q.2,El s x)∧(∀x,El q.1 x→∀s∈q.2,¬El s x)∧(q.2.Pairwise λs t=>∀x,¬(El s x∧El t x))∧q.2.length+(Ao q.1).length≤16)
  (λq=>(Ao q.1).length) (λl=>Parts F (El W) l∧l.length≤16) ?_ ⟨hW.1,λx h=>h,by simp,by simp,by simp,by simp,λx h=> .inl h,by simp,by simp,?_⟩ (λr hr=>⟨r,rfl,hr⟩)
 ·obtain⟨l,e,hl⟩:=main
  refine⟨l,?_,hl⟩
  unfold D.r
  exact e
 ·rintro⟨W',l⟩ ⟨v1,h1,h2,h3,h4,h5,h6,h7,h8,h9⟩
  dsimp only at v1 h1 h2 h3 h4 h5 h6 h7 h8 h9 ⊢
  by_cases h0:W'=0
  ·have:(W' !=0)=false:=by simp[h0]
   rw[this,cond_false]
   refine⟨_,rfl,⟨h2,h3,h4,h5,λx hx=> ?_,h8⟩,by omega⟩
   rcases h6 x hx with h|h
   ·rw[h0] at h;simp[El,B4] at h
   ·exact h
  ·have:(W' !=0)=true:=by simpa using h0
   rw[this,cond_true]
   obtain⟨k,hk32,ek,hk,_,_⟩:=least_eq v1 h0
   have hkn:=hW.2 k (h1 k hk)
   obtain⟨S,eS,hR,hSn⟩:=reach_ok hn hF.net hkn v1
   have hlen:=Bc W'
   rw[ek,bs,eS,bs,Bg (by simp;omega),bs]
   have hSW:∀x,El S x→El W' x:=λx hx=>((rch_cn hn hF hR x).1 hx).mem hk
   have hS':∀x,El (iandNot .u32 W' S) x↔El W' x∧¬El S x:=λx=>by
    unfold El
    rw[Ca v1 hR.vs];simp
   have hWn:∀x,El W x→x<n:=λx hx=>hW.2 x hx
   have hW'n:∀x,El W' x→x<n:=λx hx=>hW.2 x (h1 x hx)
   refine⟨_,rfl,⟨VS.iandNot _ _,λx hx=>h1 x ((hS' x).1 hx).1,?_,?_,?_,?_,λx hx=> ?_,λx hx s hs=> ?_,?_,?_⟩,?_⟩
   ·intro s hs
    rcases List.mem_append.1 hs with h|h
    ·exact h2 s h
    ·simp at h;subst h;exact hR.vs
   ·intro s hs
    rcases List.mem_append.1 hs with h|h
    ·exact h3 s h
    ·simp at h;subst h;exact⟨k,hR.me⟩
   ·intro s hs x hx
    rcases List.mem_append.1 hs with h|h
    ·exact h4 s h x hx
    ·simp at h;subst h;exact h1 x (hSW x hx)
   ·intro s hs x y hx
    rcases List.mem_append.1 hs with h|h
    ·exact h5 s h x y hx
    ·simp at h;subst h
     constructor
     ·intro hy
      have c1:=cn_sym hn hF hW'n hk ((rch_cn hn hF hR x).1 hx)
      exact(c1.trans ((rch_cn hn hF hR y).1 hy)).mono h1
     ·intro hc
      refine hc (El s) hx (λa b ha hab hb=> ?_)
      have haW:=hSW a ha
      rcases h6 b hb with h|⟨t,ht,hbt⟩
      ·exact hR.step a b ha hab h
      ·exfalso
       have:El t a:=(h5 t ht b a hbt).2 (Cn.refl.step (hF.sym a b (hW'n a haW) hab) (h1 a haW))
       exact h7 a haW t ht this
   ·by_cases hxS:El S x
    ·exact .inr ⟨S,by simp,hxS⟩
    ·rcases h6 x hx with h|⟨s,hs,h⟩
     ·exact .inl ((hS' x).2 ⟨h,hxS⟩)
     ·exact .inr ⟨s,by simp[hs],h⟩
   ·obtain⟨p,q⟩:=(hS' x).1 hx
    rcases List.mem_append.1 hs with h|h
    ·exact h7 x p s h
    ·simp at h;subst h;exact q
   ·rw[List.pairwise_append]
    refine⟨h8,by simp,λs hs t ht x ⟨p,q⟩=> ?_⟩
    simp at ht;subst ht
    exact h7 x (hSW x q) s hs p
   ·dsimp only
    have hlt:(Ao (iandNot .u32 W' S)).length+1≤(Ao W').length:=by
     have:=BB (l:=(k:Int)::Ao (iandNot .u32 W' S)) (m:=Ao W') (List.nodup_cons.2 ⟨λhx=> ?_,List.Pairwise.imp (λh e=>by omega) (Bz _)⟩) (λx hx=> ?_)
     ·simpa using this
     ·exact((hS' k).1 ((AQ (VS.iandNot _ _)).1 hx)).2 hR.me
     ·rcases List.mem_cons.1 hx with rfl|hx
      ·exact(AQ v1).2 hk
      ·obtain⟨w,hw,q,rfl⟩:=mem_elems.1 hx
       exact(AQ v1).2 ((hS' w).1 q).1
    simp;omega
   ·dsimp only
    have:=BB (l:=(k:Int)::Ao (iandNot .u32 W' S)) (m:=Ao W') (List.nodup_cons.2 ⟨λhx=> ?_,List.Pairwise.imp (λh e=>by omega) (Bz _)⟩) (λx hx=> ?_)
    ·simp at this;omega
    ·exact((hS' k).1 ((AQ (VS.iandNot _ _)).1 hx)).2 hR.me
    ·rcases List.mem_cons.1 hx with rfl|hx
     ·exact(AQ v1).2 hk
     ·obtain⟨w,hw,q,rfl⟩:=mem_elems.1 hx
      exact(AQ v1).2 ((hS' w).1 q).1
 ·have:=inc_len (n:=n) (Bz W) (λz hz=>by
   obtain⟨w,_,q,rfl⟩:=mem_elems.1 hz
   have:=hW.2 w q;omega)
  simp;omega
theorem cutVertices_ok {T:Int}(hT:In n T)(hne:∃v,El T v)(hc:BV (Ad F) (El T)):∃c,D.c0 F T=some c∧VS c∧∀v,El c v↔El T v∧¬BV (Ad F) (Mn T v):=by
 obtain⟨l0,e0,hP0,_⟩:=CP hn hF hT
 have hl0:l0.length=1:=by
  have h1:=hP0.conn.2 hc
  obtain⟨v,hv⟩:=hne
  obtain⟨s,hs,_⟩:=hP0.all v hv
  have:=List.length_pos_of_mem hs
  omega
 unfold D.c0
 rw[e0,bs,Dg T hT.1,bs,hl0]
 have hel:∀i (hi:i<(Ao T).length),∃v:Nat,(Ao T)[i]=(v:Int)∧v<32∧El T v:=λi hi=>by
  obtain⟨v,h1,h2,h3⟩:=mem_elems.1 (List.getElem_mem hi)
  exact⟨v,h3,h1,h2⟩
 have hlen:=Bc T
 refine AK (λq=>∃i:Nat,q.2=(i:Int)∧i≤(Ao T).length∧VS q.1∧∀v,El q.1 v↔(v:Int)∈(Ao T).take i∧¬BV (Ad F) (Mn T v)) (λq=>(Ao T).length-q.2.toNat) (λc=>VS c∧∀v,El c v↔El T v∧¬BV (Ad F) (Mn T v)) ?_ ⟨0,rfl,by omega,VS.zero,λv=>by simp[El,B4]⟩ (λr hr=>⟨r,rfl,hr⟩)
 rintro⟨c,_⟩ ⟨i,rfl,hi,vc,hcv⟩
 dsimp only at vc hcv ⊢
 by_cases hil:i<(Ao T).length
 ·obtain⟨v,ev,hv32,hv⟩:=hel i hil
  have hone:=BY hv32
  have hW:In n (iandNot .u32 T (ishl .u32 1 (v:Int))):=⟨VS.iandNot _ _,λw hw=>by
   rw[Ca hT.1 (VS.ishl _ _),Bool.and_eq_true] at hw
   exact hT.2 w hw.1⟩
  obtain⟨l,e,hP,hl16⟩:=CP hn hF hW
  have hWe:El (iandNot .u32 T (ishl .u32 1 (v:Int)))=Mn T v:=by
   funext w
   unfold El Mn
   rw[Ca hT.1 (VS.ishl _ _),hone]
   simp
  rw[hWe] at hP
  have hdec:decide (((1:Nat):Int)<(l.length:Int))= !decide (l.length≤1):=by
   by_cases h:l.length≤1
   ·have h1:¬(((1:Nat):Int)<(l.length:Int)):=by omega
    simp[h];omega
   ·have h1:(((1:Nat):Int)<(l.length:Int)):=by omega
    simp[h];omega
  simp only[dlt hil,cond_true,Ay hil,ev,bs,CM,e,hdec,wq i]
  have hnd:(v:Int)∉(Ao T).take i:=λhmem=>by
   obtain⟨j,hj,ej⟩:=List.mem_take_iff_getElem.1 hmem
   have hinc:=Bz T
   unfold Inc at hinc
   rw[List.pairwise_iff_getElem] at hinc
   have:=hinc j i (by omega) hil (by omega)
   omega
  by_cases hle:l.length≤1
  ·have hcn:=hP.conn.1 hle
   simp only[hle,decide_true,Bool.not_true,cond_false]
   refine⟨_,rfl,⟨i+1,rfl,by omega,vc,λw=> ?_⟩,by simp;omega⟩
   dsimp only
   rw[hcv w,List.take_succ_eq_append_getElem hil,List.mem_append,ev]
   constructor
   ·rintro⟨p,q⟩;exact⟨.inl p,q⟩
   ·rintro⟨p|p,q⟩
    ·exact⟨p,q⟩
    ·simp at p
     obtain rfl:w=v:=by omega
     exact absurd hcn q
  ·have hcn:¬BV (Ad F) (Mn T v):=λh=>hle (hP.conn.2 h)
   simp only[hle,decide_false,Bool.not_false,cond_true]
   refine⟨_,rfl,⟨i+1,rfl,by omega,VS.ior _ _,λw=> ?_⟩,by simp;omega⟩
   dsimp only
   unfold El
   rw[Cz vc (VS.ishl _ _),hone,Bool.or_eq_true,decide_eq_true_eq,List.take_succ_eq_append_getElem hil,List.mem_append,ev]
   have:=hcv w
   unfold El at this
   rw[this]
   constructor
   ·rintro(⟨p,q⟩|rfl)
    ·exact⟨.inl p,q⟩
    ·exact⟨.inr (by simp),hcn⟩
   ·rintro⟨p|p,q⟩
    ·exact .inl ⟨p,q⟩
    ·simp at p
     exact .inr (by omega)
 ·obtain rfl:i=(Ao T).length:=by omega
  simp only[A9,cond_false]
  refine⟨_,rfl,vc,λv=> ?_⟩
  rw[hcv v,List.take_length,AQ hT.1]
end
end Go.Sx

namespace Go.Sx
abbrev Vx (n at' x:Nat):Prop:=x<n∧x≠at'
def PP (F:LI)(n:Nat)(S:Nat→Prop):Prop:=∀c x,S c→S x→x≠c→(∀w,Ad F c w→Cn (Ad F) (Vx n c) x w→S w)∧∀y,S y→y≠c→Cn (Ad F) (Vx n c) x y→Cn (Ad F) (λz=>S z∧z≠c) x y
structure Leaf (F:LI)(n:Nat)(S:Int):Prop where
 i:In n S
 ne:∃v,El S v
 j:BV (Ad F) (El S)
 cut:∀v,El S v→BV (Ad F) (Mn S v)
 p:PP F n (El S)
def Two (S:Int):Prop:=∃x y,El S x∧El S y∧x≠y
section
variable {F : LI} {n : Nat} (hn : n ≤ 16) (hF : FOk F n)
include hn hF
structure Side (F:LI)(n:Nat)(T Q:Nat→Prop)(v:Nat):Prop where
 tn:∀x,T x→x<n
 me:T v
 sub:∀x,Q x→T x∧x≠v
 cn:∀x y,Q x→(Q y↔Cn (Ad F) (λz=>T z∧z≠v) x y)
 ne:∃x,Q x
omit hn in
theorem Side.nb {T Q:Nat→Prop}{v:Nat}(h:Side F n T Q v){a b:Nat}(ha:Q a)(hb:T b)(hbv:b≠v)(hab:Ad F a b):Q b:=(h.cn a b ha).2 (Cn.refl.step hab ⟨hb,hbv⟩)
omit hn in
theorem Side.part {T Q:Nat→Prop}{v:Nat}(h:Side F n T Q v):BV (Ad F) Q:=λx y hx hy=>
 ((h.cn x y hx).1 hy (λz=>Q z∧Cn (Ad F) Q x z) ⟨hx,Cn.refl⟩ (λa b ⟨p,q⟩ hab ⟨hb,hbv⟩=>by
  have:=h.nb hF p hb hbv hab
  exact⟨this,q.step hab this⟩)).2
omit hn in
theorem Side.near {T Q:Nat→Prop}{v:Nat}(h:Side F n T Q v)(hT:BV (Ad F) T):∃a,Q a∧Ad F a v:=by
 apply Classical.byContradiction
 intro hno
 obtain⟨x,hx⟩:=h.ne
 have:=hT x v (h.sub x hx).1 h.me Q hx (λa b ha hab hb=>by
  by_cases hbv:b=v
  ·subst hbv;exact absurd ⟨a,ha,hab⟩ hno
  ·exact h.nb hF ha hb hbv hab)
 exact(h.sub v this).2 rfl
abbrev Wth (Q:Nat→Prop)(v x:Nat):Prop:=Q x∨x=v
omit hn in
theorem Side.joint {T Q:Nat→Prop}{v:Nat}(h:Side F n T Q v)(hT:BV (Ad F) T):BV (Ad F) (Wth Q v):=by
 obtain⟨a,ha,hav⟩:=h.near hF hT
 have hlt:∀x,Wth Q v x→x<n:=λx hx=>hx.elim (λq=>h.tn x (h.sub x q).1) (λe=>by rw[e];exact h.tn v h.me)
 have hub:∀x,Wth Q v x→Cn (Ad F) (Wth Q v) x v:=λx hx=>by
  rcases hx with hx|rfl
  ·exact((h.part hF x a hx ha).mono (λw hw=> .inl hw)).step hav (.inr rfl)
  ·exact Cn.refl
 intro x y hx hy
 have hs:=hub y hy
 have hsym:Cn (Ad F) (Wth Q v) v y:=(hs (λw=>Wth Q v w∧Cn (Ad F) (Wth Q v) w y) ⟨hy,Cn.refl⟩ (λa b ⟨p1,p2⟩ q r=>⟨r,(Cn.refl.step (hF.sym a b (hlt a p1) q) p1).trans p2⟩)).2
 exact(hub x hx).trans hsym
omit hn in
theorem Side.pp {T Q:Nat→Prop}{v:Nat}(h:Side F n T Q v)(hP:PP F n T):PP F n (Wth Q v):=by
 have hsub:∀x,Wth Q v x→T x:=λx hx=>hx.elim (λq=>(h.sub x q).1) (λe=>by rw[e];exact h.me)
 intro c x hc hx hxc
 obtain⟨p1,p2⟩:=hP c x (hsub c hc) (hsub x hx) hxc
 by_cases hcv:c=v
 ·subst hcv
  have hxQ:Q x:=hx.elim id (λe=>absurd e hxc)
  refine⟨λw hw hcn=> ?_,λy hy hyc hcn=> ?_⟩
  ·have hwT:=p1 w hw hcn
   have hwc:w≠c:=λe=>by
    subst e
    have:=hF.irr w (h.tn w h.me)
    unfold Ad at hw
    rw[this] at hw;cases hw
   exact .inl ((h.cn x w hxQ).2 (p2 w hwT hwc hcn))
  ·have hyQ:Q y:=hy.elim id (λe=>absurd e hyc)
   exact(h.part hF x y hxQ hyQ).mono (λw hw=>⟨.inl hw,(h.sub w hw).2⟩)
 ·have hcQ:Q c:=hc.elim id (λe=>absurd e hcv)
  refine⟨λw hw hcn=> ?_,λy hy hyc hcn=> ?_⟩
  ·have hwT:=p1 w hw hcn
   by_cases hwv:w=v
   ·exact .inr hwv
   ·exact .inl (h.nb hF hcQ hwT hwv hw)
  ·have hE:=p2 y (hsub y hy) hyc hcn (λz=>(Wth Q v z∧z≠c∧Cn (Ad F) (λz=>Wth Q v z∧z≠c) x z)∨(T z∧¬Wth Q v z∧Cn (Ad F) (λz=>Wth Q v z∧z≠c) x v)) (.inl ⟨hx,hxc,Cn.refl⟩) (λa b ha hab ⟨hb,hbc⟩=>by
    rcases ha with⟨a1,a2,a3⟩|⟨a1,a2,a3⟩
    ·by_cases hbW:Wth Q v b
     ·exact .inl ⟨hbW,hbc,a3.step hab ⟨hbW,hbc⟩⟩
     ·right
      refine⟨hb,hbW,?_⟩
      rcases a1 with a1|rfl
      ·exact absurd (.inl (h.nb hF a1 hb (λe=>hbW (.inr e)) hab)) hbW
      ·exact a3
    ·by_cases hbW:Wth Q v b
     ·left
      rcases hbW with hbQ|rfl
      ·exfalso
       apply a2
       exact .inl (h.nb hF hbQ a1 (λe=>a2 (.inr e)) (hF.sym a b (h.tn a a1) hab))
      ·exact⟨.inr rfl,hbc,a3⟩
     ·exact .inr ⟨hb,hbW,a3⟩)
   rcases hE with⟨_,_,h3⟩|⟨_,h2,_⟩
   ·exact h3
   ·exact absurd hy h2
def Apart (out:LI)(T:Int):Prop:=(∀S∈out,∀x y,El S x→El T x→El S y→El T y→x=y)∧T∉out
structure Blk (F:LI)(n:Nat)(T:Int)(L:LI):Prop where
 lf:∀S∈L,Leaf F n S∧∀x,El S x→El T x
 two:Two T→∀S∈L,Two S
 edge:∀u w,El T u→El T w→Ad F u w→∃S∈L,El S u∧El S w
 one:¬Two T→L=[T]
theorem addBlocks_ok :∀(fuel:Nat) (T:Int) (out:LI),(Ao T).length<fuel→In n T→(∃v,El T v)→BV (Ad F) (El T)→PP F n (El T)→out.Nodup→(∀S∈out,In n S)→Apart out T→
  ∃L,D.t fuel F T out=some (out++L)∧(out++L).Nodup∧Blk F n T L:=by
 intro fuel
 induction fuel with
 |zero=>intro T out h;omega
 |succ fuel ih=>
  intro T out hf hT hne hJ hP hnd hin hap
  obtain⟨c,ec,vc,hcv⟩:=cutVertices_ok hn hF hT hne hJ
  have hout:=CD hn hin hnd
  unfold D.t
  rw[ec,bs]
  by_cases hc0:c=0
  ·have:(c==0)=true:=by simpa using hc0
   rw[this,cond_true,Bg (by simp;omega),bs]
   have hcut:∀v,El T v→BV (Ad F) (Mn T v):=λv hv=>by
    apply Classical.byContradiction
    intro h
    have:=(hcv v).2 ⟨hv,h⟩
    rw[hc0] at this;simp[El,B4] at this
   refine⟨[T],rfl,?_,⟨λS hS=> ?_,λh2 S hS=> ?_,λu w hu hw _=>⟨T,by simp,hu,hw⟩,λ_=>rfl⟩⟩
   ·rw[List.nodup_append]
    refine⟨hnd,by simp,λa ha b hb e=> ?_⟩
    simp at hb;subst hb;subst e
    exact hap.2 ha
   ·simp at hS;subst hS
    exact⟨⟨hT,hne,hJ,hcut,hP⟩,λx h=>h⟩
   ·simp at hS;subst hS;exact h2
  ·have:(c==0)=false:=by simpa using hc0
   rw[this,cond_false]
   obtain⟨v,hv32,ev,hv,_,_⟩:=least_eq vc hc0
   obtain⟨hvT,hnJ⟩:=(hcv v).1 hv
   have hone:=BY hv32
   have hW:In n (iandNot .u32 T (ishl .u32 1 (v:Int))):=⟨VS.iandNot _ _,λw hw=>by
    rw[Ca hT.1 (VS.ishl _ _),Bool.and_eq_true] at hw
    exact hT.2 w hw.1⟩
   have hWe:El (iandNot .u32 T (ishl .u32 1 (v:Int)))=Mn T v:=by
    funext w
    unfold El Mn
    rw[Ca hT.1 (VS.ishl _ _),hone]
    simp
   obtain⟨l,el,hl,hl16⟩:=CP hn hF hW
   rw[hWe] at hl
   have hl2:¬l.length≤1:=λh=>hnJ (hl.conn.1 h)
   have hTwo:Two T:=by
    obtain⟨x,hx⟩:=hl.ne _ (List.getElem_mem (show 0<l.length by omega))
    have:=hl.sub _ (List.getElem_mem (show 0<l.length by omega)) x hx
    exact⟨x,v,this.1,hvT,this.2⟩
   rw[ev,bs,CM,bs,el,bs]
   have hside:∀i (hi:i<l.length),Side F n (El T) (El l[i]) v:=λi hi=>⟨λx hx=>hT.2 x hx,hvT,hl.sub _ (List.getElem_mem hi),hl.cn _ (List.getElem_mem hi),hl.ne _ (List.getElem_mem hi)⟩
   have hor:∀i (hi:i<l.length),El (ior .u32 l[i] (ishl .u32 1 (v:Int)))=Wth (El l[i]) v:=λi hi=>by
    funext w
    unfold El Wth
    rw[Cz (hl.vs _ (List.getElem_mem hi)) (VS.ishl _ _),hone]
    simp
   have hdis:∀i j (hi:i<l.length) (hj:j<l.length),i≠j→∀x,¬(El l[i] x∧El l[j] x):=λi j hi hj hij x ⟨p,q⟩=>by
    have hp:=List.pairwise_iff_getElem.1 hl.dis
    rcases Nat.lt_or_gt_of_ne hij with h|h
    ·exact hp i j hi hj h x ⟨p,q⟩
    ·exact hp j i hj hi h x ⟨q,p⟩
   have main:=AK (k:=λo=>some o) (Q:=λo=>∃L,o=out++L∧(out++L).Nodup∧Blk F n T L) (step:=fun(s_91:LI×Int)=>match s_91 with|(l_94,x_99)=>cond (decide (x_99<(l.length:Int))) ((idx l x_99).bind λe_127=>(D.t fuel F (ior .u32 e_127 (ishl .u32 1 (v:Int))) l_94).bind λy_133=>some (.inl (y_133,(IntKind.i64.wrap (x_99+1))))) (some (.inr l_94)))
    (s:=(out,0)) (λq=>∃(i:Nat) (L:LI),q.2=(i:Int)∧i≤l.length∧q.1=out++L∧(out++L).Nodup∧(∀S∈L,Leaf F n S∧Two S∧∃j,∃hj:j<l.length,j<i∧∀x,El S x→Wth (El l[j]) v x)∧(∀j (hj:j<l.length),j<i→∀x y,Wth (El l[j]) v x→Wth (El l[j]) v y→Ad F x y→∃S∈L,El S x∧El S y))
    (λq=>l.length-q.2.toNat) (λo=>∃L,o=out++L∧(out++L).Nodup∧Blk F n T L) ?_ ⟨0,[],rfl,by omega,by simp,by simpa using hnd,by simp,λj _ h=>by omega⟩ (λr hr=>⟨r,rfl,hr⟩)
   ·obtain⟨o,e,L,rfl,h1,h2⟩:=main
    exact⟨L,e,h1,h2⟩
   ·rintro⟨_,_⟩ ⟨i,L,rfl,hi,rfl,hndL,hLf,hed⟩
    dsimp only
    by_cases hil:i<l.length
    ·simp only[dlt hil,cond_true,Ay hil,bs,wq i]
     have hs:=hside i hil
     have hEl:=hor i hil
     obtain⟨x0,hx0⟩:=hs.ne
     have hx0v:=(hs.sub x0 hx0).2
     have hin':In n (ior .u32 l[i] (ishl .u32 1 (v:Int))):=⟨VS.ior _ _,λw hw=>by
      have:Wth (El l[i]) v w:=by rw[←hEl];exact hw
      rcases this with h|rfl
      ·exact hT.2 w (hs.sub w h).1
      ·exact hT.2 w hvT⟩
     have hsubT:∀w,Wth (El l[i]) v w→El T w:=λw hw=>hw.elim (λh=>(hs.sub w h).1) (λe=>by rw[e];exact hvT)
     have hcard:(Ao (ior .u32 l[i] (ishl .u32 1 (v:Int)))).length<fuel:=by
      obtain⟨j,hj,hji⟩:∃j,j<l.length∧j≠i:=by
       by_cases h0:i=0
       ·exact⟨1,by omega,by omega⟩
       ·exact⟨0,by omega,by omega⟩
      obtain⟨y,hy⟩:=hl.ne _ (List.getElem_mem hj)
      have hyT:=(hl.sub _ (List.getElem_mem hj) y hy)
      have:=BB (l:=(y:Int)::Ao (ior .u32 l[i] (ishl .u32 1 (v:Int)))) (m:=Ao T) (List.nodup_cons.2 ⟨λhx=>by
       have h1:El (ior .u32 l[i] (ishl .u32 1 (v:Int))) y:=(AQ (VS.ior _ _)).1 hx
       rw[hEl] at h1
       rcases h1 with h|h
       ·exact hdis i j hil hj (λe=>hji e.symm) y ⟨h,hy⟩
       ·exact hyT.2 h,List.Pairwise.imp (λh e=>by omega) (Bz _)⟩) (λx hx=>by
       rcases List.mem_cons.1 hx with rfl|hx
       ·exact(AQ hT.1).2 hyT.1
       ·obtain⟨w,_,q,rfl⟩:=mem_elems.1 hx
        have h1:Wth (El l[i]) v w:=by rw[←hEl];exact q
        exact(AQ hT.1).2 (hsubT w h1))
      simp at this;omega
     have hap':Apart (out++L) (ior .u32 l[i] (ishl .u32 1 (v:Int))):=by
      have h1:∀S∈out++L,∀x y,El S x→Wth (El l[i]) v x→El S y→Wth (El l[i]) v y→x=y:=λS hS x y a1 a2 a3 a4=>by
       rcases List.mem_append.1 hS with h|h
       ·exact hap.1 S h x y a1 (hsubT x a2) a3 (hsubT y a4)
       ·obtain⟨_,_,j,hj,hji,hsub⟩:=hLf S h
        have key:∀z,El S z→Wth (El l[i]) v z→z=v:=λz b1 b2=>by
         rcases b2 with b2|b2
         ·rcases hsub z b1 with b3|b3
          ·exact absurd ⟨b2,b3⟩ (hdis i j hil hj (by omega) z)
          ·exact b3
         ·exact b2
        rw[key x a1 a2,key y a3 a4]
      refine⟨λS hS x y a1 a2 a3 a4=>h1 S hS x y a1 (by rw[←hEl];exact a2) a3 (by rw[←hEl];exact a4),λhm=> ?_⟩
      have ex:El (ior .u32 l[i] (ishl .u32 1 (v:Int))) x0:=by rw[hEl];exact .inl hx0
      have ev':El (ior .u32 l[i] (ishl .u32 1 (v:Int))) v:=by rw[hEl];exact .inr rfl
      exact hx0v (h1 _ hm x0 v ex (.inl hx0) ev' (.inr rfl))
     obtain⟨L',eL,hnd',hB⟩:=ih (ior .u32 l[i] (ishl .u32 1 (v:Int))) (out++L) hcard hin' ⟨v,by rw[hEl];exact .inr rfl⟩ (by rw[hEl];exact hs.joint hF hJ) (by rw[hEl];exact hs.pp hF hP) hndL (λS hS=>by
      rcases List.mem_append.1 hS with h|h
      ·exact hin S h
      ·exact(hLf S h).1.i) hap'
     have hTw:Two (ior .u32 l[i] (ishl .u32 1 (v:Int))):=⟨x0,v,by rw[hEl];exact .inl hx0,by rw[hEl];exact .inr rfl,hx0v⟩
     rw[eL,bs]
     refine⟨_,rfl,⟨i+1,L++L',rfl,by omega,by rw[List.append_assoc],by rw[←List.append_assoc];exact hnd',λS hS=> ?_,λj hj hji x y hx hy hxy=> ?_⟩,by simp;omega⟩
     ·rcases List.mem_append.1 hS with h|h
      ·obtain⟨a1,a2,j,hj,a3,a4⟩:=hLf S h
       exact⟨a1,a2,j,hj,by omega,a4⟩
      ·refine⟨(hB.lf S h).1,hB.two hTw S h,i,hil,by omega,λx hx=> ?_⟩
       rw[←hEl];exact(hB.lf S h).2 x hx
     ·by_cases hjl:j<i
      ·obtain⟨S,hS,a⟩:=hed j hj hjl x y hx hy hxy
       exact⟨S,by simp[hS],a⟩
      ·obtain rfl:j=i:=by omega
       rw[←hEl] at hx hy
       obtain⟨S,hS,a⟩:=hB.edge x y hx hy hxy
       exact⟨S,by simp[hS],a⟩
    ·obtain rfl:i=l.length:=by omega
     simp only[A9,cond_false]
     refine⟨_,rfl,L,rfl,hndL,⟨λS hS=> ?_,λ_ S hS=>(hLf S hS).2.1,λu w hu hw huw=> ?_,λh=>absurd hTwo h⟩⟩
     ·obtain⟨a1,_,j,hj,_,a4⟩:=hLf S hS
      refine⟨a1,λx hx=> ?_⟩
      rcases a4 x hx with h|h
      ·exact(hl.sub _ (List.getElem_mem hj) x h).1
      ·rw[h];exact hvT
     ·
      have huw':u≠w:=λe=>by
       subst e
       have:=hF.irr u (hT.2 u hu)
       unfold Ad at huw
       rw[this] at huw;cases huw
      have key:∀x y,El T x→El T y→Ad F x y→x≠v→∃j,∃hj:j<l.length,Wth (El l[j]) v x∧Wth (El l[j]) v y:=λx y hx hy hxy hxv=>by
       obtain⟨s,hs,hxs⟩:=hl.all x ⟨hx,hxv⟩
       obtain⟨j,hj,rfl⟩:=List.getElem_of_mem hs
       refine⟨j,hj,.inl hxs,?_⟩
       by_cases hyv:y=v
       ·exact .inr hyv
       ·exact .inl ((hside j hj).nb hF hxs hy hyv hxy)
      by_cases huv:u=v
      ·have hwv:w≠v:=λe=>huw' (huv.trans e.symm)
       obtain⟨j,hj,a,b⟩:=key w u hw hu (hF.sym u w (hT.2 u hu) huw) hwv
       exact hed j hj hj u w b a huw
      ·obtain⟨j,hj,a,b⟩:=key u w hu hw huw huv
       exact hed j hj hj u w a b huw
end
end Go.Sx

namespace Go.Sx
def Cg (c m:Nat):LI:=((List.range m).filter λu=>decide (u≠c)).map Int.ofNat
theorem mem_wo {c m:Nat}{x:Int}:x∈Cg c m↔∃u:Nat,x=(u:Int)∧u<m∧u≠c:=by
 unfold Cg
 simp only[List.mem_map,List.mem_filter,List.mem_range,decide_eq_true_eq]
 constructor
 ·rintro⟨u,⟨h1,h2⟩,rfl⟩;exact⟨u,rfl,h1,h2⟩
 ·rintro⟨u,rfl,h1,h2⟩;exact⟨u,⟨h1,h2⟩,rfl⟩
theorem wo_inc (c m:Nat):Inc (Cg c m):=by
 unfold Inc Cg
 rw[List.pairwise_map]
 exact List.Pairwise.imp (fun{a b} h=>by show (a:Int)<(b:Int);omega) (List.Pairwise.filter _ List.pairwise_lt_range)
theorem wo_len (c m:Nat):(Cg c m).length≤m:=by
 unfold Cg
 rw[List.length_map]
 exact Nat.le_trans (List.length_filter_le _ _) (by simp)
theorem into_len' {xs:LI}{n:Int}(h:n∉xs):(into xs n).length=xs.length+1:=by
 unfold into
 rw[if_neg h]
 have:(xs.takeWhile (λx=>decide (x<n))++xs.dropWhile (λx=>decide (x<n))).length=xs.length:=by rw[List.takeWhile_append_dropWhile]
 simp only[List.length_append,List.length_cons] at this ⊢;omega
theorem Du {g:LL}(h:g.length≤16)(c:Nat):D.J g (c:Int)=some (Cg c g.length):=by
 unfold D.J
 have key:=loop_nat (step:=fun(s_42:LI×Int)=>match s_42 with|(l_45,x_50)=>cond (decide (x_50<(g.length:Int))) (cond (x_50 !=(c:Int)) ((AG l_45 ([x_50]:LI)).bind λl_77=>some (.inl (l_77,(IntKind.i64.wrap (x_50+1))))) (some (.inl (l_45,(IntKind.i64.wrap (x_50+1)))))) (some (.inr l_45)))
  g.length (λs k=>(s,k)) (λs u=>if u≠c then s++[(u:Int)] else s) (λs=>s) (λk s=>s=Cg c k) [] (by simp[Cg]) (λs k hk hs=>by
   subst hs
   have hlen:=wo_len c k
   have hnext:Cg c (k+1)=if k≠c then Cg c k++[(k:Int)] else Cg c k:=by
    unfold Cg
    rw[List.range_succ,List.filter_append,List.map_append]
    by_cases hc:k≠c
    ·rw[if_pos hc]
     have e5:List.filter (λu=>decide (u≠c)) [k]=[k]:=List.filter_cons_of_pos (p:=λu=>decide (u≠c)) (by simpa using hc)
     rw[e5];rfl
    ·rw[if_neg hc]
     have e5:List.filter (λu=>decide (u≠c)) [k]=[]:=List.filter_cons_of_neg (p:=λu=>decide (u≠c)) (by simpa using hc)
     rw[e5];simp
   refine⟨?_,hnext.symm⟩
   simp only[dlt hk,cond_true,wq k]
   by_cases hkc:k=c
   ·subst hkc
    have e:((k:Int) !=(k:Int))=false:=by simp
    rw[e,cond_false,if_neg (by simp)]
   ·have e:((k:Int) !=(c:Int))=true:=by rw[bne_iff_ne];omega
    rw[e,cond_true,Bg (by simp;omega),if_pos hkc];rfl)
  (λs _=>by simp only[A9,cond_false])
 rw[show ((0:Int))=((0:Nat):Int) from rfl] at key ⊢
 rw[key.1,bs,key.2]
section
variable {g : LL} (hg : GOk g)
include hg
theorem l16Reach_ok {set:LI}(hset:Inc set)(hsr:∀x∈set,∃u:Nat,x=(u:Int)∧u<g.length){f:Nat}(hf:(f:Int)∈set):
  ∃R,D.B g set (f:Int) false=some R∧Inc R∧(∀x∈R,∃u:Nat,x=(u:Int)∧u<g.length)∧∀x:Nat,(x:Int)∈R↔Cn (adj g) (λz=>(z:Int)∈set) f x:=by
 have h16:=hg.n16
 have hsl:set.length≤g.length:=hset.short (n:=g.length) (λx hx=>by obtain⟨u,rfl,hu⟩:=hsr x hx;omega)
 let Nt:LI→Prop:=λo=>∀x∈o,x∈set
 have hshort:∀{o:LI},Inc o→Nt o→o.length≤g.length:=fun{o} hi ho=>hi.short (n:=g.length) (λx hx=>by obtain⟨u,rfl,hu⟩:=hsr x (ho x hx);omega)
 unfold D.B
 have main:=AK (k:=λR=>some R) (Q:=λR=>Inc R∧(∀x∈R,∃u:Nat,x=(u:Int)∧u<g.length)∧∀x:Nat,(x:Int)∈R↔Cn (adj g) (λz=>(z:Int)∈set) f x) (step:=fun(s_917:LI×LI)=>match s_917 with|(l_923,l_926)=>cond (decide ((0:Int)<(l_926.length:Int))) ((idx l_926 0).bind λe_1376=>(Bj l_926 1 (l_926.length:Int)).bind λl_1382=>(Ap (σ:=LI×LI×Int) (ρ:=(LI×LI)) (fun(s_1596:LI×LI×Int)=>match s_1596 with|(l_1599,l_1602,x_1607)=>cond (decide (x_1607<(set.length:Int))) ((idx set x_1607).bind λe_1717=>(cond (e_1717 !=e_1376) ((idx g e_1376).bind λe_1754=>(D.d e_1754 e_1717).bind λy_1760=>some (y_1760 !=false)) (some false)).bind λb_1752=>(cond b_1752 ((D.d l_1599 e_1717).bind λy_1786=>some (!y_1786)) (some false)).bind λb_1784=>cond b_1784 ((D.s l_1599 e_1717).bind λy_1794=>(AG l_1602 ([e_1717]:LI)).bind λl_1807=>some (.inl (y_1794,l_1807,(IntKind.i64.wrap (x_1607+1))))) (some (.inl (l_1599,l_1602,(IntKind.i64.wrap (x_1607+1)))))) (some (.inr (l_1599,l_1602)))) (l_923,l_1382,0)).bind fun(l_1707,l_1710)=>some (.inl (l_1707,l_1710))) (some (.inr l_923)))
  (s:=([(f:Int)],[(f:Int)])) (λq=>Inc q.1∧Nt q.1∧(∀x∈q.2,x∈q.1)∧((f:Int)∈q.1)∧(∀x:Nat,(x:Int)∈q.1→Cn (adj g) (λz=>(z:Int)∈set) f x)∧(∀x:Nat,(x:Int)∈q.1→(x:Int)∈q.2∨∀y:Nat,(y:Int)∈set→adj g x y→(y:Int)∈q.1)∧q.2.length≤q.1.length)
  (λq=>2*(g.length-q.1.length)+q.2.length) (λR=>Inc R∧(∀x∈R,∃u:Nat,x=(u:Int)∧u<g.length)∧∀x:Nat,(x:Int)∈R↔Cn (adj g) (λz=>(z:Int)∈set) f x) ?_
  ⟨by simp[Inc],λx hx=>by simp at hx;rw[hx];exact hf,by simp,by simp,λx hx=> ?_,λx hx=> .inl hx,by simp⟩ (λr hr=>⟨r,rfl,hr⟩)
 ·obtain⟨R,e,hR⟩:=main
  exact⟨R,e,hR⟩
 rotate_left
 ·simp at hx
  obtain rfl:x=f:=by omega
  exact Cn.refl
 ·rintro⟨o,todo⟩ ⟨h1,h2,h3,h4,h5,h6,h7⟩
  dsimp only at h1 h2 h3 h4 h5 h6 h7 ⊢
  cases todo with
  |nil=>
   have hd:decide ((0:Int)<(([]:LI).length:Int))=false:=by simp
   rw[hd,cond_false]
   refine⟨_,rfl,h1,λx hx=>hsr x (h2 x hx),λx=>⟨h5 x,λhc=> ?_⟩⟩
   refine hc (λz=>(z:Int)∈o) h4 (λa b ha hab hb=> ?_)
   rcases h6 a ha with h|h
   ·simp at h
   ·exact h b hb hab
  |cons v0 rest=>
   obtain⟨v,ev,hvn⟩:=hsr v0 (h2 v0 (h3 v0 (by simp)))
   subst ev
   have hd:decide ((0:Int)<(((v:Int)::rest).length:Int))=true:=by simp
   have hi0:idx ((v:Int)::rest) 0=some (v:Int):=rfl
   have hsl1:Bj ((v:Int)::rest) 1 ((((v:Int)::rest).length:Nat):Int)=some rest:=by
    have:=Da (xs:=(v:Int)::rest) (i:=1) (by simp)
    exact this
   rw[hd,cond_true,hi0,bs,hsl1,bs]
   have hvo:(v:Int)∈o:=h3 _ (by simp)
   simp only[List.length_cons] at h7
   let Iq:LI×LI×Int→Prop:=fun(q:LI×LI×Int)=>∃i:Nat,q.2.2=(i:Int)∧i≤set.length∧Inc q.1∧Nt q.1∧(∀x∈q.2.1,x∈q.1)∧(∀x∈o,x∈q.1)∧(∀x:Nat,(x:Int)∈q.1→Cn (adj g) (λz=>(z:Int)∈set) f x)∧(∀x:Nat,(x:Int)∈q.1→(x:Int)∈q.2.1∨x=v∨∀y:Nat,(y:Int)∈set→adj g x y→(y:Int)∈q.1)∧(∀y:Nat,(y:Int)∈set.take i→adj g v y→(y:Int)∈q.1)∧q.2.1.length+o.length=q.1.length+rest.length
   let Pq:LI×LI→Prop:=λq=>Inc q.1∧Nt q.1∧(∀x∈q.2,x∈q.1)∧(∀x∈o,x∈q.1)∧(∀x:Nat,(x:Int)∈q.1→Cn (adj g) (λz=>(z:Int)∈set) f x)∧(∀x:Nat,(x:Int)∈q.1→(x:Int)∈q.2∨∀y:Nat,(y:Int)∈set→adj g x y→(y:Int)∈q.1)∧q.2.length+o.length=q.1.length+rest.length
   refine AK Iq (λq=>set.length-q.2.2.toNat) Pq ?_
    ⟨0,rfl,by omega,h1,h2,λx hx=>h3 x (by simp[hx]),λx hx=>hx,h5,λx hx=> ?_,by simp,by dsimp only;omega⟩ ?_
   ·rintro⟨o',td,_⟩ ⟨i,rfl,hi,a1,a2,a3,a4,a5,a6,a7,a8⟩
    dsimp only at a1 a2 a3 a4 a5 a6 a7 a8 ⊢
    have hol:=hshort a1 a2
    by_cases hil:i<set.length
    ·obtain⟨u,eu,hun⟩:=hsr _ (List.getElem_mem hil)
     have hus:(u:Int)∈set:=by rw[←eu];exact List.getElem_mem hil
     simp only[dlt hil,cond_true,Ay hil,eu,bs,BX hvn,C4 _ _ (hg.sh2.row hvn),wq i]
     have hskip:(adj g v u→(u:Int)∈o')→∃y,some (Sum.inl (β:=LI×LI) (o',td,((i+1:Nat):Int)))=some y∧Stp Iq (λq=>set.length-q.2.2.toNat) Pq (o',td,(i:Int)) y:=λhk=>by
      refine⟨_,rfl,⟨i+1,rfl,by omega,a1,a2,a3,a4,a5,a6,λy hy hvy=> ?_,a8⟩,by simp;omega⟩
      rw[List.take_succ_eq_append_getElem hil,List.mem_append,eu] at hy
      rcases hy with hy|hy
      ·exact a7 y hy hvy
      ·simp at hy
       obtain rfl:y=u:=by omega
       exact hk hvy
     by_cases huv:u=v
     ·subst huv
      have e:((u:Int) !=(u:Int))=false:=by simp
      simp only[e,cond_false,bs]
      exact hskip (λh=>absurd h (hg.irr u hun))
     ·have e:((u:Int) !=(v:Int))=true:=by rw[bne_iff_ne];omega
      simp only[e,cond_true,bs,Bool.bne_false]
      by_cases hadj:(u:Int)∈row g v
      ·simp only[hadj,decide_true,cond_true,C4 _ _ (show Sh o' by unfold Sh;omega),bs]
       by_cases hin:(u:Int)∈o'
       ·simp only[hin,decide_true,Bool.not_true,cond_false]
        exact hskip (λ_=>hin)
       ·simp only[hin,decide_false,Bool.not_false,cond_true]
        rw[DD o' _ a1 (by omega),bs,Bg (by simp;omega),bs]
        have hmi:∀z:Int,z∈into o' (u:Int)↔z=(u:Int)∨z∈o':=λz=>mem_into
        have hli:(into o' (u:Int)).length=o'.length+1:=into_len' hin
        refine⟨_,rfl,⟨i+1,rfl,by omega,Inc.into a1 _,λz hz=> ?_,λz hz=> ?_,λz hz=>(hmi z).2 (.inr (a4 z hz)),λx hx=> ?_,λx hx=> ?_,λy hy hvy=> ?_,by simp[hli];omega⟩,by simp;omega⟩
        ·rcases(hmi z).1 hz with rfl|hz
         ·exact hus
         ·exact a2 z hz
        ·rcases List.mem_append.1 hz with hz|hz
         ·exact(hmi z).2 (.inr (a3 z hz))
         ·simp at hz;exact(hmi z).2 (.inl hz)
        ·rcases(hmi _).1 hx with hx|hx
         ·obtain rfl:x=u:=by omega
          exact(h5 v hvo).step hadj hus
         ·exact a5 x hx
        ·rcases(hmi _).1 hx with hx|hx
         ·exact .inl (by rw[hx];simp)
         ·rcases a6 x hx with h|h|h
          ·exact .inl (by simp[h])
          ·exact .inr (.inl h)
          ·exact .inr (.inr (λy p q=>(hmi _).2 (.inr (h y p q))))
        ·rw[List.take_succ_eq_append_getElem hil,List.mem_append,eu] at hy
         rcases hy with hy|hy
         ·exact(hmi _).2 (.inr (a7 y hy hvy))
         ·simp at hy;exact(hmi _).2 (.inl (by omega))
      ·simp only[hadj,decide_false,cond_false,bs]
       exact hskip (λh=>absurd h hadj)
    ·obtain rfl:i=set.length:=by omega
     simp only[A9,cond_false]
     refine⟨_,rfl,a1,a2,a3,a4,a5,λx hx=> ?_,a8⟩
     rcases a6 x hx with h|rfl|h
     ·exact .inl h
     ·exact .inr (λy p q=>a7 y (by rw[List.take_length];exact p) q)
     ·exact .inr h
   ·rcases h6 x hx with h|h
    ·rcases List.mem_cons.1 h with h|h
     ·exact .inr (.inl (by omega))
     ·exact .inl h
    ·exact .inr (.inr h)
   ·rintro⟨o',td⟩ ⟨a1,a2,a3,a4,a5,a6,a8⟩
    dsimp only at a1 a2 a3 a4 a5 a6 a8
    have hol:=hshort a1 a2
    have hol0:=hshort h1 h2
    have hoo:o.length≤o'.length:=BB (List.Pairwise.imp (λh e=>by omega) h1) a4
    exact⟨_,rfl,⟨a1,a2,a3,a4 _ h4,a5,a6,by dsimp only;omega⟩,by simp;omega⟩
end
end Go.Sx

namespace Go.Sx
def ch (cs:LI)(i v:Nat):Bool:=has (cs.getD i 0) v
def Opn (cs:LI)(p:Int)(v:Nat):Prop:=(∃i,i<cs.length∧has p i=true∧ch cs i v=true)∧∃i,i<cs.length∧has p i=false∧ch cs i v=true
def Ft (cs:LI)(p:Int)(k:Nat):Prop:=k<cs.length∧has p k=false∧∀v,Opn cs p v→ch cs k v=true
inductive Ends (cs:LI):Int→Prop
 |all {p:Int}:(∀i,i<cs.length→has p i=true)→Ends cs p
 |go {p:Int} {k:Nat}:Ft cs p k→Ends cs (ior .u32 p (ishl .u32 1 (k:Int)))→Ends cs p
def Goes (cs:LI):Int→LI→Prop
 |p,[]=>∀i,i<cs.length→has p i=true
 |p,x::l=>∃k:Nat,x=(k:Int)∧Ft cs p k∧Goes cs (ior .u32 p (ishl .u32 1 (k:Int))) l
section
variable {cs : LI} (hvs : ∀ s ∈ cs, VS s) (hm : cs.length ≤ 16)
include hvs hm
theorem Ft.in {p:Int}{k:Nat}(hp:In cs.length p)(h:Ft cs p k):In cs.length (ior .u32 p (ishl .u32 1 (k:Int)))∧∀v,has (ior .u32 p (ishl .u32 1 (k:Int))) v=(has p v||decide (v=k)):=by
 have hk:=h.1
 have he:∀v,has (ior .u32 p (ishl .u32 1 (k:Int))) v=(has p v||decide (v=k)):=λv=>by
  rw[Cz hp.1 (VS.ishl _ _),BY (by omega)]
 refine⟨⟨VS.ior _ _,λv hv=> ?_⟩,he⟩
 rw[he,Bool.or_eq_true,decide_eq_true_eq] at hv
 rcases hv with hv|rfl
 ·exact hp.2 v hv
 ·exact hk
end
end Go.Sx

namespace Go.Sx
theorem Goes.mid {cs:LI}{v:Nat}:∀{l1:LI} {p:Int} {x:Nat} {l2:LI},cs.length≤16→In cs.length p→Goes cs p (l1++(x:Int)::l2)→((∃i,i<cs.length∧has p i=true∧ch cs i v=true)∨∃y:Nat,(y:Int)∈l1∧ch cs y v=true)→(∃z:Nat,(z:Int)∈l2∧ch cs z v=true)→ch cs x v=true
 |[],p,x,l2,hm,hp,⟨k,e,hF,hG⟩,h1,⟨z,hz,hzv⟩=>by
  obtain rfl:k=x:=by omega
  refine hF.2.2 v ⟨h1.elim id (fun⟨y,hy,_⟩=>by simp at hy),?_⟩
  have:∀(l:LI) (q:Int),In cs.length q→Goes cs q l→(z:Int)∈l→z<cs.length∧has q z=false:=by
   intro l
   induction l with
   |nil=>intro q _ _ h;simp at h
   |cons y l ih=>
    rintro q hq ⟨k',e',hF',hG'⟩ hzl
    rcases List.mem_cons.1 hzl with h|h
    ·obtain rfl:k'=z:=by omega
     exact⟨hF'.1,hF'.2.1⟩
    ·have hk':=hF'.1
     have he:∀w,has (ior .u32 q (ishl .u32 1 (k':Int))) w=(has q w||decide (w=k')):=λw=>by rw[Cz hq.1 (VS.ishl _ _),BY (by omega)]
     have hin:In cs.length (ior .u32 q (ishl .u32 1 (k':Int))):=⟨VS.ior _ _,λw hw=>by
      rw[he,Bool.or_eq_true,decide_eq_true_eq] at hw
      rcases hw with hw|rfl
      ·exact hq.2 w hw
      ·exact hk'⟩
     obtain⟨a,b⟩:=ih _ hin hG' h
     rw[he,Bool.or_eq_false_iff] at b
     exact⟨a,b.1⟩
  obtain⟨h3,h4⟩:=this ((k:Int)::l2) p hp ⟨k,rfl,hF,hG⟩ (List.mem_cons_of_mem _ hz)
  exact⟨z,h3,h4,hzv⟩
 |y::l1,p,x,l2,hm,hp,⟨k,e,hF,hG⟩,h1,h2=>by
  subst e
  have hk:=hF.1
  have he:∀w,has (ior .u32 p (ishl .u32 1 (k:Int))) w=(has p w||decide (w=k)):=λw=>by rw[Cz hp.1 (VS.ishl _ _),BY (by omega)]
  refine Goes.mid (l1:=l1) hm ⟨VS.ior _ _,λw hw=> ?_⟩ hG ?_ h2
  ·rw[he,Bool.or_eq_true,decide_eq_true_eq] at hw
   rcases hw with hw|rfl
   ·exact hp.2 w hw
   ·exact hk
  ·rcases h1 with⟨i,h3,h4,h5⟩|⟨i,h3,h5⟩
   ·exact .inl ⟨i,h3,by rw[he,h4];rfl,h5⟩
   ·rcases List.mem_cons.1 h3 with h|h
    ·obtain rfl:i=k:=by omega
     exact .inl ⟨i,hk,by rw[he];simp,h5⟩
    ·exact .inr ⟨i,h,h5⟩
section
variable {g : LL} (hg : GOk g)
include hg
end
end Go.Sx

namespace Go.Sx
structure Iv (g:LL)(L R:Nat→Int):Prop where
 le:∀v,v<g.length→L v≤R v
 ad:∀u v,u<g.length→v<g.length→(adj g u v↔u≠v∧L u≤R v∧L v≤R u)
section
variable {g : LL} (hg : GOk g)
include hg
variable {L R : Nat → Int} (hI : Iv g L R)
include hI
end
end Go.Sx

namespace Go.Sx
structure Un (cs:LI)(m:Nat)(U:LI):Prop where
 len:U.length=2^m
 vs:∀b,b<2^m→VS (U.getD b 0)
 hs:∀b,b<2^m→∀v,has (U.getD b 0) v=true↔∃i,i<m∧b.testBit i=true∧ch cs i v=true
section
variable {cs U : LI} (hs : ∀ s ∈ cs, VS s) (hm : cs.length ≤ 16) (hU : Un cs cs.length U)
include hs hm hU
end
end Go.Sx

namespace Go.Sx
theorem Goes.nat {cs:LI}:∀{o:LI} {p:Int},Goes cs p o→∀x∈o,∃k:Nat,x=(k:Int)∧k<cs.length
 |[],_,_,x,hx=>by simp at hx
 |y::o,p,⟨k,e,hF,hG⟩,x,hx=>by
  rcases List.mem_cons.1 hx with rfl|hx
  ·exact⟨k,e,hF.1⟩
  ·exact Goes.nat hG x hx
theorem Goes.mem {cs:LI}(hm:cs.length≤16):∀{o:LI} {p:Int},VS p→Goes cs p o→∀i,i<cs.length→has p i=true∨(i:Int)∈o
 |[],_,_,h,i,hi=> .inl (h i hi)
 |y::o,p,hp,⟨k,e,hF,hG⟩,i,hi=>by
  have hk:=hF.1
  rcases Goes.mem hm (VS.ior _ _) hG i hi with h|h
  ·rw[Cz hp (VS.ishl _ _),BY (by omega),Bool.or_eq_true,decide_eq_true_eq] at h
   rcases h with h|rfl
   ·exact .inl h
   ·exact .inr (by rw[e];simp)
  ·exact .inr (List.mem_cons_of_mem _ h)
def atp (cs o:LI)(k v:Nat):Bool:=ch cs (o.getD k 0).toNat v
theorem Goes.conv {cs o:LI}{v i j k:Nat}(hm:cs.length≤16)(h:Goes cs 0 o)(hij:i<j)(hjk:j<k)(hk:k<o.length)(h1:atp cs o i v=true)(h2:atp cs o k v=true):atp cs o j v=true:=by
 have hj:j<o.length:=by omega
 have hi:i<o.length:=by omega
 obtain⟨a,ea,_⟩:=h.nat _ (List.getElem_mem hi)
 obtain⟨b,eb,_⟩:=h.nat _ (List.getElem_mem hj)
 obtain⟨c,ec,_⟩:=h.nat _ (List.getElem_mem hk)
 unfold atp at*
 rw[AU hi,ea,Int.toNat_natCast] at h1
 rw[AU hk,ec,Int.toNat_natCast] at h2
 rw[AU hj,eb,Int.toNat_natCast]
 have e:o=o.take j++(b:Int)::o.drop (j+1):=by
  rw[←eb,←List.drop_eq_getElem_cons hj,List.take_append_drop]
 rw[e] at h
 refine h.mid hm ⟨VS.zero,λv hv=>by rw[B4] at hv;cases hv⟩ (.inr ⟨a,?_,h1⟩) ⟨c,?_,h2⟩
 ·rw[←ea]
  exact List.mem_take_iff_getElem.2 ⟨i,by omega,rfl⟩
 ·rw[←ec,List.mem_drop_iff_getElem]
  exact⟨k-(j+1),by omega,by congr 1;omega⟩
structure Told (cs o:LI)(v:Nat)(a b:Int):Prop where
 ex:∃i j:Nat,a=(i:Int)∧b=(j:Int)∧i≤j∧j<o.length∧atp cs o i v=true∧atp cs o j v=true∧∀k,k<o.length→atp cs o k v=true→i≤k∧k≤j
theorem Told.at {cs o:LI}{v:Nat}{a b:Int}(hm:cs.length≤16)(h:Goes cs 0 o)(ht:Told cs o v a b){k:Nat}(h1:a≤k)(h2:(k:Int)≤b):k<o.length∧atp cs o k v=true:=by
 obtain⟨i,j,rfl,rfl,hij,hj,hi1,hj1,_⟩:=ht.ex
 refine⟨by omega,?_⟩
 by_cases e1:k=i
 ·rw[e1];exact hi1
 by_cases e2:k=j
 ·rw[e2];exact hj1
 exact h.conv hm (show i<k by omega) (show k<j by omega) hj hi1 hj1
section
variable {g : LL} (hg : GOk g) {l o : LI} (hl : GC g l) (h16 : l.length ≤ 16) (ho : Goes l 0 o)
include hg hl
include h16 ho
end
end Go.Sx

namespace Go.Sx
section
variable {g l : LL} {cs : LI} (hg : GOk g)
include hg
end
end Go.Sx

namespace Go.Sx
inductive Pick (n:Nat):Nat→Nat→Int→Int→Prop
 |done {a:Nat} {c:Int}:Pick n a 0 c c
 |more {a k v:Nat} {c t:Int}:a≤v→v<n→Pick n (v+1) k (ior .u32 c (ishl .u32 1 (v:Int))) t→Pick n a (k+1) c t
theorem Pick.le {n a k:Nat}{c t:Int}(h:Pick n a k c t):k=0∨a+k≤n:=by
 induction h with
 |done=>exact .inl rfl
 |more h1 h2 _ ih=>right;rcases ih with h|h<;>omega
def CW (a b:Int):LI:=[min a b,max a b]
structure KOk (n:Nat)(K:LL):Prop where
 nd:K.Nodup
 lk:∀l∈K,LinkIn n l
theorem LinkIn.good {n:Nat}(hn:n≤1000){l:LI}(h:LinkIn n l):rowGood l:=by
 obtain⟨a,b,rfl,h1,h2⟩:=h
 refine⟨rfl,?_⟩
 simp only[List.getD_cons_zero,List.getD_cons_succ]
 omega
theorem KOk.len {n:Nat}(hn:n≤16){K:LL}(h:KOk n K):K.length≤256:=by
 have h1:(K.map rowKey).Nodup:=by
  unfold List.Nodup
  rw[List.pairwise_map]
  refine List.Pairwise.imp_of_mem (fun{a b} ha hb hab e=> ?_) h.nd
  exact hab (row_inj ((h.lk a ha).good (by omega)) ((h.lk b hb).good (by omega)) e)
 have h2:=BB (m:=(List.range 16).flatMap (λa=>(List.range 16).map λb=>((a:Nat):Int)*1048576+((b:Nat):Int))) h1 (λx hx=>by
  obtain⟨l,hl,rfl⟩:=List.mem_map.1 hx
  obtain⟨a,b,rfl,h3,h4⟩:=h.lk l hl
  exact List.mem_flatMap.2 ⟨a,List.mem_range.2 (by omega),List.mem_map.2 ⟨b,List.mem_range.2 (by omega),rfl⟩⟩)
 have h3:((List.range 16).flatMap (λa=>(List.range 16).map λb=>((a:Nat):Int)*1048576+((b:Nat):Int))).length=256:=by decide+kernel
 rw[h3,List.length_map] at h2
 exact h2
def WayP (K:LL)(a b:Int):Prop:=∀T:Int→Prop,T a→(∀x y,T x→Lk K x y→T y)→T b
theorem Lk.perm {K K':LL}(h:K.Perm K'){x y:Int}:Lk K x y↔Lk K' x y:=by
 unfold Lk;rw[h.mem_iff,h.mem_iff]
theorem WayP.perm {K K':LL}(h:K.Perm K'){a b:Int}:WayP K a b↔WayP K' a b:=by
 unfold WayP
 constructor
 ·intro hh T h1 h2;exact hh T h1 (λx y hx hl=>h2 x y hx ((Lk.perm h).1 hl))
 ·intro hh T h1 h2;exact hh T h1 (λx y hx hl=>h2 x y hx ((Lk.perm h).2 hl))
structure NetL (A:LI)(n:Nat)(K:LL):Prop where
 net:Net A n
 nb:∀x y,x<n→y<n→(nb A x y=true↔Lk K (x:Int) (y:Int))
end Go.Sx



namespace Go.Sx
theorem DA {i k:Nat}(h:i<k):CW (i:Int) (k:Int)=[(i:Int),(k:Int)]:=by
 unfold CW
 rw[show min (i:Int) (k:Int)=i by omega,show max (i:Int) (k:Int)=k by omega]
theorem KOk.add {n i k:Nat}{K:LL}(h:KOk n K)(hik:i<k)(hk:k<n)(hw:¬WayP K (i:Int) (k:Int)):KOk n (K++[CW (i:Int) (k:Int)]):=by
 have hnot:CW (i:Int) (k:Int)∉K:=λhm=>hw (λT h1 h2=>h2 _ _ h1 (.inl (by rw[DA hik] at hm;exact hm)))
 refine⟨?_,λl hl=> ?_⟩
 ·have hp:(K++[CW (i:Int) (k:Int)]).Perm (CW (i:Int) (k:Int)::K):=List.perm_append_comm
  exact hp.nodup_iff.2 (List.nodup_cons.2 ⟨hnot,h.nd⟩)
 ·rcases List.mem_append.1 hl with hl|hl
  ·exact h.lk l hl
  ·simp at hl;subst hl
   exact⟨i,k,DA hik,hik,hk⟩
theorem NetL.add {A A':LI}{n i k:Nat}{K:LL}(h:NetL A n K)(hik:i<k)(hk:k<n)(hA:Net A' n)(hnb:∀u w,u<n→Sx.nb A' u w=(Sx.nb A u w||(decide (u=i)&&decide (w=k))||(decide (u=k)&&decide (w=i)))):NetL A' n (K++[CW (i:Int) (k:Int)]):=by
 refine⟨hA,λx y hx hy=> ?_⟩
 rw[hnb x y hx,DA hik]
 simp only[Bool.or_eq_true,Bool.and_eq_true,decide_eq_true_eq]
 rw[h.nb x y hx hy]
 unfold Lk
 simp only[List.mem_append,List.mem_singleton,List.cons.injEq,and_true,Int.natCast_inj]
 constructor
 ·rintro((h1|h1)|⟨h1,h2⟩)
  ·exact h1.elim (λh=> .inl (.inl h)) (λh=> .inr (.inl h))
  ·exact .inl (.inr h1)
  ·exact .inr (.inr ⟨h2,h1⟩)
 ·rintro((h1|h1)|(h1|⟨h1,h2⟩))
  ·exact .inl (.inl (.inl h1))
  ·exact .inl (.inr h1)
  ·exact .inl (.inl (.inr h1))
  ·exact .inr ⟨h2,h1⟩
section
variable {l : LI} (hn : l.length ≤ 16) (hvs : ∀ s ∈ l, VS s)
include hn hvs
end
section
variable {g : LL} (hg : GOk g)
include hg
end
end Go.Sx

namespace Go.Sx
theorem loop_ex {β:Type}{step:Int→Option (Int ⊕ (Unit ⊕ β))}{n:Nat}(P:Nat→Prop)(Q:β→Prop)(hstep:∀i,i<n→(step (i:Int)=some (.inl ((i+1:Nat):Int))∧¬P i)∨∃z,step (i:Int)=some (.inr (.inr z))∧P i∧Q z)
  (hend:∀i,n≤i→step (i:Int)=some (.inr (.inl ()))):∀(d a:Nat),n≤a+d→(Ap step (a:Int)=some (.inl ())∧∀i,a≤i→i<n→¬P i)∨∃z,Ap step (a:Int)=some (.inr z)∧Q z∧∃i,a≤i∧i<n∧P i:=by
 intro d
 induction d with
 |zero=>
  intro a h
  exact .inl ⟨AX (hend a (by omega)),λi h1 h2=>by omega⟩
 |succ d ih=>
  intro a h
  by_cases ha:a<n
  ·rcases hstep a ha with⟨e,hn⟩|⟨z,e,hp,hq⟩
   ·rcases ih (a+1) (by omega) with⟨e2,h2⟩|⟨z,e2,hq,i,h3,h4,h5⟩
    ·refine .inl ⟨by rw[Bf e,e2],λi h3 h4=> ?_⟩
     by_cases hia:i=a
     ·rw[hia];exact hn
     ·exact h2 i (by omega) h4
    ·exact .inr ⟨z,by rw[Bf e,e2],hq,i,by omega,h4,h5⟩
   ·exact .inr ⟨z,AX e,hq,a,Nat.le_refl _,ha,hp⟩
  ·exact .inl ⟨AX (hend a (by omega)),λi h1 h2=>by omega⟩
section
variable {g : LL} (hg : GOk g)
include hg
end
end Go.Sx

namespace Go.Sx
def pr (a b:Nat):LI:=[(a:Int),(b:Int)]
theorem Cs {a b c d:Nat}(h:pr a b=pr c d):a=c∧b=d:=by
 unfold pr at h
 simp at h
 omega
theorem Dc {α β:Type}{e:Option α}{a:α}{k:α→Option β}(h:e=some a):e.bind k=k a:=by rw[h];rfl
theorem l19Has_eq {L:LL}(hL:∀s∈L,∃a b:Nat,s=pr a b)(hl:L.length≤100000)(a b:Nat):∃r,D.u L (a:Int) (b:Int)=some r∧(r=true↔pr a b∈L):=by
 unfold D.u
 have h:=loop_ex (β:=Bool) (n:=L.length) (step:=fun(x_120:Int)=>cond (decide (x_120<(L.length:Int))) ((idx L x_120).bind λe_180=>(idx e_180 0).bind λe_186=>(cond (e_186==(a:Int)) ((idx L x_120).bind λe_221=>(idx e_221 1).bind λe_227=>some (e_227==(b:Int))) (some false)).bind λb_219=>cond b_219 (some (.inr (.inr true))) (some (.inl (IntKind.i64.wrap (x_120+1))))) (some (.inr (.inl ()))))
  (λi=>L.getD i []=pr a b) (λz=>z=true) (λi hi=>by
   obtain⟨p,q,e⟩:=hL _ (List.getElem_mem hi)
   have i0:idx (pr p q) 0=some (p:Int):=rfl
   have i1:idx (pr p q) 1=some (q:Int):=rfl
   simp only[dlt hi,cond_true,Ay hi,e,bs,i0,i1,AU hi,wq i]
   by_cases hp:p=a
   ·subst hp
    simp only[beq_self_eq_true,cond_true,bs]
    by_cases hq:q=b
    ·subst hq
     right
     simp only[beq_self_eq_true,cond_true]
     exact⟨true,rfl,trivial,rfl⟩
    ·left
     have:(((q:Int))==(b:Int))=false:=by rw[beq_eq_false_iff_ne];omega
     simp only[this,cond_false]
     exact⟨trivial,λh=>hq (Cs h).2⟩
   ·left
    have:(((p:Int))==(a:Int))=false:=by rw[beq_eq_false_iff_ne];omega
    simp only[this,cond_false,bs]
    exact⟨trivial,λh=>hp (Cs h).1⟩)
  (λi hi=>by
   have:decide ((i:Int)<(L.length:Int))=false:=by simp;omega
   simp only[this,cond_false]) L.length 0 (by omega)
 rcases h with⟨e,hn⟩|⟨z,e,rfl,i,_,hi,hP⟩
 ·refine⟨false,?_,⟨λh=>(by cases h),λhm=> ?_⟩⟩
  ·exact(Dc e).trans rfl
  ·obtain⟨i,hi,ei⟩:=List.getElem_of_mem hm
   exact absurd (by rw[AU hi];exact ei) (hn i (Nat.zero_le _) hi)
 ·refine⟨true,?_,⟨λ_=> ?_,λ_=>rfl⟩⟩
  ·exact(Dc e).trans rfl
  ·rw[←hP,AU hi];exact List.getElem_mem hi
def Clo (g:LL)(u v a b:Nat):Prop:=∀T:Nat→Nat→Prop,T u v→T v u→(∀a b w,T a b→adj g a w→Cn (adj g) (Vx g.length a) b w→T a w∧T w a)→T a b
theorem Clo.base {g:LL}{u v:Nat}:Clo g u v u v:=λ_ h _ _=>h
theorem Clo.next {g:LL}{u v a b w:Nat}(h:Clo g u v a b)(ha:adj g a w)(hc:Cn (adj g) (Vx g.length a) b w):Clo g u v a w:=λT h1 h2 h3=>(h3 _ _ _ (h T h1 h2 h3) ha hc).1
theorem Clo.sym {g:LL}{u v a b:Nat}(h:Clo g u v a b):Clo g u v b a:=
 (h (λa b=>Clo g u v a b∧Clo g u v b a) ⟨Clo.base,λ_ _ h _=>h⟩ ⟨λ_ _ h _=>h,Clo.base⟩ (λa b w ⟨p,_⟩ q r=>⟨⟨p.next q r,λT h1 h2 h3=>(h3 _ _ _ (p T h1 h2 h3) q r).2⟩,⟨λT h1 h2 h3=>(h3 _ _ _ (p T h1 h2 h3) q r).2,p.next q r⟩⟩)).2
theorem wo_vx (c n:Nat):(λz:Nat=>(z:Int)∈Cg c n)=Vx n c:=by
 funext z
 rw[mem_wo]
 refine propext ⟨fun⟨u,e,h⟩=> ?_,λh=>⟨z,rfl,h⟩⟩
 obtain rfl:z=u:=by omega
 exact h
structure BI (g:LL)(u v:Nat)(E Sn:LL):Prop where
 e1:∀e∈E,∃a b:Nat,e=pr a b∧a<g.length∧adj g a b∧Clo g u v a b
 e2:∀a b:Nat,pr a b∈Sn↔pr a b∈E∨pr b a∈E
 e3:∀s∈Sn,∃a b:Nat,s=pr a b
 nd:E.Nodup
 e4:pr u v∈E
 sl:Sn.length=2*E.length
section
variable {g : LL} (hg : GOk g) {u v : Nat}
include hg
theorem BI.short {E Sn:LL}(h:BI g u v E Sn):E.length≤256:=by
 have h16:=hg.n16
 have hinj:(E.map λe=>e.getD 0 0*16+e.getD 1 0).Nodup:=by
  unfold List.Nodup
  rw[List.pairwise_map]
  refine List.Pairwise.imp_of_mem (fun{x y} hx hy hxy he=> ?_) h.nd
  obtain⟨a,b,rfl,ha,hab,_⟩:=h.e1 x hx
  obtain⟨c,d,rfl,hc,hcd,_⟩:=h.e1 y hy
  have hb:=hg.lt ha hab;have hd:=hg.lt hc hcd
  apply hxy
  have he':(a:Int)*16+(b:Int)=(c:Int)*16+(d:Int):=he
  obtain rfl:a=c:=by omega
  obtain rfl:b=d:=by omega
  rfl
 have:=BB (m:=(List.range 256).map Int.ofNat) hinj (λx hx=>by
  obtain⟨e,he,rfl⟩:=List.mem_map.1 hx
  obtain⟨a,b,rfl,ha,hab,_⟩:=h.e1 e he
  have hb:=hg.lt ha hab
  refine List.mem_map.2 ⟨a*16+b,List.mem_range.2 (by omega),?_⟩
  show ((a*16+b:Nat):Int)=(a:Int)*16+(b:Int)
  omega)
 simpa using this
theorem row_ok {E Sn:LL}(h:BI g u v E Sn){c b:Nat}(hc:c<g.length)(hcb:adj g c b)(hcl:Clo g u v c b){R:LI}(hRl:Sh R)(hR:∀x:Nat,(x:Int)∈R↔Cn (adj g) (λz=>(z:Int)∈Cg c g.length) b x):
  ∃q:LL×LL,Ap (σ:=LL×LL×Int) (ρ:=(LL×LL)) (fun(s_8386:LL×LL×Int)=>match s_8386 with|(l_8389,l_8394,x_8399)=>(idx g (c:Int)).bind λe_8516=>cond (decide (x_8399<(e_8516.length:Int))) ((idx g (c:Int)).bind λe_8523=>(idx e_8523 x_8399).bind λe_8529=>(D.d R e_8529).bind λy_8535=>(cond y_8535 ((D.u l_8394 (c:Int) e_8529).bind λy_8567=>some (!y_8567)) (some false)).bind λb_8565=>cond b_8565 ((AG l_8389 ([([(c:Int),e_8529]:LI)]:LL)).bind λl_8589=>(AG l_8394 ([([(c:Int),e_8529]:LI),([e_8529,(c:Int)]:LI)]:LL)).bind λl_8613=>some (.inl (l_8589,l_8613,(IntKind.i64.wrap (x_8399+1))))) (some (.inl (l_8389,l_8394,(IntKind.i64.wrap (x_8399+1)))))) (some (.inr (l_8389,l_8394)))) (E,Sn,0)=some q∧
   (∃M,q.1=E++M)∧BI g u v q.1 q.2∧(∀s∈Sn,s∈q.2)∧∀w,adj g c w→Cn (adj g) (Vx g.length c) b w→pr c w∈q.2:=by
 have h16:=hg.n16
 have hrl:=hg.row_len hc
 have main:=AK (k:=λq=>some q) (Q:=fun(q:LL×LL)=>(∃M,q.1=E++M)∧BI g u v q.1 q.2∧(∀s∈Sn,s∈q.2)∧∀w,adj g c w→Cn (adj g) (Vx g.length c) b w→pr c w∈q.2) (step:=fun(s_8386:LL×LL×Int)=>match s_8386 with|(l_8389,l_8394,x_8399)=>(idx g (c:Int)).bind λe_8516=>cond (decide (x_8399<(e_8516.length:Int))) ((idx g (c:Int)).bind λe_8523=>(idx e_8523 x_8399).bind λe_8529=>(D.d R e_8529).bind λy_8535=>(cond y_8535 ((D.u l_8394 (c:Int) e_8529).bind λy_8567=>some (!y_8567)) (some false)).bind λb_8565=>cond b_8565 ((AG l_8389 ([([(c:Int),e_8529]:LI)]:LL)).bind λl_8589=>(AG l_8394 ([([(c:Int),e_8529]:LI),([e_8529,(c:Int)]:LI)]:LL)).bind λl_8613=>some (.inl (l_8589,l_8613,(IntKind.i64.wrap (x_8399+1))))) (some (.inl (l_8389,l_8394,(IntKind.i64.wrap (x_8399+1)))))) (some (.inr (l_8389,l_8394))))
  (s:=(E,Sn,0)) (fun(q:LL×LL×Int)=>∃i:Nat,q.2.2=(i:Int)∧i≤(row g c).length∧(∃M,q.1=E++M)∧BI g u v q.1 q.2.1∧(∀s∈Sn,s∈q.2.1)∧∀w:Nat,(w:Int)∈(row g c).take i→Cn (adj g) (Vx g.length c) b w→pr c w∈q.2.1) (λq=>(row g c).length-q.2.2.toNat) (fun(q:LL×LL)=>(∃M,q.1=E++M)∧BI g u v q.1 q.2∧(∀s∈Sn,s∈q.2)∧∀w,adj g c w→Cn (adj g) (Vx g.length c) b w→pr c w∈q.2) ?_ ⟨0,rfl,by omega,⟨[],by simp⟩,h,λs hs=>hs,λw hw=>by simp at hw⟩ (λr hr=>⟨r,rfl,hr⟩)
 ·obtain⟨q,e,hq⟩:=main
  exact⟨q,by simpa using e,hq⟩
 ·rintro⟨E',S',_⟩ ⟨i,rfl,hi,⟨M,hM⟩,hB,hsub,hdone⟩
  dsimp only at hM hB hsub hdone ⊢
  have hEl:=hB.short hg
  have hSl:=hB.sl
  simp only[BX hc,bs]
  by_cases hil:i<(row g c).length
  ·obtain⟨w,ew,hwn,hcw⟩:=hg.mem hc (List.getElem_mem hil)
   obtain⟨r,er,hr⟩:=l19Has_eq hB.e3 (show S'.length≤100000 by omega) c w
   simp only[dlt hil,cond_true,Ay hil,ew,bs,C4 _ _ hRl,wq i]
   have hnext:∀{S'':LL},(∀s∈S',s∈S'')→(Cn (adj g) (Vx g.length c) b w→pr c w∈S'')→∀x:Nat,(x:Int)∈(row g c).take (i+1)→Cn (adj g) (Vx g.length c) b x→pr c x∈S'':=λh1 h2 x hx hcn=>by
    rw[List.take_succ_eq_append_getElem hil,List.mem_append,ew] at hx
    rcases hx with hx|hx
    ·exact h1 _ (hdone x hx hcn)
    ·simp at hx
     obtain rfl:x=w:=by omega
     exact h2 hcn
   by_cases hin:(w:Int)∈R
   ·have hcn:Cn (adj g) (Vx g.length c) b w:=by
     have:=(hR w).1 hin
     rwa [wo_vx] at this
    simp only[hin,decide_true,cond_true,er,bs]
    cases r
    ·simp only[Bool.not_false,cond_true]
     rw[Bg (by simp;omega),bs,Bg (by simp;omega),bs]
     have hnot:pr c w∉S':=λh=>by have:=hr.2 h;cases this
     have hnotE:pr c w∉E':=λh=>hnot ((hB.e2 c w).2 (.inl h))
     have hmem:∀p q:Nat,pr p q∈S'++[pr c w,pr w c]↔pr p q∈S'∨(p=c∧q=w)∨(p=w∧q=c):=λp q=>by
      rw[List.mem_append]
      refine or_congr Iff.rfl ?_
      simp only[List.mem_cons,List.not_mem_nil,or_false]
      exact or_congr ⟨λh=>Cs h,fun⟨h1,h2⟩=>by rw[h1,h2]⟩ ⟨λh=>Cs h,fun⟨h1,h2⟩=>by rw[h1,h2]⟩
     have hmemE:∀p q:Nat,pr p q∈E'++[pr c w]↔pr p q∈E'∨(p=c∧q=w):=λp q=>by
      rw[List.mem_append]
      refine or_congr Iff.rfl ?_
      simp only[List.mem_cons,List.not_mem_nil,or_false]
      exact⟨λh=>Cs h,fun⟨h1,h2⟩=>by rw[h1,h2]⟩
     refine⟨_,rfl,⟨i+1,rfl,by omega,⟨M++[pr c w],by dsimp only;rw[hM,List.append_assoc];rfl⟩,⟨λe he=> ?_,λp q=> ?_,λs hs=> ?_,?_,?_,?_⟩,λs hs=>List.mem_append.2 (.inl (hsub s hs)),hnext (λs hs=>List.mem_append.2 (.inl hs)) (λ_=>(hmem c w).2 (.inr (.inl ⟨rfl,rfl⟩)))⟩,by simp;omega⟩
     ·rcases List.mem_append.1 he with he|he
      ·exact hB.e1 e he
      ·simp at he;subst he
       exact⟨c,w,rfl,hc,hcw,hcl.next hcw hcn⟩
     ·show pr p q∈S'++[pr c w,pr w c]↔pr p q∈E'++[pr c w]∨pr q p∈E'++[pr c w]
      rw[hmem,hmemE,hmemE,hB.e2 p q]
      constructor
      ·rintro((h|h)|⟨h1,h2⟩|⟨h1,h2⟩)
       ·exact .inl (.inl h)
       ·exact .inr (.inl h)
       ·exact .inl (.inr ⟨h1,h2⟩)
       ·exact .inr (.inr ⟨h2,h1⟩)
      ·rintro((h|⟨h1,h2⟩)|(h|⟨h1,h2⟩))
       ·exact .inl (.inl h)
       ·exact .inr (.inl ⟨h1,h2⟩)
       ·exact .inl (.inr h)
       ·exact .inr (.inr ⟨h2,h1⟩)
     ·rcases List.mem_append.1 hs with hs|hs
      ·exact hB.e3 s hs
      ·simp at hs
       rcases hs with rfl|rfl
       ·exact⟨c,w,rfl⟩
       ·exact⟨w,c,rfl⟩
     ·dsimp only
      rw[List.nodup_append]
      refine⟨hB.nd,by simp,λx hx y hy e=> ?_⟩
      simp at hy;subst hy;subst e
      exact hnotE hx
     ·exact List.mem_append.2 (.inl hB.e4)
     ·simp;omega
    ·simp only[Bool.not_true,cond_false]
     exact⟨_,rfl,⟨i+1,rfl,by omega,⟨M,hM⟩,hB,hsub,hnext (λs hs=>hs) (λ_=>hr.1 rfl)⟩,by simp;omega⟩
   ·simp only[hin,decide_false,cond_false,bs]
    refine⟨_,rfl,⟨i+1,rfl,by omega,⟨M,hM⟩,hB,hsub,hnext (λs hs=>hs) (λhcn=> ?_)⟩,by simp;omega⟩
    rw[←wo_vx] at hcn
    exact absurd ((hR w).2 hcn) hin
  ·obtain rfl:i=(row g c).length:=by omega
   simp only[A9,cond_false]
   refine⟨_,rfl,⟨M,hM⟩,hB,hsub,λw hw hcn=>hdone w ?_ hcn⟩
   rw[List.take_length];exact hw
end
end Go.Sx

namespace Go.Sx
def Pc (g:LL)(Sn:LL)(c b:Nat):Prop:=∀w,adj g c w→Cn (adj g) (Vx g.length c) b w→pr c w∈Sn
section
variable {g : LL} (hg : GOk g) {u v : Nat}
include hg
theorem reach_wo {c b:Nat}(hc:c<g.length)(hcb:adj g c b):∃R,D.B g (Cg c g.length) (b:Int) false=some R∧Sh R∧∀x:Nat,(x:Int)∈R↔Cn (adj g) (λz=>(z:Int)∈Cg c g.length) b x:=by
 have hb:=hg.lt hc hcb
 have hbc:b≠c:=λe=>hg.irr c hc (by rw[e] at hcb;exact hcb)
 obtain⟨R,e,h1,h2,h3⟩:=l16Reach_ok hg (wo_inc c g.length) (λx hx=>by obtain⟨w,rfl,h,_⟩:=mem_wo.1 hx;exact⟨w,rfl,h⟩) (f:=b) (mem_wo.2 ⟨b,rfl,hb,hbc⟩)
 have:=h1.short (n:=g.length) (λx hx=>by obtain⟨w,rfl,h⟩:=h2 x hx;omega)
 have h16:=hg.n16
 exact⟨R,e,by unfold Sh;omega,h3⟩
theorem sides_ok {out:LI}{E Sn:LL}(ho:Inc out)(hor:∀x∈out,0≤x∧x<g.length)(h:BI g u v E Sn){k:Nat}(hk:k<E.length){a b:Nat}(he:E[k]=pr a b)(ha:a<g.length)(hab:adj g a b)(hcl:Clo g u v a b):
  ∃q:LI×LL×LL,Ap (σ:=LI×LL×LL×Int) (ρ:=(LI×LL×LL)) (fun(s_7546:LI×LL×LL×Int)=>match s_7546 with|(l_7549,l_7552,l_7557,x_7562)=>cond (decide (x_7562<2)) ((idx l_7552 (k:Int)).bind λe_8100=>(idx e_8100 x_7562).bind λe_8106=>(idx l_7552 (k:Int)).bind λe_8112=>(idx e_8112 (IntKind.i64.wrap (1-x_7562))).bind λe_8118=>(D.s l_7549 e_8106).bind λy_8124=>(D.J g e_8106).bind λy_8136=>(D.B g y_8136 e_8118 false).bind λy_8153=>(Ap (σ:=LL×LL×Int) (ρ:=(LL×LL)) (fun(s_8386:LL×LL×Int)=>match s_8386 with|(l_8389,l_8394,x_8399)=>(idx g e_8106).bind λe_8516=>cond (decide (x_8399<(e_8516.length:Int))) ((idx g e_8106).bind λe_8523=>(idx e_8523 x_8399).bind λe_8529=>(D.d y_8153 e_8529).bind λy_8535=>(cond y_8535 ((D.u l_8394 e_8106 e_8529).bind λy_8567=>some (!y_8567)) (some false)).bind λb_8565=>cond b_8565 ((AG l_8389 ([([e_8106,e_8529]:LI)]:LL)).bind λl_8589=>(AG l_8394 ([([e_8106,e_8529]:LI),([e_8529,e_8106]:LI)]:LL)).bind λl_8613=>some (.inl (l_8589,l_8613,(IntKind.i64.wrap (x_8399+1))))) (some (.inl (l_8389,l_8394,(IntKind.i64.wrap (x_8399+1)))))) (some (.inr (l_8389,l_8394)))) (l_7552,l_7557,0)).bind fun(l_8505,l_8510)=>some (.inl (y_8124,l_8505,l_8510,(IntKind.i64.wrap (x_7562+1))))) (some (.inr (l_7549,l_7552,l_7557)))) (out,E,Sn,0)=some q∧q.1=into (into out (a:Int)) (b:Int)∧(∃M,q.2.1=E++M)∧BI g u v q.2.1 q.2.2∧(∀s∈Sn,s∈q.2.2)∧Pc g q.2.2 a b∧Pc g q.2.2 b a:=by
 have h16:=hg.n16
 have hb:=hg.lt ha hab
 have hba:=hg.sym a b ha hab
 have hol:=ho.short (n:=g.length) hor
 have hil:=into_len out (a:Int)
 obtain⟨R1,eR1,hR1,hR1'⟩:=reach_wo hg ha hab
 obtain⟨R2,eR2,hR2,hR2'⟩:=reach_wo hg hb hba
 obtain⟨⟨E1,S1⟩,e1,⟨M1,hM1⟩,hB1,hs1,hp1⟩:=row_ok hg h ha hab hcl hR1 hR1'
 dsimp only at hM1 hB1 hs1 hp1
 obtain⟨⟨E2,S2⟩,e2,⟨M2,hM2⟩,hB2,hs2,hp2⟩:=row_ok hg hB1 hb hba hcl.sym hR2 hR2'
 dsimp only at hM2 hB2 hs2 hp2
 have i0:idx (pr a b) 0=some (a:Int):=rfl
 have i1:idx (pr a b) 1=some (b:Int):=rfl
 have w1:IntKind.i64.wrap (1-0)=1:=w64 (by omega) (by omega)
 have w0:IntKind.i64.wrap (1-1)=0:=w64 (by omega) (by omega)
 have w2:IntKind.i64.wrap (0+1)=1:=w64 (by omega) (by omega)
 have w3:IntKind.i64.wrap (1+1)=2:=w64 (by omega) (by omega)
 have hk1:k<E1.length:=by rw[hM1];simp;omega
 have hE1:E1[k]=pr a b:=by
  have:E1[k]? =some (pr a b):=by rw[hM1,List.getElem?_append_left hk,List.getElem?_eq_getElem hk,he]
  rw[List.getElem?_eq_getElem hk1] at this
  exact Option.some.inj this
 refine⟨(into (into out (a:Int)) (b:Int),E2,S2),?_,rfl,⟨M1++M2,by rw[hM2,hM1,List.append_assoc]⟩,hB2,λs hs=>hs2 s (hs1 s hs),λw p q=>hs2 _ (hp1 w p q),hp2⟩
 refine(Bf (s':=(into out (a:Int),E1,S1,1)) ?_).trans ((Bf (s':=(into (into out (a:Int)) (b:Int),E2,S2,2)) ?_).trans (AX ?_))
 ·have hd:decide ((0:Int)<2)=true:=rfl
  simp only[hd,cond_true,Ay hk,he,bs,i0,w1,i1,DD out _ ho (by omega),Du h16,eR1,w2]
  exact(Dc e1).trans rfl
 ·have hd:decide ((1:Int)<2)=true:=rfl
  simp only[hd,cond_true,Ay hk1,hE1,bs,i1,w0,i0,DD (into out (a:Int)) _ (ho.into _) (by omega),Du h16,eR2,w3]
  exact(Dc e2).trans rfl
 ·have hd:decide ((2:Int)<2)=false:=rfl
  simp only[hd,cond_false]
theorem l19Block_ok (hu:u<g.length)(huv:adj g u v):∃B,D.l g (u:Int) (v:Int)=some B∧Inc B∧(∀x∈B,0≤x∧x<g.length)∧∀x:Nat,(x:Int)∈B↔∃b,Clo g u v x b:=by
 have h16:=hg.n16
 have hv:=hg.lt hu huv
 have hne:u≠v:=λe=>hg.irr u hu (by rw[←e] at huv;exact huv)
 unfold D.l
 have main:=AK (k:=λB=>some B) (Q:=λB=>Inc B∧(∀x∈B,0≤x∧x<g.length)∧∀x:Nat,(x:Int)∈B↔∃b,Clo g u v x b) (step:=(fun(s_4327:LI×LL×LL×Int)=>match s_4327 with|(l_4333,l_4336,l_4341,x_4346)=>cond (decide (x_4346<(l_4336.length:Int))) ((Ap (σ:=LI×LL×LL×Int) (ρ:=(LI×LL×LL)) (fun(s_7546:LI×LL×LL×Int)=>match s_7546 with|(l_7549,l_7552,l_7557,x_7562)=>cond (decide (x_7562<2)) ((idx l_7552 x_4346).bind λe_8100=>(idx e_8100 x_7562).bind λe_8106=>(idx l_7552 x_4346).bind λe_8112=>(idx e_8112 (IntKind.i64.wrap (1-x_7562))).bind λe_8118=>(D.s l_7549 e_8106).bind λy_8124=>(D.J g e_8106).bind λy_8136=>(D.B g y_8136 e_8118 false).bind λy_8153=>(Ap (σ:=LL×LL×Int) (ρ:=(LL×LL)) (fun(s_8386:LL×LL×Int)=>match s_8386 with|(l_8389,l_8394,x_8399)=>(idx g e_8106).bind λe_8516=>cond (decide (x_8399<(e_8516.length:Int))) ((idx g e_8106).bind λe_8523=>(idx e_8523 x_8399).bind λe_8529=>(D.d y_8153 e_8529).bind λy_8535=>(cond y_8535 ((D.u l_8394 e_8106 e_8529).bind λy_8567=>some (!y_8567)) (some false)).bind λb_8565=>cond b_8565 ((AG l_8389 ([([e_8106,e_8529]:LI)]:LL)).bind λl_8589=>(AG l_8394 ([([e_8106,e_8529]:LI),([e_8529,e_8106]:LI)]:LL)).bind λl_8613=>some (.inl (l_8589,l_8613,(IntKind.i64.wrap (x_8399+1))))) (some (.inl (l_8389,l_8394,(IntKind.i64.wrap (x_8399+1)))))) (some (.inr (l_8389,l_8394)))) (l_7552,l_7557,0)).bind fun(l_8505,l_8510)=>some (.inl (y_8124,l_8505,l_8510,(IntKind.i64.wrap (x_7562+1))))) (some (.inr (l_7549,l_7552,l_7557)))) (l_4333,l_4336,l_4341,0)).bind fun(l_8085,l_8088,l_8093)=>some (.inl (l_8085,l_8088,l_8093,(IntKind.i64.wrap (x_4346+1))))) (some (.inr l_4333))))
  (s:=(([]:LI),([pr u v]:LL),([pr u v,pr v u]:LL),0)) (fun(q:LI×LL×LL×Int)=>∃k:Nat,q.2.2.2=(k:Int)∧k≤q.2.1.length∧BI g u v q.2.1 q.2.2.1∧Inc q.1∧(∀x∈q.1,0≤x∧x<g.length)∧(∀x:Nat,(x:Int)∈q.1↔∃b,pr x b∈q.2.1.take k∨pr b x∈q.2.1.take k)∧∀a b,pr a b∈q.2.1.take k→Pc g q.2.2.1 a b∧Pc g q.2.2.1 b a)
  (λq=>1000-q.2.2.2.toNat) (λB=>Inc B∧(∀x∈B,0≤x∧x<g.length)∧∀x:Nat,(x:Int)∈B↔∃b,Clo g u v x b) ?_ ⟨0,rfl,by omega,⟨λe he=> ?_,λa b=> ?_,λs hs=> ?_,by simp,by simp,rfl⟩,by simp[Inc],by simp,λx=>by simp,by simp⟩ (λr hr=>⟨r,rfl,hr⟩)
 ·obtain⟨B,e,hB⟩:=main
  exact⟨B,e,hB⟩
 ·rintro⟨o,E,Sn,_⟩ ⟨k,rfl,hk,hB,h1,h2,h3,h4⟩
  dsimp only at hk hB h1 h2 h3 h4 ⊢
  have hEl:=hB.short hg
  by_cases hkl:k<E.length
  ·obtain⟨a,b,he,ha,hab,hcl⟩:=hB.e1 _ (List.getElem_mem hkl)
   have hb:=hg.lt ha hab
   obtain⟨⟨o',E',S'⟩,e,q1,⟨M,hM⟩,q3,q4,q5,q6⟩:=sides_ok hg h1 h2 hB hkl he ha hab hcl
   dsimp only at q1 hM q3 q4 q5 q6
   rw[dlt hkl,cond_true]
   have w1:IntKind.i64.wrap ((k:Int)+1)=((k+1:Nat):Int):=wi (by omega)
   rw[w1]
   refine bind_eq e ?_
   have htk:E'.take (k+1)=E.take k++[pr a b]:=by
    rw[hM,List.take_append_of_le_length (by omega),List.take_succ_eq_append_getElem hkl,he]
   have hmem:∀p q:Nat,pr p q∈E'.take (k+1)↔pr p q∈E.take k∨(p=a∧q=b):=λp q=>by
    rw[htk,List.mem_append]
    refine or_congr Iff.rfl ?_
    simp only[List.mem_cons,List.not_mem_nil,or_false]
    exact⟨λh=>Cs h,fun⟨h1,h2⟩=>by rw[h1,h2]⟩
   refine⟨_,rfl,⟨k+1,rfl,by rw[hM];simp;omega,q3,by rw[q1];exact(h1.into _).into _,λx hx=> ?_,λx=> ?_,λp q hpq=> ?_⟩,by simp;omega⟩
   ·rw[q1] at hx
    rcases mem_into.1 hx with rfl|hx
    ·omega
    ·rcases mem_into.1 hx with rfl|hx
     ·omega
     ·exact h2 x hx
   ·show (x:Int)∈o'↔∃b,pr x b∈E'.take (k+1)∨pr b x∈E'.take (k+1)
    rw[q1,mem_into,mem_into,h3]
    constructor
    ·rintro(e|e|⟨c,hc|hc⟩)
     ·exact⟨a,.inr ((hmem a x).2 (.inr ⟨rfl,by omega⟩))⟩
     ·exact⟨b,.inl ((hmem x b).2 (.inr ⟨by omega,rfl⟩))⟩
     ·exact⟨c,.inl ((hmem x c).2 (.inl hc))⟩
     ·exact⟨c,.inr ((hmem c x).2 (.inl hc))⟩
    ·rintro⟨c,hc|hc⟩
     ·rcases(hmem x c).1 hc with hc|⟨e,_⟩
      ·exact .inr (.inr ⟨c,.inl hc⟩)
      ·exact .inr (.inl (by omega))
     ·rcases(hmem c x).1 hc with hc|⟨_,e⟩
      ·exact .inr (.inr ⟨c,.inr hc⟩)
      ·exact .inl (by omega)
   ·rcases(hmem p q).1 hpq with hpq|⟨rfl,rfl⟩
    ·obtain⟨r1,r2⟩:=h4 p q hpq
     exact⟨λw a1 a2=>q4 _ (r1 w a1 a2),λw a1 a2=>q4 _ (r2 w a1 a2)⟩
    ·exact⟨q5,q6⟩
  ·obtain rfl:k=E.length:=by omega
   rw[A9,cond_false]
   rw[List.take_length] at h3 h4
   refine⟨_,rfl,h1,h2,λx=> ?_⟩
   rw[h3]
   constructor
   ·rintro⟨c,hc|hc⟩
    ·obtain⟨a,b,e,_,_,hcl⟩:=hB.e1 _ hc
     obtain⟨rfl,rfl⟩:=Cs e
     exact⟨_,hcl⟩
    ·obtain⟨a,b,e,_,_,hcl⟩:=hB.e1 _ hc
     obtain⟨rfl,rfl⟩:=Cs e
     exact⟨_,hcl.sym⟩
   ·rintro⟨c,hc⟩
    have:=hc (λp q=>pr p q∈Sn) ((hB.e2 u v).2 (.inl hB.e4)) ((hB.e2 v u).2 (.inr hB.e4)) (λa b w hab haw hcn=>by
     have hPc:Pc g Sn a b:=by
      rcases(hB.e2 a b).1 hab with h|h
      ·exact(h4 a b h).1
      ·exact(h4 b a h).2
     have h5:=hPc w haw hcn
     exact⟨h5,(hB.e2 w a).2 ((hB.e2 a w).1 h5).symm⟩)
    exact⟨c,(hB.e2 x c).1 this⟩
 ·simp at he;subst he
  exact⟨u,v,rfl,hu,huv,Clo.base⟩
 ·show pr a b∈[pr u v,pr v u]↔pr a b∈[pr u v]∨pr b a∈[pr u v]
  simp only[List.mem_cons,List.not_mem_nil,or_false]
  refine or_congr Iff.rfl ⟨λh=> ?_,λh=> ?_⟩
  ·obtain⟨h1,h2⟩:=Cs h;rw[h1,h2]
  ·obtain⟨h1,h2⟩:=Cs h;rw[h1,h2]
 ·simp at hs
  rcases hs with rfl|rfl
  ·exact⟨u,v,rfl⟩
  ·exact⟨v,u,rfl⟩
end
end Go.Sx

namespace Go.Sx
theorem l19Ahead_eq (x y:LI)(hx:x.length≤100000):∃r,D.x x y=some r∧(r=true↔cz x y<0):=by
 have key:∀(d i:Nat),x.length≤i+d→i≤x.length→i≤y.length→
   (Ap (σ:=Int) (ρ:=(Unit) ⊕ (Bool)) (fun(x_76:Int)=>cond ((decide (x_76<(x.length:Int)))&&(decide (x_76<(y.length:Int)))) ((idx x x_76).bind λe_117=>(idx y x_76).bind λe_123=>cond (e_117 !=e_123) ((idx x x_76).bind λe_132=>(idx y x_76).bind λe_138=>some (.inr (.inr (decide (e_132<e_138))))) (some (.inl (IntKind.i64.wrap (x_76+1))))) (some (.inr (.inl ())))) (i:Int)=some (.inl ())∧(cz (x.drop i) (y.drop i)<0↔x.length<y.length))∨
   ∃r,Ap (σ:=Int) (ρ:=(Unit) ⊕ (Bool)) (fun(x_76:Int)=>cond ((decide (x_76<(x.length:Int)))&&(decide (x_76<(y.length:Int)))) ((idx x x_76).bind λe_117=>(idx y x_76).bind λe_123=>cond (e_117 !=e_123) ((idx x x_76).bind λe_132=>(idx y x_76).bind λe_138=>some (.inr (.inr (decide (e_132<e_138))))) (some (.inl (IntKind.i64.wrap (x_76+1))))) (some (.inr (.inl ())))) (i:Int)=some (.inr r)∧(r=true↔cz (x.drop i) (y.drop i)<0):=by
  intro d
  induction d with
  |zero=>
   intro i h1 h2 h3
   obtain rfl:i=x.length:=by omega
   left
   refine⟨AX ?_,?_⟩
   ·simp only[A9,Bool.false_and,cond_false]
   ·rw[List.drop_length]
    cases hy:y.drop x.length with
    |nil=>
     have:=congrArg List.length hy
     simp at this
     simp[cz];omega
    |cons b t=>
     have:=congrArg List.length hy
     simp at this
     simp[cz];omega
  |succ d ih=>
   intro i h1 h2 h3
   by_cases hix:i<x.length
   ·by_cases hiy:i<y.length
    ·rw[List.drop_eq_getElem_cons hix,List.drop_eq_getElem_cons hiy]
     by_cases he:x[i]=y[i]
     ·have hb:(x[i] !=y[i])=false:=by simp[he]
      rw[Bf (s':=((i+1:Nat):Int)) (by simp only[dlt hix,dlt hiy,Bool.and_self,cond_true,Ay hix,Ay hiy,bs,hb,cond_false,wq i])]
      have hcz:cz (x[i]::x.drop (i+1)) (y[i]::y.drop (i+1))=cz (x.drop (i+1)) (y.drop (i+1)):=by
       rw[he];simp[cz]
      rw[hcz]
      exact ih (i+1) (by omega) (by omega) (by omega)
     ·right
      have hb:(x[i] !=y[i])=true:=by simpa using he
      refine⟨decide (x[i]<y[i]),AX (by simp only[dlt hix,dlt hiy,Bool.and_self,cond_true,Ay hix,Ay hiy,bs,hb]),?_⟩
      rw[decide_eq_true_eq]
      simp only[cz]
      by_cases hlt:x[i]<y[i]
      ·simp[hlt]
      ·have hgt:y[i]<x[i]:=by omega
       simp[hlt,hgt]
    ·left
     refine⟨AX ?_,?_⟩
     ·have:decide ((i:Int)<(y.length:Int))=false:=by simp;omega
      simp only[this,Bool.and_false,cond_false]
     ·rw[List.drop_eq_getElem_cons hix,List.drop_of_length_le (l:=y) (by omega)]
      simp[cz];omega
   ·obtain rfl:i=x.length:=by omega
    left
    refine⟨AX ?_,?_⟩
    ·simp only[A9,Bool.false_and,cond_false]
    ·rw[List.drop_length]
     cases hy:y.drop x.length with
     |nil=>
      have:=congrArg List.length hy
      simp at this
      simp[cz];omega
     |cons b t=>
      have:=congrArg List.length hy
      simp at this
      simp[cz];omega
 unfold D.x
 rcases key x.length 0 (by omega) (by omega) (by omega) with⟨e,h⟩|⟨r,e,h⟩
 ·refine⟨decide ((x.length:Int)<(y.length:Int)),(Dc e).trans rfl,?_⟩
  rw[decide_eq_true_eq]
  rw[List.drop_zero,List.drop_zero] at h
  rw[h];omega
 ·rw[List.drop_zero,List.drop_zero] at h
  exact⟨r,(Dc e).trans rfl,h⟩
theorem l19Put_ok {L:LI}(hv:∀s∈L,VS s)(hs:L.Pairwise λa b=>Bd a<Bd b)(hl:L.length≤100000){S:Int}(hS:VS S):
  ∃L':LI,D.m (L.map Ao) (Ao S)=some (L'.map Ao)∧(L'.Pairwise λa b=>Bd a<Bd b)∧∀x,x∈L'↔x=S∨x∈L:=by
 have hlm:(L.map Ao).length=L.length:=by simp
 have hidx:∀i (hi:i<L.length),idx (L.map Ao) (i:Int)=some (Ao L[i]):=λi hi=>by rw[Ay (by simpa using hi)];simp
 have hpl:=Bc S
 have hah:∀i (hi:i<L.length),∃r,D.x (Ao L[i]) (Ao S)=some r∧(r=true↔Bd L[i]<Bd S):=λi hi=>by
  have:=Bc L[i]
  obtain⟨r,e,h⟩:=l19Ahead_eq (Ao L[i]) (Ao S) (by omega)
  refine⟨r,e,?_⟩
  rw[h]
  exact lk_cmp 32 _ _ (Bc _) (Bc _) (CA _) (CA _)
 unfold D.m
 have hk:=AK (k:=λk=>some k) (Q:=λk:Int=>∃i:Nat,k=(i:Int)∧i≤L.length∧(∀j (hj:j<L.length),j<i→Bd L[j]<Bd S)∧∀hi:i<L.length,¬Bd L[i]<Bd S) (step:=fun(x_100:Int)=>(cond (decide (x_100<((L.map Ao).length:Int))) ((idx (L.map Ao) x_100).bind λe_181=>(D.x e_181 (Ao S)).bind λy_187=>some y_187) (some false)).bind λb_179=>cond b_179 (some (.inl (IntKind.i64.wrap (x_100+1)))) (some (.inr x_100)))
  (s:=0) (λk=>∃i:Nat,k=(i:Int)∧i≤L.length∧∀j (hj:j<L.length),j<i→Bd L[j]<Bd S) (λk=>L.length-k.toNat) (λk:Int=>∃i:Nat,k=(i:Int)∧i≤L.length∧(∀j (hj:j<L.length),j<i→Bd L[j]<Bd S)∧∀hi:i<L.length,¬Bd L[i]<Bd S) ?_ ⟨0,rfl,by omega,λj _ h=>by omega⟩ (λr hr=>⟨r,rfl,hr⟩)
 ·obtain⟨k,e,i,rfl,hi,h1,h2⟩:=hk
  have e':Ap (σ:=Int) (ρ:=(Int)) (fun(x_100:Int)=>(cond (decide (x_100<((L.map Ao).length:Int))) ((idx (L.map Ao) x_100).bind λe_181=>(D.x e_181 (Ao S)).bind λy_187=>some y_187) (some false)).bind λb_179=>cond b_179 (some (.inl (IntKind.i64.wrap (x_100+1)))) (some (.inr x_100))) 0=some (i:Int):=by simpa using e
  rw[e',bs]
  have hp:=List.pairwise_iff_getElem.1 hs
  have hput:S∉L→(∃L':LI,some (((L.map Ao).take i++[Ao S])++(L.map Ao).drop i)=some (L'.map Ao)∧(L'.Pairwise λa b=>Bd a<Bd b)∧∀x,x∈L'↔x=S∨x∈L):=λhn=>by
   refine⟨L.take i++[S]++L.drop i,by simp,?_,λx=> ?_⟩
   ·rw[List.pairwise_append,List.pairwise_append]
    have hge:∀b∈L.drop i,Bd S<Bd b:=λb hb=>by
     obtain⟨j,hj,rfl⟩:=List.mem_drop_iff_getElem.1 hb
     have hil:i<L.length:=by omega
     have hne:Bd S≠Bd L[i]:=λe=>hn (by rw[lkey_inj hS (hv _ (List.getElem_mem hil)) e];exact List.getElem_mem hil)
     have:=h2 hil
     by_cases hj0:j=0
     ·subst hj0;simp only[Nat.add_zero];omega
     ·have:=hp i (i+j) hil (by omega) (by omega);omega
    refine⟨⟨hs.take,by simp,λa ha b hb=> ?_⟩,hs.drop,λa ha b hb=> ?_⟩
    ·simp at hb;subst hb
     obtain⟨j,hj,rfl⟩:=List.mem_take_iff_getElem.1 ha
     exact h1 j (by omega) (by omega)
    ·rcases List.mem_append.1 ha with ha|ha
     ·obtain⟨j,hj,rfl⟩:=List.mem_take_iff_getElem.1 ha
      have:=h1 j (by omega) (by omega)
      have:=hge b hb
      omega
     ·simp at ha;subst ha
      exact hge b hb
   ·have:=List.take_append_drop i L
    constructor
    ·intro h
     simp only[List.mem_append,List.mem_cons,List.not_mem_nil,or_false] at h
     rcases h with(h|h)|h
     ·exact .inr (List.mem_of_mem_take h)
     ·exact .inl h
     ·exact .inr (List.mem_of_mem_drop h)
    ·intro h
     simp only[List.mem_append,List.mem_cons,List.not_mem_nil,or_false]
     rcases h with h|h
     ·exact .inl (.inr h)
     ·rw[←this,List.mem_append] at h
      exact h.elim (λh=> .inl (.inl h)) .inr
  have hins:S∉L→∃L':LI,((Bj (L.map Ao) 0 (i:Int)).bind λl_244=>(AG ([]:LL) l_244).bind λl_248=>(AG l_248 ([Ao S]:LL)).bind λl_258=>(Bj (L.map Ao) (i:Int) ((L.map Ao).length:Int)).bind λl_264=>(AG l_258 l_264).bind λl_268=>some l_268)=some (L'.map Ao)∧(L'.Pairwise λa b=>Bd a<Bd b)∧∀x,x∈L'↔x=S∨x∈L:=λhn=>by
   rw[sliceD_pre (by simpa using hi),bs,Bg (by simp;omega),bs,List.nil_append,Bg (by simp;omega),bs,Da (by simpa using hi),bs,Bg (by simp;omega),bs]
   exact hput hn
  by_cases hil:i<L.length
  ·have hd:decide ((i:Int)<((L.map Ao).length:Int))=true:=by simp;omega
   have hsh:Sh (Ao L[i]):=by have:=Bc L[i];unfold Sh;omega
   simp only[hd,cond_true,hidx i hil,bs,l1Same_eq _ _ hsh]
   by_cases he:Ao L[i]=Ao S
   ·simp only[he,decide_true,cond_true]
    have:L[i]=S:=C8 (hv _ (List.getElem_mem hil)) hS he
    refine⟨L,rfl,hs,λx=>⟨.inr,λh=> ?_⟩⟩
    rcases h with rfl|h
    ·rw[←this];exact List.getElem_mem hil
    ·exact h
   ·simp only[he,decide_false,cond_false]
    refine hins (λhm=> ?_)
    obtain⟨j,hj,ej⟩:=List.getElem_of_mem hm
    have hji:¬j<i:=λh=>by have:=h1 j hj h;rw[ej] at this;omega
    by_cases hji':j=i
    ·subst hji';exact he (by rw[ej])
    ·have:=hp i j hil hj (by omega)
     rw[ej] at this
     exact h2 hil this
  ·have hd:decide ((i:Int)<((L.map Ao).length:Int))=false:=by simp;omega
   simp only[hd,cond_false,bs]
   refine hins (λhm=> ?_)
   obtain⟨j,hj,ej⟩:=List.getElem_of_mem hm
   have:=h1 j hj (by omega)
   rw[ej] at this;omega
 ·rintro _ ⟨i,rfl,hi,h1⟩
  by_cases hil:i<L.length
  ·have hd:decide ((i:Int)<((L.map Ao).length:Int))=true:=by simp;omega
   obtain⟨r,er,hr⟩:=hah i hil
   simp only[hd,cond_true,hidx i hil,bs,er]
   cases r
   ·simp only[cond_false]
    exact⟨_,rfl,i,rfl,hi,h1,λ_ h=>by have:=hr.2 h;cases this⟩
   ·simp only[cond_true]
    refine⟨_,rfl,⟨i+1,wi (by omega),by omega,λj hj hji=> ?_⟩,by rw[wi (by omega)];dsimp only;omega⟩
    by_cases hjl:j<i
    ·exact h1 j hj hjl
    ·obtain rfl:j=i:=by omega
     exact hr.1 rfl
  ·obtain rfl:i=L.length:=by omega
   have hd:decide ((L.length:Int)<((L.map Ao).length:Int))=false:=by simp
   simp only[hd,cond_false,bs]
   exact⟨_,rfl,L.length,rfl,by omega,h1,λh=>by omega⟩
def Lsts (g:LL)(K:Int):Prop:=In g.length K∧(∀u w,has K u=true→has K w=true→¬adj g u w)∧∀w,w<g.length→has K w=true∨∃v,has K v=true∧adj g v w
structure LSt (g:LL)(l:LI):Prop where
 up:l.Pairwise (λa b=>skey a<skey b)
 mem:∀K,K∈l↔Lsts g K
theorem LSt.vs {g:LL}{l:LI}(h:LSt g l):∀s∈l,VS s:=λs hs=>((h.mem s).1 hs).1.1
theorem LSt.len {g:LL}{l:LI}(hg:GOk g)(h:LSt g l):l.length≤65536:=CD hg.n16 (λK hK=>((h.mem K).1 hK).1) (Dl h.up)
theorem tot_elems (l:LI):tot (l.map Ao)≤l.length*32:=by
 have:=tot_le (xs:=l.map Ao) (n:=32) (λx hx=>by
  obtain⟨s,_,rfl⟩:=List.mem_map.1 hx
  have:=Bc s;omega)
 rwa [List.length_map] at this
section
variable {g : LL} (hg : GOk g)
include hg
theorem CH :Ad (g.map mk)=adj g:=by
 funext a b
 refine propext ?_
 by_cases ha:a<g.length
 ·exact nb_mk hg ha
 ·constructor
  ·intro h
   exfalso
   unfold Ad nb at h
   rw[List.getD_eq_getElem?_getD,List.getElem?_eq_none (by simp;omega)] at h
   simp[B4] at h
  ·intro h
   exfalso
   unfold adj row at h
   rw[List.getD_eq_getElem?_getD,List.getElem?_eq_none (by omega)] at h
   simp at h
theorem leaf_near {S:Int}(hL:Leaf (g.map mk) g.length S)(h2:Two S){x:Nat}(hx:El S x):∃y,El S y∧adj g x y:=by
 apply Classical.byContradiction
 intro hno
 have hone:∀y,El S y→y=x:=λy hy=>hL.j x y hx hy (λz=>z=x) rfl (λa b ha hab hb=>by
  subst ha
  rw[CH hg] at hab
  exact absurd ⟨b,hb,hab⟩ hno)
 obtain⟨p,q,hp,hq,hpq⟩:=h2
 exact hpq ((hone p hp).trans (hone q hq).symm)
theorem leaf_clo {S:Int}(hL:Leaf (g.map mk) g.length S){u w:Nat}(hu:El S u)(hw:El S w)(huw:adj g u w):∀a b,Clo g u w a b↔El S a∧El S b∧adj g a b:=by
 have hlt:∀x,El S x→x<g.length:=λx hx=>hL.i.2 x hx
 have hp:=hL.p;have hj:=hL.j;have hcut:=hL.cut
 rw[CH hg] at hj
 have hcut':∀v,El S v→BV (adj g) (Mn S v):=λv hv=>by have:=hcut v hv;rwa [CH hg] at this
 intro a b
 constructor
 ·intro h
  exact h (λa b=>El S a∧El S b∧adj g a b) ⟨hu,hw,huw⟩ ⟨hw,hu,hg.sym u w (hlt u hu) huw⟩ (λa b x ⟨p,q,r⟩ hax hcn=>by
   have hba:b≠a:=λe=>hg.irr a (hlt a p) (by rw[e] at r;exact r)
   have hx:=(hp a b p q hba).1 x (by rw[←CH hg] at hax;exact hax) (by rw[CH hg];exact hcn)
   exact⟨⟨p,hx,hax⟩,⟨hx,p,hg.sym a x (hlt a p) hax⟩⟩)
 ·rintro⟨ha,hb,hab⟩
  have hall:∀{p q:Nat},El S p→El S q→adj g p q→Clo g u w p q→∀x,El S x→adj g p x→Clo g u w p x:=fun{p q} hp' hq' hpq hc x hx hpx=>by
   refine hc.next hpx ?_
   have hqp:q≠p:=λe=>hg.irr p (hlt p hp') (by rw[e] at hpq;exact hpq)
   have hxp:x≠p:=λe=>hg.irr p (hlt p hp') (by rw[e] at hpx;exact hpx)
   exact(hcut' p hp' q x ⟨hq',hqp⟩ ⟨hx,hxp⟩).mono (λz hz=>⟨hlt z hz.1,hz.2⟩)
  have hreach:=hj u a hu ha (λz=>El S z∧∃q,El S q∧adj g z q∧Clo g u w z q) ⟨hu,w,hw,huw,Clo.base⟩ (λz x ⟨hz,q,hq,hzq,hc⟩ hzx hx=>by
   have:=hall hz hq hzq hc x hx hzx
   exact⟨hx,z,hz,hg.sym z x (hlt z hz) hzx,this.sym⟩)
  obtain⟨_,q,hq,haq,hc⟩:=hreach
  exact hall ha hq haq hc b hb hab
theorem block_leaf {S:Int}(hL:Leaf (g.map mk) g.length S){u w:Nat}(hu:El S u)(hw:El S w)(huw:adj g u w):D.l g (u:Int) (w:Int)=some (Ao S):=by
 have hlt:∀x,El S x→x<g.length:=λx hx=>hL.i.2 x hx
 obtain⟨B,e,h1,h2,h3⟩:=l19Block_ok hg (hlt u hu) huw
 have huw':u≠w:=λe=>hg.irr u (hlt u hu) (by rw[←e] at huw;exact huw)
 have:B=Ao S:=by
  refine Inc.ext h1 (Bz S) (λx=> ?_)
  constructor
  ·intro hx
   have hr:=h2 x hx
   obtain⟨n,rfl⟩:∃n:Nat,x=(n:Int):=⟨x.toNat,by omega⟩
   obtain⟨b,hb⟩:=(h3 n).1 hx
   exact(AQ hL.i.1).2 ((leaf_clo hg hL hu hw huw n b).1 hb).1
  ·intro hx
   obtain⟨n,_,hn,rfl⟩:=mem_elems.1 hx
   obtain⟨y,hy,hny⟩:=leaf_near hg hL ⟨u,w,hu,hw,huw'⟩ hn
   exact(h3 n).2 ⟨y,(leaf_clo hg hL hu hw huw n y).2 ⟨hn,hy,hny⟩⟩
 rw[e,this]
structure AllB (g:LL)(L:LI):Prop where
 i:∀S∈L,In g.length S
 nd:L.Nodup
 kind:∀S∈L,(∃u,u<g.length∧row g u=[]∧Ao S=[(u:Int)])∨(Leaf (g.map mk) g.length S∧Two S)
 edge:∀u w,u<g.length→adj g u w→∃S∈L,Leaf (g.map mk) g.length S∧El S u∧El S w
 lone:∀u,u<g.length→row g u=[]→∃S∈L,Ao S=[(u:Int)]
theorem blocksOf_ok :∃l,D.j0 (g.map mk)=some l∧(l.Pairwise λa b=>Bd a<Bd b)∧AllB g l:=by
 have h16:=hg.n16
 have hF:=FOk.of hg
 have hlF:(g.map mk).length=g.length:=by simp
 have hfull:In g.length (full g.length):=⟨full_vs _,λw hw=>by rw[has_full h16] at hw;exact of_decide_eq_true hw⟩
 have hfe:∀x,El (full g.length) x↔x<g.length:=λx=>by unfold El;rw[has_full h16];simp
 obtain⟨ps,eps,hP,hpl⟩:=CP h16 hF hfull
 have hpin:∀s∈ps,In g.length s:=λs hs=>⟨hP.vs s hs,λw hw=>(hfe w).1 (hP.sub s hs w hw)⟩
 have hclosed:∀s∈ps,∀a b,El s a→Ad (g.map mk) a b→El s b:=λs hs a b ha hab=>by
  have han:=(hpin s hs).2 a ha
  exact(hP.cn s hs a b ha).2 (Cn.refl.step hab ((hfe b).2 (hF.lt a b han hab)))
 have hjoint:∀s∈ps,BV (Ad (g.map mk)) (El s):=λs hs x y hx hy=>
  ((hP.cn s hs x y hx).1 hy (λz=>El s z∧Cn (Ad (g.map mk)) (El s) x z) ⟨hx,Cn.refl⟩ (λa b ⟨p,q⟩ hab _=>⟨hclosed s hs a b p hab,q.step hab (hclosed s hs a b p hab)⟩)).2
 have hpp:∀s∈ps,PP (g.map mk) g.length (El s):=λs hs c x hc hx hxc=>
  ⟨λw hw _=>hclosed s hs c w hc hw,λy _ _ hcn=>(hcn (λz=>El s z∧Cn (Ad (g.map mk)) (λz=>El s z∧z≠c) x z) ⟨hx,Cn.refl⟩ (λa b ⟨p,q⟩ hab hb=>by
   have:=hclosed s hs a b p hab
   exact⟨this,q.step hab ⟨this,hb.2⟩⟩)).2⟩
 unfold D.j0 D.f
 rw[nets_all_full,bs,hlF,eps,bs]
 have main:=AK (k:=λo=>some o) (Q:=λo:LI=>o.Nodup∧(∀S∈o,In g.length S)∧(∀S∈o,(∃u,u<g.length∧row g u=[]∧Ao S=[(u:Int)])∨(Leaf (g.map mk) g.length S∧Two S))∧(∀j (hj:j<ps.length),(∀u w,El ps[j] u→adj g u w→∃S∈o,Leaf (g.map mk) g.length S∧El S u∧El S w)∧∀u,El ps[j] u→row g u=[]→∃S∈o,Ao S=[(u:Int)])) (step:=fun(s_70:LI×Int)=>match s_70 with|(l_73,x_78)=>cond (decide (x_78<(ps.length:Int))) ((idx ps x_78).bind λe_106=>(D.t BJ (g.map mk) e_106 l_73).bind λy_112=>some (.inl (y_112,(IntKind.i64.wrap (x_78+1))))) (some (.inr l_73)))
  (s:=(([]:LI),0)) (λq=>∃i:Nat,q.2=(i:Int)∧i≤ps.length∧q.1.Nodup∧(∀S∈q.1,In g.length S)∧(∀S∈q.1,(∃v,El S v)∧∃j,∃hj:j<ps.length,j<i∧∀x,El S x→El ps[j] x)∧(∀S∈q.1,(∃u,u<g.length∧row g u=[]∧Ao S=[(u:Int)])∨(Leaf (g.map mk) g.length S∧Two S))∧(∀j (hj:j<ps.length),j<i→(∀u w,El ps[j] u→adj g u w→∃S∈q.1,Leaf (g.map mk) g.length S∧El S u∧El S w)∧∀u,El ps[j] u→row g u=[]→∃S∈q.1,Ao S=[(u:Int)]))
  (λq=>ps.length-q.2.toNat) (λo:LI=>o.Nodup∧(∀S∈o,In g.length S)∧(∀S∈o,(∃u,u<g.length∧row g u=[]∧Ao S=[(u:Int)])∨(Leaf (g.map mk) g.length S∧Two S))∧(∀j (hj:j<ps.length),(∀u w,El ps[j] u→adj g u w→∃S∈o,Leaf (g.map mk) g.length S∧El S u∧El S w)∧∀u,El ps[j] u→row g u=[]→∃S∈o,Ao S=[(u:Int)])) ?_
  ⟨0,rfl,by omega,by simp,by simp,by simp,by simp,λj _ h=>by omega⟩ (λr hr=>⟨r,rfl,hr⟩)
 ·obtain⟨o,e,m1,m2,m3,m4⟩:=main
  have hol:=CD h16 m2 m1
  refine(show∃l,(Option.bind _ _)=some l∧_ from ?_)
  rw[show (Ap (σ:=LI×Int) (ρ:=(LI)) (fun(s_70:LI×Int)=>match s_70 with|(l_73,x_78)=>cond (decide (x_78<(ps.length:Int))) ((idx ps x_78).bind λe_106=>(D.t BJ (g.map mk) e_106 l_73).bind λy_112=>some (.inl (y_112,(IntKind.i64.wrap (x_78+1))))) (some (.inr l_73))) (([]:LI),0))=some o from by simpa using e,bs,CI]
  obtain⟨l',e2,hp,hs⟩:=sorted_rise byLex (λx y=>lkey_inj) o (λK hK=>(m2 K hK).1) m1 (by omega)
  refine⟨l',by rw[show DG.Sort D.a o=some l' from e2];rfl,hs,⟨λS hS=>m2 S (hp.mem_iff.1 hS),Dl hs,λS hS=>m3 S (hp.mem_iff.1 hS),λu w hu huw=> ?_,λu hu hr=> ?_⟩⟩
  ·obtain⟨s,hs',hus⟩:=hP.all u ((hfe u).2 hu)
   obtain⟨j,hj,rfl⟩:=List.getElem_of_mem hs'
   obtain⟨S,hS,h⟩:=(m4 j hj).1 u w hus huw
   exact⟨S,hp.mem_iff.2 hS,h⟩
  ·obtain⟨s,hs',hus⟩:=hP.all u ((hfe u).2 hu)
   obtain⟨j,hj,rfl⟩:=List.getElem_of_mem hs'
   obtain⟨S,hS,h⟩:=(m4 j hj).2 u hus hr
   exact⟨S,hp.mem_iff.2 hS,h⟩
 ·rintro⟨o,_⟩ ⟨i,rfl,hi,m1,m2,m3,m4,m5⟩
  dsimp only at m1 m2 m3 m4 m5 ⊢
  by_cases hil:i<ps.length
  ·have hmem:=List.getElem_mem hil
   have hdis:∀j (hj:j<ps.length),j<i→∀x,¬(El ps[j] x∧El ps[i] x):=λj hj hji=>List.pairwise_iff_getElem.1 hP.dis j i hj hil hji
   have hap:Apart o ps[i]:=⟨λS hS x y a1 a2 _ _=>by
    obtain⟨_,j,hj,hji,hsub⟩:=m3 S hS
    exact absurd ⟨hsub x a1,a2⟩ (hdis j hj hji x),λhm=>by
    obtain⟨⟨v,hv⟩,j,hj,hji,hsub⟩:=m3 _ hm
    exact hdis j hj hji v ⟨hsub v hv,hv⟩⟩
   have h33:=recFuel_33
   have hel:=Bc ps[i]
   obtain⟨L,eL,hnd,hB⟩:=addBlocks_ok h16 hF BJ ps[i] o (by omega) (hpin _ hmem) (hP.ne _ hmem) (hjoint _ hmem) (hpp _ hmem) m1 m2 hap
   simp only[dlt hil,cond_true,Ay hil,bs,eL,wq i]
   have hlone:¬Two ps[i]→∃u,El ps[i] u∧row g u=[]∧Ao ps[i]=[(u:Int)]:=λh2=>by
    obtain⟨u,hu⟩:=hP.ne _ hmem
    have huniq:∀y,El ps[i] y→y=u:=λy hy=>by
     apply Classical.byContradiction
     intro h;exact h2 ⟨y,u,hy,hu,h⟩
    have hun:=(hpin _ hmem).2 u hu
    refine⟨u,hu,?_,Inc.ext (Bz _) (by simp[Inc]) (λx=> ?_)⟩
    ·cases hr:row g u with
     |nil=>rfl
     |cons x t=>
      exfalso
      obtain⟨y,ey,hyn,huy⟩:=hg.mem hun (show x∈row g u by rw[hr];simp)
      have hy:=hclosed _ hmem u y hu (by rw[CH hg];exact huy)
      have:=huniq y hy
      subst this
      exact hg.irr y hun huy
    ·rw[mem_elems]
     constructor
     ·rintro⟨y,_,hy,rfl⟩;rw[huniq y hy];simp
     ·intro hx
      simp at hx
      exact⟨u,by omega,hu,hx⟩
   refine⟨_,rfl,⟨i+1,rfl,by omega,hnd,λS hS=> ?_,λS hS=> ?_,λS hS=> ?_,λj hj hji=> ?_⟩,by simp;omega⟩
   ·rcases List.mem_append.1 hS with h|h
    ·exact m2 S h
    ·exact(hB.lf S h).1.i
   ·rcases List.mem_append.1 hS with h|h
    ·obtain⟨a,j,hj,hji,b⟩:=m3 S h
     exact⟨a,j,hj,by omega,b⟩
    ·exact⟨(hB.lf S h).1.ne,i,hil,by omega,(hB.lf S h).2⟩
   ·rcases List.mem_append.1 hS with h|h
    ·exact m4 S h
    ·by_cases h2:Two ps[i]
     ·exact .inr ⟨(hB.lf S h).1,hB.two h2 S h⟩
     ·have hL:=hB.one h2
      rw[hL] at h
      simp at h;subst h
      obtain⟨u,hu,hr,he⟩:=hlone h2
      exact .inl ⟨u,(hpin _ hmem).2 u hu,hr,he⟩
   ·by_cases hjl:j<i
    ·obtain⟨a,b⟩:=m5 j hj hjl
     refine⟨λu w hu huw=> ?_,λu hu hr=> ?_⟩
     ·obtain⟨S,hS,h⟩:=a u w hu huw
      exact⟨S,by simp[hS],h⟩
     ·obtain⟨S,hS,h⟩:=b u hu hr
      exact⟨S,by simp[hS],h⟩
    ·obtain rfl:j=i:=by omega
     refine⟨λu w hu huw=> ?_,λu hu hr=> ?_⟩
     ·have hw:=hclosed _ hmem u w hu (by rw[CH hg];exact huw)
      obtain⟨S,hS,a,b⟩:=hB.edge u w hu hw (by rw[CH hg];exact huw)
      exact⟨S,by simp[hS],(hB.lf S hS).1,a,b⟩
     ·have h2:¬Two ps[j]:=fun⟨x,y,hx,hy,hxy⟩=>by
       have hone:∀z,El ps[j] z→z=u:=λz hz=>hjoint _ hmem u z hu hz (λq=>q=u) rfl (λa b ha hab _=>by
        subst ha
        rw[CH hg] at hab
        unfold adj at hab
        rw[hr] at hab;simp at hab)
       exact hxy ((hone x hx).trans (hone y hy).symm)
      obtain⟨u',hu',_,he⟩:=hlone h2
      have:u'=u:=by
       have:(u:Int)∈Ao ps[j]:=(AQ (hP.vs _ hmem)).2 hu
       rw[he] at this;simp at this;omega
      subst this
      exact⟨ps[j],by rw[hB.one h2];simp,he⟩
  ·obtain rfl:i=ps.length:=by omega
   simp only[A9,cond_false]
   exact⟨_,rfl,m1,m2,m4,λj hj=>m5 j hj hj⟩
end
end Go.Sx

namespace Go.Sx
section
variable {g : LL} (hg : GOk g)
include hg
theorem DW {l:LI}(hs:l.Pairwise λa b=>Bd a<Bd b)(hA:AllB g l):D.z g=some (l.map Ao):=by
 have h16:=hg.n16
 have hlv:∀s∈l,VS s:=λs h=>(hA.i s h).1
 have hll:=CD h16 hA.i hA.nd
 let Ok:LI→Prop:=λL=>(∀S∈L,S∈l)∧L.Pairwise λa b=>Bd a<Bd b
 have hlen:∀{L:LI},Ok L→L.length≤65536:=fun{L} h=>CD h16 (λS hS=>hA.i S (h.1 S hS)) (Dl h.2)
 have hput:∀{L:LI} {S:Int},Ok L→S∈l→∃L':LI,D.m (L.map Ao) (Ao S)=some (L'.map Ao)∧Ok L'∧∀x,x∈L'↔x=S∨x∈L:=fun{L S} h hS=>by
  have:=hlen h
  obtain⟨L',e,h1,h2⟩:=l19Put_ok (λs hs'=>hlv s (h.1 s hs')) h.2 (by omega) (hlv S hS)
  refine⟨L',e,⟨λx hx=> ?_,h1⟩,h2⟩
  rcases(h2 x).1 hx with rfl|hx
  ·exact hS
  ·exact h.1 x hx
 have hrow:∀{u:Nat} (hu:u<g.length) {L:LI},Ok L→∃L':LI,Ap (σ:=LL×Int) (ρ:=(LL)) (fun(s_949:LL×Int)=>match s_949 with|(l_952,x_955)=>(idx g (u:Int)).bind λe_1007=>cond (decide (x_955<(e_1007.length:Int))) ((idx g (u:Int)).bind λe_1014=>(idx e_1014 x_955).bind λe_1020=>(D.l g (u:Int) e_1020).bind λy_1029=>(D.m l_952 y_1029).bind λy_1041=>some (.inl (y_1041,(IntKind.i64.wrap (x_955+1))))) (some (.inr l_952))) (L.map Ao,0)=some (L'.map Ao)∧Ok L'∧(∀x∈L,x∈L')∧∀w,adj g u w→∃S∈L',D.l g (u:Int) (w:Int)=some (Ao S):=fun{u} hu {L} hL=>by
  have hrl:=hg.row_len hu
  have main:=AK (k:=λX=>some X) (Q:=λX:LL=>∃L':LI,X=L'.map Ao∧Ok L'∧(∀x∈L,x∈L')∧∀w,adj g u w→∃S∈L',D.l g (u:Int) (w:Int)=some (Ao S)) (step:=fun(s_949:LL×Int)=>match s_949 with|(l_952,x_955)=>(idx g (u:Int)).bind λe_1007=>cond (decide (x_955<(e_1007.length:Int))) ((idx g (u:Int)).bind λe_1014=>(idx e_1014 x_955).bind λe_1020=>(D.l g (u:Int) e_1020).bind λy_1029=>(D.m l_952 y_1029).bind λy_1041=>some (.inl (y_1041,(IntKind.i64.wrap (x_955+1))))) (some (.inr l_952)))
   (s:=(L.map Ao,0)) (λq=>∃(i:Nat) (L':LI),q.2=(i:Int)∧i≤(row g u).length∧q.1=L'.map Ao∧Ok L'∧(∀x∈L,x∈L')∧∀w:Nat,(w:Int)∈(row g u).take i→∃S∈L',D.l g (u:Int) (w:Int)=some (Ao S)) (λq=>(row g u).length-q.2.toNat) (λX:LL=>∃L':LI,X=L'.map Ao∧Ok L'∧(∀x∈L,x∈L')∧∀w,adj g u w→∃S∈L',D.l g (u:Int) (w:Int)=some (Ao S)) ?_ ⟨0,L,rfl,by omega,rfl,hL,λx hx=>hx,λw hw=>by simp at hw⟩ (λr hr=>⟨r,rfl,hr⟩)
  ·obtain⟨X,e,L',rfl,h⟩:=main
   exact⟨L',by simpa using e,h⟩
  ·rintro⟨_,_⟩ ⟨i,L',rfl,hi,rfl,hO,hsub,hdone⟩
   dsimp only
   simp only[BX hu,bs]
   by_cases hil:i<(row g u).length
   ·obtain⟨w,ew,hwn,huw⟩:=hg.mem hu (List.getElem_mem hil)
    obtain⟨S,hS,hLf,hSu,hSw⟩:=hA.edge u w hu huw
    have eB:=block_leaf hg hLf hSu hSw huw
    obtain⟨L'',eP,hO',hm⟩:=hput hO hS
    simp only[dlt hil,cond_true,Ay hil,ew,bs,eB,eP,wq i]
    refine⟨_,rfl,⟨i+1,L'',rfl,by omega,rfl,hO',λx hx=>(hm x).2 (.inr (hsub x hx)),λx hx=> ?_⟩,by simp;omega⟩
    rw[List.take_succ_eq_append_getElem hil,List.mem_append,ew] at hx
    rcases hx with hx|hx
    ·obtain⟨S',hS',e⟩:=hdone x hx
     exact⟨S',(hm S').2 (.inr hS'),e⟩
    ·simp at hx
     obtain rfl:x=w:=by omega
     exact⟨S,(hm S).2 (.inl rfl),eB⟩
   ·obtain rfl:i=(row g u).length:=by omega
    simp only[A9,cond_false]
    exact⟨_,rfl,L',rfl,hO,hsub,λw hw=>hdone w (by rw[List.take_length];exact hw)⟩
 unfold D.z
 rw[C5 g hg.sh2,gB_true hg,bs,Bool.not_true,cond_false]
 have main:=AK (k:=λX=>some X) (Q:=λX:LL=>X=l.map Ao) (step:=fun(s_536:LL×Int)=>match s_536 with|(l_542,x_545)=>cond (decide (x_545<(g.length:Int))) ((idx g x_545).bind λe_803=>((cond ((e_803.length:Int)==0) ((D.m l_542 ([x_545]:LI)).bind λy_841=>some y_841) (some l_542):Option (LL))).bind λl_829=>(Ap (σ:=LL×Int) (ρ:=(LL)) (fun(s_949:LL×Int)=>match s_949 with|(l_952,x_955)=>(idx g x_545).bind λe_1007=>cond (decide (x_955<(e_1007.length:Int))) ((idx g x_545).bind λe_1014=>(idx e_1014 x_955).bind λe_1020=>(D.l g x_545 e_1020).bind λy_1029=>(D.m l_952 y_1029).bind λy_1041=>some (.inl (y_1041,(IntKind.i64.wrap (x_955+1))))) (some (.inr l_952))) (l_829,0)).bind λl_1003=>some (.inl (l_1003,(IntKind.i64.wrap (x_545+1))))) (some (.inr l_542)))
  (s:=(([]:LL),0)) (λq=>∃(u:Nat) (L:LI),q.2=(u:Int)∧u≤g.length∧q.1=L.map Ao∧Ok L∧∀u',u'<u→(row g u'=[]→∃S∈L,Ao S=[(u':Int)])∧∀w,adj g u' w→∃S∈L,D.l g (u':Int) (w:Int)=some (Ao S)) (λq=>g.length-q.2.toNat) (λX:LL=>X=l.map Ao) ?_ ⟨0,[],rfl,by omega,rfl,⟨by simp,by simp⟩,λu' h=>by omega⟩ (λr hr=>⟨r,rfl,hr⟩)
 ·obtain⟨X,e,rfl⟩:=main
  exact e
 ·rintro⟨_,_⟩ ⟨u,L,rfl,hu,rfl,hO,hdone⟩
  dsimp only
  by_cases hul:u<g.length
  ·rw[dlt hul,cond_true]
   refine bind_eq (BX hul) ?_
   have hfirst:∃L1:LI,((cond (((row g u).length:Int)==0) ((D.m (L.map Ao) ([(u:Int)]:LI)).bind λy_841=>some y_841) (some (L.map Ao)):Option (LL)))=some (L1.map Ao)∧Ok L1∧(∀x∈L,x∈L1)∧(row g u=[]→∃S∈L1,Ao S=[(u:Int)]):=by
    cases hr:row g u with
    |nil=>
     obtain⟨S,hS,he⟩:=hA.lone u hul hr
     obtain⟨L1,e1,h1,h2⟩:=hput hO hS
     have hz:(((([]:LI).length:Nat):Int)==0)=true:=rfl
     rw[hz,cond_true,←he,e1,bs]
     exact⟨L1,rfl,h1,λx hx=>(h2 x).2 (.inr hx),λ_=>⟨S,(h2 S).2 (.inl rfl),rfl⟩⟩
    |cons y t=>
     have hz:((((y::t).length:Nat):Int)==0)=false:=by rw[beq_eq_false_iff_ne];simp;omega
     rw[hz,cond_false]
     exact⟨L,rfl,hO,λx hx=>hx,λh=>by cases h⟩
   obtain⟨L1,e1,hO1,hs1,hl1⟩:=hfirst
   obtain⟨L2,e2,hO2,hs2,hr2⟩:=hrow hul hO1
   rw[e1,bs]
   refine bind_eq e2 ?_
   refine⟨_,rfl,⟨u+1,L2,wi (by omega),by omega,rfl,hO2,λu' hu'=> ?_⟩,by dsimp only;rw[wi (by omega)];omega⟩
   by_cases huu:u'<u
   ·obtain⟨a,b⟩:=hdone u' huu
    refine⟨λh=> ?_,λw hw=> ?_⟩
    ·obtain⟨S,hS,e⟩:=a h
     exact⟨S,hs2 S (hs1 S hS),e⟩
    ·obtain⟨S,hS,e⟩:=b w hw
     exact⟨S,hs2 S (hs1 S hS),e⟩
   ·obtain rfl:u'=u:=by omega
    refine⟨λh=> ?_,hr2⟩
    obtain⟨S,hS,e⟩:=hl1 h
    exact⟨S,hs2 S hS,e⟩
  ·obtain rfl:u=g.length:=by omega
   rw[A9,cond_false]
   refine⟨_,rfl,?_⟩
   have hLl:L=l:=by
    refine DQ (k:=Bd) hO.2 hs (λx=>⟨hO.1 x,λhx=> ?_⟩)
    rcases hA.kind x hx with⟨u,hun,hr,he⟩|⟨hLf,h2⟩
    ·obtain⟨S,hS,e⟩:=(hdone u hun).1 hr
     have:S=x:=C8 (hlv S (hO.1 S hS)) (hlv x hx) (e.trans he.symm)
     rw[←this];exact hS
    ·obtain⟨p,hp⟩:=hLf.ne
     obtain⟨q,hq,hpq⟩:=leaf_near hg hLf h2 hp
     obtain⟨S,hS,e⟩:=(hdone p (hLf.i.2 p hp)).2 q hpq
     rw[block_leaf hg hLf hp hq hpq] at e
     have:S=x:=C8 (hlv S (hO.1 S hS)) (hlv x hx) (Option.some.inj e).symm
     rw[←this];exact hS
   show L.map Ao=l.map Ao
   rw[hLl]
theorem Blocks_both :∃l:LI,D.z g=some (l.map Ao)∧D.v g=some (l.map Ao)∧l.length≤65536:=by
 obtain⟨l,e,hs,hA⟩:=blocksOf_ok hg
 have hll:=CD hg.n16 hA.i hA.nd
 refine⟨l,DW hg hs hA,?_,hll⟩
 unfold D.v
 rw[C6 g hg.sh2,gB_true hg,bs,Bool.not_true,cond_false,netsOf_eq g hg,bs,e,bs,results_eq l (by unfold Sh;omega) (λs h=>(hA.i s h).1),bs]
end
theorem Blocks_all (g:LL)(h:Sh2 g):∃L:LL,D.z g=some L∧D.v g=some L∧Sh2 L∧tot L≤4294967296:=by
 by_cases hg:GOk g
 ·obtain⟨l,e1,e2,hl⟩:=Blocks_both hg
  have ht:=tot_elems l
  exact⟨_,e1,e2,Sh2.of_tot (by unfold Sh;rw[List.length_map];omega) (by omega),by omega⟩
 ·have hb:gB g=false:=by
   cases hc:gB g
   ·rfl
   ·exact absurd ((gB_iff g).1 hc) hg
  refine⟨[],?_,?_,⟨by simp[Sh],by simp⟩,by simp[tot]⟩
  ·unfold D.z
   rw[C5 g h,hb];rfl
  ·unfold D.v
   rw[C6 g h,hb];rfl
theorem Dm (g:LL)(hx:(g.length:Int)≤9223372036854775807)(hx2:∀x∈g,(x.length:Int)≤9223372036854775807):D.p0 g=some true:=by
 unfold D.p0
 obtain⟨y,e,hy⟩:=szGraph_eq g 1048576 hx hx2 (by omega) (by omega)
 rw[e,bs]
 rcases hy with hy|⟨hy,hy0⟩
 ·simp only[hy,decide_true,cond_true]
 ·have hd:decide (y<0)=false:=by simp;omega
  have htn:=BE g
  have h1:Sh2 g:=Sh2.of_tot (by unfold Sh;omega) (by omega)
  obtain⟨L,e1,e2,h2,h3⟩:=Blocks_all g h1
  have n1:=BE L
  simp only[hd,cond_false,toGraph_eq g h1,e1,e2,bs,eqSS_eq L L h2,decide_true,Bool.not_true,eqGraph_eq g g h1,markGraph_eq g 1 h1 (by omega) (by omega)]
  have d1:decide (1+tot g<0)=false:=by simp;omega
  have d2:decide (1+tot L<0)=false:=by simp;omega
  simp only[bs,d1,cond_false,markSS_eq L 1 h2 (by omega) (by omega),heldSS_eq L 1 h2 (by omega) (by omega),d2,bne_self_eq_false]
end Go.Sx
