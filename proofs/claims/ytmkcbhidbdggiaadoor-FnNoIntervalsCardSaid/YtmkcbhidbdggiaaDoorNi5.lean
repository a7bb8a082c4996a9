/- Parts. -/
import Derived.Test.YtmkcbhidbdggiaaDoorNi4
set_option linter.unusedVariables false
set_option linter.unusedSimpArgs false
set_option linter.unusedSectionVars false
namespace Go.Sx
def Nr (ad:Nat→Nat→Prop)(v:Nat):Nat→Nat→Prop
 |0,_=>False
 |k+1,u=>u=v∨∃w,Nr ad v k w∧ad w u
theorem Nr.up {ad:Nat→Nat→Prop}{v:Nat}:∀{k u:Nat},Nr ad v k u→Nr ad v (k+1) u
 |0,_,h=>h.elim
 |_+1,_,h=>h.imp id (fun⟨w,h1,h2⟩=>⟨w,h1.up,h2⟩)
theorem Nr.shut {ad:Nat→Nat→Prop}{v d:Nat}(h:∀u,Nr ad v (d+1) u→Nr ad v d u):∀(j u:Nat),Nr ad v j u→Nr ad v d u
 |0,_,h0=>h0.elim
 |j+1,u,h0=>by
  rcases h0 with rfl|⟨w,h1,h2⟩
  ·exact h _ (.inl rfl)
  ·exact h _ (.inr ⟨w,Nr.shut h j w h1,h2⟩)
theorem EK (d:Int):∀(xs:LI) (out:LI) (u:Nat),(xs.foldl (λo x=>o.set x.toNat d) out).length=out.length∧((u:Int)∈xs→u<out.length→(xs.foldl (λo x=>o.set x.toNat d) out).getD u 0=d)∧((∀x∈xs,x.toNat≠u)→(xs.foldl (λo x=>o.set x.toNat d) out).getD u 0=out.getD u 0)
 |[],out,u=>⟨rfl,λh=>(by cases h),λ_=>rfl⟩
 |x::xs,out,u=>by
  obtain⟨h1,h2,h3⟩:=EK d xs (out.set x.toNat d) u
  simp only[List.foldl_cons]
  have hg:∀q:Nat,(out.set q d).getD u 0=if q=u∧u<out.length then d else out.getD u 0:=λq=>by
   rw[List.getD_eq_getElem?_getD,List.getElem?_set]
   by_cases hq:q=u
   ·subst hq
    by_cases hl:q<out.length
    ·simp[hl]
    ·simp[hl]
   ·simp[hq]
  refine⟨by rw[h1,List.length_set],λhm hu=> ?_,λhn=> ?_⟩
  ·by_cases hx:(u:Int)∈xs
   ·exact h2 hx (by rw[List.length_set];exact hu)
   ·have hxu:x=(u:Int):=by
     rcases List.mem_cons.1 hm with h|h
     ·exact h.symm
     ·exact absurd h hx
    by_cases hy:∀y∈xs,y.toNat≠u
    ·rw[h3 hy,hg,if_pos ⟨by rw[hxu];simp,hu⟩]
    ·
     clear h3
     have key:∀(ys:LI) (o:LI),o.getD u 0=d→u<o.length→(ys.foldl (λo x=>o.set x.toNat d) o).getD u 0=d:=by
      intro ys
      induction ys with
      |nil=>intro o h _;exact h
      |cons y ys ih=>
       intro o h hl
       simp only[List.foldl_cons]
       refine ih _ ?_ (by rw[List.length_set];exact hl)
       rw[List.getD_eq_getElem?_getD,List.getElem?_set]
       by_cases hq:y.toNat=u
       ·simp[hq,hl]
       ·rw[if_neg hq,←List.getD_eq_getElem?_getD];exact h
     exact key xs _ (by rw[hg,if_pos ⟨by rw[hxu];simp,hu⟩]) (by rw[List.length_set];exact hu)
  ·rw[h3 (λy hy=>hn y (by simp[hy])),hg,if_neg (λh=>hn x (by simp) h.1)]
section
variable {g : LL} (hg : GOk g)
include hg
theorem Nr.lt {v:Nat}(hv:v<g.length):∀{k u:Nat},Nr (adj g) v k u→u<g.length
 |0,_,h=>h.elim
 |k+1,u,h=>by
  rcases h with rfl|⟨w,h1,h2⟩
  ·exact hv
  ·exact hg.lt (Nr.lt hv h1) h2
theorem Nr.of {v:Nat}:∀(l:List Nat) (u:Nat),u<g.length→Way (adj g) (u::l++[v])→Nr (adj g) v (l.length+2) u
 |[],u,hu,h=> .inr ⟨v,.inl rfl,hg.sym _ _ hu h.1⟩
 |a::l,u,hu,h=> .inr ⟨a,Nr.of l a (hg.lt hu h.1) h.2,hg.sym _ _ hu h.1⟩
end
end Go.Sx

namespace Go.Sx
def AdW (g:LL)(all:Int)(a b:Nat):Prop:=adj g a b∧has all b=true
def Dst (g:LL)(all:Int)(v j u:Nat):Prop:=Nr (AdW g all) v (j+1) u∧¬Nr (AdW g all) v j u
def FarIn (g:LL)(all:Int)(v d:Nat)(out:LI):Prop:=
 ∀u,u<g.length→(Nr (AdW g all) v (d+1) u→∃j:Nat,out.getD u 0=(j:Int)∧Dst g all v j u)∧(¬Nr (AdW g all) v (d+1) u→out.getD u 0= -1)
structure FarOk (g:LL)(all:Int)(v:Nat)(far:LI):Prop where
 len:far.length=g.length
 val:∀u,u<g.length→(∃j:Nat,far.getD u 0=(j:Int)∧Dst g all v j u)∨(far.getD u 0= -1∧∀k,¬Nr (AdW g all) v k u)
section
variable {g : LL} (hg : GOk g)
include hg
theorem NrW.lt {all:Int}{v:Nat}(hv:v<g.length):∀{k u:Nat},Nr (AdW g all) v k u→u<g.length
 |0,_,h=>h.elim
 |k+1,u,h=>by
  rcases h with rfl|⟨w,h1,h2⟩
  ·exact hv
  ·exact hg.lt (NrW.lt hv h1) h2.1
theorem distW_ok {v:Nat}(hv:v<g.length){all:Int}(va:VS all):
  ∃far,D.e0 (g.map mk) (v:Int) all=some far∧FarOk g all v far:=by
 have h16:=hg.n16
 have hlm:(g.map mk).length=g.length:=by simp
 unfold D.e0
 rw[makeD_ok (by omega) (by omega),bs]
 refine(?_:∃far,_=some far∧_)
 rw[loop_set (List.replicate (g.map mk).length (-1:Int)) (List.replicate (g.map mk).length (0:Int)) (by simp) (λl i=>(l,i)) (List.replicate (g.map mk).length (-1:Int)) rfl (λl i hi hl=>by
  have hi':i<(g.map mk).length:=by simpa using hi
  have hl':i<l.length:=by rw[hl];exact hi
  simp only[List.length_replicate,dlt hi',cond_true,AB hl',bs,wq i,Int.toNat_natCast,List.getElem_replicate]) (by simp only[List.length_replicate,Br,cond_false])]
 rw[AB (by simp;exact hv),bs,BM,bs,bs,Int.toNat_natCast]
 have hF:=FOk.of hg
 have hv32:v<32:=by omega
 refine A3 (λs:LI×Int×Int×Int=>∃(d:Nat) (layer seen:Int) (out:LI),s=(out,((d+1:Nat):Int),layer,seen)∧out.length=g.length∧VS layer∧VS seen∧(∀u,has seen u=true↔Nr (AdW g all) v (d+1) u)∧(∀u,has layer u=true↔Nr (AdW g all) v (d+1) u∧¬Nr (AdW g all) v d u)∧FarIn g all v d out∧d≤(Al seen).length∧(layer≠0→d+1≤(Al seen).length))
  (λs=>2*(33-(Al s.2.2.2).length)+(if s.2.2.1=0 then 0 else 1)) (λfar:LI=>FarOk g all v far) ?_ ?_ (λr hr=>⟨r,rfl,hr⟩)
 ·rintro _ ⟨d,layer,seen,out,rfl,hol,vl,vs,hs,hla,ho,hd1,hd2⟩
  dsimp only
  have hsl:=Bn seen
  by_cases hz:layer=0
  ·have e0:(layer !=0)=false:=by simp[hz]
   rw[e0,cond_false]
   have hsh:∀k u,Nr (AdW g all) v k u→Nr (AdW g all) v (d+1) u:=λk u hk=>(Nr.shut (λw hw=>by
    apply Classical.byContradiction
    intro hn
    have:=(hla w).2 ⟨hw,hn⟩
    rw[hz,A8] at this;cases this) k u hk).up
   refine⟨_,rfl,hol,λu hu=> ?_⟩
   by_cases h:Nr (AdW g all) v (d+1) u
   ·exact .inl ((ho u hu).1 h)
   ·exact .inr ⟨(ho u hu).2 h,λk hk=>h (hsh k u hk)⟩
  ·have e0:(layer !=0)=true:=by simp[hz]
   have hd2:=hd2 hz
   have hlt:∀x∈Al layer,∃i:Nat,x=(i:Int)∧i<g.length∧has layer i=true:=λx hx=>by
    obtain⟨i,_,h2,rfl⟩:=mem_elems.1 hx
    exact⟨i,rfl,NrW.lt hg hv ((hla i).1 h2).1,h2⟩
   have hvx:∀x∈Al layer,VS ((g.map mk).getD x.toNat 0):=λx hx=>by
    obtain⟨i,rfl,hi,_⟩:=hlt x hx
    rw[Int.toNat_natCast];exact hF.vs i hi
   have hll:=Bn layer
   rw[e0,cond_true,Cg _ vl,bs]
   have hU:=D9 (step:=fun(s_643:Int×Int)=>match s_643 with|(x_646,x_647)=>cond (decide (x_647<((Al layer).length:Int))) ((idx (Al layer) x_647).bind λe_666=>(idx (g.map mk) e_666).bind λe_672=>some (.inl ((ior .u32 x_646 e_672),(IntKind.i64.wrap (x_647+1))))) (some (.inr x_646))) (Al layer) (fun(a:Int) (i:Int)=>(a,i)) (λa x=>ior .u32 a ((g.map mk).getD x.toNat 0)) (λa=>a) (λ_=>True) 0 trivial
    (λs i hi _=>by
     refine⟨?_,trivial⟩
     obtain⟨k,e,hk,_⟩:=hlt _ (List.getElem_mem hi)
     have hk':k<(g.map mk).length:=by omega
     simp only[dlt hi,cond_true,AB hi,bs,e,AB hk',Int.toNat_natCast,wq i,AA hk'])
    (λs _=>by simp only[Br,cond_false])
   obtain⟨vU,hUu⟩:VS ((Al layer).foldl (λa x=>ior .u32 a ((g.map mk).getD x.toNat 0)) 0)∧∀u,has ((Al layer).foldl (λa x=>ior .u32 a ((g.map mk).getD x.toNat 0)) 0) u=true↔∃w,has layer w=true∧adj g w u:=by
    refine⟨(CW 0 (Al layer) 0 VS.zero hvx).1,λu=> ?_⟩
    rw[(CW u (Al layer) 0 VS.zero hvx).2,A8]
    constructor
    ·rintro(h|⟨x,hx,h⟩)
     ·cases h
     ·obtain⟨i,rfl,hi,hpi⟩:=hlt x hx
      rw[Int.toNat_natCast] at h
      exact⟨i,hpi,(BD hg hi).1 h⟩
    ·rintro⟨i,hpi,h⟩
     have hi:=NrW.lt hg hv ((hla i).1 hpi).1
     exact .inr ⟨(i:Int),(AE vl).2 hpi,by rw[Int.toNat_natCast];exact(BD hg hi).2 h⟩
   rw[hU.1,bs]
   generalize (Al layer).foldl (λa x=>ior .u32 a ((g.map mk).getD x.toNat 0)) 0=un at vU hUu
   clear hU
   rw[Cg _ (VS.iandNot _ _),bs]
   generalize hL:iandNot .u32 (iand .u32 un all) seen=lay
   have vL:VS lay:=by rw[←hL];exact VS.iandNot _ _
   have hLl:=Bn lay
   have hLu:∀u,has lay u=true↔Nr (AdW g all) v (d+2) u∧¬Nr (AdW g all) v (d+1) u:=λu=>by
    rw[←hL,AU (VS.iand _ _) vs,Ck vU va,Bool.and_eq_true,Bool.and_eq_true,hUu,Bool.not_eq_true',←Bool.not_eq_true,hs]
    constructor
    ·rintro⟨⟨⟨w,h1,h2⟩,h3⟩,h4⟩
     exact⟨.inr ⟨w,((hla w).1 h1).1,h2,h3⟩,h4⟩
    ·rintro⟨h1,h2⟩
     rcases h1 with rfl|⟨w,h3,h4⟩
     ·exact absurd (.inl rfl) h2
     ·exact⟨⟨⟨w,(hla w).2 ⟨h3,λh5=>h2 (.inr ⟨w,h5,h4⟩)⟩,h4.1⟩,h4.2⟩,h2⟩
   have hltL:∀x∈Al lay,∃i:Nat,x=(i:Int)∧i<g.length∧has lay i=true:=λx hx=>by
    obtain⟨i,_,h2,rfl⟩:=mem_elems.1 hx
    exact⟨i,rfl,NrW.lt hg hv ((hLu i).1 h2).1,h2⟩
   have hO:=D9 (step:=fun(s_724:LI×Int)=>match s_724 with|(l_727,x_730)=>cond (decide (x_730<((Al lay).length:Int))) ((idx (Al lay) x_730).bind λe_751=>(idx l_727 e_751).bind λe_757=>some (.inl ((l_727.set (Int.toNat e_751) ((d+1:Nat):Int)),(IntKind.i64.wrap (x_730+1))))) (some (.inr l_727))) (Al lay) (fun(a:LI) (i:Int)=>(a,i)) (λo x=>o.set x.toNat ((d+1:Nat):Int)) (λa=>a) (λo=>o.length=g.length) out hol
    (λs i hi hsl=>by
     refine⟨?_,by rw[List.length_set];exact hsl⟩
     obtain⟨k,e,hk,_⟩:=hltL _ (List.getElem_mem hi)
     have hk':k<s.length:=by omega
     simp only[dlt hi,cond_true,AB hi,bs,e,AB hk',Int.toNat_natCast,wq i])
    (λs _=>by simp only[Br,cond_false])
   rw[hO.1,bs,wi (by omega)]
   have hget:=EK ((d+1:Nat):Int) (Al lay) out
   generalize hO':(Al lay).foldl (λo x=>o.set x.toNat ((d+1:Nat):Int)) out=out' at hO hget
   have hseen':∀u,has (ior .u32 seen lay) u=true↔Nr (AdW g all) v (d+2) u:=λu=>by
    rw[Bo vs vL,Bool.or_eq_true,hs,hLu]
    constructor
    ·rintro(h|h)
     ·exact h.up
     ·exact h.1
    ·intro h
     by_cases h2:Nr (AdW g all) v (d+1) u
     ·exact .inl h2
     ·exact .inr ⟨h,h2⟩
   have hgrow:(Al seen).length≤(Al (ior .u32 seen lay)).length:=Bx (Bt seen).nodup (λx hx=>by
    obtain⟨i,_,h2,rfl⟩:=mem_elems.1 hx
    rw[AE (VS.ior _ _),Bo vs vL,h2];rfl)
   have hgrow2:lay≠0→(Al seen).length+1≤(Al (ior .u32 seen lay)).length:=λhne=>by
    have hex:∃u,has lay u=true:=by
     apply Classical.byContradiction
     intro hno
     apply hne
     rw[VS.eq_zero vL]
     intro u _
     cases hh:has lay u
     ·rfl
     ·exact absurd ⟨u,hh⟩ hno
    obtain⟨u,hu⟩:=hex
    have hnu:(u:Int)∉Al seen:=λhm=>by
     rw[AE vs,hs] at hm
     exact((hLu u).1 hu).2 hm
    have:=Bx (l:=(u:Int)::Al seen) (m:=Al (ior .u32 seen lay)) (List.nodup_cons.2 ⟨hnu,(Bt seen).nodup⟩) (λx hx=>by
     rcases List.mem_cons.1 hx with rfl|hx
     ·rw[AE (VS.ior _ _),Bo vs vL,hu];simp
     ·obtain⟨i,_,h2,rfl⟩:=mem_elems.1 hx
      rw[AE (VS.ior _ _),Bo vs vL,h2];rfl)
    simpa using this
   have hsl':=Bn (ior .u32 seen lay)
   refine⟨_,rfl,⟨d+1,lay,ior .u32 seen lay,out',rfl,hO.2,vL,VS.ior _ _,hseen',hLu,λu hun=> ?_,by omega,λh=> ?_⟩,?_⟩
   ·by_cases h3:has lay u=true
    ·have e:=(hget u).2.1 ((AE vL).2 h3) (by omega)
     exact⟨λ_=>⟨d+1,e,(hLu u).1 h3⟩,λh=>absurd ((hLu u).1 h3).1 h⟩
    ·rw[(hget u).2.2 (λx hx he=>by
      obtain⟨i,rfl,_,h4⟩:=hltL x hx
      rw[Int.toNat_natCast] at he
      subst he
      exact h3 h4)]
     refine⟨λh=>(ho u hun).1 ?_,λh=>(ho u hun).2 (λh'=>h h'.up)⟩
     apply Classical.byContradiction
     intro hn
     exact h3 ((hLu u).2 ⟨h,hn⟩)
   ·have:=hgrow2 h;omega
   ·dsimp only
    rw[if_neg hz]
    by_cases h:lay=0
    ·rw[if_pos h];omega
    ·have:=hgrow2 h
     rw[if_neg h];omega
 ·refine⟨0,ishl .u32 1 (v:Int),ishl .u32 1 (v:Int),_,rfl,by simp,VS.ishl _ _,VS.ishl _ _,λu=> ?_,λu=> ?_,λu hun=> ?_,by omega,λ_=> ?_⟩
  ·rw[Bc hv32,decide_eq_true_eq]
   constructor
   ·exact λh=> .inl h
   ·rintro(h|⟨w,h,_⟩)
    ·exact h
    ·exact h.elim
  ·rw[Bc hv32,decide_eq_true_eq]
   constructor
   ·exact λh=>⟨.inl h,λh=>h.elim⟩
   ·rintro⟨h|⟨w,h,_⟩,_⟩
    ·exact h
    ·exact h.elim
  ·have h1:Nr (AdW g all) v (0+1) u↔u=v:=⟨λh=>by
     rcases h with h|⟨w,h,_⟩
     ·exact h
     ·exact h.elim,λh=> .inl h⟩
   by_cases e:u=v
   ·subst e
    have:((List.replicate (g.map mk).length (-1:Int)).set u 0).getD u 0=0:=by
     simp[List.getD_eq_getElem?_getD,hv]
    rw[this]
    exact⟨λ_=>⟨0,rfl,.inl rfl,λh=>h.elim⟩,λh=>absurd (h1.2 rfl) h⟩
   ·have:((List.replicate (g.map mk).length (-1:Int)).set v 0).getD u 0= -1:=by
     rw[List.getD_eq_getElem?_getD,List.getElem?_set_ne (λh=>e h.symm),List.getElem?_replicate,if_pos (by omega)];rfl
    rw[this]
    exact⟨λh=>absurd (h1.1 h) e,λ_=>rfl⟩
  ·have:=Bx (l:=[(v:Int)]) (m:=Al (ishl .u32 1 (v:Int))) (by simp) (λx hx=>by
    obtain rfl:x=(v:Int):=by simpa using hx
    rw[AE (VS.ishl _ _),Bc hv32];simp)
   simpa using this
end
end Go.Sx

namespace Go.Sx
section
variable {g : LL} (hg : GOk g)
include hg
theorem adj_ltF {a b:Nat}(h:adj g a b):a<g.length:=by
 apply Classical.byContradiction
 intro hn
 unfold adj row at h
 rw[List.getD_eq_getElem?_getD,List.getElem?_eq_none (by omega)] at h
 simp at h
theorem CU (a b:Nat)(h:adj g a b):adj g b a:=hg.sym _ _ (adj_ltF hg h) h
theorem adj_irr (a:Nat)(h:adj g a a):False:=hg.irr _ (adj_ltF hg h) h
theorem chordal_pk :D.a1 g=some (pk (g.map mk) g.length g.length (full g.length)).isSome:=by
 have hn1:=hg.n1
 unfold D.a1
 rw[BL g hg.sh2,Co hg,bs,cond_true,CB g hg,bs,D7 hg,bs]
 cases hp:pk (g.map mk) g.length g.length (full g.length) with
 |none=>rfl
 |some l=>
  have:=pk_len hp
  cases l with
  |nil=>simp at this;omega
  |cons x t=>rfl
end
end Go.Sx

namespace Go.Sx
theorem vhas_eq {s:Int}(hs:VS s){x:Nat}(hx:x<32):D.v s (x:Int)=some (has s x):=by
 unfold D.v
 have:decide ((x:Int)<0)=false:=by simp
 rw[this,cond_false,bitAt_eq hs hx]
theorem iz_mem {c:List Nat}{v:Nat}:(v:Int)∈iz c↔v∈c:=by
 unfold iz
 rw[List.mem_map]
 constructor
 ·rintro⟨w,hw,e⟩
  have e:(w:Int)=(v:Int):=e
  have:w=v:=by omega
  exact this▸hw
 ·exact λh=>⟨v,h,rfl⟩
section
variable {g : LL} (hg : GOk g) {c : List Nat} (hH : Hole (adj g) c) (hlt : ∀ x ∈ c, x < g.length)
include hg hH hlt
theorem hole_adj {i j:Nat}(hij:i<j)(hj:j<c.length):adj g (c[i]'(by omega)) c[j]↔(j=i+1∨(i=0∧j=c.length-1)):=by
 constructor
 ·intro ha
  apply Classical.byContradiction
  intro hn
  exact hH.no i j (by omega) hj (by omega) ha
 ·rintro(rfl|⟨rfl,rfl⟩)
  ·exact hH.step i hj
  ·exact CU hg _ _ hH.close
end
end Go.Sx

namespace Go.Sx
def Av (ad:Nat→Nat→Prop)(X:Nat→Prop)(c z:Nat):Prop:=X z∧z≠c∧¬ad c z
def Apt (ad:Nat→Nat→Prop)(X:Nat→Prop)(a b c:Nat):Prop:=
 X a∧X b∧X c∧a≠b∧a≠c∧b≠c∧¬ad a b∧¬ad a c∧¬ad b c∧Cn ad (Av ad X c) a b∧Cn ad (Av ad X b) a c∧Cn ad (Av ad X a) b c
def Ape (ad:Nat→Nat→Prop)(X S:Nat→Prop)(a b:Nat):Prop:=
 X a∧X b∧a≠b∧¬ad a b∧(∃k,S k∧Cn ad (Av ad X b) a k)∧∃k,S k∧Cn ad (Av ad X a) b k
structure Rp (ad:Nat→Nat→Prop)(X:Nat→Prop)(L R:Nat→Int):Prop where
 le:∀v,X v→L v≤R v
 ad:∀u v,X u→X v→u≠v→(ad u v↔L u≤R v∧L v≤R u)
structure RpE (ad:Nat→Nat→Prop)(X S:Nat→Prop)(L R:Nat→Int)(B:Int):Prop where
 rp:Rp ad X L R
 lo:∀v,X v→-B≤L v
 s:∀v,X v→S v→R v=0
 x:∀v,X v→¬S v→R v<0
def DD (ad:Nat→Nat→Prop)(X S:Nat→Prop):Prop:=∃L R B,0≤B∧RpE ad X S L R B
theorem RpE.hi {ad:Nat→Nat→Prop}{X S:Nat→Prop}{L R:Nat→Int}{B:Int}(h:RpE ad X S L R B){v:Nat}(hv:X v):R v≤0:=by
 by_cases hs:S v
 ·exact Int.le_of_eq (h.s v hv hs)
 ·exact Int.le_of_lt (h.x v hv hs)
section
variable {ad : Nat → Nat → Prop} (hs : ∀ a b, ad a b → ad b a)
include hs
theorem ad_comm (a b:Nat):ad a b↔ad b a:=⟨hs a b,hs b a⟩
open Classical in
theorem glue1 {X S O M C S':Nat→Prop}(hX:∀v,X v↔O v∨M v∨C v)(hOM:∀v,O v→¬M v)(hOC:∀v,O v→¬C v)(hMC:∀v,M v→¬C v)
  (nOC:∀u v,O u→C v→¬ad u v) (aMC:∀u v,M u→C v→ad u v) (hS:∀v,S v↔M v∨(C v∧S' v))
  (h1:DD ad (λv=>O v∨M v) M) (h2:DD ad C S'):DD ad X S:=by
 obtain⟨L,R,B,hB,h⟩:=h1
 obtain⟨L',R',B',hB',h'⟩:=h2
 have fO:∀v,O v→-B≤L v∧L v≤R v∧R v<0:=λv hv=>⟨h.lo v (.inl hv),h.rp.le v (.inl hv),h.x v (.inl hv) (hOM v hv)⟩
 have fM:∀v,M v→-B≤L v∧L v≤R v∧R v=0:=λv hv=>⟨h.lo v (.inr hv),h.rp.le v (.inr hv),h.s v (.inr hv) hv⟩
 have fC:∀v,C v→-B'≤L' v∧L' v≤R' v∧R' v≤0:=λv hv=>⟨h'.lo v hv,h'.rp.le v hv,h'.hi hv⟩
 let l:Nat→Int:=λv=>if C v then L' v else L v-B'-1
 let r:Nat→Int:=λv=>if C v then R' v else if M v then 0 else R v-B'-1
 have lC:∀v,C v→l v=L' v∧r v=R' v:=λv hv=>⟨if_pos hv,if_pos hv⟩
 have lM:∀v,M v→l v=L v-B'-1∧r v=0:=λv hv=>⟨if_neg (hMC v hv),by show (if C v then R' v else if M v then 0 else R v-B'-1)=0;rw[if_neg (hMC v hv),if_pos hv]⟩
 have lO:∀v,O v→l v=L v-B'-1∧r v=R v-B'-1:=λv hv=>⟨if_neg (hOC v hv),by show (if C v then R' v else if M v then 0 else R v-B'-1)=_;rw[if_neg (hOC v hv),if_neg (hOM v hv)]⟩
 refine⟨l,r,B+B'+1,by omega,⟨λv hv=> ?_,λu v hu hv huv=> ?_⟩,λv hv=> ?_,λv hv hSv=> ?_,λv hv hSv=> ?_⟩
 ·rcases(hX v).1 hv with q|q|q
  ·have:=fO v q;have:=lO v q;omega
  ·have:=fM v q;have:=lM v q;omega
  ·have:=fC v q;have:=lC v q;omega
 ·rcases(hX u).1 hu with p|p|p<;>rcases(hX v).1 hv with q|q|q
  ·have:=lO u p;have:=lO v q;have:=h.rp.ad u v (.inl p) (.inl q) huv;rw[this];omega
  ·have:=lO u p;have:=lM v q;have:=h.rp.ad u v (.inl p) (.inr q) huv;have:=fO u p;have:=fM v q;rw[h.rp.ad u v (.inl p) (.inr q) huv];omega
  ·have:=lO u p;have:=lC v q;have:=fO u p;have:=fC v q
   exact⟨λe=>absurd e (nOC u v p q),λe=>by omega⟩
  ·have:=lM u p;have:=lO v q;have:=fM u p;have:=fO v q;rw[h.rp.ad u v (.inr p) (.inl q) huv];omega
  ·have:=lM u p;have:=lM v q;have:=fM u p;have:=fM v q;rw[h.rp.ad u v (.inr p) (.inr q) huv];omega
  ·have:=lM u p;have:=lC v q;have:=fM u p;have:=fC v q
   exact⟨λ_=>by omega,λ_=>aMC u v p q⟩
  ·have:=lC u p;have:=lO v q;have:=fC u p;have:=fO v q
   exact⟨λe=>absurd (hs _ _ e) (nOC v u q p),λe=>by omega⟩
  ·have:=lC u p;have:=lM v q;have:=fC u p;have:=fM v q
   exact⟨λ_=>by omega,λ_=>hs _ _ (aMC v u q p)⟩
  ·have:=lC u p;have:=lC v q;rw[h'.rp.ad u v p q huv];omega
 ·rcases(hX v).1 hv with q|q|q
  ·have:=fO v q;have:=lO v q;omega
  ·have:=fM v q;have:=lM v q;omega
  ·have:=fC v q;have:=lC v q;omega
 ·rcases(hS v).1 hSv with q|⟨q,q'⟩
  ·exact(lM v q).2
  ·rw[(lC v q).2];exact h'.s v q q'
 ·rcases(hX v).1 hv with q|q|q
  ·have:=fO v q;have:=lO v q;omega
  ·exact absurd ((hS v).2 (.inl q)) hSv
  ·rw[(lC v q).2];exact h'.x v q (λe=>hSv ((hS v).2 (.inr ⟨q,e⟩)))
open Classical in
theorem glue2 {X S Y K J Z:Nat→Prop}(hX:∀v,X v↔Y v∨K v∨Z v)(hJK:∀v,J v→K v)(hYK:∀v,Y v→¬K v)(hYZ:∀v,Y v→¬Z v)(hKZ:∀v,K v→¬Z v)
  (nYZ:∀u v,Y u→Z v→¬ad u v) (aKZ:∀u v,K u→¬J u→Z v→ad u v) (hS:∀v,S v↔K v∧¬J v)
  (h1:DD ad (λv=>Y v∨K v) K) (h2:DD ad (λv=>Z v∨J v) J):DD ad X S:=by
 obtain⟨L,R,B,hB,h⟩:=h1
 obtain⟨L',R',D,hD,h'⟩:=h2
 have fY:∀v,Y v→-B≤L v∧L v≤R v∧R v<0:=λv hv=>⟨h.lo v (.inl hv),h.rp.le v (.inl hv),h.x v (.inl hv) (hYK v hv)⟩
 have fK:∀v,K v→-B≤L v∧L v≤R v∧R v=0:=λv hv=>⟨h.lo v (.inr hv),h.rp.le v (.inr hv),h.s v (.inr hv) hv⟩
 have fZ:∀v,Z v→-D≤L' v∧L' v≤R' v∧R' v<0:=λv hv=>⟨h'.lo v (.inl hv),h'.rp.le v (.inl hv),h'.x v (.inl hv) (λe=>hKZ v (hJK v e) hv)⟩
 have fJ:∀v,J v→-D≤L' v∧L' v≤R' v∧R' v=0:=λv hv=>⟨h'.lo v (.inr hv),h'.rp.le v (.inr hv),h'.s v (.inr hv) hv⟩
 let l:Nat→Int:=λv=>(if Z v then-R' v else L v)-(D+1)
 let r:Nat→Int:=λv=>(if Y v then R v else if K v∧¬J v then D+1 else-L' v)-(D+1)
 have lY:∀v,Y v→l v=L v-(D+1)∧r v=R v-(D+1):=λv hv=>by
  refine⟨?_,?_⟩
  ·show (if Z v then-R' v else L v)-(D+1)=_
   rw[if_neg (hYZ v hv)]
  ·show (if Y v then R v else if K v∧¬J v then D+1 else-L' v)-(D+1)=_
   rw[if_pos hv]
 have lK:∀v,K v→¬J v→l v=L v-(D+1)∧r v=0:=λv hv hj=>by
  refine⟨?_,?_⟩
  ·show (if Z v then-R' v else L v)-(D+1)=_
   rw[if_neg (hKZ v hv)]
  ·show (if Y v then R v else if K v∧¬J v then D+1 else-L' v)-(D+1)=_
   rw[if_neg (λe=>hYK v e hv),if_pos ⟨hv,hj⟩];omega
 have lJ:∀v,J v→l v=L v-(D+1)∧r v= -L' v-(D+1):=λv hj=>by
  have hv:=hJK v hj
  refine⟨?_,?_⟩
  ·show (if Z v then-R' v else L v)-(D+1)=_
   rw[if_neg (hKZ v hv)]
  ·show (if Y v then R v else if K v∧¬J v then D+1 else-L' v)-(D+1)=_
   rw[if_neg (λe=>hYK v e hv),if_neg (λe=>e.2 hj)]
 have lZ:∀v,Z v→l v= -R' v-(D+1)∧r v= -L' v-(D+1):=λv hv=>by
  refine⟨?_,?_⟩
  ·show (if Z v then-R' v else L v)-(D+1)=_
   rw[if_pos hv]
  ·show (if Y v then R v else if K v∧¬J v then D+1 else-L' v)-(D+1)=_
   rw[if_neg (λe=>hYZ v e hv),if_neg (λe=>hKZ v e.1 hv)]
 have hX4:∀v,X v→Y v∨(K v∧¬J v)∨(K v∧J v)∨Z v:=λv hv=>by
  rcases(hX v).1 hv with q|q|q
  ·exact .inl q
  ·by_cases hj:J v
   ·exact .inr (.inr (.inl ⟨q,hj⟩))
   ·exact .inr (.inl ⟨q,hj⟩)
  ·exact .inr (.inr (.inr q))
 have one:∀v,X v→-(B+D+1)≤l v∧l v≤r v∧(S v→r v=0)∧(¬S v→r v<0):=λv hv=>by
  rcases hX4 v hv with q|⟨q,j⟩|⟨q,j⟩|q
  ·have:=fY v q;have:=lY v q
   exact⟨by omega,by omega,λe=>absurd ((hS v).1 e).1 (hYK v q),λ_=>by omega⟩
  ·have:=fK v q;have:=lK v q j
   exact⟨by omega,by omega,λ_=>by omega,λe=>absurd ((hS v).2 ⟨q,j⟩) e⟩
  ·have:=fK v q;have:=fJ v j;have:=lJ v j
   exact⟨by omega,by omega,λe=>absurd j ((hS v).1 e).2,λ_=>by omega⟩
  ·have:=fZ v q;have:=lZ v q
   exact⟨by omega,by omega,λe=>absurd q (hKZ v ((hS v).1 e).1),λ_=>by omega⟩
 have sym:∀u v,(ad u v↔l u≤r v∧l v≤r u)→(ad v u↔l v≤r u∧l u≤r v):=λu v e=>by
  rw[ad_comm hs v u,e];exact And.comm
 have two:∀u v,u≠v→Y u∨K u→Y v∨K v→(ad u v↔L u≤R v∧L v≤R u):=λu v huv hu hv=>h.rp.ad u v hu hv huv
 refine⟨l,r,B+D+1,by omega,⟨λv hv=>(one v hv).2.1,λu v hu hv huv=> ?_⟩,λv hv=>(one v hv).1,λv hv hSv=>(one v hv).2.2.1 hSv,λv hv hSv=>(one v hv).2.2.2 hSv⟩
 have YY:∀u v,u≠v→Y u→Y v→(ad u v↔l u≤r v∧l v≤r u):=λu v huv p q=>by
  have:=lY u p;have:=lY v q;rw[two u v huv (.inl p) (.inl q)];omega
 have YK:∀u v,u≠v→Y u→(K v∧¬J v)→(ad u v↔l u≤r v∧l v≤r u):=λu v huv p ⟨q,j⟩=>by
  have:=lY u p;have:=lK v q j;have:=fY u p;have:=fK v q;rw[two u v huv (.inl p) (.inr q)];omega
 have YJ:∀u v,u≠v→Y u→(K v∧J v)→(ad u v↔l u≤r v∧l v≤r u):=λu v huv p ⟨q,j⟩=>by
  have:=lY u p;have:=lJ v j;have:=fY u p;have:=fK v q;have:=fJ v j;rw[two u v huv (.inl p) (.inr q)];omega
 have YZ:∀u v,Y u→Z v→(ad u v↔l u≤r v∧l v≤r u):=λu v p q=>by
  have:=lY u p;have:=lZ v q;have:=fY u p;have:=fZ v q
  exact⟨λe=>absurd e (nYZ u v p q),λe=>by omega⟩
 have KK:∀u v,u≠v→(K u∧¬J u)→(K v∧¬J v)→(ad u v↔l u≤r v∧l v≤r u):=λu v huv ⟨p,i⟩ ⟨q,j⟩=>by
  have:=lK u p i;have:=lK v q j;have:=fK u p;have:=fK v q;rw[two u v huv (.inr p) (.inr q)];omega
 have KJ:∀u v,u≠v→(K u∧¬J u)→(K v∧J v)→(ad u v↔l u≤r v∧l v≤r u):=λu v huv ⟨p,i⟩ ⟨q,j⟩=>by
  have:=lK u p i;have:=lJ v j;have:=fK u p;have:=fK v q;have:=fJ v j;rw[two u v huv (.inr p) (.inr q)];omega
 have KZ:∀u v,(K u∧¬J u)→Z v→(ad u v↔l u≤r v∧l v≤r u):=λu v ⟨p,i⟩ q=>by
  have:=lK u p i;have:=lZ v q;have:=fK u p;have:=fZ v q
  exact⟨λ_=>by omega,λ_=>aKZ u v p i q⟩
 have JJ:∀u v,u≠v→(K u∧J u)→(K v∧J v)→(ad u v↔l u≤r v∧l v≤r u):=λu v huv ⟨p,i⟩ ⟨q,j⟩=>by
  have:=lJ u i;have:=lJ v j;have:=fK u p;have:=fK v q;have:=fJ u i;have:=fJ v j;rw[two u v huv (.inr p) (.inr q)];omega
 have JZ:∀u v,u≠v→(K u∧J u)→Z v→(ad u v↔l u≤r v∧l v≤r u):=λu v huv ⟨p,i⟩ q=>by
  have:=lJ u i;have:=lZ v q;have:=fK u p;have:=fJ u i;have:=fZ v q;rw[h'.rp.ad u v (.inr i) (.inl q) huv];omega
 have ZZ:∀u v,u≠v→Z u→Z v→(ad u v↔l u≤r v∧l v≤r u):=λu v huv p q=>by
  have:=lZ u p;have:=lZ v q;rw[h'.rp.ad u v (.inl p) (.inl q) huv];omega
 have hvu:v≠u:=λe=>huv e.symm
 rcases hX4 u hu with p|p|p|p<;>rcases hX4 v hv with q|q|q|q
 ·exact YY u v huv p q
 ·exact YK u v huv p q
 ·exact YJ u v huv p q
 ·exact YZ u v p q
 ·exact sym _ _ (YK v u hvu q p)
 ·exact KK u v huv p q
 ·exact KJ u v huv p q
 ·exact KZ u v p q
 ·exact sym _ _ (YJ v u hvu q p)
 ·exact sym _ _ (KJ v u hvu q p)
 ·exact JJ u v huv p q
 ·exact JZ u v huv p q
 ·exact sym _ _ (YZ v u q p)
 ·exact sym _ _ (KZ v u q p)
 ·exact sym _ _ (JZ v u hvu q p)
 ·exact ZZ u v huv p q
open Classical in
theorem glue3 {X S T:Nat→Prop}(hT:∀v,T v→S v)(hSX:∀v,S v→X v)(hc:∀s t,S s→S t→s≠t→ad s t)
  (hT':∀s,S s→¬T s→(∀u,X u→¬S u→¬ad u s)∨∀u,X u→¬S u→ad u s)
  (h1:DD ad (λv=>(X v∧¬S v)∨T v) T):DD ad X S:=by
 obtain⟨L,R,B,hB,h⟩:=h1
 have fU:∀v,X v→¬S v→-B≤L v∧L v≤R v∧R v<0:=λv hv hn=>⟨h.lo v (.inl ⟨hv,hn⟩),h.rp.le v (.inl ⟨hv,hn⟩),h.x v (.inl ⟨hv,hn⟩) (λe=>hn (hT v e))⟩
 have fT:∀v,T v→-B≤L v∧L v≤R v∧R v=0:=λv hv=>⟨h.lo v (.inr hv),h.rp.le v (.inr hv),h.s v (.inr hv) hv⟩
 let l:Nat→Int:=λv=>if S v∧¬T v then(if∃u,X u∧¬S u∧ad u v then-B else 0) else L v
 let r:Nat→Int:=λv=>if S v∧¬T v then 0 else R v
 have lU:∀v,X v→¬S v→l v=L v∧r v=R v:=λv _ hn=>⟨if_neg (λe=>hn e.1),if_neg (λe=>hn e.1)⟩
 have lT:∀v,T v→l v=L v∧r v=R v:=λv hv=>⟨if_neg (λe=>e.2 hv),if_neg (λe=>e.2 hv)⟩
 have lS:∀v,S v→¬T v→r v=0∧(l v= -B∧(∀u,X u→¬S u→ad u v)∨l v=0∧∀u,X u→¬S u→¬ad u v):=λv hv hn=>by
  refine⟨if_pos ⟨hv,hn⟩,?_⟩
  by_cases he:∃u,X u∧¬S u∧ad u v
  ·left
   refine⟨?_,?_⟩
   ·show (if S v∧¬T v then(if∃u,X u∧¬S u∧ad u v then-B else 0) else L v)=_
    rw[if_pos ⟨hv,hn⟩,if_pos he]
   ·rcases hT' v hv hn with q|q
    ·obtain⟨u,a,b,c⟩:=he
     exact absurd c (q u a b)
    ·exact q
  ·right
   refine⟨?_,λu a b c=>he ⟨u,a,b,c⟩⟩
   show (if S v∧¬T v then(if∃u,X u∧¬S u∧ad u v then-B else 0) else L v)=_
   rw[if_pos ⟨hv,hn⟩,if_neg he]
 have lE:∀v,S v→r v=0∧-B≤l v∧l v≤0:=λv hv=>by
  by_cases ht:T v
  ·have:=lT v ht;have:=fT v ht;omega
  ·have:=lS v hv ht;omega
 have US:∀u v,X u→¬S u→S v→(ad u v↔l u≤r v∧l v≤r u):=λu v hu hn hv=>by
  have a:=lU u hu hn;have b:=fU u hu hn
  by_cases ht:T v
  ·have c:=lT v ht;have:=fT v ht
   rw[a.1,a.2,c.1,c.2]
   exact h.rp.ad u v (.inl ⟨hu,hn⟩) (.inr ht) (λe=>hn (e▸hv))
  ·obtain⟨c,d|d⟩:=lS v hv ht
   ·exact⟨λ_=>by omega,λ_=>d.2 u hu hn⟩
   ·exact⟨λe=>absurd e (d.2 u hu hn),λe=>by omega⟩
 refine⟨l,r,B,hB,⟨λv hv=> ?_,λu v hu hv huv=> ?_⟩,λv hv=> ?_,λv hv hSv=>(lE v hSv).1,λv hv hSv=> ?_⟩
 ·by_cases hSv:S v
  ·have:=lE v hSv;omega
  ·have:=lU v hv hSv;have:=fU v hv hSv;omega
 ·by_cases p:S u<;>by_cases q:S v
  ·have:=lE u p;have:=lE v q
   exact⟨λ_=>by omega,λ_=>hc u v p q huv⟩
  ·rw[ad_comm hs u v,US v u hv q p];exact And.comm
  ·exact US u v hu p q
  ·have a:=lU u hu p;have b:=lU v hv q
   rw[a.1,a.2,b.1,b.2]
   exact h.rp.ad u v (.inl ⟨hu,p⟩) (.inl ⟨hv,q⟩) huv
 ·by_cases hSv:S v
  ·exact(lE v hSv).2.1
  ·have:=lU v hv hSv;have:=fU v hv hSv;omega
 ·have:=lU v hv hSv;have:=fU v hv hSv;omega
end
end Go.Sx

namespace Go.Sx
structure Hg (ad:Nat→Nat→Prop)(X S:Nat→Prop):Prop where
 fin:∃l:List Nat,∀x,X x→x∈l
 sub:∀s,S s→X s
 clq:∀s t,S s→S t→s≠t→ad s t
 nh:NoHole ad X
 at3:∀a b c,¬Apt ad X a b c
 ae:∀a b,¬Ape ad X S a b
section
variable {ad : Nat → Nat → Prop}
theorem CJ {X X':Nat→Prop}(h:∀v,X' v→X v){a b c:Nat}(hp:Cn ad (Av ad X' c) a b):Cn ad (Av ad X c) a b:=hp.mono λw ⟨p,q,r⟩=>⟨h w p,q,r⟩
theorem Apt.mono {X X':Nat→Prop}(h:∀v,X' v→X v){a b c:Nat}:Apt ad X' a b c→Apt ad X a b c:=
 fun⟨h1,h2,h3,h4,h5,h6,h7,h8,h9,p,q,r⟩=>⟨h a h1,h b h2,h c h3,h4,h5,h6,h7,h8,h9,CJ h p,CJ h q,CJ h r⟩
theorem Hg.mono {X S X' S':Nat→Prop}(g:Hg ad X S)(hX:∀v,X' v→X v)(hS:∀v,S' v→S v)(hS':∀v,S' v→X' v):Hg ad X' S':=by
 obtain⟨l,hl⟩:=g.fin
 refine⟨⟨l,λx hx=>hl x (hX x hx)⟩,hS',λs t p q=>g.clq s t (hS s p) (hS t q),λc hc hx=>g.nh c hc (λx h=>hX x (hx x h)),λa b c h=>g.at3 a b c (h.mono hX),λa b ⟨h1,h2,h3,h4,⟨k,k1,k2⟩,k',k3,k4⟩=>g.ae a b ⟨hX a h1,hX b h2,h3,h4,⟨k,hS k k1,CJ hX k2⟩,k',hS k' k3,CJ hX k4⟩⟩
theorem E5 {Q:Nat→Prop}{a k:Nat}(h:Cn ad Q a k):k=a∨Q k:=h (λz=>z=a∨Q z) (.inl rfl) (λ_ _ _ _ hb=> .inr hb)
theorem cn_self {Q:Nat→Prop}{x y:Nat}(h:Cn ad Q x y):Cn ad (λz=>Cn ad Q x z) x y:=
 (h (λz=>Cn ad Q x z∧Cn ad (λz=>Cn ad Q x z) x z) ⟨Cn.refl,Cn.refl⟩ (λ_ _ ⟨a,b⟩ hpq hq=>⟨a.step hpq hq,b.step hpq (a.step hpq hq)⟩)).2
theorem least_nat (P:Nat→Prop):(∃n,P n)→∃n,P n∧∀k,k<n→¬P k:=by
 rintro⟨n,hn⟩
 induction n using Nat.strongRecOn with
 |_ n ih=>
  by_cases h:∃k,k<n∧P k
  ·obtain⟨k,h1,h2⟩:=h
   exact ih k h1 h2
  ·exact⟨n,hn,λk h1 h2=>h ⟨k,h1,h2⟩⟩
theorem B5 {l:List Nat}{n s:Nat}(h:l.length≤n+1)(hs:s∈l):(l.filter λx=>decide (x≠s)).length≤n:=by
 have:(l.filter λz=>decide (z≠s)).length<l.length:=List.length_filter_lt_length_iff_exists.2 ⟨s,hs,by simp⟩
 omega
theorem CA {l:List Nat}{s x:Nat}(h:x∈l)(hs:x≠s):x∈l.filter λx=>decide (x≠s):=by
 rw[List.mem_filter];exact⟨h,by simpa using hs⟩
variable (hs : ∀ a b, ad a b → ad b a) (hi : ∀ a, ¬ ad a a)
include hs
theorem CC {U Q:Nat→Prop}{a x y:Nat}(ha:U a)(hx:Cn ad U a x)(hy:Cn ad U a y)(hQ:∀z,Cn ad U a z→Q z):Cn ad Q x y:=
 (((Cn.sym hs ha hx).trans hy) (λz=>Cn ad U a z∧Cn ad Q x z) ⟨hx,Cn.refl⟩ (λ_ _ ⟨h1,h2⟩ hpq hq=>⟨h1.step hpq hq,h2.step hpq (hQ _ (h1.step hpq hq))⟩)).2
theorem DW {U:Nat→Prop}{a b x y:Nat}(ha:U a)(hb:U b)(hab:¬Cn ad U a b)(hx:Cn ad U a x)(hy:Cn ad U b y):x≠y∧¬ad x y:=
 ⟨λe=>hab ((e▸hx).trans (Cn.sym hs hb hy)),λe=>hab ((hx.step e (hy.mem hb)).trans (Cn.sym hs hb hy))⟩
include hi
theorem all_near {X C S:Nat→Prop}(nh:NoHole ad X)(hCX:∀v,C v→X v)(hSX:∀v,S v→X v)(hc:∀a b,C a→C b→Cn ad C a b)(hne:∃v,C v)
  (clq:∀s t,S s→S t→s≠t→ad s t) (hN:∀s,S s→∃c,C c∧ad c s) (hd:∀s,S s→¬C s) (fin:∃l:List Nat,∀x,S x→x∈l):∃v,C v∧∀s,S s→ad v s:=by
 have key:∀n v,C v→(∃l:List Nat,l.length≤n∧∀s,S s→¬ad v s→s∈l)→∃v,C v∧∀s,S s→ad v s:=by
  intro n
  induction n with
  |zero=>
   rintro v hv ⟨l,hl,hm⟩
   refine⟨v,hv,λs hsS=> ?_⟩
   apply Classical.byContradiction
   intro hvs
   have:=List.length_pos_of_mem (hm s hsS hvs)
   omega
  |succ n ih=>
   rintro v hv ⟨l,hl,hm⟩
   by_cases hall:∀s,S s→ad v s
   ·exact⟨v,hv,hall⟩
   ·obtain⟨s,hall⟩:=Classical.not_forall.1 hall
    obtain⟨hsS,hvs⟩:=Classical.not_imp.1 hall
    let P:Nat→Prop:=λu=>C u∧¬ad u s
    have hvP:P v:=⟨hv,hvs⟩
    have hw:∃w h,C w∧ad w s∧Cn ad P v h∧ad h w:=by
     apply Classical.byContradiction
     intro hno
     obtain⟨c0,hc0,hc0s⟩:=hN s hsS
     have:Cn ad P v c0:=(hc v c0 hv hc0) (λz=>Cn ad P v z) Cn.refl (λa b ha hab hb=>by
      by_cases hbs:ad b s
      ·exact absurd ⟨b,a,hb,hbs,ha,hab⟩ hno
      ·exact ha.step hab ⟨hb,hbs⟩)
     exact(this.mem hvP).2 hc0s
    obtain⟨w,h,hw,hws,hh,hhw⟩:=hw
    have hup:∀t,S t→ad v t→ad w t:=λt ht hvt=>by
     apply Classical.byContradiction
     intro hwt
     have hts:t≠s:=λe=>hvs (e▸hvt)
     obtain⟨c,hc',hcX⟩:=DN hs hi (v:=s) (x:=t) (y:=w) (H:=λz=>Cn ad P v z) (clq s t hsS ht (λe=>hts e.symm)) (hs _ _ hws) (λe=>hd t ht (e▸hw)) (λe=>hwt (hs _ _ e))
      (λz hz=>⟨λe=>hd s hsS (e▸(hz.mem hvP).1),λe=>(hz.mem hvP).2 (hs _ _ e)⟩) (a:=v) (b:=h) (hs _ _ hvt) Cn.refl (cn_self hh) hhw
     refine nh c hc' (λz hz=> ?_)
     rcases hcX z hz with e|e|e|e
     ·exact e▸hSX s hsS
     ·exact e▸hSX t ht
     ·exact e▸hCX w hw
     ·exact hCX z (e.mem hvP).1
    refine ih w hw ⟨l.filter λx=>decide (x≠s),B5 hl (hm s hsS hvs),λt ht htw=>CA (hm t ht (λe=>htw (hup t ht e))) (λe=>htw (e▸hws))⟩
 obtain⟨v,hv⟩:=hne
 obtain⟨l,hl⟩:=fin
 exact key l.length v hv ⟨l,Nat.le_refl _,λs h _=>hl s h⟩
end
section
variable {ad : Nat → Nat → Prop} (hs : ∀ a b, ad a b → ad b a) (hi : ∀ a, ¬ ad a a)
def LbH (ad:Nat→Nat→Prop)(m:Nat):Prop:=∀X S:Nat→Prop,Hg ad X S→(∃l:List Nat,l.length≤m∧∀x,X x→¬S x→x∈l)→DD ad X S
include hs
theorem lb1 {X S:Nat→Prop}{m:Nat}(ih:LbH ad m)(g:Hg ad X S)(hl:∃l:List Nat,l.length≤m+1∧∀x,X x→¬S x→x∈l)
  (hno:¬∀v w,(X v∧¬S v)→(X w∧¬S w)→Cn ad (λz=>X z∧¬S z) v w):DD ad X S:=by
 obtain⟨l,hl,hm⟩:=hl
 let U:Nat→Prop:=λz=>X z∧¬S z
 let Rl:Nat→Nat→Prop:=λv w=>¬Cn ad U v w→∀s,S s→(∃u,Cn ad U w u∧ad u s)→∀u,Cn ad U v u→ad u s
 have tot:∀v w,U v→U w→Rl v w∨Rl w v:=λv w hv hw=>by
  by_cases h1:Rl v w
  ·exact .inl h1
  ·right
   intro hwv s hS ⟨x,hx,hxs⟩ u hu
   apply Classical.byContradiction
   intro hus
   apply h1
   intro hvw s' hS' ⟨x',hx',hxs'⟩ u' hu'
   apply Classical.byContradiction
   intro hus'
   have far:=DW hs hv hw hvw hu' hu
   refine g.ae u' u ⟨(hu'.mem hv).1,(hu.mem hw).1,far.1,far.2,⟨s,hS,?_⟩,s',hS',?_⟩
   ·refine(CC hs hv hu' hx (λz hz=> ?_)).step hxs ⟨g.sub s hS,λe=>(hu.mem hw).2 (e▸hS),hus⟩
    have f:=DW hs hv hw hvw hz hu
    exact⟨(hz.mem hv).1,f.1,λe=>f.2 (hs _ _ e)⟩
   ·refine(CC hs hw hu hx' (λz hz=> ?_)).step hxs' ⟨g.sub s' hS',λe=>(hu'.mem hv).2 (e▸hS'),hus'⟩
    have f:=DW hs hv hw hvw hu' hz
    exact⟨(hz.mem hw).1,λe=>f.1 e.symm,f.2⟩
 have trn:∀v w x,U v→U w→U x→Rl v w→Rl w x→Rl v x:=λv w x hv hw hx h1 h2 h3 s hS ⟨y,hy,hys⟩ u hu=>by
  by_cases hwx:Cn ad U w x
  ·exact h1 (λe=>h3 (e.trans hwx)) s hS ⟨y,hwx.trans hy,hys⟩ u hu
  ·have hc:=h2 hwx s hS ⟨y,hy,hys⟩
   by_cases hvw:Cn ad U v w
   ·exact hc u ((Cn.sym hs hv hvw).trans hu)
   ·exact h1 hvw s hS ⟨w,Cn.refl,hc w Cn.refl⟩ u hu
 have lst:∀l:List Nat,(∃x,x∈l∧U x)→∃v,U v∧∀w,w∈l→U w→Rl v w:=by
  intro l
  induction l with
  |nil=>rintro⟨x,hx,_⟩;cases hx
  |cons y l ihl=>
   rintro⟨x,hx,hU⟩
   by_cases hex:∃x,x∈l∧U x
   ·obtain⟨v,hv,hall⟩:=ihl hex
    by_cases hy:U y
    ·rcases tot v y hv hy with q|q
     ·refine⟨v,hv,λw hw hUw=> ?_⟩
      rcases List.mem_cons.1 hw with e|e
      ·exact e▸q
      ·exact hall w e hUw
     ·refine⟨y,hy,λw hw hUw=> ?_⟩
      rcases List.mem_cons.1 hw with e|e
      ·intro h;exact absurd (e▸Cn.refl) h
      ·exact trn y v w hy hv hUw q (hall w e hUw)
    ·refine⟨v,hv,λw hw hUw=> ?_⟩
     rcases List.mem_cons.1 hw with e|e
     ·exact absurd (e▸hUw) hy
     ·exact hall w e hUw
   ·refine⟨x,hU,λw hw hUw=> ?_⟩
    have:x=y:=by
     rcases List.mem_cons.1 hx with e|e
     ·exact e
     ·exact absurd ⟨x,e,hU⟩ hex
    rcases List.mem_cons.1 hw with e|e
    ·intro h;exact absurd (by rw[e,←this];exact Cn.refl) h
    ·exact absurd ⟨w,e,hUw⟩ hex
 obtain⟨v0,w0,hv0,hw0,hvw0⟩:∃v w,U v∧U w∧¬Cn ad U v w:=by
  apply Classical.byContradiction
  intro h
  apply hno
  intro v w hv hw
  apply Classical.byContradiction
  intro h'
  exact h ⟨v,w,hv,hw,h'⟩
 obtain⟨v,hv,hall'⟩:=lst l ⟨v0,hm v0 hv0.1 hv0.2,hv0⟩
 have hall:∀w,U w→Rl v w:=λw hw=>hall' w (hm w hw.1 hw.2) hw
 obtain⟨o,ho,hvo⟩:∃o,U o∧¬Cn ad U v o:=by
  by_cases h:Cn ad U v v0
  ·exact⟨w0,hw0,λe=>hvw0 ((Cn.sym hs hv h).trans e)⟩
  ·exact⟨v0,hv0,h⟩
 let O:Nat→Prop:=λz=>U z∧¬Cn ad U v z
 let M:Nat→Prop:=λs=>S s∧∃w,O w∧ad w s
 have hOX:∀z,O z→X z:=λz h=>h.1.1
 refine glue1 hs (O:=O) (M:=M) (C:=λz=>Cn ad U v z∨(S z∧¬M z)) (S':=λz=>S z∧¬M z) (λz=>⟨λhz=> ?_,λhz=> ?_⟩) (λz h1 h2=>h1.1.2 h2.1) (λz h1 h2=> ?_) (λz h1 h2=> ?_)
  (λu w h1 h2=> ?_) (λu w h1 h2=> ?_) (λz=>⟨λhz=> ?_,λhz=> ?_⟩) ?_ ?_
 ·by_cases hS:S z
  ·by_cases hM:M z
   ·exact .inr (.inl hM)
   ·exact .inr (.inr (.inr ⟨hS,hM⟩))
  ·by_cases hc:Cn ad U v z
   ·exact .inr (.inr (.inl hc))
   ·exact .inl ⟨⟨hz,hS⟩,hc⟩
 ·rcases hz with h|h|h|h
  ·exact hOX z h
  ·exact g.sub z h.1
  ·exact(h.mem hv).1
  ·exact g.sub z h.1
 ·rcases h2 with h|h
  ·exact h1.2 h
  ·exact h1.1.2 h.1
 ·rcases h2 with h|h
  ·exact(h.mem hv).2 h1.1
  ·exact h.2 h1
 ·rcases h2 with h|h
  ·exact λe=>h1.2 (h.step (hs _ _ e) h1.1)
  ·exact λe=>h.2 ⟨h.1,u,h1,e⟩
 ·obtain⟨p,w',hw',hww⟩:=h1
  rcases h2 with h|h
  ·exact hs _ _ (hall w' hw'.1 hw'.2 u p ⟨w',Cn.refl,hww⟩ w h)
  ·exact g.clq u w p h.1 (λe=>h.2 (e▸⟨p,w',hw',hww⟩))
 ·by_cases hM:M z
  ·exact .inl hM
  ·exact .inr ⟨.inr ⟨hz,hM⟩,hz,hM⟩
 ·rcases hz with h|h
  ·exact h.1
  ·exact h.2.1
 ·refine ih _ _ (g.mono (λz hz=>hz.elim (hOX z) (λh=>g.sub z h.1)) (λz h=>h.1) (λz h=> .inr h)) ⟨l.filter λx=>decide (x≠v),B5 hl (hm v hv.1 hv.2),λx hx hn=> ?_⟩
  have hO:O x:=hx.elim id (λh=>absurd h hn)
  exact CA (hm x hO.1.1 hO.1.2) (λe=>hO.2 (e▸Cn.refl))
 ·refine ih _ _ (g.mono (λz hz=>hz.elim (λh=>(h.mem hv).1) (λh=>g.sub z h.1)) (λz h=>h.1) (λz h=> .inr h)) ⟨l.filter λx=>decide (x≠o),B5 hl (hm o ho.1 ho.2),λx hx hn=> ?_⟩
  have hC:Cn ad U v x:=hx.elim id (λh=>absurd h hn)
  exact CA (hm x (hC.mem hv).1 (hC.mem hv).2) (λe=>hvo (e▸hC))
include hi
theorem lb2 {X S:Nat→Prop}{m:Nat}(ih:LbH ad m)(g:Hg ad X S)(hl:∃l:List Nat,l.length≤m+1∧∀x,X x→¬S x→x∈l)
  (hc:∀v w,(X v∧¬S v)→(X w∧¬S w)→Cn ad (λz=>X z∧¬S z) v w) (hne:∃s,S s)
  (h1:∀s,S s→∃u,(X u∧¬S u)∧ad u s) (h2:∀s,S s→∃u,(X u∧¬S u)∧¬ad u s):DD ad X S:=by
 obtain⟨l,hl,hm⟩:=hl
 let U:Nat→Prop:=λz=>X z∧¬S z
 obtain⟨s0,hs0⟩:=hne
 obtain⟨lX,hlX⟩:=g.fin
 obtain⟨d0,hd0,hd0S⟩:=all_near hs hi (C:=U) g.nh (λv h=>h.1) g.sub hc ⟨(h1 s0 hs0).choose,(h1 s0 hs0).choose_spec.1⟩ g.clq h1 (λs h e=>e.2 h) ⟨lX,λx hx=>hlX x (g.sub x hx)⟩
 let D:Nat→Prop:=λu=>U u∧∀s,S s→ad u s
 let F:Nat→Prop:=λu=>U u∧∃s,S s∧¬ad u s
 let D':Nat→Prop:=λd=>D d∧∃f,F f∧ad f d
 have hDF:∀z,D z→¬F z:=λz h ⟨_,s,p,q⟩=>q (h.2 s p)
 have hUDF:∀z,U z→D z∨F z:=λz h=>by
  by_cases hz:∀s,S s→ad z s
  ·exact .inl ⟨h,hz⟩
  ·obtain⟨s,q⟩:=Classical.not_forall.1 hz
   obtain⟨p,q⟩:=Classical.not_imp.1 q
   exact .inr ⟨h,s,p,q⟩
 obtain⟨f0,hf0,hf0s⟩:=h2 s0 hs0
 have hf0F:F f0:=⟨hf0,s0,hs0,hf0s⟩
 have hneS:∀{z s},U z→S s→s≠z:=λhz h e=>hz.2 (e▸h)
 have hole1:∀f d d',F f→D d→D d'→ad f d→ad f d'→d≠d'→ad d d':=λf d d' hf hd hd' hfd hfd' hdd=>by
  apply Classical.byContradiction
  intro hno
  obtain⟨hfU,s,hS,hfs⟩:=hf
  obtain⟨c,hc',hcX⟩:=DN hs hi (v:=s) (x:=d) (y:=d') (H:=λz=>z=f) (hs _ _ (hd.2 s hS)) (hs _ _ (hd'.2 s hS)) hdd hno (λz hz=>by subst hz;exact⟨λe=>hneS hfU hS e.symm,λe=>hfs (hs _ _ e)⟩) (a:=f) (b:=f) (hs _ _ hfd) rfl Cn.refl hfd'
  refine g.nh c hc' (λz hz=> ?_)
  rcases hcX z hz with e|e|e|e
  ·exact e▸g.sub s hS
  ·exact e▸hd.1.1
  ·exact e▸hd'.1.1
  ·exact e▸hfU.1
 have endF:∀f f' d d',F f→F f'→D d→D d'→f≠f'→¬ad f f'→ad f d→ad f' d'→¬ad f d'→¬ad f' d→False:=λf f' d d' hf hf' hd hd' hff hn a1 a2 n1 n2=>by
  obtain⟨hfU,s,hS,hfs⟩:=hf
  obtain⟨hfU',s',hS',hfs'⟩:=hf'
  refine g.ae f f' ⟨hfU.1,hfU'.1,hff,hn,⟨s',hS',?_⟩,s,hS,?_⟩
  ·exact(Cn.refl.step a1 ⟨hd.1.1,λe=>hDF d hd (e▸⟨hfU',s',hS',hfs'⟩),n2⟩).step (hd.2 s' hS') ⟨g.sub s' hS',hneS hfU' hS',hfs'⟩
  ·exact(Cn.refl.step a2 ⟨hd'.1.1,λe=>hDF d' hd' (e▸⟨hfU,s,hS,hfs⟩),n1⟩).step (hd'.2 s hS) ⟨g.sub s hS,hneS hfU hS,hfs⟩
 have dclq:∀d d',D' d→D' d'→d≠d'→ad d d':=λd d' ⟨hd,f,hf,hfd⟩ ⟨hd',f',hf',hfd'⟩ hdd=>by
  apply Classical.byContradiction
  intro hno
  by_cases e1:ad f d'
  ·exact hno (hole1 f d d' hf hd hd' hfd e1 hdd)
  by_cases e2:ad f' d
  ·exact hno (hole1 f' d d' hf' hd hd' e2 hfd' hdd)
  have hff:f≠f':=λe=>e1 (e▸hfd')
  by_cases e3:ad f f'
  ·obtain⟨hfU,s,hS,hfs⟩:=hf
   by_cases e4:ad f' s
   ·obtain⟨c,hc',hcX⟩:=DN hs hi (v:=f) (x:=d) (y:=f') (H:=λz=>z=s) hfd e3 (λe=>hDF d hd (e▸hf')) (λe=>e2 (hs _ _ e)) (λz hz=>by subst hz;exact⟨hneS hfU hS,hfs⟩) (a:=s) (b:=s) (hd.2 s hS) rfl Cn.refl (hs _ _ e4)
    refine g.nh c hc' (λz hz=> ?_)
    rcases hcX z hz with e|e|e|e
    ·exact e▸hfU.1
    ·exact e▸hd.1.1
    ·exact e▸hf'.1.1
    ·exact e▸g.sub s hS
   ·obtain⟨c,hc',hcX⟩:=DN hs hi (v:=s) (x:=d) (y:=d') (H:=λz=>z=f∨z=f') (hs _ _ (hd.2 s hS)) (hs _ _ (hd'.2 s hS)) hdd hno
     (λz hz=>by
      rcases hz with hz|hz
      ·subst hz;exact⟨λe=>hneS hfU hS e.symm,λe=>hfs (hs _ _ e)⟩
      ·subst hz;exact⟨λe=>hneS hf'.1 hS e.symm,λe=>e4 (hs _ _ e)⟩) (a:=f) (b:=f') (hs _ _ hfd) (.inl rfl) (Cn.refl.step e3 (.inr rfl)) hfd'
    refine g.nh c hc' (λz hz=> ?_)
    rcases hcX z hz with e|e|e|e|e
    ·exact e▸g.sub s hS
    ·exact e▸hd.1.1
    ·exact e▸hd'.1.1
    ·exact e▸hfU.1
    ·exact e▸hf'.1.1
  ·exact endF f f' d d' hf hf' hd hd' hff e3 hfd hfd' e1 e2
 have kclq:∀a b,(S a∨D' a)→(S b∨D' b)→a≠b→ad a b:=λa b ha hb hab=>by
  rcases ha with ha|ha<;>rcases hb with hb|hb
  ·exact g.clq a b ha hb hab
  ·exact hs _ _ (hb.1.2 a ha)
  ·exact ha.1.2 b hb
  ·exact dclq a b ha hb hab
 refine glue2 hs (Y:=F) (K:=λz=>S z∨D' z) (J:=D') (Z:=λz=>D z∧¬D' z) (λz=>⟨λhz=> ?_,λhz=> ?_⟩) (λz h=> .inr h) (λz h1 h2=> ?_) (λz h1 h2=>hDF z h2.1 h1) (λz h1 h2=> ?_)
  (λu v h1 h2 e=>h2.2 ⟨h2.1,u,h1,e⟩) (λu v h1 h2 h3=> ?_) (λz=>⟨λhz=>⟨.inl hz,λe=>e.1.1.2 hz⟩,λhz=>hz.1.elim id (λe=>absurd e hz.2)⟩) ?_ ?_
 ·by_cases hS:S z
  ·exact .inr (.inl (.inl hS))
  ·rcases hUDF z ⟨hz,hS⟩ with h|h
   ·by_cases hd:D' z
    ·exact .inr (.inl (.inr hd))
    ·exact .inr (.inr ⟨h,hd⟩)
   ·exact .inl h
 ·rcases hz with h|(h|h)|h
  ·exact h.1.1
  ·exact g.sub z h
  ·exact h.1.1.1
  ·exact h.1.1.1
 ·rcases h2 with h|h
  ·exact h1.1.2 h
  ·exact hDF z h.1 h1
 ·rcases h1 with h|h
  ·exact h2.1.1.2 h
  ·exact h2.2 h
 ·have hSu:S u:=h1.elim id (λe=>absurd e h2)
  exact hs _ _ (h3.1.2 u hSu)
 ·have hYX:∀z,(F z∨(S z∨D' z))→X z:=λz hz=>by
   rcases hz with h|h|h
   ·exact h.1.1
   ·exact g.sub z h
   ·exact h.1.1.1
  have conv:∀a b,(F a∨(S a∨D' a))→(F b∨(S b∨D' b))→a≠b→¬ad a b→(∃k,(S k∨D' k)∧Cn ad (Av ad (λz=>F z∨(S z∨D' z)) b) a k)→∃k,S k∧Cn ad (Av ad X b) a k:=by
   rintro a b ha hb hab hnab ⟨k,hk,hp⟩
   have hp':=CJ hYX hp
   rcases hk with hk|hk
   ·exact⟨k,hk,hp'⟩
   ·have hbF:F b:=by
     rcases hb with hb|hb
     ·exact hb
     ·exfalso
      rcases E5 hp with e|e
      ·subst e
       exact hnab (kclq _ _ (.inr hk) hb hab)
      ·exact e.2.2 (kclq _ _ hb (.inr hk) (λq=>e.2.1 q.symm))
    obtain⟨hbU,s,hS,hbs⟩:=hbF
    exact⟨s,hS,hp'.step (hk.1.2 s hS) ⟨g.sub s hS,hneS hbU hS,hbs⟩⟩
  refine ih _ _ ⟨⟨lX,λx hx=>hlX x (hYX x hx)⟩,λs h=> .inr h,λs t p q e=>kclq s t p q e,λc hc' hx=>g.nh c hc' (λx h=>hYX x (hx x h)),λa b c h=>g.at3 a b c (h.mono hYX),λa b ⟨p1,p2,p3,p4,p5,p6⟩=> ?_⟩
   ⟨l.filter λx=>decide (x≠d0),B5 hl (hm d0 hd0.1 hd0.2),λx hx hn=> ?_⟩
  ·exact g.ae a b ⟨hYX a p1,hYX b p2,p3,p4,conv a b p1 p2 p3 p4 p5,conv b a p2 p1 (λe=>p3 e.symm) (λe=>p4 (hs _ _ e)) p6⟩
  ·have hF:F x:=hx.elim id (λh=>absurd h hn)
   exact CA (hm x hF.1.1 hF.1.2) (λe=>hDF d0 ⟨hd0,hd0S⟩ (e▸hF))
 ·have hWD:∀z,((D z∧¬D' z)∨D' z)→D z:=λz hz=>hz.elim (λh=>h.1) (λh=>h.1)
  have hWX:∀z,((D z∧¬D' z)∨D' z)→X z:=λz hz=>(hWD z hz).1.1
  refine ih _ _ ⟨⟨lX,λx hx=>hlX x (hWX x hx)⟩,λs h=> .inr h,dclq,λc hc' hx=>g.nh c hc' (λx h=>hWX x (hx x h)),λa b c h=>g.at3 a b c (h.mono hWX),λa b ⟨p1,p2,p3,p4,⟨k,hk,hp⟩,k',hk',hp'⟩=> ?_⟩
   ⟨l.filter λx=>decide (x≠f0),B5 hl (hm f0 hf0.1 hf0.2),λx hx hn=> ?_⟩
  ·have hkD:=hk;have hkD':=hk'
   have nD:∀a b k',((D b∧¬D' b)∨D' b)→a≠b→¬ad a b→D' k'→Cn ad (Av ad (λz=>(D z∧¬D' z)∨D' z) a) b k'→¬D' a:=λa b k' hb hab hnab hk' hp' ha=>by
    rcases E5 hp' with e|e
    ·subst e;exact hnab (dclq _ _ ha hk' hab)
    ·exact e.2.2 (dclq _ _ ha hk' (λq=>e.2.1 q.symm))
   have ha:=nD a b k' p2 p3 p4 hk' hp'
   have hb:=nD b a k p1 (λe=>p3 e.symm) (λe=>p4 (hs _ _ e)) hk hp
   have haD:=hWD a p1;have hbD:=hWD b p2
   obtain⟨hkd,f,hf,hfk⟩:=hk
   obtain⟨hkd',f',hf',hfk'⟩:=hk'
   obtain⟨q,hq,hqk,hqk'⟩:∃q,F q∧ad q k∧ad q k':=by
    by_cases e1:ad f k'
    ·exact⟨f,hf,hfk,e1⟩
    by_cases e2:ad f' k
    ·exact⟨f',hf',e2,hfk'⟩
    exfalso
    have hff:f≠f':=λe=>e1 (e▸hfk')
    have hkk:k'≠k:=λe=>e1 (e▸hfk)
    by_cases e3:ad f f'
    ·obtain⟨c,hc',hcX⟩:=DN hs hi (v:=f) (x:=k) (y:=f') (H:=λz=>z=k') hfk e3 (λe=>hDF k hkd (e▸hf')) (λe=>e2 (hs _ _ e)) (λz hz=>by subst hz;exact⟨λe=>hDF z hkd' (e▸hf),e1⟩) (a:=k') (b:=k') (dclq k k' hkD hkD' (λe=>hkk e.symm)) rfl Cn.refl (hs _ _ hfk')
     refine g.nh c hc' (λz hz=> ?_)
     rcases hcX z hz with e|e|e|e
     ·exact e▸hf.1.1
     ·exact e▸hkd.1.1
     ·exact e▸hf'.1.1
     ·exact e▸hkd'.1.1
    ·exact endF f f' k k' hf hf' hkd hkd' hff e3 hfk hfk' e1 e2
   have hqa:¬ad q a:=λe=>ha ⟨haD,q,hq,e⟩
   have hqb:¬ad q b:=λe=>hb ⟨hbD,q,hq,e⟩
   have hqa':q≠a:=λe=>hDF a haD (e▸hq)
   have hqb':q≠b:=λe=>hDF b hbD (e▸hq)
   obtain⟨hqU,s,hS,hqs⟩:=hq
   exact g.at3 a b q ⟨haD.1.1,hbD.1.1,hqU.1,p3,hqa'.symm,hqb'.symm,p4,λe=>hqa (hs _ _ e),λe=>hqb (hs _ _ e),
    (Cn.refl.step (haD.2 s hS) ⟨g.sub s hS,hneS hqU hS,hqs⟩).step (hs _ _ (hbD.2 s hS)) ⟨hbD.1.1,hqb'.symm,hqb⟩,
    (CJ hWX hp).step (hs _ _ hqk) ⟨hqU.1,hqb',λe=>hqb (hs _ _ e)⟩,(CJ hWX hp').step (hs _ _ hqk') ⟨hqU.1,hqa',λe=>hqa (hs _ _ e)⟩⟩
  ·have hD:D x:=hWD x hx
   exact CA (hm x hD.1.1 hD.1.2) (λe=>hDF x hD (e▸hf0F))
end
end Go.Sx

namespace Go.Sx
section
variable {g : LL} (hg : GOk g)
include hg
omit hg in
theorem nr_le {all:Int}{v u:Nat}{a b:Nat}(h:a≤b)(hn:Nr (AdW g all) v a u):Nr (AdW g all) v b u:=by
 obtain⟨d,rfl⟩:∃d,b=a+d:=⟨b-a,by omega⟩
 clear h
 induction d with
 |zero=>exact hn
 |succ d ih=>exact ih.up
theorem dst_list {all:Int}{v:Nat}(hv:v<g.length):∀(j u:Nat),Dst g all v j u→∃l:List Nat,l.length=j+1∧l.Nodup∧∀z∈l,z<g.length∧∃i,i≤j∧Dst g all v i z
 |0,u,h=>⟨[u],rfl,by simp,λz hz=>by simp at hz;subst hz;exact⟨NrW.lt hg hv h.1,0,Nat.le_refl _,h⟩⟩
 |j+1,u,h=>by
  obtain⟨h1,h2⟩:=h
  rcases h1 with rfl|⟨w,h3,h4⟩
  ·exact absurd (.inl rfl) h2
  ·have hw:Dst g all v j w:=⟨h3,λh5=>h2 (.inr ⟨w,h5,h4⟩)⟩
   obtain⟨l,l1,l2,l3⟩:=dst_list hv j w hw
   refine⟨u::l,by simp[l1],List.nodup_cons.2 ⟨λhu=> ?_,l2⟩,λz hz=> ?_⟩
   ·obtain⟨_,i,hi,hd⟩:=l3 u hu
    exact h2 (nr_le (show i+1≤j+1 by omega) hd.1)
   ·rcases List.mem_cons.1 hz with rfl|hz
    ·exact⟨NrW.lt hg hv (show Nr (AdW g all) v (j+1+1) z from .inr ⟨w,h3,h4⟩),j+1,Nat.le_refl _,.inr ⟨w,h3,h4⟩,h2⟩
    ·obtain⟨a,i,b,c⟩:=l3 z hz
     exact⟨a,i,by omega,c⟩
theorem dst_lt {all:Int}{v:Nat}(hv:v<g.length){j u:Nat}(h:Dst g all v j u):j<g.length:=by
 obtain⟨l,l1,l2,l3⟩:=dst_list hg hv j u h
 have:=Bx (l:=iz l) (m:=(List.range g.length).map Int.ofNat) (by
  unfold iz
  exact List.pairwise_map.2 (l2.imp (λh h'=>h (Int.ofNat.inj h')))) (λx hx=>by
  unfold iz at hx
  obtain⟨v,hv,rfl⟩:=List.mem_map.1 hx
  exact List.mem_map.2 ⟨v,List.mem_range.2 (l3 v hv).1,rfl⟩)
 rw[Cb] at this
 simp at this;omega
theorem dst_one {all:Int}{v i j u:Nat}(h1:Dst g all v i u)(h2:Dst g all v j u):i=j:=by
 rcases Nat.lt_trichotomy i j with h|h|h
 ·exact absurd (nr_le (show i+1≤j by omega) h1.1) h2.2
 ·exact h
 ·exact absurd (nr_le (show j+1≤i by omega) h2.1) h1.2
structure PW (g:LL)(W:Nat→Prop)(u v:Nat)(P:List Nat):Prop where
 ne:1≤P.length
 fst:P[0]'(by omega)=u
 lst:P[P.length-1]'(by omega)=v
 inW:∀x∈P,W x
 step:∀i (h:i+1<P.length),adj g P[i] P[i+1]
 short:P.length≤g.length
omit hg in
theorem cn_nr {all:Int}{v u:Nat}(h:Cn (adj g) (λz=>has all z=true) v u):∃k,Nr (AdW g all) v k u:=
 h (λu=>∃k,Nr (AdW g all) v k u) ⟨1,.inl rfl⟩ (λa b ⟨k,hk⟩ hab hb=>⟨k+1,.inr ⟨a,hk,hab,hb⟩⟩)
theorem pathOf_ok {u v:Nat}{all:Int}(va:VS all)(hlt:∀w,has all w=true→w<g.length)(hu:has all u=true)(hv:has all v=true):
  ∃r,D.s0 (g.map mk) (u:Int) (v:Int) all=some r∧((r=[]∧¬Cn (adj g) (λz=>has all z=true) v u)∨∃P,r=iz P∧PW g (λz=>has all z=true) u v P):=by
 have h16:=hg.n16
 have hun:=hlt u hu;have hvn:=hlt v hv
 have hlm:(g.map mk).length=g.length:=by simp
 have hF:=FOk.of hg
 obtain⟨far,ef,hfl,hfar⟩:=distW_ok hg hvn va
 unfold D.s0
 have hidx:∀{x:Nat},x<g.length→idx far (x:Int)=some (far.getD x 0):=λhx=>by rw[AB (by omega),AA (by omega)]
 have hidF:∀{x:Nat},x<g.length→idx (g.map mk) (x:Int)=some ((g.map mk).getD x 0):=λhx=>by rw[AB (by omega),AA (by omega)]
 rw[ef,bs,hidx hun,bs]
 rcases hfar u hun with⟨j0,e0,hd0⟩|⟨e0,hn⟩
 case inr=>
  rw[e0,decide_eq_true (by decide),cond_true]
  exact⟨_,rfl,.inl ⟨rfl,λh=>by obtain⟨k,hk⟩:=cn_nr h;exact hn k hk⟩⟩
 have hj0:=dst_lt hg hvn hd0
 rw[e0,decide_eq_false (by omega),cond_false]
 refine A3 (λs:Int×LI=>∃(c j:Nat) (P:List Nat),s=((c:Int),iz P)∧Dst g all v j c∧PW g (λz=>has all z=true) u c P∧P.length+j=j0+1)
  (λs=>100-s.2.length) (λr=>∃P,r=iz P∧PW g (λz=>has all z=true) u v P) ?_ ⟨u,j0,[u],rfl,hd0,⟨by simp,rfl,rfl,λx hx=>by simp at hx;subst hx;exact hu,λi h=>by simp at h,by simp;omega⟩,by simp;omega⟩ ?_
 case refine_2=>
  rintro r ⟨P,rfl,hP⟩
  have hne:=hP.ne
  have:nonE (iz P)=some ():=by
   cases P with
   |nil=>simp at hne
   |cons a t=>rfl
  rw[this,bs]
  exact⟨_,rfl,.inr ⟨P,rfl,hP⟩⟩
 rintro _ ⟨c,j,P,rfl,hd,hP,hl⟩
 dsimp only
 have hne:=hP.ne
 have hcW:has all c=true:=by
  rw[←hP.lst];exact hP.inW _ (List.getElem_mem _)
 have hcn:=hlt c hcW
 by_cases hcv:c=v
 ·have e:((c:Int) !=(v:Int))=false:=by simp[hcv]
  rw[e,cond_false]
  subst hcv
  exact⟨_,rfl,P,rfl,hP⟩
 ·have e:((c:Int) !=(v:Int))=true:=by rw[bne_iff_ne];exact λh=>hcv (Int.ofNat.inj h)
  obtain⟨w,hw,hjw⟩:∃w,Dst g all v (j-1) w∧0<j∧adj g w c:=by
   rcases hd.1 with h|⟨w,h1,h2⟩
   ·exact absurd h hcv
   ·cases j with
    |zero=>exact h1.elim
    |succ j=>exact⟨w,⟨h1,λh5=>hd.2 (.inr ⟨w,h5,h2⟩)⟩,by omega,h2.1⟩
  have hwn:=NrW.lt hg hvn hw.1
  have hwW:has all w=true:=by
   have:=hw.1
   rcases this with rfl|⟨_,_,h⟩
   ·exact hv
   ·exact h.2
  have vc:=hF.vs c hcn
  have vI:VS (iand .u32 ((g.map mk).getD c 0) all):=VS.iand _ _
  rw[e,cond_true,hidF hcn,bs,Cg _ vI,bs]
  generalize hlst:Al (iand .u32 ((g.map mk).getD c 0) all)=lst
  have hll:lst.length≤32:=by rw[←hlst];exact Bn _
  have hmem:∀x∈lst,∃y:Nat,x=(y:Int)∧has all y=true∧adj g c y:=λx hx=>by
   rw[←hlst] at hx
   obtain⟨y,_,h2,rfl⟩:=mem_elems.1 hx
   rw[Ck vc va,Bool.and_eq_true] at h2
   exact⟨y,rfl,h2.2,(BD hg hcn).1 h2.1⟩
  have hwl:(w:Int)∈lst:=by
   rw[←hlst,AE vI,Ck vc va,hwW,Bool.and_true]
   exact(BD hg hcn).2 (hg.sym _ _ hwn hjw.2)
  have hfc:far.getD c 0=(j:Int):=by
   rcases hfar c hcn with⟨i,e,h⟩|⟨_,h⟩
   ·rw[e,dst_one hg h hd]
   ·exact absurd hd.1 (h _)
  have hfind:=Dy (step:=fun(x_515:Int)=>cond (decide (x_515<(lst.length:Int))) ((idx lst x_515).bind λe_543=>(idx far e_543).bind λe_549=>(idx far (c:Int)).bind λe_555=>cond (e_549==(IntKind.i64.wrap (e_555-1))) (some (.inr e_543)) (some (.inl (IntKind.i64.wrap (x_515+1))))) (some (.inr (c:Int))))
   lst.length (λi=>if far.getD (lst.getD i 0).toNat 0=(j:Int)-1 then some (lst.getD i 0) else none) (c:Int)
   (λi hi=>by
    obtain⟨y,ey,hy,_⟩:=hmem _ (List.getElem_mem hi)
    have hyn:=hlt y hy
    simp only[dlt hi,cond_true,AB hi,bs,ey,hidx hyn,hidx hcn,hfc,AA hi,Int.toNat_natCast,w64 (show-9223372036854775808≤(j:Int)-1 by omega) (by omega),wq i]
    by_cases hq:far.getD y 0=(j:Int)-1
    ·rw[if_pos hq,show (far.getD y 0==(j:Int)-1)=true by rw[beq_iff_eq];exact hq,cond_true]
    ·rw[if_neg hq,show (far.getD y 0==(j:Int)-1)=false by rw[beq_eq_false_iff_ne];exact hq,cond_false])
   (by simp only[Br,cond_false])
  obtain⟨i,hi,hiw⟩:=List.getElem_of_mem hwl
  have hfw:far.getD w 0=(j:Int)-1:=by
   rcases hfar w hwn with⟨i,e,h⟩|⟨_,h⟩
   ·rw[e,dst_one hg h hw];omega
   ·exact absurd hw.1 (h _)
  cases hfs:(List.range lst.length).findSome? (λi=>if far.getD (lst.getD i 0).toNat 0=(j:Int)-1 then some (lst.getD i 0) else none) with
  |none=>
   rw[List.findSome?_eq_none_iff] at hfs
   have:=hfs i (List.mem_range.2 hi)
   rw[AA hi,hiw,Int.toNat_natCast,if_pos hfw] at this
   cases this
  |some x=>
   rw[hfs] at hfind
   obtain⟨k,hk,hkx⟩:=List.exists_of_findSome?_eq_some hfs
   have hk:=List.mem_range.1 hk
   have hkq:far.getD (lst.getD k 0).toNat 0=(j:Int)-1∧lst.getD k 0=x:=by
    by_cases hq:far.getD (lst.getD k 0).toNat 0=(j:Int)-1
    ·rw[if_pos hq] at hkx
     exact⟨hq,Option.some.inj hkx⟩
    ·rw[if_neg hq] at hkx;cases hkx
   obtain⟨hkq,hkx⟩:=hkq
   rw[AA hk] at hkq hkx
   obtain⟨y,ey,hyW,hcy⟩:=hmem _ (List.getElem_mem hk)
   rw[hkx] at ey hkq
   subst ey
   rw[Int.toNat_natCast] at hkq
   have hyn:=hlt y hyW
   have hdy:Dst g all v (j-1) y:=by
    rcases hfar y hyn with⟨i',e,h⟩|⟨e,_⟩
    ·have:i'=j-1:=by omega
     exact this▸h
    ·omega
   have hbind:∀{β:Type} (kk:Int→Option β),(Aq (fun(x_515:Int)=>cond (decide (x_515<(lst.length:Int))) ((idx lst x_515).bind λe_543=>(idx far e_543).bind λe_549=>(idx far (c:Int)).bind λe_555=>cond (e_549==(IntKind.i64.wrap (e_555-1))) (some (.inr e_543)) (some (.inl (IntKind.i64.wrap (x_515+1))))) (some (.inr (c:Int)))) 0).bind kk=kk (y:Int):=λkk=>by rw[hfind];rfl
   refine⟨_,(hbind _).trans (by rw[Bm (by rw[Cb];simp;omega),bs]),?_⟩
   refine⟨⟨y,j-1,P++[y],by rw[iz_app],hdy,?_,by simp;omega⟩,by dsimp only;simp[Cb];omega⟩
   have g1:∀{i} (h:i<P.length),(P++[y])[i]'(by simp;omega)=P[i]:=λh=>List.getElem_append_left h
   refine⟨by simp,by rw[g1 hne];exact hP.fst,by simp,λx hx=> ?_,λi h=> ?_,by simp;omega⟩
   ·rcases List.mem_append.1 hx with h|h
    ·exact hP.inW x h
    ·simp at h;subst h;exact hyW
   ·simp at h
    by_cases hi':i+1<P.length
    ·rw[g1 (by omega),g1 hi'];exact hP.step i hi'
    ·obtain rfl:i=P.length-1:=by omega
     rw[g1 (by omega),hP.lst]
     have e:P.length-1+1=P.length:=by omega
     simp only[e]
     rw[List.getElem_append_right (Nat.le_refl _)]
     simpa using hcy
abbrev AvG (g:LL)(w z:Nat):Prop:=Av (adj g) (λx=>x<g.length) w z
theorem C3 {u v w:Nat}(hu:u<g.length)(hv:v<g.length)(hw:w<g.length):
  ∃r,D.u (g.map mk) (u:Int) (v:Int) (w:Int)=some r∧((r=[]∧¬(AvG g w u∧AvG g w v∧Cn (adj g) (AvG g w) v u))∨((AvG g w u∧AvG g w v∧Cn (adj g) (AvG g w) v u)∧∃P,r=iz P∧PW g (AvG g w) u v P)):=by
 have h16:=hg.n16
 have hlm:(g.map mk).length=g.length:=by simp
 have hF:=FOk.of hg
 have vw:=hF.vs w hw
 unfold D.u
 obtain⟨s,e1,hs1,hs2⟩:=Ee (g.map mk) (by omega)
 have hidF:idx (g.map mk) (w:Int)=some ((g.map mk).getD w 0):=by rw[AB (by omega),AA (by omega)]
 rw[e1,bs,hidF,bs,BM,bs]
 generalize hall:iandNot .u32 (iandNot .u32 s ((g.map mk).getD w 0)) (ishl .u32 1 (w:Int))=all
 have va:VS all:=by rw[←hall];exact VS.iandNot _ _
 have hA:∀z,has all z=true↔AvG g w z:=λz=>by
  rw[←hall,AU (VS.iandNot _ _) (VS.ishl _ _),AU hs1 vw,hs2,Bc (by omega),hlm,Bool.and_eq_true,Bool.and_eq_true,decide_eq_true_eq,Bool.not_eq_true',Bool.not_eq_true',decide_eq_false_iff_not]
  show (z<g.length∧nb (g.map mk) w z=false)∧z≠w↔z<g.length∧z≠w∧¬adj g w z
  rw[←BD hg hw,Bool.not_eq_true]
  exact⟨λh=>⟨h.1.1,h.2,h.1.2⟩,λh=>⟨⟨h.1,h.2.2⟩,h.2.1⟩⟩
 have hAe:(λz=>has all z=true)=AvG g w:=funext λz=>propext (hA z)
 rw[vhas_eq va (by omega),bs,vhas_eq va (by omega)]
 by_cases h1:has all u=true
 ·rw[h1,Bool.not_true,cond_false,bs,bs]
  by_cases h2:has all v=true
  ·rw[h2,Bool.not_true,cond_false]
   obtain⟨r,er,hr⟩:=pathOf_ok hg va (λz hz=>((hA z).1 hz).1) h1 h2
   rw[er,bs]
   rw[hAe] at hr
   refine⟨r,rfl,hr.imp (λh=>⟨h.1,λh'=>h.2 h'.2.2⟩) (fun⟨P,h3,h4⟩=>⟨⟨(hA u).1 h1,(hA v).1 h2,?_⟩,P,h3,h4⟩)⟩
   refine Cn.sym (CU hg) ((hA u).1 h1) ?_
   have key:∀i (h:i<P.length),Cn (adj g) (AvG g w) u P[i]:=by
    intro i
    induction i with
    |zero=>intro h;rw[h4.fst];exact Cn.refl
    |succ i ih=>intro h;exact(ih (by omega)).step (h4.step i h) (h4.inW _ (List.getElem_mem h))
   have:=key (P.length-1) (by have:=h4.ne;omega)
   rwa [h4.lst] at this
  ·rw[Bool.not_eq_true] at h2
   rw[h2,Bool.not_false,cond_true]
   exact⟨_,rfl,.inl ⟨rfl,λh=>by rw[(hA v).2 h.2.1] at h2;cases h2⟩⟩
 ·rw[Bool.not_eq_true] at h1
  rw[h1,Bool.not_false,cond_true,bs,cond_true]
  exact⟨_,rfl,.inl ⟨rfl,λh=>by rw[(hA u).2 h.1] at h1;cases h1⟩⟩
end
end Go.Sx

namespace Go.Sx
theorem Fj {x y:LI}(hx:x.length≤1000):∃b,D.v0 x y=some b:=by
 unfold D.v0
 by_cases hl:x.length=y.length
 ·have e:((x.length:Int) !=(y.length:Int))=false:=by simp[hl]
  rw[e,cond_false]
  have:∃b,(Aq (σ:=Int) (ρ:=(Unit) ⊕ (Bool)) (fun(x_71:Int)=>cond (decide (x_71<(x.length:Int))) ((idx x x_71).bind λe_106=>(idx y x_71).bind λe_112=>cond (e_106 !=e_112) ((idx x x_71).bind λe_121=>(idx y x_71).bind λe_127=>some (.inr (.inr (decide (e_121<e_127))))) (some (.inl (IntKind.i64.wrap (x_71+1))))) (some (.inr (.inl ())))) 0)=some b:=by
   have key:∀d i:Nat,i+d=x.length→∃b,(Aq (σ:=Int) (ρ:=(Unit) ⊕ (Bool)) (fun(x_71:Int)=>cond (decide (x_71<(x.length:Int))) ((idx x x_71).bind λe_106=>(idx y x_71).bind λe_112=>cond (e_106 !=e_112) ((idx x x_71).bind λe_121=>(idx y x_71).bind λe_127=>some (.inr (.inr (decide (e_121<e_127))))) (some (.inl (IntKind.i64.wrap (x_71+1))))) (some (.inr (.inl ())))) (i:Int))=some b:=by
    intro d
    induction d with
    |zero=>
     intro i hi
     obtain rfl:i=x.length:=by omega
     exact⟨.inl (),AQ (by simp only[Br,cond_false])⟩
    |succ d ih=>
     intro i hi
     have h1:i<x.length:=by omega
     have h2:i<y.length:=by omega
     by_cases he:x[i]=y[i]
     ·have e:(x[i] !=y[i])=false:=by simp[he]
      obtain⟨b,hb⟩:=ih (i+1) (by omega)
      exact⟨b,by rw[Bi (s':=((i+1:Nat):Int)) (by simp only[dlt h1,cond_true,AB h1,AB h2,bs,e,cond_false,wq i]),hb]⟩
     ·have e:(x[i] !=y[i])=true:=by simpa using he
      exact⟨_,AQ (by simp only[dlt h1,cond_true,AB h1,AB h2,bs,e];rfl)⟩
   exact key x.length 0 (by omega)
  obtain⟨b,hb⟩:=this
  rw[hb]
  cases b with
  |inl _=>exact⟨_,rfl⟩
  |inr z=>exact⟨_,rfl⟩
 ·have e:((x.length:Int) !=(y.length:Int))=true:=by simp;omega
  rw[e,cond_true]
  exact⟨_,rfl⟩
structure Pth (g:LL)(P:List Nat):Prop where
 ne:1≤P.length
 gd:Gd g 1000 P
 low:∀i (h:i<P.length) (h0:0<i),P[0]'(by omega)<P[i]
def Bst (g:LL)(b:LI):Prop:=b=[]∨∃c,b=iz c∧Hole (adj g) c∧∀x∈c,x<g.length
def NoEx (g:LL)(P:List Nat):Prop:=∀c,Hole (adj g) c→(∀x∈c,x<g.length)→(∀(h:0<c.length) x,x∈c→c[0]≤x)→¬P<+:c
section
variable {g : LL} (hg : GOk g)
include hg
theorem CI {c:List Nat}(hnd:c.Nodup)(hlt:∀x∈c,x<g.length):c.length≤g.length:=by
 have:=Bx (l:=iz c) (m:=(List.range g.length).map Int.ofNat) (by
  unfold iz
  exact List.pairwise_map.2 (hnd.imp (λh h'=>h (Int.ofNat.inj h')))) (λx hx=>by
  unfold iz at hx
  obtain⟨v,hv,rfl⟩:=List.mem_map.1 hx
  exact List.mem_map.2 ⟨v,List.mem_range.2 (hlt v hv),rfl⟩)
 rw[Cb] at this
 simpa using this
theorem l8Near_ok {P:List Nat}(hP:∀x∈P,x<g.length)(hl:P.length≤16)(v:Int):D.A0 g (iz P) v=some (((P.countP λu=>decide (v∈row g u)):Nat):Int):=by
 unfold D.A0
 have:=(loop_nat (step:=fun(s_40:Int×Int)=>match s_40 with|(x_43,x_44)=>cond (decide (x_44<((iz P).length:Int))) ((idx (iz P) x_44).bind λe_65=>(D.q g e_65 v).bind λy_71=>(D.K y_71).bind λy_74=>some (.inl ((IntKind.i64.wrap (x_43+y_74)),(IntKind.i64.wrap (x_44+1))))) (some (.inr x_43)))
  P.length (fun(a:Int) (i:Int)=>(a,i)) (λa i=>a+(if v∈row g (P.getD i 0) then 1 else 0)) (λa=>a) (λi a=>a=(((P.take i).countP λu=>decide (v∈row g u)):Nat)) 0 (by simp)
  (λs i hi hs=>by
   subst hs
   have hpl:P[i]<g.length:=hP _ (List.getElem_mem hi)
   have hil:i<(iz P).length:=by rw[Cb];exact hi
   have hcl:((P.take i).countP λu=>decide (v∈row g u))≤i:=Nat.le_trans List.countP_le_length (by simp;omega)
   have hge:P.getD i 0=P[i]:=AA hi 0
   refine⟨?_,?_⟩
   ·simp only[dlt hil,cond_true,iz_idx hi,bs,Dx g hg hpl,hge,wq i]
    by_cases hv:v∈row g P[i]
    ·rw[decide_eq_true hv,if_pos hv]
     show (D.K true).bind _=_
     have:D.K true=some 1:=by decide+kernel
     rw[this,bs,w64 (by omega) (by omega)]
    ·rw[decide_eq_false hv,if_neg hv]
     show (D.K false).bind _=_
     have:D.K false=some 0:=by decide+kernel
     rw[this,bs,w64 (by omega) (by omega)]
   ·rw[List.take_succ_eq_append_getElem hi,List.countP_append,hge]
    by_cases hv:v∈row g P[i]
    ·simp[hv]
    ·simp[hv])
  (λs hs=>by simp only[Cb,Br,cond_false]))
 rw[this.1,bs,this.2,List.take_length]
theorem pth_more {P:List Nat}(hP:Pth g P){v:Nat}(hv:v<g.length)(hlow:P[0]'hP.ne<v)(hvP:v∉P)(hadj:adj g (P[P.length-1]'(by have:=hP.ne;omega)) v)
  (hno:∀i (h:i+1<P.length),¬adj g P[i] v):Pth g (P++[v]):=by
 have hne:=hP.ne
 have hlen:=CI hg hP.gd.nd hP.gd.lt
 have h16:=hg.n16
 have g1:∀{i} (h:i<P.length),(P++[v])[i]'(by simp;omega)=P[i]:=λh=>List.getElem_append_left h
 have g2:(P++[v])[P.length]'(by simp)=v:=by simp
 refine⟨by simp,⟨?_,λx hx=> ?_,λi h=> ?_,λi j hij hj=> ?_⟩,λi h h0=> ?_⟩
 ·rw[List.nodup_append]
  exact⟨hP.gd.nd,by simp,λa ha b hb e=>hvP (by simp at hb;rw[←hb,←e];exact ha)⟩
 ·rcases List.mem_append.1 hx with h|h
  ·exact hP.gd.lt x h
  ·simp at h;omega
 ·simp at h
  by_cases hi:i+1<P.length
  ·rw[g1 (by omega),g1 hi];exact hP.gd.step i hi
  ·obtain rfl:i=P.length-1:=by omega
   rw[g1 (by omega)]
   have:(P++[v])[P.length-1+1]'(by simp;omega)=v:=by
    have e:P.length-1+1=P.length:=by omega
    simp only[e];exact g2
   rw[this];exact hadj
 ·simp at hj
  by_cases hjl:j<P.length
  ·rw[g1 (by omega),g1 hjl];exact hP.gd.far i j hij hjl
  ·obtain rfl:j=P.length:=by omega
   rw[g1 (by omega),g2]
   exact⟨λh=>absurd h (hno i (by omega)),λh=>by omega⟩
 ·simp at h
  rw[g1 hne]
  by_cases hi:i<P.length
  ·rw[g1 hi];exact hP.low i hi h0
  ·obtain rfl:i=P.length:=by omega
   rw[g2];exact hlow
theorem hole_more {P:List Nat}(hP:Pth g P)(h3:3≤P.length){v:Nat}(hv:v<g.length)(hvP:v∉P)(hadj:adj g (P[P.length-1]'(by omega)) v)(hadj0:adj g (P[0]'(by omega)) v)
  (hno:∀i (h:i+1<P.length),0<i→¬adj g P[i] v):Hole (adj g) (P++[v])∧∀x∈P++[v],x<g.length:=by
 have hlen:=CI hg hP.gd.nd hP.gd.lt
 have h16:=hg.n16
 have g1:∀{i} (h:i<P.length),(P++[v])[i]'(by simp;omega)=P[i]:=λh=>List.getElem_append_left h
 have g2:(P++[v])[P.length]'(by simp)=v:=by simp
 have hlt:∀x∈P++[v],x<g.length:=λx hx=>by
  rcases List.mem_append.1 hx with h|h
  ·exact hP.gd.lt x h
  ·simp at h;omega
 refine⟨⟨by simp;omega,?_,λi h=> ?_,?_,λi j hij hj hx=> ?_⟩,hlt⟩
 ·rw[List.nodup_append]
  exact⟨hP.gd.nd,by simp,λa ha b hb e=>hvP (by simp at hb;rw[←hb,←e];exact ha)⟩
 ·simp at h
  by_cases hi:i+1<P.length
  ·rw[g1 (by omega),g1 hi];exact hP.gd.step i hi
  ·obtain rfl:i=P.length-1:=by omega
   rw[g1 (by omega)]
   have:(P++[v])[P.length-1+1]'(by simp;omega)=v:=by
    have e:P.length-1+1=P.length:=by omega
    simp only[e];exact g2
   rw[this];exact hadj
 ·have e:(P++[v])[(P++[v]).length-1]'(by simp)=v:=by simp
  rw[e,g1 (by omega)]
  exact hg.sym _ _ (hP.gd.lt _ (List.getElem_mem _)) hadj0
 ·simp at hj
  by_cases hjl:j<P.length
  ·rw[g1 (by omega),g1 hjl]
   intro h
   have:=(hP.gd.far i j hij hjl).1 h
   omega
  ·obtain rfl:j=P.length:=by omega
   rw[g1 (by omega),g2]
   refine hno i (by omega) ?_
   apply Classical.byContradiction
   intro h0
   exact hx ⟨by omega,by simp⟩
theorem Bst.len {b:LI}(h:Bst g b):b.length≤16:=by
 rcases h with rfl|⟨c,rfl,h1,h2⟩
 ·simp
 ·rw[Cb]
  have:=CI hg h1.nd h2
  have:=hg.n16
  omega
end
end Go.Sx

namespace Go.Sx
theorem Dh {α:Type}(p:α→Bool){P:List α}{k:Nat}(hk:k<P.length):P.countP p=(P.take k).countP p+((if p P[k] then 1 else 0)+(P.drop (k+1)).countP p):=by
 have h:P=P.take k++P[k]::P.drop (k+1):=by rw[←List.drop_eq_getElem_cons hk,List.take_append_drop]
 have h':P.countP p=(P.take k++P[k]::P.drop (k+1)).countP p:=congrArg (List.countP p) h
 rw[h',List.countP_append,List.countP_cons]
 congr 1
 exact Nat.add_comm _ _
theorem Et {α:Type}{p:α→Bool}{P:List α}(h:∀i (hi:i<P.length),p P[i]=false):P.countP p=0:=by
 rw[List.countP_eq_zero]
 intro a ha
 obtain⟨i,hi,rfl⟩:=List.getElem_of_mem ha
 rw[h i hi];decide
theorem EJ {α:Type}{p:α→Bool}{P:List α}{k:Nat}(hk:k<P.length)(h:∀i (hi:i<P.length),p P[i]=true↔i=k):P.countP p=1:=by
 rw[Dh p hk,(h k hk).2 rfl,if_pos rfl,Et,Et]
 ·intro i hi
  simp at hi
  rw[List.getElem_drop]
  exact Bool.eq_false_iff.2 (λe=>by have:=(h (k+1+i) (by omega)).1 e;omega)
 ·intro i hi
  simp at hi
  rw[List.getElem_take]
  exact Bool.eq_false_iff.2 (λe=>by have:=(h i (by omega)).1 e;omega)
theorem countP_pos_of {α:Type}{p:α→Bool}{P:List α}{k:Nat}(hk:k<P.length)(h:p P[k]=true):1≤P.countP p:=List.countP_pos_iff.2 ⟨_,List.getElem_mem hk,h⟩
theorem EM {α:Type}{p:α→Bool}{P:List α}{i k:Nat}(hik:i<k)(hk:k<P.length)(hi:p (P[i]'(by omega))=true)(h:p P[k]=true):2≤P.countP p:=by
 rw[Dh p hk,h,if_pos rfl]
 have:1≤(P.take k).countP p:=countP_pos_of (k:=i) (by simp;omega) (by rw[List.getElem_take];exact hi)
 omega
theorem Fl {α:Type}{p:α→Bool}{P:List α}{j i k:Nat}(hji:j<i)(hik:i<k)(hk:k<P.length)(hj:p (P[j]'(by omega))=true)(hi:p (P[i]'(by omega))=true)(h:p P[k]=true):3≤P.countP p:=by
 rw[Dh p hk,h,if_pos rfl]
 have:2≤(P.take k).countP p:=EM (i:=j) (k:=i) hji (by simp;omega) (by rw[List.getElem_take];exact hj) (by rw[List.getElem_take];exact hi)
 omega
section
variable {g : LL} (hg : GOk g)
include hg
theorem ext_next {P:List Nat}(hP:Pth g P){v:Nat}{c:List Nat}(hH:Hole (adj g) c)(hlt:∀x∈c,x<g.length)(hlow:∀(h:0<c.length) x,x∈c→c[0]≤x)(hpre:P++[v]<+:c):
  v∉P∧P[0]'hP.ne<v∧((P.countP λu=>decide ((v:Int)∈row g u))=1∨((P.countP λu=>decide ((v:Int)∈row g u))=2∧3≤P.length∧adj g (P[0]'hP.ne) v)):=by
 obtain⟨t,rfl⟩:=hpre
 have hne:=hP.ne
 have h4:=hH.len
 have e1:∀i (h:i<P.length),(P++[v]++t)[i]'(by simp;omega)=P[i]:=λi h=>by rw[List.getElem_append_left (by simp;omega),List.getElem_append_left h]
 have e2:(P++[v]++t)[P.length]'(by simp)=v:=by rw[List.getElem_append_left (by simp)];simp
 have hvP:v∉P:=by
  have:=hH.nd
  rw[List.append_assoc,List.nodup_append] at this
  exact λh=>this.2.2 v h v (by simp) rfl
 have hlo:P[0]'hne<v:=by
  have h0:=hlow (by simp;omega) v (by simp)
  rw[e1 0 hne] at h0
  have:P[0]'hne≠v:=λe=>hvP (e▸List.getElem_mem _)
  have h0':P[0]'hne≤v:=h0
  omega
 have hadj:∀i (h:i<P.length),adj g P[i] v↔(P.length=i+1∨(i=0∧P.length=(P++[v]++t).length-1)):=λi h=>by
  have:=hole_adj hg hH hlt (i:=i) (j:=P.length) h (by simp)
  rw[e1 i h,e2] at this
  exact this
 refine⟨hvP,hlo,?_⟩
 by_cases ht:t.length=0
 ·have hl:(P++[v]++t).length=P.length+1:=by rw[List.length_append,List.length_append,ht];rfl
  rw[hl] at h4 hadj
  right
  have h0:adj g (P[0]'hne) v:=(hadj 0 hne).2 (.inr ⟨rfl,by omega⟩)
  refine⟨?_,by omega,h0⟩
  have h0d:decide ((v:Int)∈row g (P[0]'hne))=true:=decide_eq_true h0
  rw[Dh _ hne,if_pos h0d,List.take_zero,List.countP_nil,EJ (k:=P.length-2) (by simp;omega)]
  intro i hi
  simp at hi
  rw[List.getElem_drop,decide_eq_true_eq]
  show adj g _ v↔_
  rw[hadj (0+1+i) (by omega)]
  omega
 ·left
  have hl:(P++[v]++t).length=P.length+1+t.length:=by simp;omega
  rw[hl] at hadj
  refine EJ (k:=P.length-1) (by omega) (λi hi=> ?_)
  rw[decide_eq_true_eq]
  show adj g _ v↔_
  rw[hadj i hi]
  omega
theorem not_self {P:List Nat}(hP:Pth g P):¬Hole (adj g) P:=λhH=>by
 have h4:=hH.len
 have h16:=CI hg hP.gd.nd hP.gd.lt
 have:=hg.n16
 have hc:=hg.sym _ _ (hP.gd.lt _ (List.getElem_mem _)) hH.close
 have:=(hP.gd.far 0 (P.length-1) (by omega) (by omega)).1 hc
 omega
theorem l8_ok :∀(d fuel:Nat) (P:List Nat) (best:LI),g.length-P.length≤d→d<fuel→Pth g P→Bst g best→
  ∃r,D.F fuel g (iz P) best=some r∧(Bst g r∧(best≠[]→r≠[])∧(r=[]→NoEx g P)):=by
 intro d
 induction d with
 |zero=>
  intro fuel P best hd hf hP hB
  obtain⟨fuel,rfl⟩:∃m,fuel=m+1:=⟨fuel-1,by omega⟩
  exact l8_step fuel P best hP hB (λv b h _ _=>by
   have:=CI hg h.gd.nd h.gd.lt
   simp at this;omega)
 |succ d ih=>
  intro fuel P best hd hf hP hB
  obtain⟨fuel,rfl⟩:∃m,fuel=m+1:=⟨fuel-1,by omega⟩
  exact l8_step fuel P best hP hB (λv b h hb _=>ih fuel (P++[v]) b (by simp;omega) (by omega) h hb)
where
 l8_step (fuel:Nat) (P:List Nat) (best:LI) (hP:Pth g P) (hB:Bst g best)
   (ih:∀v b,Pth g (P++[v])→Bst g b→True→∃r,D.F fuel g (iz (P++[v])) b=some r∧(Bst g r∧(b≠[]→r≠[])∧(r=[]→NoEx g (P++[v])))):
   ∃r,D.F (fuel+1) g (iz P) best=some r∧(Bst g r∧(best≠[]→r≠[])∧(r=[]→NoEx g P)):=by
  have hne:=hP.ne
  have hlen:=CI hg hP.gd.nd hP.gd.lt
  have h16:=hg.n16
  unfold D.F
  cases hc:(decide ((0:Int)<(best.length:Int)))&&(decide ((best.length:Int)≤((iz P).length:Int)))
  case true=>
   rw[cond_true]
   rw[Bool.and_eq_true,decide_eq_true_eq] at hc
   have hb:best≠[]:=λe=>by rw[e] at hc;simp at hc
   exact⟨best,rfl,hB,id,λe=>absurd e hb⟩
  rw[cond_false,Cb,w64 (by omega) (by omega),show ((P.length:Int)-1)=((P.length-1:Nat):Int) by omega,iz_idx (by omega),bs]
  generalize hlast:P[P.length-1]'(by omega)=last
  have hll:last<g.length:=by rw[←hlast];exact hP.gd.lt _ (List.getElem_mem _)
  have hrl:=hg.row_len hll
  refine A3 (λs=>∃i:Nat,s.2=(i:Int)∧i≤(row g last).length∧Bst g s.1∧(best≠[]→s.1≠[])∧(s.1=[]→∀k (h:k<i) (hk:k<(row g last).length),NoEx g (P++[((row g last)[k]).toNat]))) (λs=>(row g last).length-s.2.toNat)
   (λr=>Bst g r∧(best≠[]→r≠[])∧(r=[]→NoEx g P)) ?_ ⟨0,rfl,Nat.zero_le _,hB,id,λ_ k h=>absurd h (Nat.not_lt_zero k)⟩ (λr hr=>⟨r,rfl,hr⟩)
  rintro⟨l,_⟩ ⟨i,rfl,hi,hl,hbl,hno⟩
  dsimp only at hl hbl hno ⊢
  rw[B6 hll,bs]
  by_cases hil:i<(row g last).length
  case neg=>
   obtain rfl:i=(row g last).length:=by omega
   rw[Br,cond_false]
   refine⟨_,rfl,hl,hbl,λe c hH hlt hlow hpre=> ?_⟩
   have hself:P.length<c.length:=by
    have h1:=hpre.length_le
    apply Classical.byContradiction
    intro h
    have:P=c:=hpre.eq_of_length (by omega)
    exact not_self hg hP (this▸hH)
   obtain⟨t,rfl⟩:=hpre
   cases t with
   |nil=>simp at hself
   |cons v t=>
    have hst:=hH.step (P.length-1) (by simp;omega)
    have e1:(P++v::t)[P.length-1]'(by simp;omega)=last:=by rw[List.getElem_append_left (by omega),hlast]
    have e2:(P++v::t)[P.length-1+1]'(by simp;omega)=v:=by
     have e:P.length-1+1=P.length:=by omega
     simp only[e]
     rw[List.getElem_append_right (Nat.le_refl _)]
     simp
    rw[e1,e2] at hst
    obtain⟨k,hk,hkv⟩:=List.getElem_of_mem hst
    have:=hno e k hk hk (P++v::t) hH hlt hlow
    rw[hkv,Int.toNat_natCast] at this
    exact this ⟨t,by simp⟩
  rw[dlt hil,cond_true,bs,AB hil,bs]
  obtain⟨v,ev,hv,hadj⟩:=hg.mem hll (List.getElem_mem hil)
  have hnext:∀l',Bst g l'→(l≠[]→l'≠[])→(l'=[]→NoEx g (P++[v]))→
    Stp (λs:LI×Int=>∃i:Nat,s.2=(i:Int)∧i≤(row g last).length∧Bst g s.1∧(best≠[]→s.1≠[])∧(s.1=[]→∀k (h:k<i) (hk:k<(row g last).length),NoEx g (P++[((row g last)[k]).toNat]))) (λs=>(row g last).length-s.2.toNat)
     (λr:LI=>Bst g r∧(best≠[]→r≠[])∧(r=[]→NoEx g P)) (l,(i:Int)) (.inl (l',((i+1:Nat):Int))):=λl' h1 h2 h3=>by
   refine⟨⟨i+1,rfl,hil,h1,λh=>h2 (hbl h),λe k hk hkl=> ?_⟩,by dsimp only;omega⟩
   by_cases hki:k=i
   ·subst hki
    rw[ev,Int.toNat_natCast]
    exact h3 e
   ·exact hno (Classical.byContradiction λh=>h2 h e) k (by omega) hkl
  rw[ev,l8Near_ok hg hP.gd.lt (by omega),bs,show idx (iz P) (0:Int)=some ((P[0]'hne:Nat):Int) from iz_idx (i:=0) hne,bs,wi (by omega)]
  have hsh:Sh (iz P):=by unfold Sh;rw[Cb];omega
  have hskip:∀b:Bool,(b=true↔v≤P[0]'hne∨v∈P)→(cond (decide ((v:Int)≤((P[0]'hne:Nat):Int))) (some true) ((D.k (iz P) (v:Int)).bind λy_803=>some y_803))=some b:=λb hb=>by
   rw[DS _ _ hsh,bs]
   by_cases h1:v≤P[0]'hne
   ·rw[decide_eq_true (by omega),cond_true,hb.2 (.inl h1)]
   ·rw[decide_eq_false (by omega),cond_false]
    congr 1
    rw[Bool.eq_iff_iff,hb,decide_eq_true_eq,iz_mem]
    exact⟨.inr,λh=>h.elim (λh=>absurd h h1) id⟩
  by_cases hsk:v≤P[0]'hne∨v∈P
  ·rw[hskip true ⟨λ_=>hsk,λ_=>rfl⟩,bs,cond_true]
   refine⟨_,rfl,hnext l hl id (λ_ c hH hlt hlow hpre=> ?_)⟩
   obtain⟨n1,n2,_⟩:=ext_next hg hP hH hlt hlow hpre
   rcases hsk with h|h
   ·omega
   ·exact n1 h
  rw[hskip false ⟨λh=>(by cases h),λh=>absurd h hsk⟩,bs,cond_false]
  have hvP:v∉P:=λh=>hsk (.inr h)
  have hlo:P[0]'hne<v:=by
   have:¬v≤P[0]'hne:=λh=>hsk (.inl h)
   omega
  have hadj':adj g (P[P.length-1]'(by omega)) v:=by rw[hlast];exact hadj
  have hpl:(λu=>decide ((v:Int)∈row g u)) (P[P.length-1]'(by omega))=true:=decide_eq_true hadj'
  generalize hcnt:(P.countP λu=>decide ((v:Int)∈row g u))=cnt
  have hc16:cnt≤P.length:=by rw[←hcnt];exact List.countP_le_length
  have hcopy:D.h (iz P)=some (iz P):=D8 _ hsh
  have happ:AP (iz P) [(v:Int)]=some (iz (P++[v])):=by rw[Bm (by rw[Cb];simp;omega),iz_app]
  by_cases h1:cnt=1
  ·have e1:(((cnt:Nat):Int)==1)=true:=by rw[beq_iff_eq];omega
   have hP':=pth_more hg hP hv hlo hvP hadj' (λk hk ha=>by
    have:=EM (p:=λu=>decide ((v:Int)∈row g u)) (P:=P) (i:=k) (k:=P.length-1) (by omega) (by omega) (decide_eq_true ha) hpl
    omega)
   obtain⟨r,er,h2,h3,h4⟩:=ih v l hP' hl trivial
   rw[e1,cond_true,hcopy,bs,happ,bs,er,bs,bs]
   exact⟨_,rfl,hnext r h2 h3 h4⟩
  ·have e1:(((cnt:Nat):Int)==1)=false:=by rw[beq_eq_false_iff_ne];omega
   rw[e1,cond_false]
   have hP0:=hP.gd.lt _ (List.getElem_mem hne)
   have hb:∀b:Bool,(b=true↔cnt=2∧3≤P.length∧adj g (P[0]'hne) v)→(cond ((((cnt:Nat):Int)==2)&&(decide ((3:Int)≤(P.length:Int)))) ((some ((P[0]'hne:Nat):Int)).bind λe_922=>(D.q g e_922 (v:Int)).bind λy_928=>some y_928) (some false))=some b:=λb hb=>by
    rw[bs,Dx g hg hP0,bs]
    by_cases h2:cnt=2∧3≤P.length
    ·have e2:((((cnt:Nat):Int)==2)&&(decide ((3:Int)≤(P.length:Int))))=true:=by
      rw[Bool.and_eq_true,beq_iff_eq,decide_eq_true_eq];omega
     rw[e2,cond_true]
     congr 1
     rw[Bool.eq_iff_iff,hb,decide_eq_true_eq]
     exact⟨λh=>⟨h2.1,h2.2,h⟩,λh=>h.2.2⟩
    ·have e2:((((cnt:Nat):Int)==2)&&(decide ((3:Int)≤(P.length:Int))))=false:=by
      rw[Bool.eq_false_iff]
      intro h
      rw[Bool.and_eq_true,beq_iff_eq,decide_eq_true_eq] at h
      exact h2 ⟨by omega,by omega⟩
     rw[e2,cond_false]
     congr 1
     rw[Bool.eq_iff_iff,hb]
     exact⟨λh=>(by cases h),λh=>absurd ⟨h.1,h.2.1⟩ h2⟩
   by_cases h2:cnt=2∧3≤P.length∧adj g (P[0]'hne) v
   ·rw[hb true ⟨λ_=>h2,λ_=>rfl⟩,bs,cond_true,hcopy,bs,happ,bs]
    have hHo:=hole_more hg hP h2.2.1 hv hvP hadj' h2.2.2 (λk hk h0 ha=>by
     have:=Fl (p:=λu=>decide ((v:Int)∈row g u)) (P:=P) (j:=0) (i:=k) (k:=P.length-1) h0 (by omega) (by omega) (decide_eq_true h2.2.2) (decide_eq_true ha) hpl
     omega)
    have hne':iz (P++[v])≠[]:=by rw[iz_app];simp
    have hB':Bst g (iz (P++[v])):= .inr ⟨_,rfl,hHo.1,hHo.2⟩
    cases hz:((l.length:Int)==0)
    ·rw[cond_false]
     obtain⟨b,hb⟩:=Fj (x:=iz (P++[v])) (y:=l) (by rw[Cb];simp;omega)
     rw[hb,bs,bs]
     have hln:l≠[]:=λe=>by rw[e] at hz;simp at hz
     cases b
     ·rw[cond_false]
      exact⟨_,rfl,hnext l hl id (λe=>absurd e hln)⟩
     ·rw[cond_true]
      exact⟨_,rfl,hnext _ hB' (λ_=>hne') (λe=>absurd e hne')⟩
    ·rw[cond_true,bs,cond_true]
     exact⟨_,rfl,hnext _ hB' (λ_=>hne') (λe=>absurd e hne')⟩
   ·rw[hb false ⟨λh=>(by cases h),λh=>absurd h h2⟩,bs,cond_false]
    refine⟨_,rfl,hnext l hl id (λ_ c hH hlt hlow hpre=> ?_)⟩
    obtain⟨_,_,n3⟩:=ext_next hg hP hH hlt hlow hpre
    rw[hcnt] at n3
    rcases n3 with h|h
    ·exact h1 h
    ·exact h2 h
theorem spec_loop :∃r,D.k0 g=some r∧(r.2=true↔∃c,Hole (adj g) c∧∀x∈c,x<g.length):=by
 have h16:=hg.n16
 unfold D.k0
 have hgb:=(gB_iff g).2 hg
 refine A3 (λs=>∃i:Nat,s.2=(i:Int)∧i≤g.length∧Bst g s.1∧(s.1=[]→∀k,k<i→NoEx g [k])) (λs=>g.length-s.2.toNat)
  (λr:LI=>Bst g r∧(r=[]→∀k,k<g.length→NoEx g [k])) ?_ ⟨0,rfl,Nat.zero_le _,.inl rfl,λ_ k h=>absurd h (Nat.not_lt_zero k)⟩ ?_
 ·rintro⟨l,_⟩ ⟨i,rfl,hi,hB,hno⟩
  dsimp only at hB hno ⊢
  have hsz:D.d g=some (g.length:Int):=rfl
  rw[hsz,bs]
  by_cases hil:i<g.length
  ·rw[dlt hil,cond_true,Cp g hg.sh2,hgb,bs,bs,cond_true]
   have hP:Pth g [i]:=by
    refine⟨by simp,⟨by simp,λx hx=>by simp at hx;omega,λi h=>by simp at h,λi j hij hj=>by simp at hj;omega⟩,λj h h0=>by simp at h;omega⟩
   obtain⟨r,er,h1,h2,h3⟩:=l8_ok hg g.length Bq [i] l (by omega) (by have:=Ef;omega) hP hB
   have er':D.i g ([(i:Int)]:LI) l=some r:=er
   rw[er',bs,wi (by omega)]
   refine⟨_,rfl,⟨i+1,rfl,hil,h1,λe k hk=> ?_⟩,by dsimp only;omega⟩
   by_cases hki:k=i
   ·subst hki;exact h3 e
   ·exact hno (Classical.byContradiction λh=>h2 h e) k (by omega)
  ·obtain rfl:i=g.length:=by omega
   rw[Br,cond_false,bs,cond_false]
   exact⟨_,rfl,hB,hno⟩
 ·rintro r ⟨hB,hno⟩
  refine⟨_,rfl,?_⟩
  dsimp only
  rw[decide_eq_true_eq]
  constructor
  ·intro h
   rcases hB with rfl|⟨c,rfl,h1,h2⟩
   ·simp at h
   ·exact⟨c,h1,h2⟩
  ·rintro⟨c,hH,hlt⟩
   apply Classical.byContradiction
   intro h
   have hr:r=[]:=List.eq_nil_of_length_eq_zero (by omega)
   obtain⟨c',hH',hlt',hlow⟩:=hole_turned hg hH hlt
   cases c' with
   |nil=>have:=hH'.len;simp at this
   |cons k t=>exact hno hr k (hlt' k (by simp)) (k::t) hH' hlt' hlow ⟨t,rfl⟩
where
 hole_turned {g:LL} (hg:GOk g) {c:List Nat} (hH:Hole (adj g) c) (hlt:∀x∈c,x<g.length):∃c',Hole (adj g) c'∧(∀x∈c',x<g.length)∧∀(h:0<c'.length) x,x∈c'→c'[0]≤x:=by
  have h4:=hH.len
  obtain⟨m,hm,hle⟩:∃m:Nat,∃hm:m<c.length,∀j (hj:j<c.length),c[m]≤c[j]:=by
   have key:∀n,1≤n→n≤c.length→∃m:Nat,∃hm:m<c.length,m<n∧∀j (hj:j<c.length),j<n→c[m]≤c[j]:=by
    intro n
    induction n with
    |zero=>intro h;omega
    |succ n ih=>
     intro _ hn
     by_cases h0:n=0
     ·subst h0
      refine⟨0,by omega,by omega,λj hj hj'=> ?_⟩
      have hj0:j=0:=by omega
      subst hj0
      exact Nat.le_refl _
     ·obtain⟨m,hm,hmn,hall⟩:=ih (by omega) (by omega)
      by_cases hcm:c[m]≤c[n]
      ·refine⟨m,hm,by omega,λj hj hj'=> ?_⟩
       by_cases hjn:j=n
       ·subst hjn;exact hcm
       ·exact hall j hj (by omega)
      ·refine⟨n,by omega,by omega,λj hj hj'=> ?_⟩
       by_cases hjn:j=n
       ·subst hjn;exact Nat.le_refl _
       ·have:=hall j hj (by omega);omega
   obtain⟨m,hm,_,h⟩:=key c.length (by omega) (Nat.le_refl _)
   exact⟨m,hm,λj hj=>h j hj hj⟩
  have hlen:(c.drop m++c.take m).length=c.length:=by simp;omega
  have hget:∀i (hi:i<c.length),∃j,∃hj:j<c.length,(c.drop m++c.take m)[i]'(by omega)=c[j]∧((i+m<c.length∧j=i+m)∨(c.length≤i+m∧j+c.length=i+m)):=λi hi=>by
   by_cases h:i+m<c.length
   ·exact⟨i+m,h,by rw[List.getElem_append_left (by simp;omega),List.getElem_drop];congr 1;omega,.inl ⟨h,rfl⟩⟩
   ·refine⟨i+m-c.length,by omega,?_,.inr ⟨by omega,by omega⟩⟩
    rw[List.getElem_append_right (by simp;omega),List.getElem_take]
    congr 1;simp;omega
  have hadj:=fun{i j:Nat} (hij:i<j) (hj:j<c.length)=>hole_adj hg hH hlt hij hj
  have hsymc:∀{i j:Nat} (hi:i<c.length) (hj:j<c.length),adj g c[i] c[j]↔adj g c[j] c[i]:=λhi hj=>⟨hg.sym _ _ (hlt _ (List.getElem_mem hi)),hg.sym _ _ (hlt _ (List.getElem_mem hj))⟩
  refine⟨c.drop m++c.take m,⟨by omega,?_,λi h=> ?_,?_,λi j hij hj hx=> ?_⟩,λx hx=> ?_,λh x hx=> ?_⟩
  ·have:(c.take m++c.drop m).Nodup:=by rw[List.take_append_drop];exact hH.nd
   exact(List.perm_append_comm (l₁:=c.drop m) (l₂:=c.take m)).nodup_iff.2 this
  ·obtain⟨p,hp,ep,fp⟩:=hget i (by omega)
   obtain⟨q,hq,eq,fq⟩:=hget (i+1) (by omega)
   rw[ep,eq]
   by_cases hpq:p<q
   ·exact(hadj hpq hq).2 (by omega)
   ·exact(hsymc hq hp).1 ((hadj (i:=q) (j:=p) (by omega) hp).2 (by omega))
  ·obtain⟨p,hp,ep,fp⟩:=hget (c.length-1) (by omega)
   obtain⟨q,hq,eq,fq⟩:=hget 0 (by omega)
   have e:(c.drop m++c.take m)[(c.drop m++c.take m).length-1]'(by omega)=c[p]:=by rw[←ep];congr 1;omega
   rw[e,eq]
   by_cases hpq:p<q
   ·exact(hadj hpq hq).2 (by omega)
   ·exact(hsymc hq hp).1 ((hadj (i:=q) (j:=p) (by omega) hp).2 (by omega))
  ·obtain⟨p,hp,ep,fp⟩:=hget i (by omega)
   obtain⟨q,hq,eq,fq⟩:=hget j (by omega)
   rw[ep,eq]
   intro ha
   by_cases hpq:p<q
   ·have:=(hadj hpq hq).1 ha
    omega
   ·have:=(hadj (i:=q) (j:=p) (by omega) hp).1 ((hsymc hq hp).2 ha)
    omega
  ·rcases List.mem_append.1 hx with h|h
   ·exact hlt x (List.mem_of_mem_drop h)
   ·exact hlt x (List.mem_of_mem_take h)
  ·obtain⟨q,hq,eq,fq⟩:=hget 0 (by omega)
   rw[eq]
   have hqm:q=m:=by omega
   subst hqm
   have hxc:x∈c:=by
    rcases List.mem_append.1 hx with h|h
    ·exact List.mem_of_mem_drop h
    ·exact List.mem_of_mem_take h
   obtain⟨j,hj,rfl⟩:=List.getElem_of_mem hxc
   exact hle j hj
end
end Go.Sx

namespace Go.Sx
section
variable {ad : Nat → Nat → Prop} (hs : ∀ a b, ad a b → ad b a) (hi : ∀ a, ¬ ad a a)
def Pw (ad:Nat→Nat→Prop)(X:Nat→Prop)(v w z:Nat):Prop:=Cn ad (Av ad X v) w z
def Sw (ad:Nat→Nat→Prop)(X:Nat→Prop)(v w t:Nat):Prop:=X t∧ad v t∧∃h,Pw ad X v w h∧ad h t
include hs hi
theorem sw_clq {X:Nat→Prop}(nh:NoHole ad X){v w:Nat}(hv:X v)(hw:Av ad X v w):∀x y,Sw ad X v w x→Sw ad X v w y→x≠y→ad x y:=by
 rintro x y ⟨x1,x2,a,x3,x4⟩ ⟨y1,y2,b,y3,y4⟩ hxy
 apply Classical.byContradiction
 intro hno
 have hH:∀z,Pw ad X v w z→Av ad X v z:=λz h=>Cn.mem h hw
 obtain⟨c,hc,hcX⟩:=DN hs hi (H:=Pw ad X v w) x2 y2 hxy hno (λz hz=>(hH z hz).2) (hs _ _ x4) x3 (CC hs hw x3 y3 (λz h=>h)) y4
 refine nh c hc (λz hz=> ?_)
 rcases hcX z hz with e|e|e|e
 ·exact e▸hv
 ·exact e▸x1
 ·exact e▸y1
 ·exact(hH z e).1
theorem even_cut {X:Nat→Prop}(nh:NoHole ad X)(fin:∃l:List Nat,∀x,X x→x∈l)(hne:∃v w,X v∧Av ad X v w):
  ∃T:Nat→Prop,(∀t,T t→X t)∧(∀s t,T s→T t→s≠t→ad s t)∧(∃v w,(X v∧¬T v)∧(X w∧¬T w)∧¬Cn ad (λz=>X z∧¬T z) v w)∧
   ∀u,(X u∧¬T u)→∀t,T t→∃c,Cn ad (λz=>X z∧¬T z) u c∧ad c t:=by
 obtain⟨lX,hlX⟩:=fin
 obtain⟨n,⟨v,w,hv,hw,l,hl,hm⟩,hmin⟩:=least_nat (λn=>∃v w,X v∧Av ad X v w∧∃l:List Nat,l.length≤n∧∀t,Sw ad X v w t→t∈l)
  (by obtain⟨v,w,hv,hw⟩:=hne;exact⟨lX.length,v,w,hv,hw,lX,Nat.le_refl _,λt ht=>hlX t ht.1⟩)
 let T:=Sw ad X v w
 let U:Nat→Prop:=λz=>X z∧¬T z
 have hvU:U v:=⟨hv,λe=>hi v e.2.1⟩
 have hwU:U w:=⟨hw.1,λe=>hw.2.2 e.2.1⟩
 have hclq:=sw_clq hs hi nh hv hw
 have hwv:¬Cn ad U w v:=λh=>by
  have:Pw ad X v w v:=h (Pw ad X v w) Cn.refl (λa b ha hab hb=>by
   have hA:=Cn.mem ha hw
   refine Cn.step ha hab ⟨hb.1,λe=>hA.2.2 (hs _ _ (e▸hab)),λe=>hb.2 ⟨hb.1,e,a,ha,hab⟩⟩)
  exact(Cn.mem this hw).2.1 rfl
 refine⟨T,λt h=>h.1,hclq,⟨w,v,hwU,hvU,hwv⟩,λu hu t ht=> ?_⟩
 apply Classical.byContradiction
 intro hno
 let C:Nat→Prop:=λz=>Cn ad U u z
 let N:Nat→Prop:=λs=>T s∧∃c,C c∧ad c s
 have hCU:∀z,C z→U z:=λz h=>h.mem hu
 have huv:¬Cn ad U u v:=λh=>hno ⟨v,h,ht.2.1⟩
 obtain⟨c,hc,hcN⟩:=all_near hs hi (C:=C) (S:=N) nh (λz h=>(hCU z h).1) (λz h=>h.1.1) (λa b ha hb=>CC hs hu ha hb (λz h=>h)) ⟨u,Cn.refl⟩ (λs t h1 h2=>hclq s t h1.1 h2.1) (λs h=>h.2) (λs h e=>(hCU s e).2 h.1) ⟨lX,λx hx=>hlX x hx.1.1⟩
 have hcv:Av ad X c v:=⟨hv,λe=>huv (e▸hc),λe=>huv (Cn.step hc e hvU)⟩
 have out:∀z,Pw ad X c v z→X z∧¬C z∧¬N z:=λz hz=>hz (λz=>X z∧¬C z∧¬N z) ⟨hv,huv,λe=>hvU.2 e.1⟩ (λa b ⟨h1,h2,h3⟩ hab hb=>by
  refine⟨hb.1,λe=> ?_,λe=>hb.2.2 (hcN b e)⟩
  by_cases haT:T a
  ·exact h3 ⟨haT,b,e,hs _ _ hab⟩
  ·exact h2 (Cn.step e (hs _ _ hab) ⟨h1,haT⟩))
 have sub:∀z,Sw ad X c v z→N z:=λz ⟨hz,hcz,h,hh,hhz⟩=>by
  by_cases hzT:T z
  ·exact⟨hzT,c,hc,hcz⟩
  ·exfalso
   have hzC:C z:=Cn.step hc hcz ⟨hz,hzT⟩
   obtain⟨h1,h2,h3⟩:=out h hh
   by_cases hhT:T h
   ·exact h3 ⟨hhT,z,hzC,hs _ _ hhz⟩
   ·exact h2 (Cn.step hzC (hs _ _ hhz) ⟨h1,hhT⟩)
 have htl:=hm t ht
 have hlen:=List.length_pos_of_mem htl
 refine hmin (n-1) (by omega) ⟨c,v,(hCU c hc).1,hcv,l.filter λx=>decide (x≠t),B5 (by omega) htl,λz hz=> ?_⟩
 have hN:=sub z hz
 exact CA (hm z hN.1) (λe=>hno ⟨hN.2.choose,hN.2.choose_spec.1,e▸hN.2.choose_spec.2⟩)
theorem lb3 {X S:Nat→Prop}{m:Nat}(ih:LbH ad m)(g:Hg ad X S)(hl:∃l:List Nat,l.length≤m+1∧∀x,X x→¬S x→x∈l)(hS:∀s,¬S s):DD ad X S:=by
 obtain⟨l,hl,hm'⟩:=hl
 have hm:∀x,X x→x∈l:=λx hx=>hm' x hx (hS x)
 by_cases hcl:∀a b,X a→X b→a≠b→ad a b
 ·exact⟨λ_=> -1,λ_=> -1,1,by omega,⟨λ_ _=>Int.le_refl _,λu v hu hv huv=>⟨λ_=>⟨Int.le_refl _,Int.le_refl _⟩,λ_=>hcl u v hu hv huv⟩⟩,λ_ _=>Int.le_refl _,λv _ h=>absurd h (hS v),λ_ _ _=>by omega⟩
 obtain⟨T,hTX,hTc,⟨v,w,hv,hw,hvw⟩,hfull⟩:=even_cut hs hi g.nh g.fin (by
  apply Classical.byContradiction
  intro h
  apply hcl
  intro a b ha hb hab
  apply Classical.byContradiction
  intro hn
  exact h ⟨a,b,ha,hb,λe=>hab e.symm,hn⟩)
 let U:Nat→Prop:=λz=>X z∧¬T z
 obtain⟨a0,ha0,hin⟩:∃a0,U a0∧((∃t,T t∧¬ad a0 t)∨∀x,U x→∀t,T t→ad x t):=by
  by_cases h:∃a0,U a0∧∃t,T t∧¬ad a0 t
  ·obtain⟨a0,h1,h2⟩:=h
   exact⟨a0,h1,.inl h2⟩
  ·refine⟨v,hv,.inr λx hx t ht=> ?_⟩
   apply Classical.byContradiction
   intro hn;exact h ⟨x,hx,t,ht,hn⟩
 obtain⟨b0,hb0,hab0⟩:∃b0,U b0∧¬Cn ad U a0 b0:=by
  by_cases h:Cn ad U a0 v
  ·exact⟨w,hw,λe=>hvw ((Cn.sym hs ha0 h).trans e)⟩
  ·exact⟨v,hv,h⟩
 let A:Nat→Prop:=λz=>Cn ad U a0 z
 let B:Nat→Prop:=λz=>U z∧¬Cn ad U a0 z
 have hAU:∀z,A z→U z:=λz h=>h.mem ha0
 have hAB:∀x y,A x→B y→x≠y∧¬ad x y:=λx y hx hy=>DW hs ha0 hy.1 hy.2 hx Cn.refl
 have hTU:∀{t u},T t→U u→t≠u:=λh1 h2 e=>h2.2 (e▸h1)
 have notT:∀(Y:Nat→Prop) a b k',T k'→a≠b→¬ad a b→T a→(T b∨True)→Cn ad (Av ad Y a) b k'→False:=λY a b k' hk' hab hnab ha _ hp'=>by
  rcases E5 hp' with e|e
  ·subst e;exact hnab (hTc _ _ ha hk' hab)
  ·exact e.2.2 (hTc _ _ ha hk' (λq=>e.2.1 q.symm))
 refine glue2 hs (Y:=A) (K:=T) (J:=T) (Z:=B) (λz=>⟨λhz=> ?_,λhz=> ?_⟩) (λz h=>h) (λz h1 h2=>(hAU z h1).2 h2) (λz h1 h2=>h2.2 h1) (λz h1 h2=>h2.1.2 h1)
  (λu v h1 h2=>(hAB u v h1 h2).2) (λu v h1 h2=>absurd h1 h2) (λz=>⟨λhz=>absurd hz (hS z),λhz=>absurd hz.1 hz.2⟩) ?_ ?_
 ·by_cases hT:T z
  ·exact .inr (.inl hT)
  ·by_cases hA:A z
   ·exact .inl hA
   ·exact .inr (.inr ⟨⟨hz,hT⟩,hA⟩)
 ·rcases hz with h|h|h
  ·exact(hAU z h).1
  ·exact hTX z h
  ·exact h.1.1
 ·have hYX:∀z,A z∨T z→X z:=λz h=>h.elim (λh=>(hAU z h).1) (hTX z)
  refine ih _ _ ⟨⟨l,λx hx=>hm x (hYX x hx)⟩,λs h=> .inr h,hTc,λc hc hx=>g.nh c hc (λx h=>hYX x (hx x h)),λa b c h=>g.at3 a b c (h.mono hYX),λa b ⟨p1,p2,p3,p4,⟨k,hk,hp⟩,k',hk',hp'⟩=> ?_⟩
   ⟨l.filter λx=>decide (x≠b0),B5 hl (hm b0 hb0.1),λx hx hn=> ?_⟩
  ·have ha:A a:=p1.elim id (λh=>(notT _ a b k' hk' p3 p4 h (.inr trivial) hp').elim)
   have hb:A b:=p2.elim id (λh=>(notT _ b a k hk (λe=>p3 e.symm) (λe=>p4 (hs _ _ e)) h (.inr trivial) hp).elim)
   have hbB:B b0:=⟨hb0,hab0⟩
   have compB:∀z,Cn ad U b0 z→B z:=λz h=>⟨h.mem hb0,λe=>hab0 (e.trans (Cn.sym hs hb0 h))⟩
   have far:∀a b k,A a→A b→T k→Cn ad (Av ad (λz=>A z∨T z) b) a k→Cn ad (Av ad X b) a b0:=λa b k ha hb hk hp=>by
    obtain⟨c,hc,hck⟩:=hfull b0 hb0 k hk
    have fz:∀z,Cn ad U b0 z→Av ad X b z:=λz hz=>by
     have:=hAB b z hb (compB z hz)
     exact⟨(hz.mem hb0).1,this.1.symm,this.2⟩
    exact((CJ hYX hp).step (hs _ _ hck) (fz c hc)).trans (CC hs hb0 hc Cn.refl fz)
   have f1:=hAB a b0 ha hbB;have f2:=hAB b b0 hb hbB
   exact g.at3 a b b0 ⟨(hAU a ha).1,(hAU b hb).1,hb0.1,p3,f1.1,f2.1,p4,f1.2,f2.2,
    CC hs ha0 ha hb (λz hz=>by have:=hAB z b0 hz hbB;exact⟨(hAU z hz).1,this.1,λe=>this.2 (hs _ _ e)⟩),
    far a b k ha hb hk hp,far b a k' hb ha hk' hp'⟩
  ·have hA:A x:=hx.elim id (λh=>absurd h hn)
   exact CA (hm x (hAU x hA).1) (hAB x b0 hA ⟨hb0,hab0⟩).1
 ·have hYX:∀z,B z∨T z→X z:=λz h=>h.elim (λh=>h.1.1) (hTX z)
  refine ih _ _ ⟨⟨l,λx hx=>hm x (hYX x hx)⟩,λs h=> .inr h,hTc,λc hc hx=>g.nh c hc (λx h=>hYX x (hx x h)),λa b c h=>g.at3 a b c (h.mono hYX),λa b ⟨p1,p2,p3,p4,⟨k,hk,hp⟩,k',hk',hp'⟩=> ?_⟩
   ⟨l.filter λx=>decide (x≠a0),B5 hl (hm a0 ha0.1),λx hx hn=> ?_⟩
  ·have ha:B a:=p1.elim id (λh=>(notT _ a b k' hk' p3 p4 h (.inr trivial) hp').elim)
   have hb:B b:=p2.elim id (λh=>(notT _ b a k hk (λe=>p3 e.symm) (λe=>p4 (hs _ _ e)) h (.inr trivial) hp).elim)
   have hAa:A a0:=Cn.refl
   have far:∀a b k,B a→B b→T k→Cn ad (Av ad (λz=>B z∨T z) b) a k→Cn ad (Av ad X b) a a0:=λa b k ha hb hk hp=>by
    obtain⟨c,hc,hck⟩:=hfull a0 ha0 k hk
    have fz:∀z,Cn ad U a0 z→Av ad X b z:=λz hz=>by
     have:=hAB z b hz hb
     exact⟨(hz.mem ha0).1,this.1,λe=>this.2 (hs _ _ e)⟩
    exact((CJ hYX hp).step (hs _ _ hck) (fz c hc)).trans (CC hs ha0 hc Cn.refl fz)
   have f1:=hAB a0 a hAa ha;have f2:=hAB a0 b hAa hb
   have hmeet:Cn ad (Av ad X a0) a b:=by
    rcases hin with⟨t,ht,hat⟩|hall
    ·obtain⟨c,hc,hct⟩:=hfull a ha.1 t ht
     obtain⟨d,hd,hdt⟩:=hfull b hb.1 t ht
     have fz:∀x,B x→∀z,Cn ad U x z→Av ad X a0 z:=λx hx z hz=>by
      have:=DW hs ha0 hx.1 hx.2 Cn.refl hz
      exact⟨(hz.mem hx.1).1,this.1.symm,this.2⟩
     exact(((CC hs ha.1 Cn.refl hc (fz a ha)).step hct ⟨hTX t ht,hTU ht ha0,hat⟩).step (hs _ _ hdt) (fz b hb d hd)).trans (CC hs hb.1 hd Cn.refl (fz b hb))
    ·exfalso
     rcases E5 hp' with e|e
     ·exact hb.1.2 (e▸hk')
     ·exact e.2.2 (hall a ha.1 k' hk')
   exact g.at3 a b a0 ⟨ha.1.1,hb.1.1,ha0.1,p3,f1.1.symm,f2.1.symm,p4,λe=>f1.2 (hs _ _ e),λe=>f2.2 (hs _ _ e),hmeet,far a b k ha hb hk hp,far b a k' hb ha hk' hp'⟩
  ·have hB:B x:=hx.elim id (λh=>absurd h hn)
   exact CA (hm x hB.1.1) (λe=>hB.2 (e▸Cn.refl))
theorem lb_all :∀m,LbH ad m:=by
 intro m
 induction m with
 |zero=>
  rintro X S g ⟨l,hl,hm⟩
  have hXS:∀x,X x→S x:=λx hx=>by
   apply Classical.byContradiction
   intro h
   have:=List.length_pos_of_mem (hm x hx h)
   omega
  exact⟨λ_=>0,λ_=>0,0,Int.le_refl _,⟨λ_ _=>Int.le_refl _,λu v hu hv huv=>⟨λ_=>⟨Int.le_refl _,Int.le_refl _⟩,λ_=>g.clq u v (hXS u hu) (hXS v hv) huv⟩⟩,λ_ _=>Int.le_refl _,λ_ _ _=>rfl,λv hv h=>absurd (hXS v hv) h⟩
 |succ m ih=>
  rintro X S g ⟨l,hl,hm⟩
  let U:Nat→Prop:=λz=>X z∧¬S z
  let T:Nat→Prop:=λs=>S s∧(∃u,U u∧ad u s)∧∃u,U u∧¬ad u s
  have hTS:∀s,T s→S s:=λs h=>h.1
  refine glue3 hs (T:=T) hTS g.sub g.clq (λs hS hn=> ?_) ?_
  ·by_cases h1:∃u,U u∧ad u s
   ·right
    intro u hu hn'
    apply Classical.byContradiction
    intro h2
    exact hn ⟨hS,h1,u,⟨hu,hn'⟩,h2⟩
   ·left
    intro u hu hn' h2
    exact h1 ⟨u,⟨hu,hn'⟩,h2⟩
  ·have g':Hg ad (λv=>(X v∧¬S v)∨T v) T:=g.mono (λv h=>h.elim (λh=>h.1) (λh=>g.sub v h.1)) hTS (λv h=> .inr h)
   have hl':∃l:List Nat,l.length≤m+1∧∀x,((X x∧¬S x)∨T x)→¬T x→x∈l:=⟨l,hl,λx hx hn=>by
    have:=hx.elim id (λh=>absurd h hn)
    exact hm x this.1 this.2⟩
   have hUi:∀z,(((X z∧¬S z)∨T z)∧¬T z)↔U z:=λz=>⟨λh=>h.1.elim id (λe=>absurd e h.2),λh=>⟨.inl h,λe=>h.2 e.1⟩⟩
   have hUe:(λz=>((X z∧¬S z)∨T z)∧¬T z)=U:=funext λz=>propext (hUi z)
   by_cases hconn:∀v w,U v→U w→Cn ad U v w
   ·by_cases hne:∃s,T s
    ·refine lb2 hs hi ih g' hl' (λv w hv hw=> ?_) hne (λs hT=> ?_) (λs hT=> ?_)
     ·rw[hUe];exact hconn v w ((hUi v).1 hv) ((hUi w).1 hw)
     ·obtain⟨u,h1,h2⟩:=hT.2.1
      exact⟨u,(hUi u).2 h1,h2⟩
     ·obtain⟨u,h1,h2⟩:=hT.2.2
      exact⟨u,(hUi u).2 h1,h2⟩
    ·exact lb3 hs hi ih g' hl' (λs h=>hne ⟨s,h⟩)
   ·refine lb1 hs ih g' hl' (λh=>hconn (λv w hv hw=> ?_))
    have:=h v w ((hUi v).2 hv) ((hUi w).2 hw)
    rwa [hUe] at this
theorem lekkerkerker {X:Nat→Prop}(fin:∃l:List Nat,∀x,X x→x∈l)(nh:NoHole ad X)(na:∀a b c,¬Apt ad X a b c):∃L R,Rp ad X L R:=by
 obtain⟨l,hl⟩:=fin
 obtain⟨L,R,_,_,h⟩:=lb_all hs hi l.length X (λ_=>False) ⟨⟨l,hl⟩,λ_ h=>h.elim,λ_ _ h=>h.elim,nh,na,λ_ _ ⟨_,_,_,_,⟨_,h,_⟩,_⟩=>h.elim⟩ ⟨l,Nat.le_refl _,λx hx _=>hl x hx⟩
 exact⟨L,R,h.rp⟩
end
end Go.Sx

namespace Go.Sx
section
variable {ad : Nat → Nat → Prop} {X : Nat → Prop} {L R : Nat → Int} (h : Rp ad X L R)
include h
theorem rp_left {b a c:Nat}(hb:X b)(ha:X a)(hab:R a<L b)(hp:Cn ad (Av ad X b) a c):R c<L b:=by
 refine(hp (λz=>X z∧R z<L b) ⟨ha,hab⟩ (λp q ⟨h1,h2⟩ hpq hq=>⟨hq.1,?_⟩)).2
 have e:=Classical.not_and_iff_not_or_not.1 (λe=>hq.2.2 ((h.ad b q hb hq.1 (λe=>hq.2.1 e.symm)).2 e))
 have hb':=h.le b hb
 by_cases hpe:p=q
 ·subst hpe;exact h2
 ·have:=(h.ad p q h1 hq.1 hpe).1 hpq
  omega
theorem rp_right {b a c:Nat}(hb:X b)(ha:X a)(hab:R b<L a)(hp:Cn ad (Av ad X b) a c):R b<L c:=by
 refine(hp (λz=>X z∧R b<L z) ⟨ha,hab⟩ (λp q ⟨h1,h2⟩ hpq hq=>⟨hq.1,?_⟩)).2
 have e:=Classical.not_and_iff_not_or_not.1 (λe=>hq.2.2 ((h.ad b q hb hq.1 (λe=>hq.2.1 e.symm)).2 e))
 have hb':=h.le b hb
 by_cases hpe:p=q
 ·subst hpe;exact h2
 ·have:=(h.ad p q h1 hq.1 hpe).1 hpq
  omega
theorem rp_no_apt {a b c:Nat}:¬Apt ad X a b c:=by
 rintro⟨h1,h2,h3,n1,n2,n3,a1,a2,a3,p1,p2,p3⟩
 have la:=h.le a h1;have lb:=h.le b h2;have lc:=h.le c h3
 have d1:R a<L b∨R b<L a:=by
  have:=Classical.not_and_iff_not_or_not.1 (λe=>a1 ((h.ad a b h1 h2 n1).2 e));omega
 have d2:R a<L c∨R c<L a:=by
  have:=Classical.not_and_iff_not_or_not.1 (λe=>a2 ((h.ad a c h1 h3 n2).2 e));omega
 have d3:R b<L c∨R c<L b:=by
  have:=Classical.not_and_iff_not_or_not.1 (λe=>a3 ((h.ad b c h2 h3 n3).2 e));omega
 rcases d1 with d1|d1
 ·rcases d3 with d3|d3
  ·have:=rp_left h h2 h1 d1 p2;omega
  ·rcases d2 with d2|d2
   ·have:=rp_left h h3 h1 d2 p1;omega
   ·have:=rp_right h h1 h2 d1 p3;omega
 ·rcases d3 with d3|d3
  ·rcases d2 with d2|d2
   ·have:=rp_left h h1 h2 d1 p3;omega
   ·have:=rp_right h h3 h1 d2 p1;omega
  ·have:=rp_right h h2 h1 d1 p2;omega
end
end Go.Sx

namespace Go.Sx
structure Un (cs:LI)(m:Nat)(U:LI):Prop where
 len:U.length=2^m
 vs:∀b,b<2^m→VS (U.getD b 0)
 hs:∀b,b<2^m→∀v,has (U.getD b 0) v=true↔∃i,i<m∧b.testBit i=true∧ch cs i v=true
section
variable {cs U : LI} (hs : ∀ s ∈ cs, VS s) (hm : cs.length ≤ 16) (hU : Un cs cs.length U)
include hs hm hU
end
end Go.Sx

namespace Go.Sx
theorem Goes.nat {cs:LI}:∀{o:LI} {p:Int},Goes cs p o→∀x∈o,∃k:Nat,x=(k:Int)∧k<cs.length
 |[],_,_,x,hx=>by simp at hx
 |y::o,p,⟨k,e,hF,hG⟩,x,hx=>by
  rcases List.mem_cons.1 hx with rfl|hx
  ·exact⟨k,e,hF.1⟩
  ·exact Goes.nat hG x hx
theorem Goes.mem {cs:LI}(hm:cs.length≤16):∀{o:LI} {p:Int},VS p→Goes cs p o→∀i,i<cs.length→has p i=true∨(i:Int)∈o
 |[],_,_,h,i,hi=> .inl (h i hi)
 |y::o,p,hp,⟨k,e,hF,hG⟩,i,hi=>by
  have hk:=hF.1
  rcases Goes.mem hm (VS.ior _ _) hG i hi with h|h
  ·rw[Bo hp (VS.ishl _ _),Bc (by omega),Bool.or_eq_true,decide_eq_true_eq] at h
   rcases h with h|rfl
   ·exact .inl h
   ·exact .inr (by rw[e];simp)
  ·exact .inr (List.mem_cons_of_mem _ h)
def atp (cs o:LI)(k v:Nat):Bool:=ch cs (o.getD k 0).toNat v
theorem Goes.conv {cs o:LI}{v i j k:Nat}(hm:cs.length≤16)(h:Goes cs 0 o)(hij:i<j)(hjk:j<k)(hk:k<o.length)(h1:atp cs o i v=true)(h2:atp cs o k v=true):atp cs o j v=true:=by
 have hj:j<o.length:=by omega
 have hi:i<o.length:=by omega
 obtain⟨a,ea,_⟩:=h.nat _ (List.getElem_mem hi)
 obtain⟨b,eb,_⟩:=h.nat _ (List.getElem_mem hj)
 obtain⟨c,ec,_⟩:=h.nat _ (List.getElem_mem hk)
 unfold atp at*
 rw[AA hi,ea,Int.toNat_natCast] at h1
 rw[AA hk,ec,Int.toNat_natCast] at h2
 rw[AA hj,eb,Int.toNat_natCast]
 have e:o=o.take j++(b:Int)::o.drop (j+1):=by
  rw[←eb,←List.drop_eq_getElem_cons hj,List.take_append_drop]
 rw[e] at h
 refine h.mid hm ⟨VS.zero,λv hv=>by rw[A8] at hv;cases hv⟩ (.inr ⟨a,?_,h1⟩) ⟨c,?_,h2⟩
 ·rw[←ea]
  exact List.mem_take_iff_getElem.2 ⟨i,by omega,rfl⟩
 ·rw[←ec,List.mem_drop_iff_getElem]
  exact⟨k-(j+1),by omega,by congr 1;omega⟩
structure Told (cs o:LI)(v:Nat)(a b:Int):Prop where
 ex:∃i j:Nat,a=(i:Int)∧b=(j:Int)∧i≤j∧j<o.length∧atp cs o i v=true∧atp cs o j v=true∧∀k,k<o.length→atp cs o k v=true→i≤k∧k≤j
theorem Told.at {cs o:LI}{v:Nat}{a b:Int}(hm:cs.length≤16)(h:Goes cs 0 o)(ht:Told cs o v a b){k:Nat}(h1:a≤k)(h2:(k:Int)≤b):k<o.length∧atp cs o k v=true:=by
 obtain⟨i,j,rfl,rfl,hij,hj,hi1,hj1,_⟩:=ht.ex
 refine⟨by omega,?_⟩
 by_cases e1:k=i
 ·rw[e1];exact hi1
 by_cases e2:k=j
 ·rw[e2];exact hj1
 exact h.conv hm (show i<k by omega) (show k<j by omega) hj hi1 hj1
section
variable {g : LL} (hg : GOk g) {l o : LI} (hl : GC g l) (h16 : l.length ≤ 16) (ho : Goes l 0 o)
include hg hl
theorem clique_of {u v:Nat}(hu:u<g.length)(hv:v<g.length)(h:u=v∨adj g u v):∃i,i<l.length∧ch l i u=true∧ch l i v=true:=by
 have hF:=FOk.of hg
 have h16':=hg.n16
 have hK:∀w,has (ior .u32 (ishl .u32 1 (u:Int)) (ishl .u32 1 (v:Int))) w=true↔w=u∨w=v:=λw=>by
  rw[Bo (VS.ishl _ _) (VS.ishl _ _),Bc (by omega),Bc (by omega)];simp
 obtain⟨K',h1,h2,h3⟩:=CQ_ext hg.n16 hF 32 (ior .u32 (ishl .u32 1 (u:Int)) (ishl .u32 1 (v:Int))) (by omega) ⟨VS.ior _ _,λw hw=>by rcases(hK w).1 hw with rfl|rfl<;>assumption⟩ (λa b ha hb hab=>by
  rcases(hK a).1 ha with rfl|rfl<;>rcases(hK b).1 hb with rfl|rfl
  ·exact absurd rfl hab
  ·exact(BD hg hu).2 (h.elim (λe=>absurd e hab) id)
  ·exact(BD hg hv).2 (hg.sym _ _ hu (h.elim (λe=>absurd e.symm hab) id))
  ·exact absurd rfl hab)
 obtain⟨i,hi,e⟩:=List.getElem_of_mem ((hl.mem K').2 ⟨h1,h2⟩)
 refine⟨i,hi,?_,?_⟩
 ·unfold ch;rw[AA hi,e];exact h3 u ((hK u).2 (.inl rfl))
 ·unfold ch;rw[AA hi,e];exact h3 v ((hK v).2 (.inr rfl))
include h16 ho
theorem place_of {i v:Nat}(hi:i<l.length)(h:ch l i v=true):∃k,k<o.length∧(o.getD k 0)=(i:Int)∧atp l o k v=true:=by
 rcases ho.mem h16 VS.zero i hi with hz|hm
 ·rw[A8] at hz;cases hz
 ·obtain⟨k,hk,e⟩:=List.getElem_of_mem hm
  refine⟨k,hk,by rw[AA hk,e],?_⟩
  unfold atp
  rw[AA hk,e,Int.toNat_natCast];exact h
theorem told_adj {u v:Nat}(hu:u<g.length)(hv:v<g.length)(huv:u≠v){a b c d:Int}(h1:Told l o u a b)(h2:Told l o v c d):adj g u v↔a≤d∧c≤b:=by
 constructor
 ·intro h
  obtain⟨i,hi,i1,i2⟩:=clique_of hg hl hu hv (.inr h)
  obtain⟨k,hk,ek,k1⟩:=place_of hg hl h16 ho hi i1
  have k2:atp l o k v=true:=by unfold atp;rw[ek,Int.toNat_natCast];exact i2
  obtain⟨i',j',rfl,rfl,_,_,_,_,q1⟩:=h1.ex
  obtain⟨i'',j'',rfl,rfl,_,_,_,_,q2⟩:=h2.ex
  have:=q1 k hk k1;have:=q2 k hk k2
  omega
 ·rintro⟨had,hcb⟩
  have hk:∃k:Nat,a≤k∧(k:Int)≤b∧c≤k∧(k:Int)≤d:=by
   obtain⟨i',j',rfl,rfl,_,_,_,_,_⟩:=h1.ex
   obtain⟨i'',j'',rfl,rfl,_,_,_,_,_⟩:=h2.ex
   by_cases h:i'≤i''
   ·exact⟨i'',by omega,by omega,by omega,by omega⟩
   ·exact⟨i',by omega,by omega,by omega,by omega⟩
  obtain⟨k,k1,k2,k3,k4⟩:=hk
  obtain⟨hk,c1⟩:=h1.at h16 ho k1 k2
  obtain⟨_,c2⟩:=h2.at h16 ho k3 k4
  obtain⟨i,ei,hi⟩:=ho.nat _ (List.getElem_mem hk)
  unfold atp ch at c1 c2
  rw[AA hk,ei,Int.toNat_natCast] at c1 c2
  have hm:=(hl.mem (l.getD i 0)).1 (by rw[AA hi];exact List.getElem_mem hi)
  exact(BD hg hu).1 (hm.2.1 u v c1 c2 huv)
theorem told_ex {v:Nat}(hv:v<g.length):∃k,k<o.length∧atp l o k v=true:=by
 obtain⟨i,hi,i1,_⟩:=clique_of hg hl hv hv (.inl rfl)
 obtain⟨k,hk,_,k1⟩:=place_of hg hl h16 ho hi i1
 exact⟨k,hk,k1⟩
end
end Go.Sx

namespace Go.Sx
section
variable {g l : LL} {cs : LI} (hg : GOk g)
include hg
theorem Eg {b:Bool}{l:LI}(hc:D.I0 g=some b)(hb:b=true)(hl:GC g l):l.length≤g.length:=by
 obtain⟨y,e,hy⟩:=E8 hg
 unfold D.I0 at hc
 rw[e,bs] at hc
 obtain rfl:=Option.some.inj hc
 obtain⟨h1,h2⟩:=hy hb
 exact chordal_few hg h1 h2 hl
theorem impl_cO {b:Bool}{l:LI}(hc:D.I0 g=some b)(hcl:D.E (g.map mk)=some l)(hl:GC g l):∃y,D.r0 (g.map mk)=some y∧((y.1=[]∧¬(b=true∧Ends l 0))∨(b=true∧Goes l 0 y.1∧y.2=l∧y.1≠[]∧y.1.length≤32)):=by
 have h16:=hg.n16
 have hn1:=hg.n1
 obtain⟨b',c1,c2⟩:=EQ hg
 rw[hc] at c2
 obtain rfl:=Option.some.inj c2
 unfold D.a1 at c1
 rw[BL g hg.sh2,Co hg,bs,cond_true,CB g hg,bs] at c1
 unfold D.r0
 rw[D7 hg] at c1 ⊢
 simp only[bs] at c1 ⊢
 generalize (pk (g.map mk) g.length g.length (full g.length)).getD []=po at c1 ⊢
 have hpb:po.isEmpty= !b:=by
  have:=Option.some.inj c1
  rw[←this,Bool.not_not]
 rw[hpb]
 cases b
 ·simp only[Bool.not_false,cond_true]
  exact⟨_,rfl,.inl ⟨rfl,by simp⟩⟩
 ·have hlen:=Eg hg hc rfl hl
  have hvs:∀s∈l,VS s:=λs hs=>((hl.mem s).1 hs).1.1
  have hz:In l.length 0:=⟨VS.zero,λv hv=>by rw[A8] at hv;cases hv⟩
  have h33:=Dk
  obtain⟨r,e,h1,h2⟩:=clGrow_ok hvs (by omega) 32 Bq 0 (by omega) hz (Bn _) (by omega)
  simp only[Bool.not_true,cond_false,hcl,bs,e]
  cases r with
  |none=>exact⟨_,rfl,.inl ⟨rfl,λh=>h1 rfl h.2⟩⟩
  |some o=>
   obtain⟨hgo,hol⟩:=h2 o rfl
   have hne:o≠[]:=by
    rintro rfl
    obtain⟨K',g1,g2,_⟩:=CQ_ext h16 (FOk.of hg) 32 0 (by omega) ⟨VS.zero,λv hv=>by rw[A8] at hv;cases hv⟩ (λu w hu=>by rw[A8] at hu;cases hu)
    have:=List.length_pos_of_mem ((hl.mem K').2 ⟨g1,g2⟩)
    have:=hgo 0 this
    rw[A8] at this;cases this
   refine⟨(o,l),?_,.inr ⟨trivial,hgo,rfl,hne,hol⟩⟩
   unfold D.j1
   cases o with
   |nil=>exact absurd rfl hne
   |cons x t=>rfl
theorem impl_CO {b:Bool}{l:LI}(hc:D.I0 g=some b)(hcl:D.E (g.map mk)=some l)(hl:GC g l):∃r,D.p0 g=some r∧(r.2=true↔b=true∧Ends l 0):=by
 obtain⟨y,e,hy⟩:=impl_cO hg hc hcl hl
 unfold D.p0
 rw[BL g hg.sh2,Co hg,bs,Bool.not_true,cond_false,CB g hg,bs,e,bs]
 rcases hy with⟨h1,h2⟩|⟨h1,h2,_,h4,h5⟩
 ·rw[h1]
  exact⟨_,rfl,by simpa using h2⟩
 ·have:y.1.isEmpty=false:=by
   cases hh:y.1 with
   |nil=>exact absurd hh h4
   |cons x t=>rfl
  rw[this,cond_false,wide_eq _ (by unfold Sh;omega),bs]
  exact⟨_,rfl,λ_=>⟨h1,h2.ends⟩,λ_=>rfl⟩
end
end Go.Sx

namespace Go.Sx
inductive Pick (n:Nat):Nat→Nat→Int→Int→Prop
 |done {a:Nat} {c:Int}:Pick n a 0 c c
 |more {a k v:Nat} {c t:Int}:a≤v→v<n→Pick n (v+1) k (ior .u32 c (ishl .u32 1 (v:Int))) t→Pick n a (k+1) c t
theorem Pick.le {n a k:Nat}{c t:Int}(h:Pick n a k c t):k=0∨a+k≤n:=by
 induction h with
 |done=>exact .inl rfl
 |more h1 h2 _ ih=>right;rcases ih with h|h<;>omega
theorem Pick.three {n:Nat}{t:Int}(hn:n≤16):Pick n 0 3 0 t↔∃a b c:Nat,a<b∧b<c∧c<n∧VS t∧∀v,has t v=true↔(v=a∨v=b∨v=c):=by
 have hh:∀{a b c:Nat},a<n→b<n→c<n→∀v,has (ior .u32 (ior .u32 (ior .u32 0 (ishl .u32 1 (a:Int))) (ishl .u32 1 (b:Int))) (ishl .u32 1 (c:Int))) v=true↔(v=a∨v=b∨v=c):=fun{a b c} ha hb hc v=>by
  rw[Bo (VS.ior _ _) (VS.ishl _ _),Bo (VS.ior _ _) (VS.ishl _ _),Bo VS.zero (VS.ishl _ _),A8,Bc (by omega),Bc (by omega),Bc (by omega)]
  simp[or_assoc]
 constructor
 ·intro h
  cases h with
  | @more _ _ a _ _ h1 h2 h=>
   cases h with
   | @more _ _ b _ _ h3 h4 h=>
    cases h with
    | @more _ _ c _ _ h5 h6 h=>
     cases h
     exact⟨a,b,c,by omega,by omega,h6,VS.ior _ _,hh h2 h4 h6⟩
 ·rintro⟨a,b,c,hab,hbc,hc,ht,h⟩
  have:t=ior .u32 (ior .u32 (ior .u32 0 (ishl .u32 1 (a:Int))) (ishl .u32 1 (b:Int))) (ishl .u32 1 (c:Int)):=VS.ext ht (VS.ior _ _) (λv _=>by
   have:=h v;rw[←hh (by omega) (by omega) hc v] at this
   exact Bool.eq_iff_iff.2 this)
  subst this
  exact .more (by omega) (by omega) (.more (by omega) (by omega) (.more (by omega) (by omega) .done))
def DO (a b:Int):LI:=[min a b,max a b]
structure KOk (n:Nat)(K:LL):Prop where
 nd:K.Nodup
 lk:∀l∈K,LinkIn n l
theorem LinkIn.good {n:Nat}(hn:n≤1000){l:LI}(h:LinkIn n l):rowGood l:=by
 obtain⟨a,b,rfl,h1,h2⟩:=h
 refine⟨rfl,?_⟩
 simp only[List.getD_cons_zero,List.getD_cons_succ]
 omega
theorem KOk.len {n:Nat}(hn:n≤16){K:LL}(h:KOk n K):K.length≤256:=by
 have h1:(K.map rowKey).Nodup:=by
  unfold List.Nodup
  rw[List.pairwise_map]
  refine List.Pairwise.imp_of_mem (fun{a b} ha hb hab e=> ?_) h.nd
  exact hab (row_inj ((h.lk a ha).good (by omega)) ((h.lk b hb).good (by omega)) e)
 have h2:=Bx (m:=(List.range 16).flatMap (λa=>(List.range 16).map λb=>((a:Nat):Int)*1048576+((b:Nat):Int))) h1 (λx hx=>by
  obtain⟨l,hl,rfl⟩:=List.mem_map.1 hx
  obtain⟨a,b,rfl,h3,h4⟩:=h.lk l hl
  exact List.mem_flatMap.2 ⟨a,List.mem_range.2 (by omega),List.mem_map.2 ⟨b,List.mem_range.2 (by omega),rfl⟩⟩)
 have h3:((List.range 16).flatMap (λa=>(List.range 16).map λb=>((a:Nat):Int)*1048576+((b:Nat):Int))).length=256:=by decide+kernel
 rw[h3,List.length_map] at h2
 exact h2
def WayP (K:LL)(a b:Int):Prop:=∀T:Int→Prop,T a→(∀x y,T x→Lk K x y→T y)→T b
theorem Lk.perm {K K':LL}(h:K.Perm K'){x y:Int}:Lk K x y↔Lk K' x y:=by
 unfold Lk;rw[h.mem_iff,h.mem_iff]
theorem WayP.perm {K K':LL}(h:K.Perm K'){a b:Int}:WayP K a b↔WayP K' a b:=by
 unfold WayP
 constructor
 ·intro hh T h1 h2;exact hh T h1 (λx y hx hl=>h2 x y hx ((Lk.perm h).1 hl))
 ·intro hh T h1 h2;exact hh T h1 (λx y hx hl=>h2 x y hx ((Lk.perm h).2 hl))
structure NetL (A:LI)(n:Nat)(K:LL):Prop where
 net:Net A n
 nb:∀x y,x<n→y<n→(nb A x y=true↔Lk K (x:Int) (y:Int))
theorem NetL.way {A:LI}{n:Nat}{K:LL}(hn:n≤16)(h:NetL A n K)(hk:∀l∈K,LinkIn n l){W:Int}(hW:∀y,y<n→has W y=true){v:Nat}(hv:v<n){S:Int}(hS:Rch A W v S)(hSn:∀x,has S x=true→x<n){b:Nat}(hb:b<n):has S b=true↔WayP K (v:Int) (b:Int):=by
 constructor
 ·intro hh T h1 h2
  exact hS.least (λx=>x<n∧T (x:Int)) ⟨hv,h1⟩ (λx y hx hxy _=>by
   have hy:=h.net.lt x y hx.1 hxy
   exact⟨hy,h2 _ _ hx.2 ((h.nb x y hx.1 hy).1 hxy)⟩) b hh|>.2
 ·intro hh
  obtain⟨u,hu,_,hu2⟩:=hh (λz=>∃u:Nat,z=(u:Int)∧u<n∧has S u=true) ⟨v,rfl,hv,hS.me⟩ (λx y ⟨u,e,hu,hs⟩ hl=>by
   subst e
   obtain⟨w,rfl,hw⟩:∃w:Nat,y=(w:Int)∧w<n:=by
    rcases hl with hl|hl
    ·obtain⟨p,q,e,h1,h2⟩:=hk _ hl
     simp at e;exact⟨q,e.2,h2⟩
    ·obtain⟨p,q,e,h1,h2⟩:=hk _ hl
     simp at e;exact⟨p,e.1,by omega⟩
   exact⟨w,rfl,hw,hS.step u w hs ((h.nb u w hu hw).2 hl) (hW w hw)⟩)
  have:b=u:=by omega
  rw[this];exact hu2
end Go.Sx



namespace Go.Sx
theorem ES {i k:Nat}(h:i<k):DO (i:Int) (k:Int)=[(i:Int),(k:Int)]:=by
 unfold DO
 rw[show min (i:Int) (k:Int)=i by omega,show max (i:Int) (k:Int)=k by omega]
theorem KOk.add {n i k:Nat}{K:LL}(h:KOk n K)(hik:i<k)(hk:k<n)(hw:¬WayP K (i:Int) (k:Int)):KOk n (K++[DO (i:Int) (k:Int)]):=by
 have hnot:DO (i:Int) (k:Int)∉K:=λhm=>hw (λT h1 h2=>h2 _ _ h1 (.inl (by rw[ES hik] at hm;exact hm)))
 refine⟨?_,λl hl=> ?_⟩
 ·have hp:(K++[DO (i:Int) (k:Int)]).Perm (DO (i:Int) (k:Int)::K):=List.perm_append_comm
  exact hp.nodup_iff.2 (List.nodup_cons.2 ⟨hnot,h.nd⟩)
 ·rcases List.mem_append.1 hl with hl|hl
  ·exact h.lk l hl
  ·simp at hl;subst hl
   exact⟨i,k,ES hik,hik,hk⟩
theorem NetL.add {A A':LI}{n i k:Nat}{K:LL}(h:NetL A n K)(hik:i<k)(hk:k<n)(hA:Net A' n)(hnb:∀u w,u<n→Sx.nb A' u w=(Sx.nb A u w||(decide (u=i)&&decide (w=k))||(decide (u=k)&&decide (w=i)))):NetL A' n (K++[DO (i:Int) (k:Int)]):=by
 refine⟨hA,λx y hx hy=> ?_⟩
 rw[hnb x y hx,ES hik]
 simp only[Bool.or_eq_true,Bool.and_eq_true,decide_eq_true_eq]
 rw[h.nb x y hx hy]
 unfold Lk
 simp only[List.mem_append,List.mem_singleton,List.cons.injEq,and_true,Int.natCast_inj]
 constructor
 ·rintro((h1|h1)|⟨h1,h2⟩)
  ·exact h1.elim (λh=> .inl (.inl h)) (λh=> .inr (.inl h))
  ·exact .inl (.inr h1)
  ·exact .inr (.inr ⟨h2,h1⟩)
 ·rintro((h1|h1)|(h1|⟨h1,h2⟩))
  ·exact .inl (.inl (.inl h1))
  ·exact .inl (.inr h1)
  ·exact .inl (.inl (.inr h1))
  ·exact .inr ⟨h2,h1⟩
section
variable {l : LI} (hn : l.length ≤ 16) (hvs : ∀ s ∈ l, VS s)
include hn hvs
end
section
variable {g : LL} (hg : GOk g)
include hg
end
end Go.Sx

namespace Go.Sx
theorem mis_three {F:LI}{n a b c:Nat}{S:Int}(hn:n≤32)(hS:VS S)(hab:a<b)(hbc:b<c)(hc:c<n)(h:∀v,has S v=true↔(v=a∨v=b∨v=c)):mis F n S=bit (!nb F a b)+bit (!nb F a c)+bit (!nb F b c):=by
 have he:Al S=[(a:Int),(b:Int),(c:Int)]:=by
  refine Inc.ext (Bt S) (by simp[Inc];omega) (λx=> ?_)
  rw[mem_elems]
  constructor
  ·rintro⟨v,_,h2,rfl⟩
   rcases(h v).1 h2 with rfl|rfl|rfl<;>simp
  ·intro hx
   simp at hx
   rcases hx with rfl|rfl|rfl
   ·exact⟨a,by omega,(h a).2 (.inl rfl),rfl⟩
   ·exact⟨b,by omega,(h b).2 (.inr (.inl rfl)),rfl⟩
   ·exact⟨c,by omega,(h c).2 (.inr (.inr rfl)),rfl⟩
 have hlt:∀v,has S v=true→v<n:=λv hv=>by rcases(h v).1 hv with rfl|rfl|rfl<;>omega
 have hin:∀q:Nat→Bool,BB (λw=>bit (has S w&&q w)) n=bit (q a)+bit (q b)+bit (q c):=λq=>by
  have e1:=DM (λx:Int=>bit (q x.toNat)) hn hlt
  rw[he] at e1
  simp only[BV,Int.toNat_natCast] at e1
  have e2:(λw=>bit (has S w&&q w))=(λv=>if has S v then bit (q v) else 0):=by
   funext w
   cases has S w<;>simp[bit]
  rw[e2]
  omega
 unfold mis S2
 have e3:(λu=>BB (λw=>bit (has S u&&(has S w&&(decide (w<u)&& !nb F w u)))) n)=(λu=>if has S u then bit (decide (a<u)&& !nb F a u)+bit (decide (b<u)&& !nb F b u)+bit (decide (c<u)&& !nb F c u) else 0):=by
  funext u
  cases has S u
  ·simp only[Bool.false_and]
   have:=hin (λ_=>false)
   have e4:(λw:Nat=>bit false)=λw=>bit (has S w&&(λ_=>false) w):=by funext w;simp
   rw[e4,this];rfl
  ·simp only[Bool.true_and,if_true]
   exact hin (λw=>decide (w<u)&& !nb F w u)
 rw[e3]
 have e5:=DM (λx:Int=>bit (decide (a<x.toNat)&& !nb F a x.toNat)+bit (decide (b<x.toNat)&& !nb F b x.toNat)+bit (decide (c<x.toNat)&& !nb F c x.toNat)) hn hlt
 simp only[Int.toNat_natCast] at e5
 rw[←e5,he]
 have d1:decide (a<a)=false:=by simp
 have d2:decide (b<a)=false:=by simp;omega
 have d3:decide (c<a)=false:=by simp;omega
 have d4:decide (a<b)=true:=by simp;omega
 have d5:decide (b<b)=false:=by simp
 have d6:decide (c<b)=false:=by simp;omega
 have d7:decide (a<c)=true:=by simp;omega
 have d8:decide (b<c)=true:=by simp;omega
 have d9:decide (c<c)=false:=by simp
 have d0:bit false=0:=rfl
 simp only[BV,Int.toNat_natCast,d1,d2,d3,d4,d5,d6,d7,d8,d9,Bool.false_and,Bool.true_and,d0]
 omega
section
variable {g : LL} (hg : GOk g)
include hg
end
end Go.Sx

namespace Go.Sx
def canR (R:Nat→Nat→Prop)(S:Nat→Prop)(v:Nat):Prop:=
 (∀w,S w→¬R v w)∨∃u,u≠v∧S u∧((∀w,S w→(R v w↔w=u))∨(¬R v u∧∀w,S w→(R v w↔R u w))∨(R v u∧∀w,S w→w≠u→w≠v→(R v w↔R u w)))
def Elim (R:Nat→Nat→Prop):Nat→(Nat→Prop)→Prop
 |0,S=>∀w,¬S w
 |k+1,S=>∃v,S v∧canR R S v∧Elim R k (λw=>S w∧w≠v)
theorem Elim.iso {R R':Nat→Nat→Prop}(f:Nat→Nat):∀(k:Nat) (S S':Nat→Prop),Elim R k S→(∀w,S w→S' (f w))→(∀w',S' w'→∃w,S w∧f w=w')→(∀u w,S u→S w→f u=f w→u=w)→(∀u w,S u→S w→(R' (f u) (f w)↔R u w))→Elim R' k S'
 |0,S,S',h,_,h2,_,_=>λw' hw'=>by
  obtain⟨w,hw,_⟩:=h2 w' hw'
  exact h w hw
 |k+1,S,S',h,h1,h2,h3,h4=>by
  obtain⟨v,hv,hc,he⟩:=h
  refine⟨f v,h1 v hv,?_,Elim.iso f k _ _ he (λw hw=>⟨h1 w hw.1,λe=>hw.2 (h3 w v hw.1 hv e)⟩) (λw' hw'=> ?_) (λu w hu hw=>h3 u w hu.1 hw.1) (λu w hu hw=>h4 u w hu.1 hw.1)⟩
  ·rcases hc with hc|⟨u,hu,hSu,hc⟩
   ·refine .inl λw' hw'=> ?_
    obtain⟨w,hw,rfl⟩:=h2 w' hw'
    rw[h4 v w hv hw];exact hc w hw
   ·refine .inr ⟨f u,λe=>hu (h3 u v hSu hv e),h1 u hSu,?_⟩
    rcases hc with hc|⟨hn,hc⟩|⟨hn,hc⟩
    ·refine .inl λw' hw'=> ?_
     obtain⟨w,hw,rfl⟩:=h2 w' hw'
     rw[h4 v w hv hw,hc w hw]
     exact⟨λe=>by rw[e],λe=>h3 w u hw hSu e⟩
    ·refine .inr (.inl ⟨λh=>hn ((h4 v u hv hSu).1 h),λw' hw'=> ?_⟩)
     obtain⟨w,hw,rfl⟩:=h2 w' hw'
     rw[h4 v w hv hw,h4 u w hSu hw];exact hc w hw
    ·refine .inr (.inr ⟨(h4 v u hv hSu).2 hn,λw' hw' hwu hwv=> ?_⟩)
     obtain⟨w,hw,rfl⟩:=h2 w' hw'
     rw[h4 v w hv hw,h4 u w hSu hw]
     exact hc w hw (λe=>hwu (by rw[e])) (λe=>hwv (by rw[e]))
  ·obtain⟨w,hw,rfl⟩:=h2 w' hw'.1
   exact⟨w,⟨hw,λe=>hw'.2 (by rw[e])⟩,rfl⟩
theorem Elim.congr {R R':Nat→Nat→Prop}{k:Nat}{S S':Nat→Prop}(h:Elim R k S)(hS:∀w,S w↔S' w)(hR:∀u w,S u→S w→(R' u w↔R u w)):Elim R' k S':=
 Elim.iso id k S S' h (λw hw=>(hS w).1 hw) (λw hw=>⟨w,(hS w).2 hw,rfl⟩) (λ_ _ _ _ e=>e) hR
def Ds (F:LI)(p:Pr):Int:=if p.2.2=2 then ishl .u32 1 p.2.1 else if p.2.2=3 then F.getD p.2.1.toNat 0 else if p.2.2=4 then ior .u32 (F.getD p.2.1.toNat 0) (ishl .u32 1 p.2.1) else 0
def Fs (n:Nat):List Pr→LI
 |[]=>List.replicate n 0
 |p::l=>DH n (Fs n l) p.1.toNat (Ds (Fs n l) p)
def vsOf (l:List Pr):LI:=l.map (·.1)
structure GI (n:Nat)(l:List Pr)(s:Int):Prop where
 f:FOk (Fs n l) n
 i:In n s
 mem:∀w:Nat,has s w=true↔(w:Int)∈vsOf l
 thr:∀u w,u<n→nb (Fs n l) u w=true→has s u=true∧has s w=true
 nonneg:∀x∈vsOf l,0≤x
theorem GI.nil (n:Nat):GI n [] 0:=by
 have hz:∀u,(List.replicate n (0:Int)).getD u 0=0:=λu=>by
  rw[List.getD_eq_getElem?_getD,List.getElem?_replicate];split<;>rfl
 have hn:∀u w,nb (List.replicate n (0:Int)) u w=false:=λu w=>by unfold nb;rw[hz,A8]
 exact⟨⟨by simp[Fs],λu _=>by show VS ((List.replicate n (0:Int)).getD u 0);rw[hz];exact VS.zero,λu w _ h=>(by rw[show nb (Fs n []) u w=false from hn u w] at h;cases h),λu _=>hn u u,λu w _ h=>(by rw[show nb (Fs n []) u w=false from hn u w] at h;cases h)⟩,
  ⟨VS.zero,λw h=>(by rw[A8] at h;cases h)⟩,λw=>(by rw[A8];simp[vsOf]),λu w _ h=>(by rw[show nb (Fs n []) u w=false from hn u w] at h;cases h),by simp[vsOf]⟩
def needs (k:Int):Prop:=k=2∨k=3∨k=4
theorem near_ok {n:Nat}(hn:n≤16){l:List Pr}{s:Int}(h:GI n l s){p:Pr}(hby:needs p.2.2→∃b:Nat,p.2.1=b∧has s b=true):In n (Ds (Fs n l) p)∧∀w,has (Ds (Fs n l) p) w=true→has s w=true:=by
 have key:VS (Ds (Fs n l) p)∧∀w,has (Ds (Fs n l) p) w=true→has s w=true:=by
  unfold Ds
  by_cases k2:p.2.2=2
  ·obtain⟨b,e,hb⟩:=hby (.inl k2)
   have:=h.i.2 b hb
   rw[if_pos k2,e]
   refine⟨VS.ishl _ _,λw hw=> ?_⟩
   rw[Bc (by omega)] at hw
   rw[of_decide_eq_true hw];exact hb
  ·rw[if_neg k2]
   by_cases k3:p.2.2=3
   ·obtain⟨b,e,hb⟩:=hby (.inr (.inl k3))
    have hbn:=h.i.2 b hb
    rw[if_pos k3,e,Int.toNat_natCast]
    exact⟨h.f.vs b hbn,λw hw=>(h.thr b w hbn hw).2⟩
   ·rw[if_neg k3]
    by_cases k4:p.2.2=4
    ·obtain⟨b,e,hb⟩:=hby (.inr (.inr k4))
     have hbn:=h.i.2 b hb
     rw[if_pos k4,e,Int.toNat_natCast]
     refine⟨VS.ior _ _,λw hw=> ?_⟩
     rw[Bo (h.f.vs b hbn) (VS.ishl _ _),Bc (by omega),Bool.or_eq_true] at hw
     rcases hw with hw|hw
     ·exact(h.thr b w hbn hw).2
     ·rw[of_decide_eq_true hw];exact hb
    ·rw[if_neg k4]
     exact⟨VS.zero,λw hw=>by rw[A8] at hw;cases hw⟩
 exact⟨⟨key.1,λw hw=>h.i.2 w (key.2 w hw)⟩,key.2⟩
theorem GI.step {n:Nat}(hn:n≤16){l:List Pr}{s:Int}(h:GI n l s){p:Pr}{v:Nat}(e:p.1=v)(hv:v<n)(hsv:has s v=false)(hby:needs p.2.2→∃b:Nat,p.2.1=b∧has s b=true):
  GI n (p::l) (ior .u32 s (ishl .u32 1 (v:Int)))∧Fs n (p::l)=DH n (Fs n l) v (Ds (Fs n l) p)∧has (Ds (Fs n l) p) v=false∧∀w,nb (Fs n l) v w=false:=by
 obtain⟨hS,hSs⟩:=near_ok hn h hby
 have hSv:has (Ds (Fs n l) p) v=false:=by
  rw[Bool.eq_false_iff];intro hc;rw[hSs v hc] at hsv;cases hsv
 have eF:Fs n (p::l)=DH n (Fs n l) v (Ds (Fs n l) p):=by
  show DH n (Fs n l) p.1.toNat _=_
  rw[e,Int.toNat_natCast]
 have hh:∀w,has (ior .u32 s (ishl .u32 1 (v:Int))) w=(has s w||decide (w=v)):=λw=>by rw[Bo h.i.1 (VS.ishl _ _),Bc (by omega)]
 refine⟨⟨by rw[eF];exact joinF_ok hn h.f hS hv hSv,⟨VS.ior _ _,λw hw=> ?_⟩,λw=> ?_,λu w hu hw=> ?_,λx hx=> ?_⟩,eF,hSv,λw=> ?_⟩
 ·rw[hh,Bool.or_eq_true,decide_eq_true_eq] at hw
  rcases hw with hw|hw
  ·exact h.i.2 w hw
  ·omega
 ·rw[hh,Bool.or_eq_true,decide_eq_true_eq,h.mem]
  unfold vsOf
  rw[List.map_cons,List.mem_cons,e]
  constructor
  ·rintro(hw|hw)
   ·exact .inr hw
   ·exact .inl (by omega)
  ·rintro(hw|hw)
   ·exact .inr (by omega)
   ·exact .inl hw
 ·rw[eF,Dq hn h.f hS hv hu] at hw
  simp only[hh,Bool.or_eq_true,Bool.and_eq_true,decide_eq_true_eq] at hw ⊢
  rcases hw with(hw|hw)|hw
  ·have:=h.thr u w hu hw
   exact⟨.inl this.1,.inl this.2⟩
  ·exact⟨.inr hw.1,.inl (hSs w hw.2)⟩
  ·exact⟨.inl (hSs u hw.1),.inr hw.2⟩
 ·unfold vsOf at hx
  rw[List.map_cons,List.mem_cons,e] at hx
  rcases hx with rfl|hx
  ·omega
  ·exact h.nonneg x hx
 ·rw[Bool.eq_false_iff];intro hc
  rw[(h.thr v w hv hc).1] at hsv;cases hsv
def Lsts (g:LL)(K:Int):Prop:=In g.length K∧(∀u w,has K u=true→has K w=true→¬adj g u w)∧∀w,w<g.length→has K w=true∨∃v,has K v=true∧adj g v w
structure LSt (g:LL)(l:LI):Prop where
 up:l.Pairwise (λa b=>skey a<skey b)
 mem:∀K,K∈l↔Lsts g K
theorem LSt.vs {g:LL}{l:LI}(h:LSt g l):∀s∈l,VS s:=λs hs=>((h.mem s).1 hs).1.1
theorem LSt.len {g:LL}{l:LI}(hg:GOk g)(h:LSt g l):l.length≤65536:=Dz hg.n16 (λK hK=>((h.mem K).1 hK).1) (DI h.up)
theorem row_more (g:LL)(v:Nat):row (g++[[]]) v=row g v:=by
 unfold row
 rw[List.getD_eq_getElem?_getD,List.getD_eq_getElem?_getD]
 by_cases h:v<g.length
 ·rw[List.getElem?_append_left h]
 ·rw[List.getElem?_append_right (by omega),List.getElem?_eq_none (show g.length≤v by omega)]
  by_cases h2:v-g.length=0
  ·rw[h2];rfl
  ·rw[List.getElem?_eq_none (by simp;omega)]
theorem GOk.more {g:LL}(hg:GOk g)(h16:g.length<16):GOk (g++[[]]):=by
 have hl:(g++[[]]).length=g.length+1:=by simp
 have hadj:∀u v,adj (g++[[]]) u v↔adj g u v:=λu v=>by unfold adj;rw[row_more]
 have hn:∀u v,adj g u v→u<g.length:=λu v h=>by
  apply Classical.byContradiction
  intro hc
  unfold adj row at h
  rw[List.getD_eq_getElem?_getD,List.getElem?_eq_none (by omega)] at h
  simp at h
 refine⟨by omega,by omega,λv _=> ?_,λv _ h=> ?_,λu v _ h=> ?_⟩
 ·rw[row_more]
  by_cases hv:v<g.length
  ·exact⟨(hg.rows v hv).1,λx hx=>by have:=(hg.rows v hv).2 x hx;omega⟩
  ·unfold row
   rw[List.getD_eq_getElem?_getD,List.getElem?_eq_none (by omega)]
   exact⟨by simp[Inc],by simp⟩
 ·rw[hadj] at h;exact hg.irr v (hn v v h) h
 ·rw[hadj] at h ⊢;exact hg.sym u v (hn u v h) h
def AllGo (g:LL):Prop:=Elim (adj g) g.length (λw=>w<g.length)
theorem AllGo.add {g y:LL}(hg:GOk g)(h:AllGo g){x:LI}(hx:SetOf x (g.length:Int))(hl:y.length=g.length+1)
  (hA:∀u w:Nat,adj y u w↔adj g u w∨(u=g.length∧(w:Int)∈x)∨(w=g.length∧(u:Int)∈x)) (hc:canR (adj y) (λw=>w<g.length+1) g.length):AllGo y:=by
 unfold AllGo
 rw[hl]
 refine⟨g.length,by omega,hc,h.congr (λw=>⟨λh=>⟨by omega,by omega⟩,λh=>by omega⟩) (λu w hu hw=> ?_)⟩
 rw[hA]
 constructor
 ·rintro(h|⟨h,_⟩|⟨h,_⟩)
  ·exact h
  ·omega
  ·omega
 ·exact .inl
def lf (xs:List (Int×Int))(v:Nat):Int:=(xs.getD v (0,0)).1
def rt (xs:List (Int×Int))(v:Nat):Int:=(xs.getD v (0,0)).2
def meetB (xs:List (Int×Int))(u v:Nat):Bool:=decide (lf xs u≤rt xs v)&&decide (lf xs v≤rt xs u)
structure IvL (xs:List (Int×Int)):Prop where
 n1:1≤xs.length
 n16:xs.length≤16
 ok:∀x∈xs,0≤x.1∧x.1≤x.2∧x.2≤100
def rowI (xs:List (Int×Int))(v m:Nat):LI:=((List.range m).filter λu=>decide (u≠v)&&meetB xs u v).map Int.ofNat
def gI (xs:List (Int×Int)):LL:=(List.range xs.length).map λv=>rowI xs v xs.length
theorem gI_len (xs:List (Int×Int)):(gI xs).length=xs.length:=by simp[gI]
theorem mem_rowI {xs:List (Int×Int)}{v m:Nat}{x:Int}:x∈rowI xs v m↔∃u:Nat,x=(u:Int)∧u<m∧u≠v∧meetB xs u v=true:=by
 unfold rowI
 simp only[List.mem_map,List.mem_filter,List.mem_range,Bool.and_eq_true,decide_eq_true_eq]
 constructor
 ·rintro⟨u,⟨h1,h2,h3⟩,rfl⟩;exact⟨u,rfl,h1,h2,h3⟩
 ·rintro⟨u,rfl,h1,h2,h3⟩;exact⟨u,⟨h1,h2,h3⟩,rfl⟩
theorem row_gI {xs:List (Int×Int)}{v:Nat}(hv:v<xs.length):row (gI xs) v=rowI xs v xs.length:=by
 unfold row gI
 rw[AA (by simpa using hv)];simp
theorem adj_gI {xs:List (Int×Int)}{v u:Nat}(hv:v<xs.length):adj (gI xs) v u↔u<xs.length∧u≠v∧meetB xs u v=true:=by
 unfold adj
 rw[row_gI hv,mem_rowI]
 constructor
 ·rintro⟨w,e,h⟩
  obtain rfl:u=w:=by omega
  exact h
 ·intro h;exact⟨u,rfl,h⟩
theorem meetB_comm (xs:List (Int×Int))(u v:Nat):meetB xs u v=meetB xs v u:=by unfold meetB;exact Bool.and_comm _ _
theorem rowI_inc (xs:List (Int×Int))(v m:Nat):Inc (rowI xs v m):=by
 unfold Inc rowI
 rw[List.pairwise_map]
 refine List.Pairwise.imp (fun{a b} h=>by show (a:Int)<(b:Int);omega) (List.Pairwise.filter _ List.pairwise_lt_range)
theorem gI_ok {xs:List (Int×Int)}(h1:1≤xs.length)(h16:xs.length≤16):GOk (gI xs):=by
 have hl:=gI_len xs
 refine⟨by omega,by omega,λv hv=> ?_,λv hv ha=> ?_,λu v hu ha=> ?_⟩
 ·rw[hl] at hv ⊢
  rw[row_gI hv]
  refine⟨rowI_inc _ _ _,λx hx=> ?_⟩
  obtain⟨u,rfl,h2,_⟩:=mem_rowI.1 hx
  omega
 ·rw[hl] at hv
  exact((adj_gI hv).1 ha).2.1 rfl
 ·rw[hl] at hu
  obtain⟨a,b,c⟩:=(adj_gI hu).1 ha
  exact(adj_gI a).2 ⟨hu,λe=>b e.symm,by rw[meetB_comm];exact c⟩
theorem IvL.g {xs:List (Int×Int)}(h:IvL xs):GOk (gI xs):=gI_ok h.n1 h.n16
theorem IvL.at {xs:List (Int×Int)}(h:IvL xs){v:Nat}(hv:v<xs.length):0≤lf xs v∧lf xs v≤rt xs v∧rt xs v≤100:=by
 unfold lf rt
 rw[AA hv]
 exact h.ok _ (List.getElem_mem hv)
theorem IvL.iv {xs:List (Int×Int)}(h:IvL xs):Iv (gI xs) (lf xs) (rt xs):=by
 have hl:=gI_len xs
 refine⟨λv hv=>(h.at (by omega)).2.1,λu v hu hv=> ?_⟩
 rw[hl] at hu hv
 rw[adj_gI hu]
 unfold meetB
 rw[Bool.and_eq_true,decide_eq_true_eq,decide_eq_true_eq]
 constructor
 ·rintro⟨_,a,b,c⟩;exact⟨λe=>a e.symm,c,b⟩
 ·rintro⟨a,b,c⟩;exact⟨hv,λe=>a e.symm,c,b⟩
section
variable {xs : List (Int × Int)} (h : IvL xs)
include h
end
end Go.Sx

namespace Go.Sx
theorem Db {α β:Type}{e:Option α}{a:α}{k:α→Option β}(h:e=some a):e.bind k=k a:=by rw[h];rfl
theorem has_at {s:Int}{v:Nat}(hs:VS s)(hv:v<32):D.v s (v:Int)=some (has s v):=by
 unfold D.v
 have:decide ((v:Int)<0)=false:=by simp
 rw[this,cond_false,bitAt_eq hs hv]
section
variable {g : LL} (hg : GOk g) {l o : LI} (hl : GC g l) (h16 : l.length ≤ 16) (ho : Goes l 0 o) (hol : o.length ≤ 32)
include hg hl h16 ho hol
theorem told_loop {v:Nat}(hv:v<g.length):∃p:Int×Int,Aq (σ:=Int×Int×Int) (ρ:=(Int×Int)) (fun(s_597:Int×Int×Int)=>match s_597 with|(x_600,x_601,x_602)=>cond (decide (x_600<(o.length:Int))) ((idx o x_600).bind λe_631=>(idx l e_631).bind λe_637=>(D.v e_637 (v:Int)).bind λy_643=>cond (!y_643) (some (.inl ((IntKind.i64.wrap (x_600+1)),x_601,x_602))) (cond (decide (x_601<0)) (some (.inl ((IntKind.i64.wrap (x_600+1)),x_600,x_600))) (some (.inl ((IntKind.i64.wrap (x_600+1)),x_601,x_600))))) (some (.inr (x_601,x_602)))) (0,(-1),0)=some p∧Told l o v p.1 p.2:=by
 have hn16:=hg.n16
 have main:=A3 (k:=λp=>some p) (Q:=λp=>Told l o v p.1 p.2) (step:=fun(s_597:Int×Int×Int)=>match s_597 with|(x_600,x_601,x_602)=>cond (decide (x_600<(o.length:Int))) ((idx o x_600).bind λe_631=>(idx l e_631).bind λe_637=>(D.v e_637 (v:Int)).bind λy_643=>cond (!y_643) (some (.inl ((IntKind.i64.wrap (x_600+1)),x_601,x_602))) (cond (decide (x_601<0)) (some (.inl ((IntKind.i64.wrap (x_600+1)),x_600,x_600))) (some (.inl ((IntKind.i64.wrap (x_600+1)),x_601,x_600))))) (some (.inr (x_601,x_602))))
  (s:=(0,(-1),0)) (fun(q:Int×Int×Int)=>∃p:Nat,q.1=(p:Int)∧p≤o.length∧((q.2.1= -1∧∀k,k<p→atp l o k v=false)∨∃i j:Nat,q.2.1=(i:Int)∧q.2.2=(j:Int)∧i≤j∧j<p∧atp l o i v=true∧atp l o j v=true∧∀k,k<p→atp l o k v=true→i≤k∧k≤j))
  (λq=>o.length-q.1.toNat) (λp=>Told l o v p.1 p.2) ?_ ⟨0,rfl,by omega,.inl ⟨rfl,λk hk=>by omega⟩⟩ (λr hr=>⟨r,rfl,hr⟩)
 ·obtain⟨p,e,hp⟩:=main
  exact⟨p,by simpa using e,hp⟩
 ·rintro⟨_,a,b⟩ ⟨p,rfl,hp,hinv⟩
  dsimp only at hinv ⊢
  by_cases hlt:p<o.length
  ·obtain⟨k,ek,hk⟩:=ho.nat _ (List.getElem_mem hlt)
   have vk:VS (l.getD k 0):=((hl.mem _).1 (by rw[AA hk];exact List.getElem_mem hk)).1.1
   have eidx:idx l (k:Int)=some (l.getD k 0):=by rw[AB hk,AA hk]
   have hatp:atp l o p v=has (l.getD k 0) v:=by
    unfold atp ch
    rw[AA hlt,ek,Int.toNat_natCast]
   simp only[dlt hlt,cond_true,AB hlt,ek,bs,eidx,has_at vk (show v<32 by omega),wq p]
   rw[←hatp]
   cases hb:atp l o p v
   ·simp only[Bool.not_false,cond_true]
    refine⟨_,rfl,⟨p+1,rfl,by omega,?_⟩,by simp;omega⟩
    rcases hinv with⟨h1,h2⟩|⟨i,j,h1,h2,h3,h4,h5,h6,h7⟩
    ·refine .inl ⟨h1,λk hk=> ?_⟩
     by_cases hkp:k=p
     ·rw[hkp];exact hb
     ·exact h2 k (by omega)
    ·refine .inr ⟨i,j,h1,h2,h3,by omega,h5,h6,λk hk hka=> ?_⟩
     by_cases hkp:k=p
     ·rw[hkp,hb] at hka;cases hka
     ·exact h7 k (by omega) hka
   ·simp only[Bool.not_true,cond_false]
    rcases hinv with⟨h1,h2⟩|⟨i,j,h1,h2,h3,h4,h5,h6,h7⟩
    ·have hd:decide (a<0)=true:=by simp;omega
     simp only[hd,cond_true]
     refine⟨_,rfl,⟨p+1,rfl,by omega,.inr ⟨p,p,rfl,rfl,Nat.le_refl _,by omega,hb,hb,λk hk hka=> ?_⟩⟩,by simp;omega⟩
     by_cases hkp:k=p
     ·omega
     ·rw[h2 k (by omega)] at hka;cases hka
    ·have hd:decide (a<0)=false:=by simp;omega
     simp only[hd,cond_false]
     refine⟨_,rfl,⟨p+1,rfl,by omega,.inr ⟨i,p,h1,rfl,by omega,by omega,h5,hb,λk hk hka=> ?_⟩⟩,by simp;omega⟩
     by_cases hkp:k=p
     ·omega
     ·have:=h7 k (by omega) hka;omega
  ·obtain rfl:p=o.length:=by omega
   simp only[Br,cond_false]
   refine⟨_,rfl,?_⟩
   rcases hinv with⟨h1,h2⟩|⟨i,j,h1,h2,h3,h4,h5,h6,h7⟩
   ·obtain⟨k,hk,hka⟩:=told_ex hg hl h16 ho hv
    rw[h2 k hk] at hka;cases hka
   ·exact⟨i,j,h1,h2,h3,h4,h5,h6,h7⟩
end
end Go.Sx

namespace Go.Sx
theorem chR_okP {f:Int→Int→Option (Bool×Int)}{n:Nat}(hn:n≤16)(F:Int→Bool):
  ∀(k fuel a:Nat) (c s:Int),(∀t s,Pick n a k c t→f t s=some (F t,t))→k<fuel→k≤16→VS c→(∀v,has c v=true→v<n)→a≤n+1→∃r,D.s f fuel (n:Int) (a:Int) (k:Int) c s=some r∧(r.1=true↔∃t,Pick n a k c t∧F t=true)∧(r.1=true→Pick n a k c r.2∧F r.2=true):=by
 intro k
 induction k with
 |zero=>
  intro fuel a c s hf hk _ hc hcn _
  obtain⟨m,rfl⟩:∃m,fuel=m+1:=⟨fuel-1,by omega⟩
  refine⟨(F c,c),?_,⟨λh=>⟨c,.done,h⟩,?_⟩,λh=>⟨.done,h⟩⟩
  ·unfold D.s
   simp only[Int.natCast_zero,beq_self_eq_true,cond_true,hf c s .done]
  ·rintro⟨t,ht,h⟩
   cases ht
   exact h
 |succ k ih=>
  intro fuel a0 c s hf hk hk16 hc hcn ha
  obtain⟨m,rfl⟩:∃m,fuel=m+1:=⟨fuel-1,by omega⟩
  unfold D.s
  have h0:(((k+1:Nat):Int)==0)=false:=by rw[beq_eq_false_iff_ne];omega
  rw[h0,cond_false]
  have key:∀(d a:Nat) (s:Int),a0≤a→a+d=n+1→∃r,Aq (D.f0 (D.s f m) (n:Int) ((k+1:Nat):Int) c) (s,(a:Int))=some r∧(r.1=true↔∃t,Pick n a (k+1) c t∧F t=true)∧(r.1=true→Pick n a (k+1) c r.2∧F r.2=true):=by
   intro d
   induction d with
   |zero=>
    intro a s ha0 hd
    refine⟨(false,s),AQ ?_,⟨by simp,?_⟩,by simp⟩
    ·unfold D.f0
     have:decide (IntKind.i64.wrap ((a:Int)+((k+1:Nat):Int))≤(n:Int))=false:=by rw[w64 (by omega) (by omega)];simp;omega
     simp only[this,cond_false]
    ·rintro⟨t,ht,_⟩
     have:=ht.le
     omega
   |succ d ihd=>
    intro a s ha0 hd
    by_cases hle:a+(k+1)≤n
    ·have hdec:decide (IntKind.i64.wrap ((a:Int)+((k+1:Nat):Int))≤(n:Int))=true:=by rw[w64 (by omega) (by omega)];simp;omega
     have hone:=Bc (v:=a) (by omega)
     have hc':VS (ior .u32 c (ishl .u32 1 (a:Int))):=VS.ior _ _
     have hcn':∀v,has (ior .u32 c (ishl .u32 1 (a:Int))) v=true→v<n:=λv hv=>by
      rw[Bo hc (VS.ishl _ _),hone,Bool.or_eq_true,decide_eq_true_eq] at hv
      rcases hv with hv|rfl
      ·exact hcn v hv
      ·omega
     obtain⟨r,e,hr1,hr2⟩:=ih m (a+1) _ s (λt s ht=>hf t s (.more ha0 (by omega) ht)) (by omega) (by omega) hc' hcn' (by omega)
     have ek:IntKind.i64.wrap (((k+1:Nat):Int)-1)=(k:Int):=by rw[w64 (by omega) (by omega)];omega
     have hst:D.f0 (D.s f m) (n:Int) ((k+1:Nat):Int) c (s,(a:Int))=cond r.1 (some (.inr (true,r.2))) (some (.inl (r.2,((a+1:Nat):Int)))):=by
      unfold D.f0
      simp only[hdec,cond_true,BM,bs,wq a,ek,e]
     cases hb:r.1
     ·rw[hb,cond_false] at hst
      obtain⟨r',e',h1,h2⟩:=ihd (a+1) r.2 (by omega) (by omega)
      refine⟨r',by rw[Bi hst,e'],?_,λhr=> ?_⟩
      ·rw[h1]
       constructor
       ·rintro⟨t,ht,hF⟩
        cases ht with
        |more p1 p2 p3=>exact⟨t,.more (by omega) p2 p3,hF⟩
       ·rintro⟨t,ht,hF⟩
        cases ht with
        | @more _ _ v _ _ p1 p2 p3=>
         by_cases hva:v=a
         ·subst hva
          have:=hr1.2 ⟨t,p3,hF⟩
          rw[hb] at this;cases this
         ·exact⟨t,.more (by omega) p2 p3,hF⟩
      ·obtain⟨p,hF⟩:=h2 hr
       cases p with
       |more p1 p2 p3=>exact⟨.more (by omega) p2 p3,hF⟩
     ·rw[hb,cond_true] at hst
      obtain⟨p,hF⟩:=hr2 hb
      exact⟨(true,r.2),AQ hst,⟨λ_=>⟨r.2,.more (Nat.le_refl _) (by omega) p,hF⟩,λ_=>rfl⟩,λ_=>⟨.more (Nat.le_refl _) (by omega) p,hF⟩⟩
    ·refine⟨(false,s),AQ ?_,⟨by simp,?_⟩,by simp⟩
     ·unfold D.f0
      have:decide (IntKind.i64.wrap ((a:Int)+((k+1:Nat):Int))≤(n:Int))=false:=by rw[w64 (by omega) (by omega)];simp;omega
      simp only[this,cond_false]
     ·rintro⟨t,ht,_⟩
      have:=ht.le
      omega
  exact key (n+1-a0) a0 s (Nat.le_refl _) (by omega)
theorem Ed {S:Int}{a b c:Nat}(hab:a<b)(hbc:b<c)(hc:c<32)(h:∀v,has S v=true↔(v=a∨v=b∨v=c)):Al S=[(a:Int),(b:Int),(c:Int)]:=by
 refine Inc.ext (Bt S) (by simp[Inc];omega) (λx=> ?_)
 rw[mem_elems]
 constructor
 ·rintro⟨v,_,h2,rfl⟩
  rcases(h v).1 h2 with rfl|rfl|rfl<;>simp
 ·intro hx
  simp only[List.mem_cons,List.not_mem_nil,or_false] at hx
  rcases hx with rfl|rfl|rfl
  ·exact⟨a,by omega,(h a).2 (.inl rfl),rfl⟩
  ·exact⟨b,by omega,(h b).2 (.inr (.inl rfl)),rfl⟩
  ·exact⟨c,by omega,(h c).2 (.inr (.inr rfl)),rfl⟩
abbrev AptG (g:LL)(a b c:Nat):Prop:=Apt (adj g) (λx=>x<g.length) a b c
section
variable {g : LL} (hg : GOk g)
include hg
theorem C6 {a c:Nat}(hc:c<g.length)(ha:a<g.length)(hne:a≠c)(hn:¬adj g a c):AvG g c a:=⟨ha,hne,λe=>hn (CU hg _ _ e)⟩
theorem isApart_ok {a b c:Nat}(hab:a<b)(hbc:b<c)(hc:c<g.length):∃r,D.l0 (g.map mk) (a:Int) (b:Int) (c:Int)=some r∧(r=true↔AptG g a b c):=by
 have h16:=hg.n16
 have hF:=FOk.of hg
 have ha':a<g.length:=by omega
 have hb':b<g.length:=by omega
 unfold D.l0
 rw[BM,bs,BM,bs,BM,bs]
 generalize hS:ior .u32 (ior .u32 (ishl .u32 1 (a:Int)) (ishl .u32 1 (b:Int))) (ishl .u32 1 (c:Int))=S
 have vS:VS S:=by rw[←hS];exact VS.ior _ _
 have hh:∀v,has S v=true↔(v=a∨v=b∨v=c):=λv=>by
  rw[←hS,Bo (VS.ior _ _) (VS.ishl _ _),Bo (VS.ishl _ _) (VS.ishl _ _),Bc (by omega),Bc (by omega),Bc (by omega)]
  simp[or_assoc]
 rw[Dd h16 hF vS (λv hv=>by rcases(hh v).1 hv with rfl|rfl|rfl<;>omega),bs,mis_three (by omega) vS hab hbc hc hh]
 have nbf:∀{x y:Nat},x<g.length→(nb (g.map mk) x y=false↔¬adj g x y):=λhx=>by
  rw[←BD hg hx,Bool.not_eq_true]
 by_cases hno:¬adj g a b∧¬adj g a c∧¬adj g b c
 ·obtain⟨n1,n2,n3⟩:=hno
  rw[(nbf ha').2 n1,(nbf ha').2 n2,(nbf hb').2 n3]
  have e3:((((bit (!false)+bit (!false)+bit (!false):Nat)):Int)==3)=true:=rfl
  rw[e3,cond_true]
  obtain⟨r1,q1,k1⟩:=C3 hg ha' hb' hc
  obtain⟨r2,q2,k2⟩:=C3 hg ha' hc hb'
  obtain⟨r3,q3,k3⟩:=C3 hg hb' hc ha'
  have emp:∀{u v w:Nat} {r:LI},((r=[]∧¬(AvG g w u∧AvG g w v∧Cn (adj g) (AvG g w) v u))∨((AvG g w u∧AvG g w v∧Cn (adj g) (AvG g w) v u)∧∃P,r=iz P∧PW g (AvG g w) u v P))→((!r.isEmpty)=true↔(AvG g w u∧AvG g w v∧Cn (adj g) (AvG g w) v u)):=fun{u v w r} h=>by
   rcases h with⟨rfl,h⟩|⟨h,P,rfl,hP⟩
   ·exact⟨λe=>(by cases e),λe=>absurd e h⟩
   ·refine⟨λ_=>h,λ_=> ?_⟩
    have:=hP.ne
    cases P with
    |nil=>simp at this
    |cons x t=>rfl
  rw[q1,bs,bs]
  refine⟨(!r1.isEmpty)&&(!r2.isEmpty)&&(!r3.isEmpty),?_,?_⟩
  ·cases hb1:(!r1.isEmpty)
   ·rfl
   ·rw[cond_true,q2,bs,bs]
    cases hb2:(!r2.isEmpty)
    ·rfl
    ·rw[cond_true,q3];rfl
  ·rw[Bool.and_eq_true,Bool.and_eq_true,emp k1,emp k2,emp k3]
   have sy:=CU hg
   constructor
   ·rintro⟨⟨⟨x1,x2,x3⟩,y1,y2,y3⟩,z1,z2,z3⟩
    exact⟨ha',hb',hc,by omega,by omega,by omega,n1,n2,n3,Cn.sym sy x2 x3,Cn.sym sy y2 y3,Cn.sym sy z2 z3⟩
   ·rintro⟨_,_,_,m1,m2,m3,_,_,_,x,y,z⟩
    have A1:=C6 hg hc ha' m2 n2;have A2:=C6 hg hc hb' m3 n3
    have B1:=C6 hg hb' ha' m1 n1;have B2:=C6 hg hb' hc (Ne.symm m3) (λe=>n3 (sy _ _ e))
    have C1:=C6 hg ha' hb' (Ne.symm m1) (λe=>n1 (sy _ _ e));have C2:=C6 hg ha' hc (Ne.symm m2) (λe=>n2 (sy _ _ e))
    exact⟨⟨⟨A1,A2,Cn.sym sy A1 x⟩,B1,B2,Cn.sym sy B1 y⟩,C1,C2,Cn.sym sy C1 z⟩
 ·have e3:((((bit (!nb (g.map mk) a b)+bit (!nb (g.map mk) a c)+bit (!nb (g.map mk) b c):Nat)):Int)==3)=false:=by
   rw[beq_eq_false_iff_ne]
   intro h
   apply hno
   have hb:nb (g.map mk) a b=false∧nb (g.map mk) a c=false∧nb (g.map mk) b c=false:=by
    revert h
    cases nb (g.map mk) a b<;>cases nb (g.map mk) a c<;>cases nb (g.map mk) b c<;>simp[bit]
   exact⟨(nbf ha').1 hb.1,(nbf ha').1 hb.2.1,(nbf hb').1 hb.2.2⟩
  rw[e3]
  exact⟨false,rfl,λh=>(by cases h),λh=>absurd ⟨h.2.2.2.2.2.2.1,h.2.2.2.2.2.2.2.1,h.2.2.2.2.2.2.2.2.1⟩ hno⟩
omit hg in
theorem Apt.swap {ad:Nat→Nat→Prop}{X:Nat→Prop}(hs:∀a b,ad a b→ad b a){a b c:Nat}(h:Apt ad X a b c):Apt ad X b a c:=by
 obtain⟨h1,h2,h3,n1,n2,n3,a1,a2,a3,p1,p2,p3⟩:=h
 exact⟨h2,h1,h3,n1.symm,n3,n2,λe=>a1 (hs _ _ e),a3,a2,Cn.sym hs ⟨h1,n2,λe=>a2 (hs _ _ e)⟩ p1,p3,p2⟩
omit hg in
theorem Apt.rot {ad:Nat→Nat→Prop}{X:Nat→Prop}(hs:∀a b,ad a b→ad b a){a b c:Nat}(h:Apt ad X a b c):Apt ad X a c b:=by
 obtain⟨h1,h2,h3,n1,n2,n3,a1,a2,a3,p1,p2,p3⟩:=h
 exact⟨h1,h3,h2,n2,n1,n3.symm,a2,a1,λe=>a3 (hs _ _ e),p2,p1,Cn.sym hs ⟨h2,n1.symm,a1⟩ p3⟩
theorem apt_sorted {a b c:Nat}(h:AptG g a b c):∃x y z,x<y∧y<z∧AptG g x y z:=by
 have sy:=CU hg
 have n1:=h.2.2.2.1;have n2:=h.2.2.2.2.1;have n3:=h.2.2.2.2.2.1
 rcases Nat.lt_or_gt_of_ne n1 with h1|h1
 ·rcases Nat.lt_or_gt_of_ne n3 with h3|h3
  ·exact⟨a,b,c,h1,h3,h⟩
  ·rcases Nat.lt_or_gt_of_ne n2 with h2|h2
   ·exact⟨a,c,b,h2,h3,h.rot sy⟩
   ·exact⟨c,a,b,h2,h1,(h.rot sy).swap sy⟩
 ·rcases Nat.lt_or_gt_of_ne n2 with h2|h2
  ·exact⟨b,a,c,h1,h2,h.swap sy⟩
  ·rcases Nat.lt_or_gt_of_ne n3 with h3|h3
   ·exact⟨b,c,a,h3,h2,(h.swap sy).rot sy⟩
   ·exact⟨c,b,a,h3,h1,((h.rot sy).swap sy).rot sy⟩
theorem apart_ok :∃r,D.P g=some r∧((r.2=false∧∀a b c,¬AptG g a b c)∨(r.2=true∧∃a b c:Nat,r.1=[(a:Int),(b:Int),(c:Int)]∧AptG g a b c)):=by
 have h16:=hg.n16
 have h33:=Dk
 have hlF:(g.map mk).length=g.length:=by simp
 unfold D.P
 rw[BL g hg.sh2,Co hg,bs,Bool.not_true,cond_false,CB g hg,bs,hlF]
 classical
 let F:Int→Bool:=λt=>decide (∃a b c:Nat,Al t=[(a:Int),(b:Int),(c:Int)]∧AptG g a b c)
 have hf:∀t s,Pick g.length 0 3 0 t→D.D0 (g.map mk) t s=some (F t,t):=λt s ht=>by
  obtain⟨a,b,c,hab,hbc,hcn,vt,hh⟩:=(Pick.three h16).1 ht
  have he:=Ed hab hbc (by omega) hh
  obtain⟨r,er,hr⟩:=isApart_ok hg hab hbc hcn
  unfold D.D0
  have i0:idx [(a:Int),(b:Int),(c:Int)] 0=some (a:Int):=rfl
  have i1:idx [(a:Int),(b:Int),(c:Int)] 1=some (b:Int):=rfl
  have i2:idx [(a:Int),(b:Int),(c:Int)] 2=some (c:Int):=rfl
  rw[Cg _ vt,bs,he,i0,bs,i1,bs,i2,bs,er,bs]
  have:r=F t:=by
   rw[Bool.eq_iff_iff,hr]
   show _↔decide (∃a b c:Nat,Al t=[(a:Int),(b:Int),(c:Int)]∧AptG g a b c)=true
   rw[decide_eq_true_eq,he]
   constructor
   ·intro h;exact⟨a,b,c,rfl,h⟩
   ·rintro⟨a',b',c',e,h⟩
    simp only[List.cons.injEq,Int.natCast_inj,and_true] at e
    obtain⟨rfl,rfl,rfl⟩:=e
    exact h
  rw[this]
 obtain⟨r,e,h1,h2⟩:=chR_okP (f:=D.D0 (g.map mk)) h16 F 3 Bq 0 0 0 hf (by omega) (by omega) VS.zero (λv hv=>by rw[A8] at hv;cases hv) (by omega)
 have e':D.s (D.D0 (g.map mk)) Bq (g.length:Int) 0 3 0 0=some r:=e
 rw[e',bs]
 cases hb:r.1
 ·rw[Bool.not_false,cond_true]
  refine⟨_,rfl,.inl ⟨rfl,λa b c h=> ?_⟩⟩
  obtain⟨x,y,z,hxy,hyz,hA⟩:=apt_sorted hg h
  have hz:=hA.2.2.1
  have hex:∀v,has (ior .u32 (ior .u32 (ishl .u32 1 (x:Int)) (ishl .u32 1 (y:Int))) (ishl .u32 1 (z:Int))) v=true↔(v=x∨v=y∨v=z):=λv=>by
   rw[Bo (VS.ior _ _) (VS.ishl _ _),Bo (VS.ishl _ _) (VS.ishl _ _),Bc (by omega),Bc (by omega),Bc (by omega)]
   simp[or_assoc]
  have:=h1.2 ⟨_,(Pick.three h16).2 ⟨x,y,z,hxy,hyz,hz,VS.ior _ _,hex⟩,decide_eq_true ⟨x,y,z,Ed hxy hyz (by omega) hex,hA⟩⟩
  rw[hb] at this;cases this
 ·obtain⟨hp,hFt⟩:=h2 hb
  obtain⟨_,_,_,_,_,_,vt,_⟩:=(Pick.three h16).1 hp
  rw[Bool.not_true,cond_false,Ez _ vt,bs]
  obtain⟨a,b,c,he,hA⟩:=of_decide_eq_true hFt
  exact⟨_,rfl,.inr ⟨rfl,a,b,c,he,hA⟩⟩
theorem interval_iff :∃b,D.U g=some b∧(b=true↔∃L R,Iv g L R):=by
 have h16:=hg.n16
 obtain⟨b,c1,c2⟩:=EQ hg
 obtain⟨l,m1,m2,m3,m4,hGC⟩:=CliquesOf_all hg
 obtain⟨r,e,hr⟩:=impl_CO hg c2 m1 hGC
 refine⟨r.2,by unfold D.U;rw[e];rfl,?_⟩
 rw[hr]
 constructor
 ·rintro⟨hb,hE⟩
  have hlen:=Eg hg c2 hb hGC
  obtain⟨y,_,hy⟩:=impl_cO hg c2 m1 hGC
  rcases hy with⟨_,hy⟩|⟨_,ho,_,_,hol⟩
  ·exact absurd ⟨hb,hE⟩ hy
  have hl16:l.length≤16:=by omega
  have hT:∀v,v<g.length→∃p:Int×Int,Told l y.1 v p.1 p.2:=λv hv=>by
   obtain⟨p,_,hp⟩:=told_loop hg hGC hl16 ho hol hv
   exact⟨p,hp⟩
  classical
  let p:Nat→Int×Int:=λv=>if h:v<g.length then(hT v h).choose else(0,0)
  have hp:∀v,v<g.length→Told l y.1 v (p v).1 (p v).2:=λv hv=>by
   show Told l y.1 v (if h:v<g.length then(hT v h).choose else(0,0)).1 (if h:v<g.length then(hT v h).choose else(0,0)).2
   rw[dif_pos hv]
   exact(hT v hv).choose_spec
  refine⟨λv=>(p v).1,λv=>(p v).2,λv hv=> ?_,λu v hu hv=> ?_⟩
  ·obtain⟨i,j,h1,h2,h3,_⟩:=(hp v hv).ex
   show (p v).1≤(p v).2
   omega
  ·by_cases huv:u=v
   ·subst huv
    exact⟨λh=>absurd h (λh=>adj_irr hg u h),λh=>absurd rfl h.1⟩
   ·rw[told_adj hg hGC hl16 ho hu hv huv (hp u hu) (hp v hv)]
    exact⟨λh=>⟨huv,h.1,h.2⟩,λh=>⟨h.2.1,h.2.2⟩⟩
 ·rintro⟨L,R,hI⟩
  have hb:b=true:=by
   obtain⟨po,hpo⟩:=ivPk hg hI
   have:=chordal_pk hg
   rw[c1,hpo] at this
   exact Option.some.inj this
  have hlen:=Eg hg c2 hb hGC
  exact⟨hb,ivEnds hg hI hGC (by omega)⟩
theorem Iv.rp {L R:Nat→Int}(h:Iv g L R):Rp (adj g) (λx=>x<g.length) L R:=
 ⟨h.le,λu v hu hv huv=>⟨λe=>((h.ad u v hu hv).1 e).2,λe=>(h.ad u v hu hv).2 ⟨huv,e⟩⟩⟩
theorem Rp.iv {L R:Nat→Int}(h:Rp (adj g) (λx=>x<g.length) L R):Iv g L R:=
 ⟨h.le,λu v hu hv=>⟨λe=>by
  have huv:u≠v:=λq=>adj_irr hg v (q▸e)
  exact⟨huv,(h.ad u v hu hv huv).1 e⟩,λe=>(h.ad u v hu hv e.1).2 e.2⟩⟩
theorem iv_no_hole {L R:Nat→Int}(h:Iv g L R){c:List Nat}(hH:Hole (adj g) c)(hlt:∀x∈c,x<g.length):False:=by
 have h4:=hH.len
 obtain⟨m,hm,hle⟩:=leastI (λi=>R (c.getD i 0)) (λ_=>True) c.length ⟨0,by omega,trivial⟩
 obtain⟨_,hle⟩:=hle
 have hge:∀i (hi:i<c.length),c.getD i 0=c[i]:=λi hi=>AA hi 0
 have adjm:∀i (hi:i<c.length),adj g c[m] c[i]→L c[i]≤R c[m]∧R c[m]≤R c[i]:=λi hi ha=>by
  have h1:=((h.ad _ _ (hlt _ (List.getElem_mem hm)) (hlt _ (List.getElem_mem hi))).1 ha).2
  have h2:=hle i hi trivial
  rw[hge m hm,hge i hi] at h2
  exact⟨h1.2,h2⟩
 have hadj:=fun{i j:Nat} (hij:i<j) (hj:j<c.length)=>hole_adj hg hH hlt hij hj
 have two:∀i j (hi:i<c.length) (hj:j<c.length),i<j→adj g c[m] c[i]→adj g c[m] c[j]→adj g c[i] c[j]:=λi j hi hj hij h1 h2=>by
  have a:=adjm i hi h1;have b:=adjm j hj h2
  refine(h.ad _ _ (hlt _ (List.getElem_mem hi)) (hlt _ (List.getElem_mem hj))).2 ⟨λe=> ?_,by omega,by omega⟩
  have:=hH.nd
  unfold List.Nodup at this
  rw[List.pairwise_iff_getElem] at this
  exact this i j hi hj hij e
 have sy:=CU hg
 by_cases h0:m=0
 ·subst h0
  have:=(hadj (i:=1) (j:=c.length-1) (by omega) (by omega)).1 (two 1 (c.length-1) (by omega) (by omega) (by omega) ((hadj (i:=0) (j:=1) (by omega) (by omega)).2 (.inl rfl)) ((hadj (i:=0) (j:=c.length-1) (by omega) (by omega)).2 (.inr ⟨rfl,rfl⟩)))
  omega
 ·by_cases h1:m=c.length-1
  ·have:=(hadj (i:=0) (j:=c.length-2) (by omega) (by omega)).1 (two 0 (c.length-2) (by omega) (by omega) (by omega) (sy _ _ ((hadj (i:=0) (j:=m) (by omega) hm).2 (.inr ⟨rfl,h1⟩))) (sy _ _ ((hadj (i:=c.length-2) (j:=m) (by omega) hm).2 (.inl (by omega)))))
   omega
  ·have:=(hadj (i:=m-1) (j:=m+1) (by omega) (by omega)).1 (two (m-1) (m+1) (by omega) (by omega) (by omega) (sy _ _ ((hadj (i:=m-1) (j:=m) (by omega) hm).2 (.inl (by omega)))) ((hadj (i:=m) (j:=m+1) (by omega) (by omega)).2 (.inl rfl)))
   omega
theorem iv_iff :(∃L R,Iv g L R)↔¬((∃c,Hole (adj g) c∧∀x∈c,x<g.length)∨∃a b c,AptG g a b c):=by
 constructor
 ·rintro⟨L,R,h⟩ (⟨c,hH,hlt⟩|⟨a,b,c,hA⟩)
  ·exact iv_no_hole hg h hH hlt
  ·exact rp_no_apt (Iv.rp hg h) hA
 ·intro hn
  obtain⟨L,R,h⟩:=lekkerkerker (CU hg) (adj_irr hg) (X:=λx=>x<g.length) ⟨List.range g.length,λx hx=>List.mem_range.2 hx⟩ (λc hH hlt=>hn (.inl ⟨c,hH,hlt⟩)) (λa b c hA=>hn (.inr ⟨a,b,c,hA⟩))
  exact⟨L,R,Rp.iv hg h⟩
end
end Go.Sx

namespace Go.Sx
section
variable {g : LL} (hg : GOk g)
include hg
theorem BI {u v:Nat}(hu:u<g.length)(hv:v<g.length):D.e g (u:Int) (v:Int)=some (decide ((v:Int)∈row g u)):=by
 unfold D.e
 rw[Cp g hg.sh2,Co hg]
 simp only[bs,cond_true,l1There_eq hg hu,l1There_eq hg hv,Dx g hg hu]
def Er (g:LL)(v a b c:Nat):Prop:=adj g v a∧adj g v b∧adj g v c∧¬adj g a b∧¬adj g a c∧¬adj g b c
theorem clawF_ok {i a b c:Nat}(hi:i<g.length)(hab:a<b)(hbc:b<c)(hc:c<g.length){t:Int}(vt:VS t)(hh:∀v,has t v=true↔(v=a∨v=b∨v=c))(s:Int):
  ∃r,D.x0 (g.map mk) ((g.map mk).getD i 0) t s=some (r,t)∧(r=true↔Er g i a b c):=by
 have h16:=hg.n16
 have hF:=FOk.of hg
 have vn:=hF.vs i hi
 have ha':a<g.length:=by omega
 have hb':b<g.length:=by omega
 unfold D.x0
 have nbf:∀{x y:Nat},x<g.length→(nb (g.map mk) x y=false↔¬adj g x y):=λhx=>by
  rw[←BD hg hx,Bool.not_eq_true]
 have hnear:(iandNot .u32 t ((g.map mk).getD i 0)==0)=true↔adj g i a∧adj g i b∧adj g i c:=by
  rw[beq_iff_eq,VS.eq_zero (VS.iandNot _ _)]
  constructor
  ·intro h
   have hx:∀x,(x=a∨x=b∨x=c)→adj g i x:=λx hx=>by
    have hx32:x<32:=by omega
    have:=h x hx32
    rw[AU vt vn,(hh x).2 hx] at this
    exact(BD hg hi).1 (by simpa [nb] using this)
   exact⟨hx a (.inl rfl),hx b (.inr (.inl rfl)),hx c (.inr (.inr rfl))⟩
  ·rintro⟨h1,h2,h3⟩ v _
   rw[AU vt vn]
   cases hv:has t v
   ·rfl
   ·have hav:adj g i v:=by rcases(hh v).1 hv with rfl|rfl|rfl<;>assumption
    have:=(BD hg hi).2 hav
    unfold nb at this
    rw[this];rfl
 rw[Dd h16 hF vt (λv hv=>by rcases(hh v).1 hv with rfl|rfl|rfl<;>omega),mis_three (by omega) vt hab hbc hc hh]
 have hthree:((((bit (!nb (g.map mk) a b)+bit (!nb (g.map mk) a c)+bit (!nb (g.map mk) b c):Nat)):Int)==3)=true↔¬adj g a b∧¬adj g a c∧¬adj g b c:=by
  rw[←nbf ha',←nbf ha',←nbf hb',beq_iff_eq]
  cases nb (g.map mk) a b<;>cases nb (g.map mk) a c<;>cases nb (g.map mk) b c<;>simp[bit]
 cases hx:(iandNot .u32 t ((g.map mk).getD i 0)==0)
 ·rw[cond_false,bs]
  exact⟨false,rfl,λh=>(by cases h),λh=>by rw[hnear.2 ⟨h.1,h.2.1,h.2.2.1⟩] at hx;cases hx⟩
 ·rw[cond_true,bs,bs]
  obtain⟨h1,h2,h3⟩:=hnear.1 hx
  exact⟨_,rfl,by rw[hthree];exact⟨λh=>⟨h1,h2,h3,h⟩,λh=>h.2.2.2⟩⟩
theorem impl_Claw2 :∃r,D.C g=some r∧(r.2=true→∃v a b c:Nat,v<g.length∧r.1=[(v:Int),(a:Int),(b:Int),(c:Int)]∧Er g v a b c):=by
 have h16:=hg.n16
 have h33:=Dk
 have hlF:(g.map mk).length=g.length:=by simp
 unfold D.C
 rw[BL g hg.sh2,Co hg,bs,Bool.not_true,cond_false,CB g hg,bs]
 classical
 have hrow:∀i,i<g.length→∃r,D.s (D.x0 (g.map mk) ((g.map mk).getD i 0)) Bq (((g.map mk).length:Nat):Int) 0 3 0 0=some r∧(r.1=true→VS r.2∧∃a b c:Nat,Al r.2=[(a:Int),(b:Int),(c:Int)]∧Er g i a b c):=λi hi=>by
  let F:Int→Bool:=λt=>decide (∃a b c:Nat,Al t=[(a:Int),(b:Int),(c:Int)]∧Er g i a b c)
  obtain⟨r,e,_,h2⟩:=chR_okP (f:=D.x0 (g.map mk) ((g.map mk).getD i 0)) h16 F 3 Bq 0 0 0 (λt s ht=>by
   obtain⟨a,b,c,hab,hbc,hcn,vt,hh⟩:=(Pick.three h16).1 ht
   obtain⟨q,eq,hq⟩:=clawF_ok hg hi hab hbc hcn vt hh s
   have he:=Ed hab hbc (by omega) hh
   rw[eq]
   have:q=F t:=by
    rw[Bool.eq_iff_iff,hq]
    show _↔decide (∃a b c:Nat,Al t=[(a:Int),(b:Int),(c:Int)]∧Er g i a b c)=true
    rw[decide_eq_true_eq,he]
    constructor
    ·intro h;exact⟨a,b,c,rfl,h⟩
    ·rintro⟨a',b',c',e,h⟩
     simp only[List.cons.injEq,Int.natCast_inj,and_true] at e
     obtain⟨rfl,rfl,rfl⟩:=e
     exact h
   rw[this]) (by omega) (by omega) VS.zero (λv hv=>by rw[A8] at hv;cases hv) (by omega)
  rw[hlF]
  refine⟨r,e,λhr=> ?_⟩
  obtain⟨hp,hFt⟩:=h2 hr
  obtain⟨_,_,_,_,_,_,vt,_⟩:=(Pick.three h16).1 hp
  exact⟨vt,of_decide_eq_true hFt⟩
 have key:∀(d i:Nat),i+d=g.length→∃r,Aq (D.F0 (g.map mk)) (i:Int)=some r∧(r.2=true→∃v a b c:Nat,v<g.length∧r.1=[(v:Int),(a:Int),(b:Int),(c:Int)]∧Er g v a b c):=by
  intro d
  induction d with
  |zero=>
   intro i hi
   obtain rfl:i=g.length:=by omega
   refine⟨([],false),AQ ?_,λh=>(by cases h)⟩
   unfold D.F0
   have:decide ((g.length:Int)<((g.map mk).length:Int))=false:=by simp
   simp only[this,cond_false]
  |succ d ih=>
   intro i hi
   have hil:i<g.length:=by omega
   obtain⟨r,e,h1⟩:=hrow i hil
   have hd:decide ((i:Int)<((g.map mk).length:Int))=true:=by simp;omega
   have hidx:idx (g.map mk) (i:Int)=some ((g.map mk).getD i 0):=by rw[AB (by simpa using hil),AA (by simpa using hil)]
   have hst:D.F0 (g.map mk) (i:Int)=cond r.1 ((D.y r.2).bind λl=>(AP [(i:Int)] l).bind λo=>some (.inr (o,true))) (some (.inl ((i+1:Nat):Int))):=by
    unfold D.F0
    simp only[hd,cond_true,hidx,bs,e,wq i]
   cases hb:r.1
   ·rw[hb,cond_false] at hst
    obtain⟨r',e',h'⟩:=ih (i+1) (by omega)
    exact⟨r',by rw[Bi hst,e'],h'⟩
   ·obtain⟨vt,a,b,c,he,hC⟩:=h1 hb
    rw[hb,cond_true,Ez _ vt,bs,Bm (by rw[he];simp),bs,he] at hst
    exact⟨_,AQ hst,λ_=>⟨i,a,b,c,hil,rfl,hC⟩⟩
 obtain⟨r,e,h⟩:=key g.length 0 (by omega)
 exact⟨r,e,h⟩
theorem DF {x:Nat}(hx:x<g.length):D.B g (x:Int)=some true:=by
 have h16:=hg.n16
 unfold D.B
 rw[BL g hg.sh2,Co hg,bs,cond_true,inRange_eq,bs,bs,w64 (by omega) (by omega)]
 simp;omega
theorem DB {u v w:Nat}(hu:u<g.length)(hv:v<g.length)(hw:w<g.length)(huv:u≠v)(huw:u≠w)(hvw:v≠w)(hn:¬adj g u v)(h1:AvG g w u)(h2:AvG g w v)(h3:Cn (adj g) (AvG g w) v u):
  ∃P,D.t0 g (u:Int) (v:Int) (w:Int)=some (iz P)∧PW g (AvG g w) u v P∧3≤P.length∧P.length≤1000000:=by
 have h16:=hg.n16
 unfold D.t0 D.N0
 rw[DF hg hu,bs,cond_true,DF hg hv,bs,bs,bs,Bool.not_true,cond_false,DF hg hw,bs,bs]
 have e:(((!true)||((u:Int)==(v:Int)))||((u:Int)==(w:Int))||((v:Int)==(w:Int)))=false:=by
  have a1:((u:Int)==(v:Int))=false:=by rw[beq_eq_false_iff_ne];exact λh=>huv (Int.ofNat.inj h)
  have a2:((u:Int)==(w:Int))=false:=by rw[beq_eq_false_iff_ne];exact λh=>huw (Int.ofNat.inj h)
  have a3:((v:Int)==(w:Int))=false:=by rw[beq_eq_false_iff_ne];exact λh=>hvw (Int.ofNat.inj h)
  rw[a1,a2,a3];rfl
 rw[e,cond_false,CB g hg,bs]
 obtain⟨r,er,hr⟩:=C3 hg hu hv hw
 rcases hr with⟨_,hr⟩|⟨_,P,rfl,hP⟩
 ·exact absurd ⟨h1,h2,h3⟩ hr
 have hsh:Sh (iz P):=by
  have:=hP.short
  unfold Sh;rw[Cb];omega
 refine⟨P,?_,hP,?_,by have:=hP.short;omega⟩
 ·rw[er,bs]
  unfold D.H0
  rw[wide_eq _ hsh];rfl
 ·have hne:=hP.ne
  apply Classical.byContradiction
  intro h
  have hlast:=hP.lst;have hfst:=hP.fst
  by_cases hl:P.length=1
  ·have:P[P.length-1]'(by omega)=P[0]'(by omega):=by congr 1;omega
   exact huv (hfst.symm.trans (this.symm.trans hlast))
  ·have hs:=hP.step 0 (by omega)
   have:P[0+1]'(by omega)=P[P.length-1]'(by omega):=by congr 1;omega
   rw[this,hfst,hlast] at hs
   exact hn hs
end
end Go.Sx

namespace Go.Sx
section
variable {g : LL} (hg : GOk g)
include hg
theorem way_loop {u v w:Nat}{P:List Nat}(hw:w<g.length)(hP:PW g (AvG g w) u v P):Aq (σ:=Int) (ρ:=(Unit) ⊕ (Bool)) (fun(x_3683:Int)=>cond (decide (x_3683<((iz P).length:Int))) ((idx (iz P) x_3683).bind λe_3792=>(cond (e_3792==(w:Int)) (some true) ((idx (iz P) x_3683).bind λe_3811=>(D.e g e_3811 (w:Int)).bind λy_3817=>some y_3817)).bind λb_3809=>(cond b_3809 (some true) ((cond (decide ((0:Int)<x_3683)) ((idx (iz P) (IntKind.i64.wrap (x_3683-1))).bind λe_3877=>(idx (iz P) x_3683).bind λe_3883=>(D.e g e_3877 e_3883).bind λy_3889=>some (!y_3889)) (some false)).bind λb_3875=>some b_3875)).bind λb_3856=>cond b_3856 (some (.inr (.inr false))) (some (.inl (IntKind.i64.wrap (x_3683+1))))) (some (.inr (.inl ())))) 0=some (.inl ()):=by
 have hsh:=hP.short
 have h16:=hg.n16
 have:=CT (k:=λz=>some z) (step:=fun(x_3683:Int)=>cond (decide (x_3683<((iz P).length:Int))) ((idx (iz P) x_3683).bind λe_3792=>(cond (e_3792==(w:Int)) (some true) ((idx (iz P) x_3683).bind λe_3811=>(D.e g e_3811 (w:Int)).bind λy_3817=>some y_3817)).bind λb_3809=>(cond b_3809 (some true) ((cond (decide ((0:Int)<x_3683)) ((idx (iz P) (IntKind.i64.wrap (x_3683-1))).bind λe_3877=>(idx (iz P) x_3683).bind λe_3883=>(D.e g e_3877 e_3883).bind λy_3889=>some (!y_3889)) (some false)).bind λb_3875=>some b_3875)).bind λb_3856=>cond b_3856 (some (.inr (.inr false))) (some (.inl (IntKind.i64.wrap (x_3683+1))))) (some (.inr (.inl ()))))
  (s0:=0) (λi=>(i:Int)) P.length (.inl ():Unit ⊕ Bool) rfl (λi hi=> ?_) ?_
 ·have hq:∀q:Option (Unit ⊕ Bool),(q.bind λz=>some z)=some (.inl ())→q=some (.inl ()):=by
   intro q h
   cases q with
   |none=>cases h
   |some x=>exact h
  exact hq _ this
 ·have hx:=hP.inW _ (List.getElem_mem hi)
  have e1:(((P[i]:Nat):Int)==(w:Int))=false:=by rw[beq_eq_false_iff_ne];exact λh=>hx.2.1 (Int.ofNat.inj h)
  have e2:decide ((w:Int)∈row g P[i])=false:=decide_eq_false (λh=>hx.2.2 (CU hg _ _ h))
  have d:decide ((i:Int)<((iz P).length:Int))=true:=by rw[Cb];exact dlt hi
  simp only[d,cond_true,iz_idx hi,bs,e1,cond_false,BI hg hx.1 hw,e2]
  by_cases h0:i=0
  ·subst h0
   simp
   decide
  ·have d0:decide ((0:Int)<(i:Int))=true:=by simp;omega
   have hi1:i-1<P.length:=by omega
   have ew:IntKind.i64.wrap ((i:Int)-1)=((i-1:Nat):Int):=by rw[w64 (by omega) (by omega)];omega
   have hst:=hP.step (i-1) (by omega)
   have e3:P[i-1+1]'(by omega)=P[i]:=by congr 1;omega
   rw[e3] at hst
   have hy:=hP.inW _ (List.getElem_mem hi1)
   have e4:decide (((P[i]:Nat):Int)∈row g P[i-1])=true:=decide_eq_true hst
   simp only[d0,cond_true,ew,iz_idx hi1,bs,BI hg hy.1 hx.1,e4,Bool.not_true,cond_false,wq i]
 ·simp only[Cb,Br,cond_false]
end
theorem EX (code:LI)(hb:∀x∈code,0≤x∧x≤255):D.O0 code=some true:=by
 unfold D.O0 D.X0
 simp only[bs]
 by_cases hl:(4096:Int)<code.length
 ·simp only[hl,decide_true,cond_true]
 ·simp only[hl,decide_false,cond_false]
  obtain⟨z,e1,k1⟩:=roll_ok code 1008 hb (by omega)
  rw[e1,bs]
  obtain⟨⟨g,b,i,z2⟩,e2,hg,hg7,hbb,k2⟩:=w9Graph_ok k1 z 7 (by omega) (by omega)
  dsimp only at hg hg7 k2 hbb
  rw[show (((7:Nat):Nat):Int)=7 from rfl] at e2
  dsimp only
  rw[e2,bs]
  dsimp only
  obtain⟨⟨lp,loop⟩,e3,h3⟩:=spec_loop hg
  obtain⟨⟨three,apart⟩,e4,h4⟩:=apart_ok hg
  obtain⟨iv,e5,h5⟩:=interval_iff hg
  obtain⟨⟨claw,has⟩,e6,h6⟩:=impl_Claw2 hg
  rw[e3,bs,e4,bs,e5,bs]
  dsimp only at h3 h4 h6 ⊢
  have hap:apart=true↔∃a b c,AptG g a b c:=by
   rcases h4 with⟨rfl,h⟩|⟨rfl,a,b,c,_,h⟩
   ·exact⟨λh=>(by cases h),fun⟨a,b,c,h'⟩=>absurd h' (h a b c)⟩
   ·exact⟨λ_=>⟨a,b,c,h⟩,λ_=>rfl⟩
  have hiv:iv= !(loop||apart):=by
   have:iv=true↔¬(loop=true∨apart=true):=by rw[h5,iv_iff hg,h3,hap]
   cases iv<;>cases loop<;>cases apart<;>simp at this ⊢
  have e7:(iv==(loop||apart))=false:=by rw[hiv];cases loop<;>cases apart<;>rfl
  rw[e7,cond_false]
  refine Eq.trans (Db (a:=(Sum.inl ():Unit ⊕ Bool)) ?_) ?_
  ·cases apart
   ·rfl
   rcases h4 with⟨h,_⟩|⟨_,a,b',c,he,hA⟩
   ·cases h
   subst he
   have sy:=CU hg
   obtain⟨ha,hb',hc,n1,n2,n3,a1,a2,a3,p1,p2,p3⟩:=hA
   have A1:=C6 hg hc ha n2 a2;have A2:=C6 hg hc hb' n3 a3
   have B1:=C6 hg hb' ha n1 a1;have B2:=C6 hg hb' hc (Ne.symm n3) (λe=>a3 (sy _ _ e))
   have C1:=C6 hg ha hb' (Ne.symm n1) (λe=>a1 (sy _ _ e));have C2:=C6 hg ha hc (Ne.symm n2) (λe=>a2 (sy _ _ e))
   rw[cond_true]
   have i0:idx [(a:Int),(b':Int),(c:Int)] 0=some (a:Int):=rfl
   have i1:idx [(a:Int),(b':Int),(c:Int)] 1=some (b':Int):=rfl
   have i2:idx [(a:Int),(b':Int),(c:Int)] 2=some (c:Int):=rfl
   have hlen:((([(a:Int),(b':Int),(c:Int)]:LI).length:Int) !=3)=false:=rfl
   have ed:decide ((b':Int)∈row g a)=false:=decide_eq_false a1
   rw[hlen,cond_false,i0,bs,i1,bs,BI hg ha hb',ed,bs,bs,cond_false]
   obtain⟨P1,q1,w1,l1,_⟩:=DB hg hb' hc ha n3 (Ne.symm n1) (Ne.symm n2) a3 C1 C2 (Cn.sym sy C1 p3)
   obtain⟨P2,q2,w2,l2,_⟩:=DB hg hc ha hb' (Ne.symm n2) (Ne.symm n3) n1 (λe=>a2 (sy _ _ e)) B2 B1 p2
   obtain⟨P3,q3,w3,l3,_⟩:=DB hg ha hb' hc n1 n2 n3 a1 A1 A2 (Cn.sym sy A1 p1)
   have t0:Int.tmod 1 3=1:=by decide
   have t1:Int.tmod (IntKind.i64.wrap ((0:Int)+2)) 3=2:=by decide
   have t2:Int.tmod 2 3=2:=by decide
   have t3:Int.tmod (IntKind.i64.wrap ((1:Int)+2)) 3=0:=by decide
   have t4:Int.tmod 3 3=0:=by decide
   have t5:Int.tmod (IntKind.i64.wrap ((2:Int)+2)) 3=1:=by decide
   have d0:decide ((0:Int)<3)=true:=by decide
   have d1:decide ((1:Int)<3)=true:=by decide
   have d2:decide ((2:Int)<3)=true:=by decide
   have d3:decide ((3:Int)<3)=false:=by decide
   have s0:IntKind.i64.wrap ((0:Int)+1)=1:=by decide
   have s1:IntKind.i64.wrap ((1:Int)+1)=2:=by decide
   have s2:IntKind.i64.wrap ((2:Int)+1)=3:=by decide
   have short:∀{P:List Nat},3≤P.length→decide (((iz P).length:Int)<3)=false:=λh=>by rw[Cb];simp;omega
   rw[Bi (s':=1),Bi (s':=2),Bi (s':=3),AQ (r:= .inl ())]
   ·rfl
   ·simp only[d3,cond_false]
   ·simp only[d2,cond_true,i2,bs,t4,t5,i0,i1,q3,short l3,cond_false,s2]
    exact Db (way_loop hg hc w3)
   ·simp only[d1,cond_true,i1,bs,t2,t3,i2,i0,q2,short l2,cond_false,s1]
    exact Db (way_loop hg hb' w2)
   ·simp only[d0,cond_true,i0,bs,t0,t1,i1,i2,q1,short l1,cond_false,s0]
    exact Db (way_loop hg ha w1)
  ·dsimp only
   rw[e6,bs]
   dsimp only
   have eP:D.n0 g=some (!(loop||apart)&& !has):=by
    unfold D.n0
    rw[e6,bs,e5,bs]
    rw[hiv]
   rw[eP]
   have fin:((((!(loop||apart))&& !has)==(((!has)&&(!loop))&&(!apart))):Bool)=true:=by cases loop<;>cases apart<;>cases has<;>rfl
   cases has
   ·rw[cond_false,bs,cond_false,bs,fin]
   ·obtain⟨v,a,b',c,hv,he,x1,x2,x3,y1,y2,y3⟩:=h6 rfl
    subst he
    have ha:=hg.lt hv x1;have hb2:=hg.lt hv x2;have hc:=hg.lt hv x3
    have i0:idx [(v:Int),(a:Int),(b':Int),(c:Int)] 0=some (v:Int):=rfl
    have i1:idx [(v:Int),(a:Int),(b':Int),(c:Int)] 1=some (a:Int):=rfl
    have i2:idx [(v:Int),(a:Int),(b':Int),(c:Int)] 2=some (b':Int):=rfl
    have i3:idx [(v:Int),(a:Int),(b':Int),(c:Int)] 3=some (c:Int):=rfl
    have hlen:((([(v:Int),(a:Int),(b':Int),(c:Int)]:LI).length:Int) !=4)=false:=rfl
    have f1:decide ((a:Int)∈row g v)=true:=decide_eq_true x1
    have f2:decide ((b':Int)∈row g v)=true:=decide_eq_true x2
    have f3:decide ((c:Int)∈row g v)=true:=decide_eq_true x3
    have f4:decide ((b':Int)∈row g a)=false:=decide_eq_false y1
    have f5:decide ((c:Int)∈row g a)=false:=decide_eq_false y2
    have f6:decide ((c:Int)∈row g b')=false:=decide_eq_false y3
    simp only[cond_true,hlen,cond_false,i0,i1,i2,i3,bs,BI hg hv ha,BI hg hv hb2,BI hg hv hc,BI hg ha hb2,BI hg ha hc,BI hg hb2 hc,f1,f2,f3,f4,f5,f6,Bool.not_true]
    cases loop<;>cases apart<;>rfl
end Go.Sx
