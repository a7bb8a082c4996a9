/- Parts. -/
import Derived.Test.YtkoehcencogjpaaGreatDoorM6
set_option linter.unusedVariables false
set_option linter.unusedSimpArgs false
set_option linter.unusedSectionVars false
namespace Go.Sx
theorem into_elems' {s:Int}(hs:VS s){v:Nat}(hv:v<32):into (Ap s) (v:Int)=Ap (ior .u32 s (ishl .u32 1 (v:Int))):=by
 refine Inc.ext ((BD _).into _) (BD _) (λz=> ?_)
 rw[mem_into,mem_elems,mem_elems]
 constructor
 ·rintro(rfl|⟨w,h3,h4,rfl⟩)
  ·exact⟨v,hv,by rw[CV hs (VS.ishl _ _),B3 hv];simp,rfl⟩
  ·exact⟨w,h3,by rw[CV hs (VS.ishl _ _),h4];rfl,rfl⟩
 ·rintro⟨w,h3,h4,rfl⟩
  rw[CV hs (VS.ishl _ _),B3 hv,Bool.or_eq_true] at h4
  rcases h4 with h4|h4
  ·exact .inr ⟨w,h3,h4,rfl⟩
  ·exact .inl (by rw[of_decide_eq_true h4])
theorem CM {o:LI}(h:o.Nodup){i j:Nat}(hi:i<o.length)(hj:j<o.length)(e:o[i]=o[j]):i=j:=by
 rcases Nat.lt_trichotomy i j with c|c|c
 ·exact absurd (mem_take_iff.2 ⟨i,hi,c,e⟩) (nodup_iff.1 h j hj)
 ·exact c
 ·exact absurd (mem_take_iff.2 ⟨j,hj,c,e.symm⟩) (nodup_iff.1 h i hi)
theorem ins_last {l:LI}{xs:LL}(h:∀x∈xs,Bt x≤Bt l):ins l xs=xs++[l]:=by
 have e:Dj l xs=xs.length:=by
  unfold Dj
  rw[List.findIdx_eq_length]
  intro x hx
  have:=h x hx
  simp;omega
 unfold ins
 rw[e];simp
def nxt (o l:LI)(i:Nat):Nat:=(i+1)+(o.drop (i+1)).findIdx (λx=>decide (l=[])||decide (x∈l))
theorem nxt_gt (o l:LI)(i:Nat):i<nxt o l i:=by unfold nxt;omega
theorem to_loop (o l:LI)(hl:Sh l)(ho:o.length≤1000000)(i:Nat)(hi:i<o.length):
  (As (σ:=Int) (ρ:=Int) (fun(x:Int)=>(cond ((decide (x<(o.length:Int)))&&(decide ((0:Int)<(l.length:Int)))) ((idx o x).bind λe=>(D.c l e).bind λy=>some (!y)) (some false)).bind λb=>cond b (some (.inl (IntKind.i64.wrap (x+1)))) (some (.inr x))) ((i+1:Nat):Int))=some ((nxt o l i:Nat):Int):=by
 have hk:=List.findIdx_le_length (p:=λx=>decide (l=[])||decide (x∈l)) (xs:=o.drop (i+1))
 have key:=BP (step:=(fun(x:Int)=>(cond ((decide (x<(o.length:Int)))&&(decide ((0:Int)<(l.length:Int)))) ((idx o x).bind λe=>(D.c l e).bind λy=>some (!y)) (some false)).bind λb=>cond b (some (.inl (IntKind.i64.wrap (x+1)))) (some (.inr x)))) (k:=λr=>some r) (s0:=((i+1:Nat):Int)) (λj=>((i+1+j:Nat):Int)) ((o.drop (i+1)).findIdx (λx=>decide (l=[])||decide (x∈l))) ((nxt o l i:Nat):Int) rfl (λj hj=> ?_) ?_
 ·rw[Option.bind_eq_some_iff] at key
  obtain⟨a,h1,h2⟩:=key
  cases h2;exact h1
 ·have h1:=List.not_of_lt_findIdx hj
  simp only[List.length_drop] at hk
  have hx:i+1+j<o.length:=by omega
  simp only[Bool.not_eq_true,Bool.or_eq_false_iff,decide_eq_false_iff_not,List.getElem_drop] at h1
  have hp:(decide ((0:Int)<(l.length:Int)))=true:=by
   have:=List.length_pos_iff.2 h1.1
   simp;omega
  simp only[dlt hx,hp,Bool.and_self,cond_true,Au hx,bs,Cb _ _ hl,h1.2,decide_false,Bool.not_false,wi (show i+1+j<4611686018427387904 by omega)]
  rfl
 ·show _=some (Sum.inr ((nxt o l i:Nat):Int))
  have e:((i+1+(o.drop (i+1)).findIdx (λx=>decide (l=[])||decide (x∈l)):Nat):Int)=((nxt o l i:Nat):Int):=rfl
  rw[e]
  by_cases hx:nxt o l i<o.length
  ·have h1:=List.findIdx_getElem (p:=λx=>decide (l=[])||decide (x∈l)) (xs:=o.drop (i+1)) (w:=by unfold nxt at hx;simp;omega)
   simp only[List.getElem_drop,Bool.or_eq_true,decide_eq_true_eq] at h1
   by_cases hn:l=[]
   ·subst hn;simp
   ·have h2:o[nxt o l i]∈l:=by rcases h1 with h1|h1;exact absurd h1 hn;exact h1
    have hp:(decide ((0:Int)<(l.length:Int)))=true:=by
     have:=List.length_pos_iff.2 hn
     simp;omega
    simp only[dlt hx,hp,Bool.and_self,cond_true,Au hx,bs,Cb _ _ hl,h2,decide_true,Bool.not_true,cond_false]
  ·have:(decide (((nxt o l i:Nat):Int)<(o.length:Int)))=false:=by simp;omega
   simp only[this,Bool.false_and,cond_false,bs]
section
variable {g : LL} {o F L : LI} (hg : GOk g) (ho : OOk g o) (hF : Fill g o F L)
include hg ho hF
theorem Fill.efF :F=(ef g o g.length).1∧L=(ef g o g.length).2.1:=by
 have h:=hF.elim
 rw[elim_ef hg ho] at h
 have:=Option.some.inj h
 exact⟨(congrArg (·.1) this).symm,(congrArg (·.2) this).symm⟩
theorem l7Later_eq :D.c1 g o=some (L.map Ap):=by
 have h16:=hg.n16;have hn1:=hg.n1;have hl:=ho.len
 have hLl:=hF.lenL
 unfold D.c1 D.a
 rw[l7Fill_ef hg ho,bs,←(hF.efF hg ho).1,bs,CI (by omega) (by omega),bs,bs,CI (by omega) (by omega),bs]
 have hG:=GOk.grow hF.f hn1 h16
 have hGl:(grow F).length=g.length:=by rw[Dd,hF.f.len]
 refine(BP (λi=>(Ca g.length (ef g o i).2.2,(List.range g.length).map (λv=>if((v:Nat):Int)∈o.take i then Ap (L.getD v 0) else []),(i:Int))) g.length (L.map Ap) ?_ (λi hi=> ?_) ?_).trans rfl
 ·have:(ef g o 0).2.2=full g.length:=rfl
  rw[this,←FK h16]
  congr 2
  apply List.ext_getElem
  ·simp
  ·intro j h1 h2;simp
 ·have h:=Ev hg ho i (by omega)
  have h':=Ev hg ho (i+1) (by omega)
  have hio:i<o.length:=by omega
  have hr:=ho.rng _ (List.getElem_mem hio)
  obtain⟨v,hv⟩:∃v:Nat,o[i]=(v:Int):=⟨o[i].toNat,by omega⟩
  have hvn:v<g.length:=by omega
  have hd:o.getD i 0=(v:Int):=by rw[AD hio,hv]
  have hs':(ef g o (i+1)).2.2=iandNot .u32 (ef g o i).2.2 (ishl .u32 1 (v:Int)):=by simp only[ef,hd]
  rw[hs'] at h' ⊢
  have hl7:=l7Left_eq (grow F) hG (show v<(grow F).length by omega) (Ca g.length (iandNot .u32 (ef g o i).2.2 (ishl .u32 1 (v:Int)))) (by rw[DU];omega)
  simp only[dlt hio,cond_true,Au hio,hv,bs,goneOf_idx hvn,Int.toNat_natCast,goneOf_set h.vsl hvn (show g.length≤32 by omega),hl7,Au (show v<((List.range g.length).map (λv=>if((v:Nat):Int)∈o.take i then Ap (L.getD v 0) else [])).length by simpa using hvn),wq i]
  rw[lft_grow hn1 h16 hF.f (VS.iandNot _ _) hvn]
  have hel:iand .u32 (F.getD v 0) (iandNot .u32 (ef g o i).2.2 (ishl .u32 1 (v:Int)))=L.getD v 0:=by
   refine(VS.iand _ _).ext (hF.vsL v hvn) (λw _=> ?_)
   rw[Ch (hF.f.vs v hvn) (VS.iandNot _ _),h'.left]
   have hlat:=hF.lat i v hi (by rw[List.getElem?_eq_getElem hio,hv]) w
   unfold nb at hlat
   rw[hlat,Bool.eq_iff_iff]
   simp only[Bool.and_eq_true,decide_eq_true_eq]
   exact⟨fun⟨a,_,c⟩=>⟨a,c⟩,fun⟨a,c⟩=>⟨a,hF.f.lt v w hvn a,c⟩⟩
  rw[hel]
  congr 4
  apply List.ext_getElem
  ·simp
  ·intro j h1 h2
   rw[List.getElem_set]
   simp only[List.getElem_map,List.getElem_range]
   have htk:((j:Int)∈o.take (i+1))↔((j:Int)∈o.take i∨j=v):=by
    rw[List.take_succ_eq_append_getElem hio,List.mem_append,hv];simp[Int.natCast_inj]
   by_cases e:v=j
   ·subst e
    rw[if_pos rfl,if_pos (htk.2 (.inr rfl))]
   ·rw[if_neg e]
    by_cases hm:(j:Int)∈o.take i
    ·rw[if_pos hm,if_pos (htk.2 (.inl hm))]
    ·rw[if_neg hm,if_neg (λhh=>(htk.1 hh).elim hm (λe'=>e e'.symm))]
 ·simp only[hl,Ba,cond_false]
  congr 2
  apply List.ext_getElem
  ·simp[hLl]
  ·intro j h1 h2
   simp only[List.getElem_map,List.getElem_range]
   obtain⟨q,hq,hq2⟩:=DP ho (v:=j) (by simpa using h1)
   rw[if_pos,AD (by simpa using h2)]
   rw[←hl,List.take_length]
   exact List.mem_of_getElem? hq2
theorem later_pos {i v m:Nat}(hi:o[i]? =some (v:Int))(hm:m<o.length)(h:o[m]∈Ap (L.getD v 0)):i+1≤m:=by
 have hl:=ho.len
 obtain⟨hio,hv⟩:=List.getElem?_eq_some_iff.1 hi
 have hr:=ho.rng _ (List.getElem_mem hio)
 obtain⟨w,_,h2,h3⟩:=mem_elems.1 h
 have hlat:=hF.lat i v (by omega) hi w
 unfold nb at hlat
 rw[hlat] at h2
 simp only[Bool.and_eq_true,decide_eq_true_eq] at h2
 apply Classical.byContradiction
 intro hc
 exact h2.2 (mem_take_iff.2 ⟨m,hm,by omega,h3⟩)
theorem later_in {v:Nat}(hv:v<g.length){x:Int}(h:x∈Ap (L.getD v 0)):∃m:Nat,∃hm:m<o.length,o[m]=x∧0≤x∧x<g.length:=by
 have hl:=ho.len
 obtain⟨i,h1,h2⟩:=DP ho hv
 obtain⟨w,_,h3,rfl⟩:=mem_elems.1 h
 have hlat:=hF.lat i v h1 h2 w
 unfold nb at hlat
 rw[hlat] at h3
 simp only[Bool.and_eq_true,decide_eq_true_eq] at h3
 have hw:=hF.f.lt v w hv h3.1
 obtain⟨m,h4,h5⟩:=DP ho hw
 obtain⟨h6,h7⟩:=List.getElem?_eq_some_iff.1 h5
 exact⟨m,h6,h7,by omega,by omega⟩
noncomputable def Cc (o L:LI)(i:Nat):LI:=into (Ap (L.getD (o.getD i 0).toNat 0)) (o.getD i 0)
noncomputable def CJ (o L:LI)(i:Nat):LI:=B7 (i:Int) ((nxt o (Ap (L.getD (o.getD i 0).toNat 0)) i:Nat):Int)
omit hg ho hF in
theorem D5 (i:Nat):CJ o L i=[(i:Int),((nxt o (Ap (L.getD (o.getD i 0).toNat 0)) i:Nat):Int)]:=by
 have:=nxt_gt o (Ap (L.getD (o.getD i 0).toNat 0)) i
 unfold CJ B7
 rw[show min (i:Int) ((nxt o (Ap (L.getD (o.getD i 0).toNat 0)) i:Nat):Int)=i by omega,show max (i:Int) ((nxt o (Ap (L.getD (o.getD i 0).toNat 0)) i:Nat):Int)=((nxt o (Ap (L.getD (o.getD i 0).toNat 0)) i:Nat):Int) by omega]
omit hg ho hF in
theorem nxt_le (l:LI){i:Nat}(hi:i<o.length):nxt o l i≤o.length:=by
 have hk:=List.findIdx_le_length (p:=λx=>decide (l=[])||decide (x∈l)) (xs:=o.drop (i+1))
 simp at hk
 unfold nxt;omega
theorem nxt_lt {i:Nat}(hi:i+1<o.length):nxt o (Ap (L.getD (o.getD i 0).toNat 0)) i<o.length:=by
 have hio:i<o.length:=by omega
 have hl:=ho.len
 have hr:=ho.rng _ (List.getElem_mem hio)
 obtain⟨v,hv⟩:∃v:Nat,o[i]=(v:Int):=⟨o[i].toNat,by omega⟩
 have hvn:v<g.length:=by omega
 have hd:o.getD i 0=(v:Int):=by rw[AD hio,hv]
 rw[hd,Int.toNat_natCast]
 have hin:=λx hx=>later_in hg ho hF hvn (x:=x) hx
 have hps:=λm hm hh=>later_pos hg ho hF (i:=i) (v:=v) (m:=m) (by rw[List.getElem?_eq_getElem hio,hv]) hm hh
 generalize Ap (L.getD v 0)=l at hin hps ⊢
 have:(o.drop (i+1)).findIdx (λx=>decide (l=[])||decide (x∈l))<(o.drop (i+1)).length:=by
  rw[List.findIdx_lt_length]
  by_cases hn:l=[]
  ·exact⟨(o.drop (i+1))[0]'(by simp;omega),List.getElem_mem _,by simp[hn]⟩
  ·obtain⟨x,hx⟩:=List.exists_mem_of_ne_nil _ hn
   obtain⟨m,hm,hmx,_⟩:=hin x hx
   have hp:=hps m hm (by rw[hmx];exact hx)
   refine⟨x,?_,by simp[hx]⟩
   have:(o.drop (i+1))[m-(i+1)]'(by simp;omega)=x:=by
    rw[List.getElem_drop,←hmx];congr 1;omega
   rw[←this];exact List.getElem_mem _
 unfold nxt
 simp at this
 omega
theorem E9 {i:Nat}(hi:i<o.length):Co (CJ o L i):=by
 have h1:=nxt_le (o:=o) (Ap (L.getD (o.getD i 0).toNat 0)) hi
 have h16:=hg.n16;have hl:=ho.len
 rw[D5]
 refine⟨rfl,?_⟩
 simp only[List.getD_cons_zero,List.getD_cons_succ]
 omega
theorem lnkD_le {i j:Nat}(hij:i<j)(hj:j<o.length):Bt (CJ o L i)≤Bt (CJ o L j):=by
 have h1:=nxt_le (o:=o) (Ap (L.getD (o.getD i 0).toNat 0)) (show i<o.length by omega)
 have h16:=hg.n16;have hl:=ho.len
 rw[D5,D5]
 unfold Bt
 simp only[List.getD_cons_zero,List.getD_cons_succ]
 omega
theorem bagD_mask {i v:Nat}(hi:i<o.length)(hv:o[i]=(v:Int))(hvn:v<g.length):Ap (ior .u32 (L.getD v 0) (ishl .u32 1 (v:Int)))=Cc o L i:=by
 have h16:=hg.n16
 unfold Cc
 rw[AD hi,hv,Int.toNat_natCast,into_elems' (hF.vsL v hvn) (by omega)]
theorem FW :D.Y g o=some ((List.range o.length).map (Cc o L),(List.range (o.length-1)).map (CJ o L),true):=by
 have h16:=hg.n16;have hl:=ho.len;have hn1:=hg.n1
 unfold D.Y
 rw[F8 g o hg.sh2 (ho.sh hg),gB_true hg,(ordB_iff g o).2 ho,bs,Bool.and_self,Bool.not_true,cond_false,l7Later_eq hg ho hF,bs]
 refine(BP (λi=>((i:Int),(List.range i).map (Cc o L),(List.range (min i (o.length-1))).map (CJ o L))) o.length ((List.range o.length).map (Cc o L),(List.range (o.length-1)).map (CJ o L)) (by simp) (λi hi=> ?_) ?_).trans rfl
 ·have hr:=ho.rng _ (List.getElem_mem hi)
  obtain⟨v,hv⟩:∃v:Nat,o[i]=(v:Int):=⟨o[i].toNat,by omega⟩
  have hvn:v<g.length:=by omega
  have hvL:v<L.length:=by rw[hF.lenL];exact hvn
  have hd:o.getD i 0=(v:Int):=by rw[AD hi,hv]
  have he:=BO L[v]
  have hsh:Sh (Ap L[v]):=by unfold Sh;omega
  have hgL:L.getD v 0=L[v]:=AD hvL 0
  simp only[dlt hi,cond_true,Au hi,hv,bs,Au (show v<(L.map Ap).length by simpa using hvL),List.getElem_map,C9 _ hsh,Dt _ _ (BD _) (show (Ap L[v]).length≤4294967295 by omega)]
  rw[AR (by simp;omega),bs,wq i,to_loop o (Ap L[v]) hsh (by omega) i hi,bs]
  have eb:Cc o L i=into (Ap L[v]) (v:Int):=by unfold Cc;rw[hd,Int.toNat_natCast,hgL]
  by_cases hlast:i+1<o.length
  ·have hx:=nxt_lt hg ho hF hlast
   have el:B7 (i:Int) ((nxt o (Ap L[v]) i:Nat):Int)=CJ o L i:=by unfold CJ;rw[hd,Int.toNat_natCast,hgL]
   rw[hd,Int.toNat_natCast,hgL] at hx
   rw[dlt hx,cond_true,Fa (λx hx=> ?_) (by rw[el];exact E9 hg ho hF hi) (by simp;omega),bs,el,ins_last (λx hx=> ?_)]
   ·rw[show min i (o.length-1)=i by omega,show min (i+1) (o.length-1)=i+1 by omega,List.range_succ,List.map_append,List.map_append,List.map_singleton,List.map_singleton,eb]
   ·obtain⟨j,hj,rfl⟩:=List.mem_map.1 hx
    have:=List.mem_range.1 hj
    exact lnkD_le hg ho hF (by omega) hi
   ·obtain⟨j,hj,rfl⟩:=List.mem_map.1 hx
    have:=List.mem_range.1 hj
    exact E9 hg ho hF (by omega)
  ·have hx:nxt o (Ap L[v]) i=o.length:=by
    have h1:=nxt_le (o:=o) (Ap L[v]) hi
    have h2:=nxt_gt o (Ap L[v]) i
    omega
   rw[hx,Ba,cond_false,show min i (o.length-1)=o.length-1 by omega,show min (i+1) (o.length-1)=o.length-1 by omega,List.range_succ,List.map_append,List.map_singleton,eb]
 ·simp only[Ba,cond_false]
  rw[show min o.length (o.length-1)=o.length-1 by omega]
theorem places_ok (l0:LI)(hl0:l0.length=g.length):∃P,(As (σ:=LI×Int) (ρ:=(LI)) (fun(s_59:LI×Int)=>match s_59 with|(l_62,x_65)=>cond (decide (x_65<(o.length:Int))) ((idx o x_65).bind λe_86=>(idx l_62 e_86).bind λe_92=>some (.inl ((l_62.set (Int.toNat e_86) x_65),(IntKind.i64.wrap (x_65+1))))) (some (.inr l_62))) (l0,0))=some P∧P.length=g.length∧∀i (h:i<o.length),P.getD (o[i]).toNat 0=(i:Int):=by
 have h16:=hg.n16;have hl:=ho.len
 have key:=AY (step:=(fun(s_59:LI×Int)=>match s_59 with|(l_62,x_65)=>cond (decide (x_65<(o.length:Int))) ((idx o x_65).bind λe_86=>(idx l_62 e_86).bind λe_92=>some (.inl ((l_62.set (Int.toNat e_86) x_65),(IntKind.i64.wrap (x_65+1))))) (some (.inr l_62)))) (s:=(l0,0)) (k:=λr=>some r) (Q:=λP:LI=>P.length=g.length∧∀i (h:i<o.length),P.getD (o[i]).toNat 0=(i:Int))
  (λs=>∃i:Nat,s.2=(i:Int)∧i≤o.length∧s.1.length=g.length∧∀j (h:j<o.length),j<i→s.1.getD (o[j]).toNat 0=(j:Int)) (λs=>o.length-s.2.toNat) (λP=>P.length=g.length∧∀i (h:i<o.length),P.getD (o[i]).toNat 0=(i:Int)) ?_ ⟨0,rfl,by omega,hl0,λj _ h=>by omega⟩ (λr hr=>⟨r,rfl,hr⟩)
 ·obtain⟨y,hy,hq⟩:=key
  rw[Option.bind_eq_some_iff] at hy
  obtain⟨z,h1,h2⟩:=hy
  cases h2
  exact⟨_,h1,hq⟩
 ·rintro⟨P,_⟩ ⟨i,rfl,hi,hP,hPp⟩
  dsimp only at hP hPp ⊢
  by_cases hil:i<o.length
  ·have hr:=ho.rng _ (List.getElem_mem hil)
   obtain⟨v,hv⟩:∃v:Nat,o[i]=(v:Int):=⟨o[i].toNat,by omega⟩
   have hvn:v<g.length:=by omega
   simp only[dlt hil,cond_true,Au hil,hv,bs,Au (show v<P.length by omega),Int.toNat_natCast,wq i]
   refine⟨_,rfl,⟨i+1,rfl,hil,by simpa using hP,λj hj hji=> ?_⟩,by dsimp only;omega⟩
   dsimp only
   rw[Db _ _ _ _ (by omega)]
   have hrj:=ho.rng _ (List.getElem_mem hj)
   by_cases e:j=i
   ·subst e;rw[hv];simp
   ·rw[if_neg]
    ·exact hPp j hj (by omega)
    ·intro hc
     have:o[j]=o[i]:=by omega
     exact e (CM ho.nd hj hil this)
  ·obtain rfl:i=o.length:=by omega
   simp only[Ba,cond_false]
   exact⟨_,rfl,hP,λj hj=>hPp j hj hj⟩
theorem least_ok {P l:LI}{i:Nat}(hi:i<o.length)(hP:P.length=g.length)(hPp:∀i (h:i<o.length),P.getD (o[i]).toNat 0=(i:Int))(hl32:l.length≤32)
  (hin:∀x∈l,∃m:Nat,∃hm:m<o.length,o[m]=x∧0≤x∧x<g.length) (hpos:∀m (hm:m<o.length),o[m]∈l→i+1≤m):
  (As (σ:=Int×Int) (ρ:=(Int)) (fun(s_1068:Int×Int)=>match s_1068 with|(x_1071,x_1072)=>cond (decide (x_1072<(l.length:Int))) ((idx l x_1072).bind λe_1115=>(cond (x_1072==0) (some true) ((idx P e_1115).bind λe_1138=>some (decide (e_1138<x_1071)))).bind λb_1136=>cond b_1136 ((idx P e_1115).bind λe_1145=>some (.inl (e_1145,(IntKind.i64.wrap (x_1072+1))))) (some (.inl (x_1071,(IntKind.i64.wrap (x_1072+1)))))) (some (.inr x_1071))) (((i+1:Nat):Int),0))=some ((nxt o l i:Nat):Int):=by
 have key:=AY (step:=(fun(s_1068:Int×Int)=>match s_1068 with|(x_1071,x_1072)=>cond (decide (x_1072<(l.length:Int))) ((idx l x_1072).bind λe_1115=>(cond (x_1072==0) (some true) ((idx P e_1115).bind λe_1138=>some (decide (e_1138<x_1071)))).bind λb_1136=>cond b_1136 ((idx P e_1115).bind λe_1145=>some (.inl (e_1145,(IntKind.i64.wrap (x_1072+1))))) (some (.inl (x_1071,(IntKind.i64.wrap (x_1072+1)))))) (some (.inr x_1071)))) (s:=(((i+1:Nat):Int),0)) (k:=λr=>some r) (Q:=λx=>x=((nxt o l i:Nat):Int))
  (λs=>∃k:Nat,s.2=(k:Int)∧k≤l.length∧(k=0→s.1=((i+1:Nat):Int))∧(0<k→∃m:Nat,s.1=(m:Int)∧(∃hm:m<o.length,o[m]∈l.take k)∧∀m' (hm':m'<o.length),o[m']∈l.take k→m≤m')) (λs=>l.length-s.2.toNat) (λx=>x=((nxt o l i:Nat):Int)) ?_ ⟨0,rfl,by omega,λ_=>rfl,λh=>by omega⟩ (λr hr=>⟨r,rfl,hr⟩)
 ·obtain⟨y,hy,hq⟩:=key
  rw[Option.bind_eq_some_iff] at hy
  obtain⟨z,h1,h2⟩:=hy
  cases h2
  rw[h1,hq]
 ·rintro⟨x,_⟩ ⟨k,rfl,hk,h0,h1⟩
  dsimp only at h0 h1 ⊢
  by_cases hkl:k<l.length
  ·obtain⟨m,hm,hmx,hx0,hxg⟩:=hin _ (List.getElem_mem hkl)
   have hidx:idx P l[k]=some (m:Int):=by
    rw[idx_int hx0 (by omega)]
    have:=hPp m hm
    rw[hmx,AD (by omega)] at this
    rw[this]
   have hnew:∀m' (hm':m'<o.length),o[m']∈l.take (k+1)→o[m']∈l.take k∨m'=m:=λm' hm' hh=>by
    rw[List.take_succ_eq_append_getElem hkl,List.mem_append] at hh
    rcases hh with hh|hh
    ·exact .inl hh
    ·right
     simp at hh
     rw[←hmx] at hh
     exact CM ho.nd hm' hm hh
   have hmm:o[m]∈l.take (k+1):=by
    rw[List.take_succ_eq_append_getElem hkl,List.mem_append,hmx];right;simp
   simp only[dlt hkl,cond_true,Au hkl,bs,hidx,wq k]
   rcases Nat.eq_zero_or_pos k with e|e
   ·subst e
    refine⟨.inl ((m:Int),((0+1:Nat):Int)),rfl,⟨1,rfl,by omega,λh=>by omega,λ_=>⟨m,rfl,⟨hm,hmm⟩,λm' hm' hh=> ?_⟩⟩,by dsimp only;omega⟩
    rcases hnew m' hm' hh with h|h
    ·simp at h
    ·omega
   ·have ek:(((k:Nat):Int)==0)=false:=by simp;omega
    obtain⟨q,rfl,⟨hq,hql⟩,hqm⟩:=h1 e
    rw[ek,cond_false,bs]
    by_cases hlt:(m:Int)<(q:Int)
    ·rw[decide_eq_true hlt,cond_true]
     refine⟨_,rfl,⟨k+1,rfl,hkl,λh=>by omega,λ_=>⟨m,rfl,⟨hm,hmm⟩,λm' hm' hh=> ?_⟩⟩,by dsimp only;omega⟩
     rcases hnew m' hm' hh with h|h
     ·have:=hqm m' hm' h;omega
     ·omega
    ·rw[decide_eq_false hlt,cond_false]
     refine⟨_,rfl,⟨k+1,rfl,hkl,λh=>by omega,λ_=>⟨q,rfl,⟨hq,?_⟩,λm' hm' hh=> ?_⟩⟩,by dsimp only;omega⟩
     ·rw[List.take_succ_eq_append_getElem hkl,List.mem_append];exact .inl hql
     ·rcases hnew m' hm' hh with h|h
      ·exact hqm m' hm' h
      ·omega
  ·obtain rfl:k=l.length:=by omega
   simp only[Ba,cond_false]
   refine⟨_,rfl,?_⟩
   show x=_
   by_cases hn:l=[]
   ·subst hn
    rw[h0 rfl]
    unfold nxt
    cases hd:o.drop (i+1) with
    |nil=>simp
    |cons a t=>simp[List.findIdx_cons]
   ·obtain⟨m,rfl,⟨hm,hml⟩,hmin⟩:=h1 (List.length_pos_iff.2 hn)
    rw[List.take_length] at hml
    simp only[List.take_length] at hmin
    have hmp:=hpos m hm hml
    have:(o.drop (i+1)).findIdx (λx=>decide (l=[])||decide (x∈l))=m-(i+1):=by
     rw[List.findIdx_eq (by simp;omega)]
     refine⟨?_,λj hj=> ?_⟩
     ·have:(o.drop (i+1))[m-(i+1)]'(by simp;omega)=o[m]:=by
       rw[List.getElem_drop];congr 1;omega
      rw[this];simp[hml]
     ·rw[List.getElem_drop]
      simp only[hn,decide_false,Bool.false_or,decide_eq_false_iff_not]
      intro hh
      have:=hmin (i+1+j) (by omega) hh
      omega
    unfold nxt
    rw[this]
    omega
theorem FY :D.Q0 (g.map mk) o=some ((List.range o.length).map (Cc o L),(List.range (o.length-1)).map (CJ o L)):=by
 have h16:=hg.n16;have hl:=ho.len;have hn1:=hg.n1
 unfold D.Q0
 rw[hF.elim,bs,CI (by omega) (by omega),bs]
 obtain⟨P,e1,hP,hPp⟩:=places_ok hg ho hF (List.replicate o.length 0) (by simpa using hl)
 rw[e1,bs]
 have hsort:CO ((List.range (o.length-1)).map (CJ o L))=some ((List.range (o.length-1)).map (CJ o L)):=by
  refine sortRows_ok (by simp;omega) (λx hx=> ?_) (List.Perm.refl _) ?_
  ·obtain⟨j,hj,rfl⟩:=List.mem_map.1 hx
   have:=List.mem_range.1 hj
   exact E9 hg ho hF (by omega)
  ·rw[List.pairwise_map]
   refine List.pairwise_lt_range.imp_of_mem (fun{a b} ha hb hab=> ?_)
   have:=List.mem_range.1 hb
   exact lnkD_le hg ho hF hab (by omega)
 refine(BP (λi=>((i:Int),(List.range i).map (Cc o L),(List.range i).map (CJ o L))) (o.length-1) ((List.range o.length).map (Cc o L),(List.range (o.length-1)).map (CJ o L)) (by simp) (λi hi=> ?_) ?_).trans ?_
 ·have hio:i<o.length:=by omega
  have hr:=ho.rng _ (List.getElem_mem hio)
  obtain⟨v,hv⟩:∃v:Nat,o[i]=(v:Int):=⟨o[i].toNat,by omega⟩
  have hvn:v<g.length:=by omega
  have hvL:v<L.length:=by rw[hF.lenL];exact hvn
  have hd:o.getD i 0=(v:Int):=by rw[AD hio,hv]
  have hgL:L.getD v 0=L[v]:=AD hvL 0
  have hlast:(((i:Nat):Int)==IntKind.i64.wrap ((o.length:Int)-1))=false:=by
   rw[w64 (by omega) (by omega)];simp;omega
  have hvs:=hF.vsL v hvn
  have hbag:=bagD_mask hg ho hF hio hv hvn
  rw[hgL] at hvs hbag
  have he:=BO L[v]
  simp only[dlt hio,cond_true,Au hio,hv,bs,Au hvL,B2,EK _ (VS.ior _ _),hbag,hlast,cond_false,C5 _ hvs]
  rw[AR (by simp;omega),bs,wq i]
  rw[least_ok hg ho hF hio hP hPp (by omega) (λx hx=>later_in hg ho hF hvn (by rw[hgL];exact hx)) (λm hm hh=>later_pos hg ho hF (i:=i) (v:=v) (by rw[List.getElem?_eq_getElem hio,hv]) hm (by rw[hgL];exact hh)),bs,EY,bs,AR (by simp;omega),bs]
  have el:B7 (i:Int) ((nxt o (Ap L[v]) i:Nat):Int)=CJ o L i:=by unfold CJ;rw[hd,Int.toNat_natCast,hgL]
  rw[el,List.range_succ,List.map_append,List.map_append,List.map_singleton,List.map_singleton]
 ·have hio:o.length-1<o.length:=by omega
  have hr:=ho.rng _ (List.getElem_mem hio)
  obtain⟨v,hv⟩:∃v:Nat,o[o.length-1]=(v:Int):=⟨o[o.length-1].toNat,by omega⟩
  have hvn:v<g.length:=by omega
  have hvL:v<L.length:=by rw[hF.lenL];exact hvn
  have hgL:L.getD v 0=L[v]:=AD hvL 0
  have hlast:(((o.length-1:Nat):Int)==IntKind.i64.wrap ((o.length:Int)-1))=true:=by
   rw[w64 (by omega) (by omega)];simp;omega
  have hbag:=bagD_mask hg ho hF hio hv hvn
  rw[hgL] at hbag
  simp only[dlt hio,cond_true,Au hio,hv,bs,Au hvL,B2,EK _ (VS.ior _ _),hbag,hlast]
  rw[AR (by simp;omega),bs]
  have:(List.range o.length).map (Cc o L)=(List.range (o.length-1)).map (Cc o L)++[Cc o L (o.length-1)]:=by
   have e:o.length=(o.length-1)+1:=by omega
   conv=>lhs;rw[e,List.range_succ,List.map_append,List.map_singleton]
  rw[this]
 ·simp only[hsort,bs]
end
end Go.Sx

namespace Go.Sx
theorem conn_up {links:LL}{sel:LI}{n:Nat}(hr:∀x∈sel,∃i:Nat,x=i∧i<n)(p:Int)(hp:p∈sel)(hup:∀x∈sel,x≠p→∃y∈sel,x<y∧Lk links x y):DE links sel:=by
 intro m hm
 have hs:∀x y,x∈sel→y∈sel→Lk links x y→(x∈m↔y∈m):=λx y hx hy h=>
  ⟨λhxm=>hm.step x hxm y hy h,λhym=>hm.step y hym x hx (Or.elim h (λh=>Or.inr h) (λh=>Or.inl h))⟩
 have key:∀(k:Nat) (x:Int),x∈sel→n-x.toNat≤k→(x∈m↔p∈m):=by
  intro k
  induction k with
  |zero=>intro x hx hk;obtain⟨i,rfl,hi⟩:=hr x hx;omega
  |succ k ih=>
   intro x hx hk
   by_cases hxp:x=p
   ·rw[hxp]
   ·obtain⟨y,hy,hxy,hl⟩:=hup x hx hxp
    rw[hs x y hx hy hl]
    obtain⟨i,rfl,hi⟩:=hr x hx
    obtain⟨j,rfl,hj⟩:=hr y hy
    exact ih _ hy (by omega)
 have hpm:p∈m:=by
  cases hsel:sel with
  |nil=>rw[hsel] at hp;simp at hp
  |cons x0 t=>
   have h0:x0∈m:=hm.first x0 (by rw[hsel];rfl)
   exact(key n x0 (by rw[hsel];simp) (by omega)).1 h0
 exact λx hx=>(key n x hx (by omega)).2 hpm
section
variable {g : LL} {o F L : LI} (hg : GOk g) (ho : OOk g o) (hF : Fill g o F L)
include hg ho hF
theorem Df {i v:Nat}(hi:i<o.length)(hv:o[i]=(v:Int)){w:Nat}:(w:Int)∈Cc o L i↔w=v∨(nb F v w=true∧(w:Int)∉o.take (i+1)):=by
 have hl:=ho.len
 have hr:=ho.rng _ (List.getElem_mem hi)
 unfold Cc
 rw[AD hi,hv,Int.toNat_natCast,mem_into,AS (hF.vsL v (by omega))]
 have:=hF.lat i v (by omega) (by rw[List.getElem?_eq_getElem hi,hv]) w
 unfold nb at this ⊢
 rw[this,Bool.and_eq_true,decide_eq_true_eq]
 constructor
 ·rintro(h|h)
  ·exact .inl (by omega)
  ·exact .inr h
 ·rintro(h|h)
  ·exact .inl (by rw[h])
  ·exact .inr h
theorem bagD_pos {i w:Nat}(hi:i<o.length)(h:(w:Int)∈Cc o L i):∃m,∃hm:m<o.length,o[m]=(w:Int)∧i≤m:=by
 have hl:=ho.len
 have hr:=ho.rng _ (List.getElem_mem hi)
 obtain⟨v,hv⟩:∃v:Nat,o[i]=(v:Int):=⟨o[i].toNat,by omega⟩
 rcases(Df hg ho hF hi hv).1 h with rfl|⟨h1,h2⟩
 ·exact⟨i,hi,hv,Nat.le_refl _⟩
 ·have hwn:=hF.f.lt v w (by omega) h1
  obtain⟨m,hm,e⟩:=DP ho hwn
  obtain⟨hm',e'⟩:=List.getElem?_eq_some_iff.1 e
  refine⟨m,hm',e',?_⟩
  apply Classical.byContradiction
  intro hc
  exact h2 (mem_take_iff.2 ⟨m,hm',by omega,e'⟩)
theorem nxt_first {i:Nat}(hi:i<o.length){w m:Nat}(hm:m<o.length)(e:o[m]=(w:Int))(him:i<m)(h:(w:Int)∈Cc o L i):nxt o (Ap (L.getD (o.getD i 0).toNat 0)) i≤m∧∃hx:nxt o (Ap (L.getD (o.getD i 0).toNat 0)) i<o.length,o[nxt o (Ap (L.getD (o.getD i 0).toNat 0)) i]∈Cc o L i:=by
 have hb:(w:Int)∈Ap (L.getD (o.getD i 0).toNat 0):=by
  unfold Cc at h
  rcases mem_into.1 h with h|h
  ·have hr:=AD hi 0
   rw[hr] at h
   have:=CM ho.nd hm hi (by rw[e,h])
   omega
  ·exact h
 generalize hls:Ap (L.getD (o.getD i 0).toNat 0)=l at hb
 have hdl:(o.drop (i+1))[m-(i+1)]'(by simp;omega)=(w:Int):=by
  rw[List.getElem_drop,←e];congr 1;omega
 have h1:(o.drop (i+1)).findIdx (λx=>decide (l=[])||decide (x∈l))≤m-(i+1):=by
  apply Classical.byContradiction
  intro hc
  have:=List.not_of_lt_findIdx (p:=λx=>decide (l=[])||decide (x∈l)) (xs:=o.drop (i+1)) (i:=m-(i+1)) (by omega)
  rw[hdl] at this
  simp[hb] at this
 have h2:(o.drop (i+1)).findIdx (λx=>decide (l=[])||decide (x∈l))<(o.drop (i+1)).length:=by simp;omega
 have h3:=List.findIdx_getElem (w:=h2)
 have hne:l≠[]:=λe=>by rw[e] at hb;simp at hb
 rw[Bool.or_eq_true,decide_eq_true_eq,decide_eq_true_eq] at h3
 have h3:=h3.resolve_left hne
 rw[List.getElem_drop] at h3
 unfold nxt
 refine⟨by omega,by omega,?_⟩
 unfold Cc
 rw[hls]
 exact mem_into.2 (.inr h3)
theorem bagD_next {i w m:Nat}(hi:i<o.length)(hm:m<o.length)(e:o[m]=(w:Int))(him:i<m)(h:(w:Int)∈Cc o L i):∃j,j<o.length∧i<j∧i+1<o.length∧CJ o L i=[(i:Int),(j:Int)]∧(w:Int)∈Cc o L j:=by
 have hl:=ho.len
 obtain⟨h1,h2,h3⟩:=nxt_first hg ho hF hi hm e him h
 have hgt:=nxt_gt o (Ap (L.getD (o.getD i 0).toNat 0)) i
 refine⟨nxt o (Ap (L.getD (o.getD i 0).toNat 0)) i,h2,hgt,by omega,D5 i,?_⟩
 generalize nxt o (Ap (L.getD (o.getD i 0).toNat 0)) i=j at*
 have hri:=ho.rng _ (List.getElem_mem hi);have hrj:=ho.rng _ (List.getElem_mem h2)
 obtain⟨v,hv⟩:∃v:Nat,o[i]=(v:Int):=⟨o[i].toNat,by omega⟩
 obtain⟨u,hu⟩:∃u:Nat,o[j]=(u:Int):=⟨o[j].toNat,by omega⟩
 rw[hu] at h3
 by_cases hjm:j=m
 ·subst hjm
  rw[Df hg ho hF h2 hu]
  left;omega
 ·have hnp:∀{a b:Nat} {x:Nat} (hb:b<o.length),o[b]=(x:Int)→a≤b→(x:Int)∉o.take a:=by
   intro a b x hb ex hab hc
   obtain⟨c,hc1,hc2,hc3⟩:=mem_take_iff.1 hc
   have:=CM ho.nd hc1 hb (by rw[hc3,ex])
   omega
  have hwv:w≠v:=λe2=>by
   have:=CM ho.nd hm hi (by rw[e,hv,e2]);omega
  have huv:u≠v:=λe2=>by
   have:=CM ho.nd h2 hi (by rw[hu,hv,e2]);omega
  have huw:u≠w:=λe2=>hjm (CM ho.nd h2 hm (by rw[hu,e,e2]))
  have hw1:nb F v w=true:=by
   rcases(Df hg ho hF hi hv).1 h with h|h
   ·exact absurd h hwv
   ·exact h.1
  have hu1:nb F v u=true:=by
   rcases(Df hg ho hF hi hv).1 h3 with h|h
   ·exact absurd h huv
   ·exact h.1
  have hp:=hF.peo i v u w (by rw[List.getElem?_eq_getElem hi,hv]) hu1 hw1 (hnp h2 hu (by omega)) (hnp hm e (by omega)) huw
  exact(Df hg ho hF h2 hu).2 (.inr ⟨hp,hnp hm e (by omega)⟩)
theorem DecompBy_TB :TB g ((List.range o.length).map (Cc o L)) ((List.range (o.length-1)).map (CJ o L)):=by
 have hl:=ho.len;have hn1:=hg.n1;have hn16:=hg.n16
 have hbl:((List.range o.length).map (Cc o L)).length=o.length:=by simp
 have hbg:∀i,i<o.length→((List.range o.length).map (Cc o L)).getD i []=Cc o L i:=λi hi=>by rw[AD (by simpa using hi)];simp
 have hlk:∀i,i+1<o.length→CJ o L i∈(List.range (o.length-1)).map (CJ o L):=λi hi=>List.mem_map.2 ⟨i,List.mem_range.2 (by omega),rfl⟩
 have hwith:∀(v:Nat) (x:Int),x∈Cy ((List.range o.length).map (Cc o L)) (v:Int)↔∃b:Nat,x=b∧b<o.length∧(v:Int)∈Cc o L b:=λv x=>by
  rw[mem_withV,hbl]
  constructor
  ·rintro⟨b,h1,h2,h3⟩;rw[hbg b h2] at h3;exact⟨b,h1,h2,h3⟩
  ·rintro⟨b,h1,h2,h3⟩;exact⟨b,h1,h2,by rw[hbg b h2];exact h3⟩
 have hself:∀(p v:Nat) (hp:p<o.length),o[p]=(v:Int)→(v:Int)∈Cc o L p:=λp v hp e=>(Df hg ho hF hp e).2 (.inl rfl)
 refine⟨by omega,by omega,by simp;omega,λl h=> ?_,λb h=> ?_,?_,λu v hu ha=> ?_,λv hv=> ?_,λv hv=> ?_⟩
 ·obtain⟨i,hi,rfl⟩:=List.mem_map.1 h
  have hi:=List.mem_range.1 hi
  have:=nxt_lt hg ho hF (show i+1<o.length by omega)
  have:=nxt_gt o (Ap (L.getD (o.getD i 0).toNat 0)) i
  exact⟨i,_,D5 i,by omega,by omega⟩
 ·obtain⟨i,hi,rfl⟩:=List.mem_map.1 h
  have hi:=List.mem_range.1 hi
  have hr:=ho.rng _ (List.getElem_mem hi)
  refine⟨(BD _).into _,λx hx=> ?_⟩
  have hx0:0≤x:=by
   unfold Cc at hx
   rcases mem_into.1 hx with hx|hx
   ·rw[hx,AD hi];omega
   ·obtain⟨w,_,_,rfl⟩:=mem_elems.1 hx;omega
  obtain⟨m,hm,e,_⟩:=bagD_pos hg ho hF hi (w:=x.toNat) (by rw[show ((x.toNat:Nat):Int)=x by omega];exact hx)
  have:=ho.rng _ (List.getElem_mem hm)
  omega
 ·rw[hbl]
  refine conn_up (n:=o.length) (λx hx=> ?_) ((o.length-1:Nat):Int) (List.mem_map.2 ⟨o.length-1,List.mem_range.2 (by omega),rfl⟩) (λx hx hne=> ?_)
  ·obtain⟨i,hi,rfl⟩:=List.mem_map.1 hx
   exact⟨i,rfl,List.mem_range.1 hi⟩
  ·obtain⟨i,hi,rfl⟩:=List.mem_map.1 hx
   have hi:=List.mem_range.1 hi
   have hi2:i+1<o.length:=by
    apply Classical.byContradiction
    intro hc
    exact hne (by show (i:Int)=_;congr 1;omega)
   have h1:=nxt_lt hg ho hF hi2
   have h2:=nxt_gt o (Ap (L.getD (o.getD i 0).toNat 0)) i
   refine⟨_,List.mem_map.2 ⟨_,List.mem_range.2 h1,rfl⟩,?_,.inl ?_⟩
   ·show (i:Int)<((_:Nat):Int)
    omega
   ·have:=hlk i hi2
    rw[D5] at this
    exact this
 ·have hv:=hg.lt hu ha
  obtain⟨p,hp,ep⟩:=DP ho hu
  obtain⟨q,hq,eq⟩:=DP ho hv
  obtain⟨hp',ep'⟩:=List.getElem?_eq_some_iff.1 ep
  obtain⟨hq',eq'⟩:=List.getElem?_eq_some_iff.1 eq
  have hne:u≠v:=λe=>hg.irr u hu (by rw[e] at ha ⊢;exact ha)
  have hmn:=hF.mono u v hu ha
  have hmn2:=hF.f.sym u v hu hmn
  have hbm:∀i,i<o.length→Cc o L i∈(List.range o.length).map (Cc o L):=λi hi=>List.mem_map.2 ⟨i,List.mem_range.2 hi,rfl⟩
  have hnp:∀{a b:Nat} {x:Nat} (hb:b<o.length),o[b]=(x:Int)→a≤b→(x:Int)∉o.take a:=by
   intro a b x hb ex hab hc
   obtain⟨c,hc1,hc2,hc3⟩:=mem_take_iff.1 hc
   have:=CM ho.nd hc1 hb (by rw[hc3,ex])
   omega
  rcases Nat.lt_trichotomy p q with c|c|c
  ·exact⟨_,hbm p hp',hself p u hp' ep',(Df hg ho hF hp' ep').2 (.inr ⟨hmn,hnp hq' eq' (by omega)⟩)⟩
  ·subst c;rw[ep'] at eq';omega
  ·exact⟨_,hbm q hq',(Df hg ho hF hq' eq').2 (.inr ⟨hmn2,hnp hp' ep' (by omega)⟩),hself q v hq' eq'⟩
 ·obtain⟨p,hp,ep⟩:=DP ho hv
  obtain⟨hp',ep'⟩:=List.getElem?_eq_some_iff.1 ep
  intro hc
  have:=(hwith v p).2 ⟨p,rfl,hp',hself p v hp' ep'⟩
  rw[hc] at this
  simp at this
 ·obtain⟨p,hp,ep⟩:=DP ho hv
  obtain⟨hp',ep'⟩:=List.getElem?_eq_some_iff.1 ep
  refine conn_up (n:=o.length) (λx hx=> ?_) (p:Int) ((hwith v p).2 ⟨p,rfl,hp',hself p v hp' ep'⟩) (λx hx hne=> ?_)
  ·obtain⟨b,rfl,hb,_⟩:=(hwith v x).1 hx
   exact⟨b,rfl,hb⟩
  ·obtain⟨b,rfl,hb,hvb⟩:=(hwith v x).1 hx
   obtain⟨m,hm,em,hbm⟩:=bagD_pos hg ho hF hb hvb
   have hmp:m=p:=CM ho.nd hm hp' (by rw[em,ep'])
   subst hmp
   have hbp:b≠m:=λe=>hne (by rw[e])
   obtain⟨j,hj,hbj,hb1,hlj,hvj⟩:=bagD_next hg ho hF hb hm em (by omega) hvb
   refine⟨(j:Int),(hwith v j).2 ⟨j,rfl,hj,hvj⟩,by omega,.inl ?_⟩
   have:=hlk b hb1
   rw[hlj] at this
   exact this
end
end Go.Sx

namespace Go.Sx
theorem GOk.shr {g:LL}(hg:GOk g):Sh2 g:=by
 have h16:=hg.n16
 exact⟨by unfold Sh;omega,λr hr=>by have:=(hg.mem0 hr).1;unfold Sh;omega⟩
structure PB (g bags:LL):Prop where
 n16:bags.length≤16
 sets:∀i,i<bags.length→SetOf (bags.getD i []) g.length
 some:∀i,i<bags.length→bags.getD i []≠[]
 all:∀v:Nat,v<g.length→∃i,i<bags.length∧(v:Int)∈bags.getD i []
 edge:∀u v:Nat,u<g.length→adj g u v→∃i,i<bags.length∧(u:Int)∈bags.getD i []∧(v:Int)∈bags.getD i []
 run:∀(v:Nat) (i j k:Nat),i<j→j<k→k<bags.length→(v:Int)∈bags.getD i []→(v:Int)∈bags.getD k []→(v:Int)∈bags.getD j []
section
variable {g : LL} {o : LI} (hg : GOk g) (ho : OOk g o)
include hg ho
end
section
variable {g : LL} {o : LI} (hg : GOk g) (ho : OOk g o)
include hg ho
end
section
variable {g bags : LL} (hg : GOk g) (h : PB g bags)
include hg h
end
section
variable {g : LL} {o : LI} (hg : GOk g) (ho : OOk g o)
include hg ho
end
end Go.Sx

namespace Go.Sx
theorem link_iff (n:Nat)(l:LI):LinkIn n l↔l.length=2∧SetOf l (n:Int):=by
 constructor
 ·rintro⟨a,b,rfl,h1,h2⟩
  refine⟨rfl,by simp[Inc];omega,λx hx=> ?_⟩
  simp at hx;omega
 ·rintro⟨h1,h2,h3⟩
  obtain⟨x,y,rfl⟩:=list2 h1
  have a1:=h3 x (by simp);have a2:=h3 y (by simp)
  simp[Inc] at h2
  exact⟨x.toNat,y.toNat,by rw[show ((x.toNat:Nat):Int)=x by omega,show ((y.toNat:Nat):Int)=y by omega],by omega,by omega⟩
def lkB (n:Nat)(l:LI):Bool:=decide (l.length=2)&&CN l (n:Int)
theorem lkB_iff (n:Nat)(l:LI):lkB n l=true↔LinkIn n l:=by
 unfold lkB
 rw[link_iff,Bool.and_eq_true,decide_eq_true_eq,Ds]
section
variable {B K : LL} (hB : Sh2 B) (hK : Sh2 K)
include hB hK
theorem l9Form_eq :D.b1 B K=some ((decide (1≤B.length)&&decide (B.length≤16))&&decide (K.length≤16)&&K.all (lkB B.length)):=by
 have hBl:B.length≤4294967296:=hB.1
 have hKl:K.length≤4294967296:=hK.1
 unfold D.b1
 rw[FB,bs]
 have e1:(decide ((1:Int)≤(B.length:Int))&&decide ((B.length:Int)≤16))=(decide (1≤B.length)&&decide (B.length≤16)):=by
  congr 1<;>rw[decide_eq_decide]<;>omega
 rw[e1]
 cases hb:(decide (1≤B.length)&&decide (B.length≤16))
 ·simp
 ·by_cases hk:K.length≤16
  ·have e2:decide ((16:Int)<(K.length:Int))=false:=by rw[decide_eq_false_iff_not];omega
   rw[e2,decide_eq_true hk,Bool.not_true,Bool.or_self,cond_false,Bool.and_self,Bool.true_and]
   refine(CE K.length (λi=>lkB B.length (K.getD i [])) false (λi hi=> ?_) ?_ rfl rfl).trans ?_
   ·have hs:=hK.2 _ (List.getElem_mem hi)
    simp only[dlt hi,cond_true,Au hi,bs,wq i,AD hi]
    unfold lkB
    by_cases h2:K[i].length=2
    ·have:((K[i].length:Int) !=2)=false:=by simp;omega
     rw[this,cond_false,EP _ _ hs (by omega) (by omega),bs,decide_eq_true h2,Bool.true_and,bs]
     cases CN K[i] (B.length:Int)<;>rfl
    ·have:((K[i].length:Int) !=2)=true:=by simp;omega
     rw[this,cond_true,bs,decide_eq_false h2,Bool.false_and];rfl
   ·simp only[Ba,cond_false]
   ·rw[CT K (lkB B.length) _ (λi hi=>by rw[AD hi])]
  ·have e2:decide ((16:Int)<(K.length:Int))=true:=by rw[decide_eq_true_eq];omega
   rw[e2,decide_eq_false hk,Bool.or_true,cond_true];simp
open Classical in
theorem reached_eq (sel:LI)(hl:K.length≤1000000)(hp:Pairs K)(hs:sel.length≤1000000)(hne:sel≠[])(hn:sel.Nodup):
  ∃y,D.U B K sel=some y∧(y=(sel.length:Int)↔DE K sel):=by
 obtain⟨y,h1,m,rfl,h2,h3,h4⟩:=l9Reached_ok B K sel hl hp hs hne
 refine⟨_,h1,λh m' hm' x hx=> ?_,λhc=> ?_⟩
 ·have hxm:x∈m:=by
   apply Classical.byContradiction
   intro hno
   have:=Cd (l:=x::m) (m:=sel) (List.nodup_cons.2 ⟨hno,h2⟩) (λz hz=>by
    rcases List.mem_cons.1 hz with rfl|hz
    ·exact hx
    ·exact h3.sub z hz)
   simp at this;omega
  exact h4 m' hm' x hxm
 ·rw[nodup_all h2 hn h3.sub (hc m h3)]
end
def allB (n:Nat):LI:=(List.range n).map Int.ofNat
theorem allB_nodup (n:Nat):(allB n).Nodup:=by
 refine Inc.nodup ?_
 unfold Inc allB
 rw[List.pairwise_map]
 exact List.Pairwise.imp (fun{a b} h=>by show (a:Int)<(b:Int);omega) List.pairwise_lt_range
theorem allB_ne {n:Nat}(h:1≤n):allB n≠[]:=by
 intro hc
 have:=congrArg List.length hc
 simp[allB] at this;omega
theorem Fl {α:Type}(p:Nat→Bool)(f:Nat→α)(s0:List α)(x:α):∀n,x∈(List.range n).foldl (λs i=>if p i then s++[f i] else s) s0↔x∈s0∨∃i,i<n∧p i=true∧x=f i
 |0=>by simp
 |n+1=>by
  rw[List.range_succ,List.foldl_append,List.foldl_cons,List.foldl_nil]
  have ih:=Fl p f s0 x n
  by_cases hp:p n=true
  ·rw[if_pos hp,List.mem_append,ih]
   constructor
   ·rintro((h|⟨i,h1,h2⟩)|h)
    ·exact .inl h
    ·exact .inr ⟨i,by omega,h2⟩
    ·simp at h;exact .inr ⟨n,by omega,hp,h⟩
   ·rintro(h|⟨i,h1,h2,h3⟩)
    ·exact .inl (.inl h)
    ·by_cases e:i=n
     ·subst e;exact .inr (by simp[h3])
     ·exact .inl (.inr ⟨i,by omega,h2,h3⟩)
  ·rw[if_neg hp,ih]
   constructor
   ·rintro(h|⟨i,h1,h2⟩)
    ·exact .inl h
    ·exact .inr ⟨i,by omega,h2⟩
   ·rintro(h|⟨i,h1,h2,h3⟩)
    ·exact .inl h
    ·by_cases e:i=n
     ·subst e;exact absurd h2 hp
     ·exact .inr ⟨i,by omega,h2,h3⟩
theorem mem_rowF (r:LI)(u:Nat)(s:LL)(x:LI):x∈rowF r u s↔x∈s∨∃v∈r,(u:Int)<v∧x=[(u:Int),v]:=by
 unfold rowF
 have:=Fl (λi=>decide ((u:Int)<r.getD i 0)) (λi=>[(u:Int),r.getD i 0]) s x r.length
 simp only[decide_eq_true_eq] at this
 rw[this]
 constructor
 ·rintro(h|⟨i,h1,h2,h3⟩)
  ·exact .inl h
  ·rw[AD h1] at h2 h3
   exact .inr ⟨r[i],List.getElem_mem h1,h2,h3⟩
 ·rintro(h|⟨v,h1,h2,h3⟩)
  ·exact .inl h
  ·obtain⟨i,hi,rfl⟩:=List.getElem_of_mem h1
   exact .inr ⟨i,hi,by rw[AD hi];exact h2,by rw[AD hi];exact h3⟩
theorem ET {g:LL}(hg:GOk g)(x:LI):x∈De g↔∃u v:Nat,u<g.length∧adj g u v∧u<v∧x=[(u:Int),(v:Int)]:=by
 have key:∀n,n≤g.length→(x∈(List.range n).foldl (λs u=>rowF (row g u) u s) []↔∃u v:Nat,u<n∧adj g u v∧u<v∧x=[(u:Int),(v:Int)]):=by
  intro n
  induction n with
  |zero=>intro _;simp
  |succ n ih=>
   intro hn
   rw[List.range_succ,List.foldl_append,List.foldl_cons,List.foldl_nil,mem_rowF,ih (by omega)]
   constructor
   ·rintro(⟨u,v,h1,h2⟩|⟨v,h1,h2,h3⟩)
    ·exact⟨u,v,by omega,h2⟩
    ·obtain⟨w,rfl,hw,ha⟩:=hg.mem (by omega) h1
     exact⟨n,w,by omega,ha,by omega,h3⟩
   ·rintro⟨u,v,h1,h2,h3,h4⟩
    by_cases e:u=n
    ·subst e;exact .inr ⟨v,h2,by omega,h4⟩
    ·exact .inl ⟨u,v,by omega,h2,h3,h4⟩
 exact key g.length (Nat.le_refl _)
section
variable {g B K : LL} (hg : GOk g) (hB : Sh2 B) (hK : Sh2 K)
include hg hB hK
open Classical in
theorem F6 :D.i1 g B K=some (decide (TB g B K)):=by
 have h16:=hg.n16
 have hKl:K.length≤4294967296:=hK.1
 have hBl:B.length≤4294967296:=hB.1
 unfold D.i1
 rw[CA g hg.shr,(DC g).2 hg]
 simp only[bs,Bool.not_true,cond_false]
 unfold D.k2
 rw[l9Form_eq hB hK,bs]
 by_cases hform:(1≤B.length∧B.length≤16∧K.length+1=B.length)∧∀l∈K,LinkIn B.length l
 case neg=>
  have hT:¬TB g B K:=λh=>hform ⟨⟨h.n1,h.n16,h.many⟩,h.lks⟩
  have e:(((decide (1≤B.length)&&decide (B.length≤16))&&decide (K.length≤16)&&K.all (lkB B.length))&&((K.length:Int)==IntKind.i64.wrap ((B.length:Int)-1)))=false:=by
   rw[w64 (by omega) (by omega)]
   cases hc:(((decide (1≤B.length)&&decide (B.length≤16))&&decide (K.length≤16)&&K.all (lkB B.length))&&((K.length:Int)==(B.length:Int)-1))
   ·rfl
   ·exfalso
    simp only[Bool.and_eq_true,decide_eq_true_eq,beq_iff_eq,List.all_eq_true] at hc
    exact hform ⟨⟨hc.1.1.1.1,hc.1.1.1.2,by omega⟩,λl hl=>(lkB_iff _ _).1 (hc.1.2 l hl)⟩
  rw[e,cond_false,decide_eq_false hT]
  rfl
 case pos=>
  obtain⟨⟨n1,n16,hm⟩,hlk⟩:=hform
  have hpairs:Pairs K:=λl hl=>by obtain⟨a,b,e,_⟩:=hlk l hl;exact⟨a,b,e⟩
  have e:(((decide (1≤B.length)&&decide (B.length≤16))&&decide (K.length≤16)&&K.all (lkB B.length))&&((K.length:Int)==IntKind.i64.wrap ((B.length:Int)-1)))=true:=by
   rw[w64 (by omega) (by omega)]
   simp only[Bool.and_eq_true,decide_eq_true_eq,beq_iff_eq,List.all_eq_true]
   exact⟨⟨⟨⟨n1,n16⟩,by omega⟩,λl hl=>(lkB_iff _ _).2 (hlk l hl)⟩,by omega⟩
  rw[e,cond_true,l1All_eq B.length (by omega),bs]
  obtain⟨y,e1,hy⟩:=reached_eq hB hK (allB B.length) (by omega) hpairs (by simp[allB];omega) (allB_ne n1) (allB_nodup _)
  have hal:(allB B.length).length=B.length:=by simp[allB]
  rw[hal] at hy
  have e1':D.U B K ((List.range B.length).map Int.ofNat)=some y:=e1
  rw[e1',bs,bs,bs]
  by_cases hc:DE K (allB B.length)
  case neg=>
   have:(y==(B.length:Int))=false:=by rw[beq_eq_false_iff_ne];exact λh=>hc (hy.1 h)
   rw[this,Bool.not_false,cond_true,decide_eq_false (λh=>hc h.tree)]
  case pos=>
   have:(y==(B.length:Int))=true:=by rw[beq_iff_eq];exact hy.2 hc
   rw[this,Bool.not_true,cond_false]
   unfold D.a
   refine(D7 B.length (λi=>CN (B.getD i []) g.length) (.inl ()) (.inr false) (λi hi=> ?_) ?_).trans ?_
   ·simp only[dlt hi,cond_true,Au hi,bs,EP _ _ (hB.2 _ (List.getElem_mem hi)) (show (0:Int)≤(g.length:Int) by omega) (by omega),wq i,AD hi]
    cases CN B[i] (g.length:Int)<;>rfl
   ·simp only[Ba,cond_false]
   ·rw[CT B (λb=>CN b g.length) _ (λi hi=>by rw[AD hi])]
    by_cases hs:∀b∈B,SetOf b (g.length:Int)
    case neg=>
     have:(B.all λb=>CN b g.length)=false:=by
      cases hh:(B.all λb=>CN b g.length)
      ·rfl
      ·exact absurd (λb hb=>(Ds _ _).1 (List.all_eq_true.1 hh b hb)) hs
     rw[this,cond_false,decide_eq_false (λh=>hs h.sets)]
    case pos=>
     have:(B.all λb=>CN b g.length)=true:=List.all_eq_true.2 (λb hb=>(Ds _ _).2 (hs b hb))
     rw[this,cond_true]
     dsimp only
     rw[l1Edges_eq g hg,bs]
     have hel:(De g).length≤256:=by
      obtain⟨y,y1,y2,_⟩:=l1Edges_ok g hg
      rw[l1Edges_eq g hg] at y1
      cases y1;exact y2
     refine(D7 (De g).length (λi=>B.any λb=>((De g).getD i []).all λx=>decide (x∈b)) (.inl ()) (.inr false) (λi hi=> ?_) ?_).trans ?_
     ·obtain⟨u,v,_,_,_,e2⟩:=(ET hg _).1 (List.getElem_mem hi)
      simp only[dlt hi,cond_true,Au hi,bs,l9In_eq B K (De g)[i] hB (by rw[e2];simp[Sh]),wq i,AD hi]
      cases (B.any λb=>((De g)[i]).all λx=>decide (x∈b))<;>rfl
     ·simp only[Ba,cond_false]
     ·rw[CT (De g) (λe=>B.any λb=>e.all λx=>decide (x∈b)) _ (λi hi=>by rw[AD hi])]
      by_cases hE:∀u v:Nat,u<g.length→adj g u v→∃b∈B,(u:Int)∈b∧(v:Int)∈b
      case neg=>
       have:((De g).all λe=>B.any λb=>e.all λx=>decide (x∈b))=false:=by
        cases hh:((De g).all λe=>B.any λb=>e.all λx=>decide (x∈b))
        ·rfl
        ·exfalso
         refine hE (λu v hu ha=> ?_)
         have hlt:∀u v:Nat,u<g.length→adj g u v→u<v→∃b∈B,(u:Int)∈b∧(v:Int)∈b:=λu v hu ha huv=>by
          obtain⟨b,hb,hbb⟩:=List.any_eq_true.1 (List.all_eq_true.1 hh _ ((ET hg _).2 ⟨u,v,hu,ha,huv,rfl⟩))
          simp at hbb
          exact⟨b,hb,hbb⟩
         rcases Nat.lt_trichotomy u v with c|c|c
         ·exact hlt u v hu ha c
         ·subst c;exact absurd ha (hg.irr u hu)
         ·obtain⟨b,hb,h1,h2⟩:=hlt v u (hg.lt hu ha) (hg.sym u v hu ha) c
          exact⟨b,hb,h2,h1⟩
       rw[this,cond_false,decide_eq_false (λh=>hE h.edges)]
      case pos=>
       have:((De g).all λe=>B.any λb=>e.all λx=>decide (x∈b))=true:=List.all_eq_true.2 (λe he=>by
        obtain⟨u,v,hu,ha,_,rfl⟩:=(ET hg _).1 he
        obtain⟨b,hb,h1,h2⟩:=hE u v hu ha
        exact List.any_eq_true.2 ⟨b,hb,by simp[h1,h2]⟩)
       rw[this,cond_true]
       dsimp only
       refine(CE g.length (λv=>decide (Cy B (v:Int)≠[]∧DE K (Cy B (v:Int)))) false (λv hv=> ?_) ?_ rfl rfl).trans ?_
       ·have hwl:(Cy B (v:Int)).length≤16:=by
         have:=(withV_inc B (v:Int)).short (n:=B.length) (λx hx=>by
          obtain⟨b,rfl,hb,_⟩:=mem_withV.1 hx;omega)
         omega
        simp only[bs,dlt hv,cond_true,l9With_eq B K (v:Int) hB (by omega),wq v]
        by_cases hne:Cy B (v:Int)=[]
        ·rw[hne];simp
        ·have e0:(((Cy B (v:Int)).length:Int)==0)=false:=by
          rw[beq_eq_false_iff_ne]
          have:=List.length_pos_iff.2 hne
          omega
         obtain⟨y,e2,hy2⟩:=reached_eq hB hK (Cy B (v:Int)) (by omega) hpairs (by omega) hne (withV_inc B (v:Int)).nodup
         rw[e0,cond_false,e2,bs,bs]
         by_cases hcv:DE K (Cy B (v:Int))
         ·have:(y !=((Cy B (v:Int)).length:Int))=false:=by rw[bne_eq_false_iff_eq];exact hy2.2 hcv
          rw[this,cond_false,if_pos (decide_eq_true ⟨hne,hcv⟩)]
         ·have:(y !=((Cy B (v:Int)).length:Int))=true:=by rw[bne_iff_ne];exact λh=>hcv (hy2.1 h)
          rw[this,cond_true,if_neg (by simpa using λh=>hcv)]
       ·simp only[bs,Ba,cond_false]
       ·congr 1
        rw[Bool.eq_iff_iff,CZ,decide_eq_true_eq]
        simp only[decide_eq_true_eq]
        constructor
        ·intro hv
         exact⟨n1,n16,hm,hlk,hs,hc,hE,λv h=>(hv v h).1,λv h=>(hv v h).2⟩
        ·intro h v hv
         exact⟨h.some v hv,h.conn v hv⟩
end
end Go.Sx

namespace Go.Sx
section
variable {g B K : LL} (hg : GOk g) (hs : ∀ b ∈ B, SetOf b (g.length : Int)) (hBl : B.length ≤ 16)
include hg hs hBl
theorem masks_eq :D.s1 B=some (B.map mk):=by
 have h16:=hg.n16
 unfold D.s1
 refine(Ef B (λs i=>(s,i)) mk (by omega) (λs i hi _=> ?_) (λs=> ?_)).trans rfl
 ·have hb:=hs _ (List.getElem_mem hi)
  have hl:=hb.length_le (by omega)
  simp only[dlt hi,cond_true,Au hi,bs,maskOf_eq _ (show Sh B[i] by unfold Sh;omega) (λx hx=>(hb.2 x hx).1),wq i]
 ·simp only[Ba,cond_false]
end
section
variable {g B K : LL} (hg : GOk g) (hB : Sh2 B) (hK : Sh2 K)
include hg hB hK
end
end Go.Sx

namespace Go.Sx
theorem elems_mk' {n:Nat}{x:LI}(hn:n≤16)(hi:Inc x)(hr:∀z∈x,0≤z∧z<n):Ap (mk x)=x:=by
 refine Inc.ext (BD _) hi (λz=> ?_)
 rw[mem_elems]
 constructor
 ·rintro⟨v,_,h2,rfl⟩
  rw[Dc (λy hy=>by have:=hr y hy;omega)] at h2
  exact of_decide_eq_true h2
 ·intro hz
  have:=hr z hz
  refine⟨z.toNat,by omega,?_,by omega⟩
  rw[Dc (λy hy=>by have:=hr y hy;omega)]
  exact decide_eq_true (by rw[show ((z.toNat:Nat):Int)=z by omega];exact hz)
theorem Ed {α β γ:Type}(f:α→Option β)(h:β→γ):∀xs:List α,xs.findSome? (λi=>(f i).map h)=(xs.findSome? f).map h
 |[]=>rfl
 |x::xs=>by
  rw[List.findSome?_cons,List.findSome?_cons]
  cases f x with
  |none=>exact Ed f h xs
  |some y=>rfl
def prt (s t:Int):Bool:=(iandNot .u32 s t)==0
theorem Fk {s t:Int}(hs:VS s)(ht:VS t):D.B (Ap s) (Ap t)=some (prt s t):=by
 have h1:=BO s;have h2:=BO t
 rw[l9Part_eq _ _ (show Sh (Ap s) by unfold Sh;omega) (show Sh (Ap t) by unfold Sh;omega)]
 congr 1
 unfold prt
 rw[Bool.eq_iff_iff,List.all_eq_true,beq_iff_eq,(VS.iandNot _ _).eq_zero]
 constructor
 ·intro h v hv
  rw[Bl hs ht]
  cases hh:has s v
  ·rfl
  ·have:=h (v:Int) ((AS hs).2 hh)
   rw[decide_eq_true_eq,AS ht] at this
   rw[this];rfl
 ·intro h x hx
  obtain⟨v,hv,h3,rfl⟩:=mem_elems.1 hx
  have:=h v hv
  rw[Bl hs ht,h3,Bool.true_and,Bool.not_eq_false'] at this
  rw[decide_eq_true_eq,AS ht];exact this
def ren (gone kept x:Int):Int:=if gone<(if x=gone then kept else x) then(if x=gone then kept else x)-1 else(if x=gone then kept else x)
def lnk (gone kept:Int)(l:LI):Option LI:=if ren gone kept (l.getD 0 0)=ren gone kept (l.getD 1 0) then none else some (B7 (ren gone kept (l.getD 0 0)) (ren gone kept (l.getD 1 0)))
structure TS (M:LI)(K:LL):Prop where
 n16:M.length≤16
 vs:∀s∈M,VS s
 lk:∀l∈K,LinkIn M.length l
 k16:K.length≤16
theorem FD {n g k:Nat}(hg:g<n)(hk:k<n)(hgk:g≠k){a:Nat}(ha:a<n):0≤ren g k a∧ren g k a<((n-1:Nat):Int):=by
 unfold ren
 by_cases e:(a:Int)=g
 ·simp only[e,if_true];split<;>omega
 ·simp only[e,if_false];split<;>omega
theorem lnk_in {n g k:Nat}(hg:g<n)(hk:k<n)(hgk:g≠k){l r:LI}(hl:LinkIn n l)(h:lnk g k l=some r):LinkIn (n-1) r:=by
 obtain⟨a,b,rfl,hab,hb⟩:=hl
 unfold lnk at h
 simp only[List.getD_cons_zero,List.getD_cons_succ] at h
 have h1:=FD hg hk hgk (show a<n by omega)
 have h2:=FD hg hk hgk hb
 split at h
 ·cases h
 ·rename_i hne
  cases h
  generalize ren g k a=x at*
  generalize ren g k b=y at*
  refine⟨(min x y).toNat,(max x y).toNat,?_,by omega,by omega⟩
  unfold B7
  rw[show (((min x y).toNat:Nat):Int)=min x y by omega,show (((max x y).toNat:Nat):Int)=max x y by omega]
def Ce (g k:Nat)(K:LL):LL:=K.filterMap (lnk g k)
theorem D2 {n g k:Nat}{K:LL}(hK:∀l∈K,LinkIn n l)(hg:g<n)(hk:k<n)(hgk:g≠k):∀r∈Ce g k K,LinkIn (n-1) r:=λr hr=>by
 obtain⟨l,hl,e⟩:=List.mem_filterMap.1 hr
 exact lnk_in hg hk hgk (hK l hl) e
theorem merged_len (g k:Nat)(K:LL):(Ce g k K).length≤K.length:=List.length_filterMap_le _ _
theorem Fi {xs:LL}(hl:xs.length≤1000000)(hg:∀x∈xs,Co x):CO xs=some (xs.mergeSort B5):=by
 unfold CO;rw[if_pos ⟨hl,hg⟩]
theorem Er {g k:Nat}(hg:g≤1000000)(hk:k≤1000000){x:Int}(h0:0≤x)(h1:x≤1000000):D.K0 x (g:Int) (k:Int)=some (ren g k x):=by
 unfold D.K0 ren
 rw[w64 (by omega) (by omega),w64 (by omega) (by omega)]
 by_cases e:x=(g:Int)
 ·have:(x==(g:Int))=true:=by simpa using e
  rw[this,cond_true]
  simp only[e,if_true]
  by_cases h:(g:Int)<(k:Int)
  ·rw[decide_eq_true h,cond_true,if_pos h]
  ·rw[decide_eq_false h,cond_false,if_neg h]
 ·have:(x==(g:Int))=false:=by simpa using e
  rw[this,cond_false]
  simp only[e,if_false]
  by_cases h:(g:Int)<x
  ·rw[decide_eq_true h,cond_true,if_pos h]
  ·rw[decide_eq_false h,cond_false,if_neg h]
theorem DF {α β:Type}(f:α→Option β){l:List α}{i:Nat}(hi:i<l.length):(l.take (i+1)).filterMap f=(l.take i).filterMap f++(f l[i]).toList:=by
 rw[List.take_succ_eq_append_getElem hi,List.filterMap_append]
 cases hf:f l[i]<;>simp[hf]
section
variable {M : LI} {K : LL} (h : TS M K) {g k : Nat} (hg : g < M.length) (hk : k < M.length) (hgk : g ≠ k)
include h hg hk hgk
theorem impl_merge :D.h M K (g:Int) (k:Int)=some (M.eraseIdx g,(Ce g k K).mergeSort B5):=by
 have h16:=h.n16;have hk16:=h.k16
 unfold D.h
 refine(BP (λi=>((K.take i).filterMap (lnk g k),(i:Int))) K.length (Ce g k K) (by simp) (λi hi=> ?_) ?_).trans ?_
 ·obtain⟨a,b,e,hab,hb⟩:=h.lk _ (List.getElem_mem hi)
  have i0:idx K[i] 0=some (a:Int):=by rw[e];rfl
  have i1:idx K[i] 1=some (b:Int):=by rw[e];rfl
  simp only[dlt hi,cond_true,Au hi,bs,i0,i1,Er (show g≤1000000 by omega) (show k≤1000000 by omega) (show (0:Int)≤(a:Int) by omega) (by omega),Er (show g≤1000000 by omega) (show k≤1000000 by omega) (show (0:Int)≤(b:Int) by omega) (by omega),wq i,DF (lnk g k) hi]
  have el:lnk (g:Int) (k:Int) K[i]=if ren g k a=ren g k b then none else some (B7 (ren g k a) (ren g k b)):=by rw[e];rfl
  rw[el]
  have hfl:((K.take i).filterMap (lnk g k)).length≤16:=by
   have:=List.length_filterMap_le (lnk (g:Int) (k:Int)) (K.take i)
   rw[List.length_take] at this;omega
  by_cases hc:ren g k a=ren g k b
  ·have:(ren g k a !=ren g k b)=false:=by simpa using hc
   rw[this,cond_false,if_pos hc];simp
  ·have:(ren g k a !=ren g k b)=true:=by simpa using hc
   rw[this,cond_true,if_neg hc,EY,bs,AR (by simp;omega),bs];simp
 ·simp only[Ba,cond_false,List.take_length];rfl
 ·have hml:=merged_len g k K
  rw[Fi (by omega) (λx hx=>(D2 h.lk hg hk hgk x hx).good (by omega)),bs]
  unfold D.L D.U1 delD
  rw[AR (by simp;omega)]
  simp only[bs,List.nil_append]
  rw[wq g,if_pos ⟨by omega,by omega,by omega⟩,bs]
  congr 2
  rw[Int.toNat_natCast,Int.toNat_natCast,List.eraseIdx_eq_take_drop_succ]
def CL (acc xs:LL):LL:=xs.foldl (λacc l=>ins l acc) acc
omit h hg hk hgk in
theorem DR :∀(xs acc:LL),DZ acc→(CL acc xs).Perm (xs++acc)∧DZ (CL acc xs)
 |[],acc,h=>⟨List.Perm.refl _,h⟩
 |x::xs,acc,h=>by
  obtain⟨h1,h2⟩:=DR xs (ins x acc) (ins_sorted x h)
  refine⟨h1.trans ?_,h2⟩
  exact((ins_perm x acc).append_left xs).trans List.perm_middle
omit h hg hk hgk in
theorem FQ {xs:LL}(hx:∀x∈xs,Co x):CL [] xs=xs.mergeSort B5:=by
 obtain⟨h1,h2⟩:=DR xs [] (by simp[DZ])
 rw[List.append_nil] at h1
 exact Fp (h1.trans (BU xs).symm) (λx hx'=>hx x ((BU xs).mem_iff.1 hx')) h2 (DB xs)
omit h hg hk hgk in
theorem FO (acc xs:LL)(x:LI):CL acc (xs++[x])=ins x (CL acc xs):=by
 unfold CL;rw[List.foldl_append];rfl
theorem spec_merge :D.v0 (M.map Ap) K (g:Int) (k:Int)=some ((M.eraseIdx g).map Ap,(Ce g k K).mergeSort B5):=by
 have h16:=h.n16;have hk16:=h.k16
 unfold D.v0
 refine(BP (λi=>((i:Int),(if i≤g then M.take i else M.take g++(M.drop (g+1)).take (i-(g+1))).map Ap)) M.length ((M.eraseIdx g).map Ap) (by simp) (λi hi=> ?_) ?_).trans ?_
 ·have hd:decide ((i:Int)<((M.map Ap).length:Int))=true:=by simp;omega
  have hcp:D.e (Ap M[i])=some (Ap M[i]):=C9 _ (by have:=BO M[i];unfold Sh;omega)
  simp only[hd,cond_true,wq i]
  by_cases e:i=g
  ·subst e
   have:(((i:Nat):Int) !=(i:Int))=false:=by simp
   rw[this,cond_false,if_pos (Nat.le_refl i),if_neg (by omega)];simp
  ·have:(((i:Nat):Int) !=(g:Int))=true:=by rw[bne_iff_ne];omega
   rw[this,cond_true,Au (show i<(M.map Ap).length by simpa using hi),bs,List.getElem_map,hcp,bs]
   rcases Nat.lt_or_gt_of_ne e with c|c
   ·rw[if_pos (by omega),if_pos (by omega),AR (by simp;omega),bs,List.take_succ_eq_append_getElem hi,List.map_append];rfl
   ·rw[if_neg (by omega),if_neg (by omega),AR (by simp;omega),bs]
    have e2:(M.drop (g+1)).take (i+1-(g+1))=(M.drop (g+1)).take (i-(g+1))++[M[i]]:=by
     rw[show i+1-(g+1)=(i-(g+1))+1 by omega,List.take_succ_eq_append_getElem (by simp;omega)]
     congr 2
     rw[List.getElem_drop];congr 1;omega
    rw[e2];simp
 ·have hd:decide (((M.length:Nat):Int)<((M.map Ap).length:Int))=false:=by simp
  simp only[hd,cond_false]
  rw[if_neg (by omega),List.eraseIdx_eq_take_drop_succ,List.take_of_length_le (l:=M.drop (g+1)) (by simp)]
 ·refine(BP (λi=>((i:Int),CL [] ((K.take i).filterMap (lnk g k)))) K.length (CL [] (Ce g k K)) (by simp[CL]) (λi hi=> ?_) ?_).trans ?_
  ·obtain⟨a,b,e,hab,hb⟩:=h.lk _ (List.getElem_mem hi)
   have i0:idx K[i] 0=some (a:Int):=by rw[e];rfl
   have i1:idx K[i] 1=some (b:Int):=by rw[e];rfl
   have ra:=FD hg hk hgk (show a<M.length by omega)
   have rb:=FD hg hk hgk hb
   have el:lnk (g:Int) (k:Int) K[i]=if ren g k a=ren g k b then none else some (B7 (ren g k a) (ren g k b)):=by rw[e];rfl
   simp only[dlt hi,cond_true,Au hi,bs,i0,i1,wq i,DF (lnk g k) hi,el]
   have hsub:∀x:Int,(cond (x==(g:Int)) (some (k:Int)) (some x))=some (if x=(g:Int) then(k:Int) else x):=λx=>by
    by_cases hx:x=(g:Int)
    ·simp[hx]
    ·have:(x==(g:Int))=false:=by simpa using hx
     rw[this,cond_false,if_neg hx]
   have hfl:∀x:Int,D.m (decide ((g:Int)<x))=some (if(g:Int)<x then 1 else 0):=λx=>by
    unfold D.m
    by_cases hx:(g:Int)<x
    ·simp[hx]
    ·simp[hx]
   have hren:∀x:Int,ren g k x=(if x=(g:Int) then(k:Int) else x)-(if(g:Int)<(if x=(g:Int) then(k:Int) else x) then 1 else 0):=λx=>by
    unfold ren
    by_cases hx:(g:Int)<(if x=(g:Int) then(k:Int) else x)
    ·rw[if_pos hx,if_pos hx]
    ·rw[if_neg hx,if_neg hx];omega
   have ne1:(if(a:Int)=(g:Int) then(k:Int) else a)≠(g:Int):=by split<;>omega
   have ne2:(if(b:Int)=(g:Int) then(k:Int) else b)≠(g:Int):=by split<;>omega
   have hA:=hren (a:Int);have hBb:=hren (b:Int)
   rw[hsub,bs,hsub,bs]
   generalize (if(a:Int)=(g:Int) then(k:Int) else a)=x at*
   generalize (if(b:Int)=(g:Int) then(k:Int) else b)=y at*
   have hiff:ren g k a=ren g k b↔x=y:=by
    rw[hA,hBb]
    constructor
    ·intro hh;split at hh<;>split at hh<;>omega
    ·rintro rfl;rfl
   by_cases hc:x=y
   ·have:(x !=y)=false:=by simpa using hc
    rw[this,cond_false,if_pos (hiff.2 hc)];simp
   ·have:(x !=y)=true:=by simpa using hc
    rw[this,cond_true,if_neg (λhh=>hc (hiff.1 hh)),hfl,bs,hfl,bs,←hA,←hBb,w64 (by omega) (by omega),w64 (by omega) (by omega)]
    have hlen:(CL [] ((K.take i).filterMap (lnk g k))).length≤16:=by
     obtain⟨hp,_⟩:=DR ((K.take i).filterMap (lnk g k)) [] (by simp[DZ])
     rw[hp.length_eq,List.append_nil]
     have:=List.length_filterMap_le (lnk (g:Int) (k:Int)) (K.take i)
     rw[List.length_take] at this;omega
    have hin:LinkIn (M.length-1) (B7 (ren g k a) (ren g k b)):=lnk_in hg hk hgk (h.lk _ (List.getElem_mem hi)) (by rw[el,if_neg (λhh=>hc (hiff.1 hh))])
    rw[Fa (λx hx=> ?_) (hin.good (by omega)) (by omega),bs,Option.toList_some,FO]
    obtain⟨hp,_⟩:=DR ((K.take i).filterMap (lnk g k)) [] (by simp[DZ])
    rw[List.append_nil] at hp
    exact((D2 (λl hl=>h.lk l (List.mem_of_mem_take hl)) hg hk hgk x (hp.mem_iff.1 hx))).good (by omega)
  ·simp only[Ba,cond_false,List.take_length];rfl
  ·rw[FQ (λx hx=>(D2 h.lk hg hk hgk x hx).good (by omega))]
theorem TS.merge :TS (M.eraseIdx g) ((Ce g k K).mergeSort B5):=by
 have h16:=h.n16
 have hl:(M.eraseIdx g).length=M.length-1:=by rw[List.length_eraseIdx,if_pos hg]
 refine⟨by omega,λs hs=>h.vs s (List.mem_of_mem_eraseIdx hs),λl hl'=> ?_,?_⟩
 ·rw[hl]
  exact D2 h.lk hg hk hgk l ((BU _).mem_iff.1 hl')
 ·rw[(BU _).length_eq]
  exact Nat.le_trans (merged_len g k K) h.k16
end
def Dm (M:LI)(l:LI):Option (Nat×Nat):=
 if prt (M.getD (l.getD 1 0).toNat 0) (M.getD (l.getD 0 0).toNat 0) then some ((l.getD 1 0).toNat,(l.getD 0 0).toNat)
 else if prt (M.getD (l.getD 0 0).toNat 0) (M.getD (l.getD 1 0).toNat 0) then some ((l.getD 0 0).toNat,(l.getD 1 0).toNat) else none
def Cz (M:LI)(K:LL):Option (Nat×Nat):=(List.range K.length).findSome? (λi=>Dm M (K.getD i []))
section
variable {M : LI} {K : LL} (h : TS M K)
include h
theorem spareM_in {l:LI}(hl:l∈K){g k:Nat}(e:Dm M l=some (g,k)):g<M.length∧k<M.length∧g≠k:=by
 obtain⟨a,b,rfl,hab,hb⟩:=h.lk l hl
 unfold Dm at e
 simp only[List.getD_cons_zero,List.getD_cons_succ,Int.toNat_natCast] at e
 split at e
 ·cases e;omega
 ·split at e
  ·cases e;omega
  ·cases e
theorem spare_in {g k:Nat}(e:Cz M K=some (g,k)):g<M.length∧k<M.length∧g≠k:=by
 obtain⟨i,hi,e2⟩:=List.exists_of_findSome?_eq_some e
 have hi':=List.mem_range.1 hi
 rw[AD hi'] at e2
 exact spareM_in h (List.getElem_mem hi') e2
theorem ES :D.D0 (M.map Ap) K=some (match Cz M K with|some (g,k)=>((g:Int),(k:Int))|none=>(-1,-1)):=by
 have h16:=h.n16;have hk16:=h.k16
 unfold D.D0
 have key:=CW (ρ:=Unit ⊕ (Int×Int)) (step:=(fun(x_134:Int)=>cond (decide (x_134<(K.length:Int))) ((idx K x_134).bind λe_200=>(idx e_200 0).bind λe_206=>(idx K x_134).bind λe_212=>(idx e_212 1).bind λe_218=>(idx (M.map Ap) e_218).bind λe_224=>(idx (M.map Ap) e_206).bind λe_230=>(D.B e_224 e_230).bind λy_236=>cond y_236 (some (.inr (.inr (e_218,e_206)))) ((idx (M.map Ap) e_206).bind λe_242=>(idx (M.map Ap) e_218).bind λe_248=>(D.B e_242 e_248).bind λy_254=>cond y_254 (some (.inr (.inr (e_206,e_218)))) (some (.inl (IntKind.i64.wrap (x_134+1)))))) (some (.inr (.inl ()))))) K.length (λi=>(Dm M (K.getD i [])).map λp=> .inr ((p.1:Int),(p.2:Int))) (.inl ()) (λi hi=>by
  obtain⟨a,b,e,hab,hb⟩:=h.lk _ (List.getElem_mem hi)
  have i0:idx K[i] 0=some (a:Int):=by rw[e];rfl
  have i1:idx K[i] 1=some (b:Int):=by rw[e];rfl
  have hm:∀x:Nat,x<M.length→idx (M.map Ap) (x:Int)=some (Ap (M.getD x 0))∧VS (M.getD x 0):=λx hx=>by
   rw[Au (by simpa using hx),List.getElem_map,AD hx]
   exact⟨rfl,h.vs _ (List.getElem_mem hx)⟩
  obtain⟨ma,va⟩:=hm a (by omega)
  obtain⟨mb,vb⟩:=hm b hb
  simp only[dlt hi,cond_true,Au hi,bs,i0,i1,ma,mb,Fk vb va,Fk va vb,wq i,AD hi]
  have es:Dm M K[i]=if prt (M.getD b 0) (M.getD a 0) then some (b,a) else if prt (M.getD a 0) (M.getD b 0) then some (a,b) else none:=by rw[e];rfl
  rw[es]
  cases prt (M.getD b 0) (M.getD a 0)
  ·cases prt (M.getD a 0) (M.getD b 0)<;>rfl
  ·rfl) (by simp only[Ba,cond_false])
 rw[key,bs,Ed]
 unfold Cz
 cases (List.range K.length).findSome? (λi=>Dm M (K.getD i [])) with
 |none=>rfl
 |some p=>rfl
theorem EH :As (σ:=Int) (ρ:=(LI×LL×Bool)) (fun(x_1473:Int)=>cond (decide (x_1473<(K.length:Int))) ((idx K x_1473).bind λe_1582=>(idx e_1582 0).bind λe_1588=>(idx e_1582 1).bind λe_1594=>(idx M e_1594).bind λe_1602=>(idx M e_1588).bind λe_1608=>cond ((iandNot .u32 e_1602 e_1608)==0) ((D.h M K e_1594 e_1588).bind λy_1623=>some (.inr (y_1623.1,y_1623.2,true))) ((idx M e_1588).bind λe_1638=>(idx M e_1594).bind λe_1644=>cond ((iandNot .u32 e_1638 e_1644)==0) ((D.h M K e_1588 e_1594).bind λy_1659=>some (.inr (y_1659.1,y_1659.2,true))) (some (.inl (IntKind.i64.wrap (x_1473+1)))))) (some (.inr (M,K,false)))) 0=
  some (match Cz M K with|some (g,k)=>(M.eraseIdx g,(Ce g k K).mergeSort B5,true)|none=>(M,K,false)):=by
 have h16:=h.n16;have hk16:=h.k16
 have key:=CW (ρ:=(LI×LL×Bool)) (step:=(fun(x_1473:Int)=>cond (decide (x_1473<(K.length:Int))) ((idx K x_1473).bind λe_1582=>(idx e_1582 0).bind λe_1588=>(idx e_1582 1).bind λe_1594=>(idx M e_1594).bind λe_1602=>(idx M e_1588).bind λe_1608=>cond ((iandNot .u32 e_1602 e_1608)==0) ((D.h M K e_1594 e_1588).bind λy_1623=>some (.inr (y_1623.1,y_1623.2,true))) ((idx M e_1588).bind λe_1638=>(idx M e_1594).bind λe_1644=>cond ((iandNot .u32 e_1638 e_1644)==0) ((D.h M K e_1588 e_1594).bind λy_1659=>some (.inr (y_1659.1,y_1659.2,true))) (some (.inl (IntKind.i64.wrap (x_1473+1)))))) (some (.inr (M,K,false))))) K.length (λi=>(Dm M (K.getD i [])).map λp=>(M.eraseIdx p.1,(Ce p.1 p.2 K).mergeSort B5,true)) (M,K,false) (λi hi=>by
  obtain⟨a,b,e,hab,hb⟩:=h.lk _ (List.getElem_mem hi)
  have i0:idx K[i] 0=some (a:Int):=by rw[e];rfl
  have i1:idx K[i] 1=some (b:Int):=by rw[e];rfl
  have hm:∀x:Nat,x<M.length→idx M (x:Int)=some (M.getD x 0):=λx hx=>by
   rw[Au hx,AD hx]
  have ma:=hm a (by omega)
  have mb:=hm b hb
  simp only[dlt hi,cond_true,Au hi,bs,i0,i1,ma,mb,impl_merge h hb (show a<M.length by omega) (by omega),impl_merge h (show a<M.length by omega) hb (by omega),wq i,AD hi]
  have es:Dm M K[i]=if prt (M.getD b 0) (M.getD a 0) then some (b,a) else if prt (M.getD a 0) (M.getD b 0) then some (a,b) else none:=by rw[e];rfl
  rw[es]
  have p1:((iandNot .u32 (M.getD b 0) (M.getD a 0))==0)=prt (M.getD b 0) (M.getD a 0):=rfl
  have p2:((iandNot .u32 (M.getD a 0) (M.getD b 0))==0)=prt (M.getD a 0) (M.getD b 0):=rfl
  rw[p1,p2]
  cases prt (M.getD b 0) (M.getD a 0)
  ·cases prt (M.getD a 0) (M.getD b 0)<;>rfl
  ·rfl) (by simp only[Ba,cond_false])
 rw[key,Ed]
 unfold Cz
 cases (List.range K.length).findSome? (λi=>Dm M (K.getD i [])) with
 |none=>rfl
 |some p=>rfl
end
theorem tidy_both :∀(m:Nat) (M:LI) (K:LL),M.length≤m→TS M K→∃M' K',TS M' K'∧
  As (σ:=LI×LL×Bool) (ρ:=(LI×LL)) (fun(s_853:LI×LL×Bool)=>match s_853 with|(l_856,l_861,b_866)=>cond b_866 ((As (σ:=Int) (ρ:=(LI×LL×Bool)) (fun(x_1473:Int)=>cond (decide (x_1473<(l_861.length:Int))) ((idx l_861 x_1473).bind λe_1582=>(idx e_1582 0).bind λe_1588=>(idx e_1582 1).bind λe_1594=>(idx l_856 e_1594).bind λe_1602=>(idx l_856 e_1588).bind λe_1608=>cond ((iandNot .u32 e_1602 e_1608)==0) ((D.h l_856 l_861 e_1594 e_1588).bind λy_1623=>some (.inr (y_1623.1,y_1623.2,true))) ((idx l_856 e_1588).bind λe_1638=>(idx l_856 e_1594).bind λe_1644=>cond ((iandNot .u32 e_1638 e_1644)==0) ((D.h l_856 l_861 e_1588 e_1594).bind λy_1659=>some (.inr (y_1659.1,y_1659.2,true))) (some (.inl (IntKind.i64.wrap (x_1473+1)))))) (some (.inr (l_856,l_861,false)))) 0).bind fun(l_1569,l_1574,b_1579)=>some (.inl (l_1569,l_1574,b_1579))) (some (.inr (l_856,l_861)))) (M,K,true)=some (M',K')∧
  As (σ:=LL×LL) (ρ:=((LL)×(LL)×Bool)) (fun(s_125:LL×LL)=>match s_125 with|(l_128,l_133)=>(D.D0 l_128 l_133).bind λy_139=>cond (decide (y_139.1<0)) (some (.inr (l_128,l_133,true))) ((D.v0 l_128 l_133 y_139.1 y_139.2).bind λy_160=>some (.inl (y_160.1,y_160.2)))) (M.map Ap,K)=some (M'.map Ap,K',true)∧Cz M' K'=none∧
  ∀I:LI→LL→Prop,I M K→(∀M K g k,TS M K→Cz M K=some (g,k)→I M K→I (M.eraseIdx g) ((Ce g k K).mergeSort B5))→I M' K':=by
 intro m
 induction m with
 |zero=>
  intro M K hm h
  have hK:K=[]:=by
   cases K with
   |nil=>rfl
   |cons l K=>
    obtain⟨a,b,_,h1,h2⟩:=h.lk l (by simp)
    omega
  subst hK
  refine⟨M,[],h,?_,?_,rfl,λI hI _=>hI⟩
  ·rw[BF (s':=(M,[],false)) (by simp only[cond_true];rw[EH h];rfl),Bd (r:=(M,[])) (by rfl)]
  ·rw[Bd (r:=(M.map Ap,[],true)) (by simp only[ES h];rfl)]
 |succ m ih=>
  intro M K hm h
  cases hsp:Cz M K with
  |none=>
   refine⟨M,K,h,?_,?_,hsp,λI hI _=>hI⟩
   ·rw[BF (s':=(M,K,false)) (by simp only[cond_true];rw[EH h,hsp];rfl),Bd (r:=(M,K)) (by rfl)]
   ·rw[Bd (r:=(M.map Ap,K,true)) (by simp only[ES h,hsp];rfl)]
  |some p=>
   obtain⟨g,k⟩:=p
   obtain⟨hg,hk,hgk⟩:=spare_in h hsp
   obtain⟨M',K',h1,h2,h3,h4,h5⟩:=ih (M.eraseIdx g) ((Ce g k K).mergeSort B5) (by rw[List.length_eraseIdx,if_pos hg];omega) (h.merge hg hk hgk)
   refine⟨M',K',h1,?_,?_,h4,λI hI hs=>h5 I (hs M K g k h hsp hI) hs⟩
   ·rw[BF (s':=(M.eraseIdx g,(Ce g k K).mergeSort B5,true)) (by simp only[cond_true];rw[EH h,hsp];rfl)]
    exact h2
   ·have hn:decide ((g:Int)<0)=false:=by simp
    rw[BF (s':=((M.eraseIdx g).map Ap,(Ce g k K).mergeSort B5)) (by simp only[ES h,hsp,bs,hn,cond_false,spec_merge h hg hk hgk])]
    exact h3
end Go.Sx

namespace Go.Sx
theorem Lk.symm {links:LL}{x y:Int}(h:Lk links x y):Lk links y x:=Or.elim h (λh=>Or.inr h) (λh=>Or.inl h)
theorem conn_iff {links:LL}{sel:LI}:DE links sel↔∀T:Int→Prop,(∃x∈sel,T x)→(∀x y,x∈sel→y∈sel→T x→Lk links x y→T y)→∀x∈sel,T x:=by
 constructor
 ·intro h T ⟨x0,hx0,hT⟩ hs
  classical
  have hall:∀U:Int→Prop,(∀x,sel.head? =some x→U x)→(∀x y,x∈sel→y∈sel→U x→Lk links x y→U y)→∀x∈sel,U x:=λU h1 h2 x hx=>by
   have:=h (sel.filter λz=>decide (U z)) ⟨λz hz=>(List.mem_filter.1 hz).1,λz hz=>List.mem_filter.2 ⟨List.mem_of_mem_head? hz,decide_eq_true (h1 z hz)⟩,λa ha b hb hl=>by
    have ha:=List.mem_filter.1 ha
    exact List.mem_filter.2 ⟨hb,decide_eq_true (h2 a b ha.1 hb (of_decide_eq_true ha.2) hl)⟩⟩ x hx
   exact of_decide_eq_true (List.mem_filter.1 this).2
  cases hsel:sel with
  |nil=>intro x hx;simp at hx
  |cons z t=>
   rw[←hsel]
   have hz:T z:=by
    apply Classical.byContradiction
    intro hc
    have:=hall (λx=>¬T x) (λx hx=>by rw[hsel] at hx;simp at hx;rw[←hx];exact hc) (λa b ha hb hna hl hTb=>hna (hs b a hb ha hTb hl.symm)) x0 hx0
    exact this hT
   exact hall T (λx hx=>by rw[hsel] at hx;simp at hx;rw[←hx];exact hz) hs
 ·intro h m hm x hx
  cases hsel:sel with
  |nil=>rw[hsel] at hx;simp at hx
  |cons z t=>
   exact h (λz=>z∈m) ⟨z,by rw[hsel];simp,hm.first z (by rw[hsel];rfl)⟩ (λa b _ hb ha hl=>hm.step a ha b hb hl) x hx
theorem conn_map {K K':LL}{sel sel':LI}(φ:Int→Int)(h:DE K sel)(h1:∀x∈sel,φ x∈sel')(h2:∀y∈sel',∃x∈sel,φ x=y)(h3:∀x y,x∈sel→y∈sel→Lk K x y→φ x=φ y∨Lk K' (φ x) (φ y)):DE K' sel':=by
 rw[conn_iff] at h ⊢
 intro T ⟨y0,hy0,hT⟩ hs y hy
 obtain⟨x0,hx0,rfl⟩:=h2 y0 hy0
 obtain⟨x,hx,rfl⟩:=h2 y hy
 refine h (λz=>T (φ z)) ⟨x0,hx0,hT⟩ (λa b ha hb hTa hl=> ?_) x hx
 rcases h3 a b ha hb hl with e|e
 ·rw[←e];exact hTa
 ·exact hs _ _ (h1 a ha) (h1 b hb) hTa e
theorem countP_lt {α:Type}{p q:α→Bool}:∀{l:List α},(∀x∈l,p x=true→q x=true)→(∃x∈l,q x=true∧p x=false)→l.countP p+1≤l.countP q
 |[],_,h=>by obtain⟨x,hx,_⟩:=h;simp at hx
 |a::l,h1,h2=>by
  have hm:l.countP p≤l.countP q:=List.countP_mono_left λx hx=>h1 x (List.mem_cons_of_mem _ hx)
  obtain⟨x,hx,hq,hp⟩:=h2
  rw[List.countP_cons,List.countP_cons]
  rcases List.mem_cons.1 hx with rfl|hx
  ·rw[hq,hp];simp;omega
  ·have:=countP_lt (λx hx=>h1 x (List.mem_cons_of_mem _ hx)) ⟨x,hx,hq,hp⟩
   have h3:=h1 a (List.mem_cons_self ..)
   cases hpa:p a
   ·cases q a<;>simp<;>omega
   ·rw[h3 hpa];simp;omega
theorem conn_many {links:LL}{sel:LI}(hn:sel.Nodup)(h:DE links sel):sel.length≤links.length+1:=by
 rw[conn_iff] at h
 have key:∀k,k+1≤sel.length→∃T:LI,T.Nodup∧(∀x∈T,x∈sel)∧T.length=k+1∧k≤links.countP (λl=>decide (l.getD 0 0∈T)&&decide (l.getD 1 0∈T)):=by
  intro k
  induction k with
  |zero=>
   intro hk
   have hs:0<sel.length:=by omega
   exact⟨[sel[0]],by simp,λx hx=>by simp at hx;rw[hx];exact List.getElem_mem hs,rfl,by omega⟩
  |succ k ih=>
   intro hk
   obtain⟨T,hT1,hT2,hT3,hT4⟩:=ih (by omega)
   have hex:∃x y,x∈T∧y∈sel∧y∉T∧Lk links x y:=by
    apply Classical.byContradiction
    intro hc
    have hall:=h (λz=>z∈T) ⟨T[0]'(by omega),hT2 _ (List.getElem_mem _),List.getElem_mem _⟩ (λx y _ hy hx hl=>by
     apply Classical.byContradiction
     intro hy2
     exact hc ⟨x,y,hx,hy,hy2,hl⟩)
    have:=Cd hn hall
    omega
   obtain⟨x,y,hx,hy,hyT,hl⟩:=hex
   refine⟨y::T,List.nodup_cons.2 ⟨hyT,hT1⟩,λz hz=> ?_,by simp[hT3],?_⟩
   ·rcases List.mem_cons.1 hz with rfl|hz
    ·exact hy
    ·exact hT2 z hz
   ·refine Nat.le_trans (Nat.succ_le_succ hT4) (countP_lt (λl _ hl=> ?_) ?_)
    ·simp only[Bool.and_eq_true,decide_eq_true_eq] at hl ⊢
     exact⟨List.mem_cons_of_mem _ hl.1,List.mem_cons_of_mem _ hl.2⟩
    ·rcases hl with hl|hl
     ·exact⟨[x,y],hl,by simp[hx],by simp[hyT]⟩
     ·exact⟨[y,x],hl,by simp[hx],by simp[hyT]⟩
 cases hs:sel.length with
 |zero=>omega
 |succ k=>
  obtain⟨T,_,_,_,h4⟩:=key k (by omega)
  have:= @List.countP_le_length _ (λl=>decide (l.getD 0 0∈T)&&decide (l.getD 1 0∈T)) links
  omega
theorem conn_perm {K K':LL}{sel:LI}(h:DE K sel)(hp:∀x y,Lk K x y→Lk K' x y):DE K' sel:=
 conn_map id h (λx hx=>hx) (λy hy=>⟨y,hy,rfl⟩) (λx y _ _ hl=> .inr (hp x y hl))
theorem TB.perm {g B K K':LL}(h:TB g B K)(p:K'.Perm K):TB g B K':=by
 have hl:∀x y,Lk K x y→Lk K' x y:=λx y hl=>Or.elim hl (λh=>Or.inl (p.mem_iff.2 h)) (λh=>Or.inr (p.mem_iff.2 h))
 exact⟨h.n1,h.n16,by rw[p.length_eq];exact h.many,λl hl'=>h.lks l (p.mem_iff.1 hl'),h.sets,conn_perm h.tree hl,h.edges,h.some,λv hv=>conn_perm (h.conn v hv) hl⟩
def phi (g k:Nat)(x:Nat):Nat:=if g<(if x=g then k else x) then(if x=g then k else x)-1 else(if x=g then k else x)
theorem Fw (g k x:Nat):ren (g:Int) (k:Int) (x:Int)=((phi g k x:Nat):Int):=by
 unfold ren phi
 by_cases h:x=g
 ·simp only[h,if_true]
  by_cases h2:g<k
  ·rw[if_pos (by omega),if_pos h2];omega
  ·rw[if_neg (by omega),if_neg h2]
 ·rw[if_neg (show¬(x:Int)=g by omega),if_neg h]
  by_cases h2:g<x
  ·rw[if_pos (by omega),if_pos h2];omega
  ·rw[if_neg (by omega),if_neg h2]
theorem phi_lt {n g k x:Nat}(hg:g<n)(hk:k<n)(hgk:g≠k)(hx:x<n):phi g k x<n-1:=by
 unfold phi
 by_cases h:x=g
 ·simp only[h,if_true]
  by_cases h2:g<k
  ·rw[if_pos h2];omega
  ·rw[if_neg h2];omega
 ·simp only[h,if_false]
  by_cases h2:g<x
  ·rw[if_pos h2];omega
  ·rw[if_neg h2];omega
theorem phi_gk {g k:Nat}(hgk:g≠k):phi g k g=phi g k k:=by
 unfold phi;simp[hgk.symm]
theorem phi_ex {n g k y:Nat}(hg:g<n)(hy:y<n-1):∃x,x<n∧x≠g∧phi g k x=y:=by
 by_cases h:y<g
 ·exact⟨y,by omega,by omega,by unfold phi;rw[if_neg (show¬y=g by omega),if_neg (by omega)]⟩
 ·exact⟨y+1,by omega,by omega,by unfold phi;rw[if_neg (show¬y+1=g by omega),if_pos (by omega)];omega⟩
theorem Fu {M:LI}{g k x:Nat}(hg:g<M.length)(hx:x<M.length)(hxg:x≠g):(M.eraseIdx g).getD (phi g k x) 0=M.getD x 0:=by
 unfold phi
 rw[if_neg hxg,List.getD_eq_getElem?_getD,List.getD_eq_getElem?_getD,List.getElem?_eraseIdx]
 by_cases h:g<x
 ·rw[if_pos h,if_neg (by omega)];congr 2;omega
 ·rw[if_neg h,if_pos (by omega)]
theorem prt_has {s t:Int}(hs:VS s)(ht:VS t)(h:prt s t=true){v:Nat}(hv:has s v=true):has t v=true:=by
 unfold prt at h
 rw[beq_iff_eq] at h
 have:=congrArg (λz=>has z v) h
 rw[Bl hs ht,Ci,hv] at this
 simpa using this
section
variable {G : LL} {M : LI} {K : LL} (h : TS M K) (hT : TB G (M.map Ap) K) {g k : Nat} (hg : g < M.length) (hk : k < M.length) (hgk : g ≠ k)
include h hT hg hk hgk
theorem lnk_of {a b:Nat}(ha:a<M.length)(hb:b<M.length)(hl:Lk K (a:Int) (b:Int)):phi g k a=phi g k b∨Lk ((Ce g k K).mergeSort B5) ((phi g k a:Nat):Int) ((phi g k b:Nat):Int):=by
 by_cases he:phi g k a=phi g k b
 ·exact .inl he
 ·right
  have hm:∀l,lnk (g:Int) (k:Int) l=some (B7 ((phi g k a:Nat):Int) ((phi g k b:Nat):Int))→l∈K→Lk ((Ce g k K).mergeSort B5) ((phi g k a:Nat):Int) ((phi g k b:Nat):Int):=λl e hl=>by
   have hin:B7 ((phi g k a:Nat):Int) ((phi g k b:Nat):Int)∈(Ce g k K).mergeSort B5:=(BU _).mem_iff.2 (List.mem_filterMap.2 ⟨l,hl,e⟩)
   unfold B7 at hin
   rcases Nat.lt_or_ge (phi g k a) (phi g k b) with c|c
   ·rw[Int.min_eq_left (by omega),Int.max_eq_right (by omega)] at hin;exact .inl hin
   ·rw[Int.min_eq_right (by omega),Int.max_eq_left (by omega)] at hin;exact .inr hin
  rcases hl with hl|hl
  ·refine hm _ ?_ hl
   unfold lnk
   simp only[List.getD_cons_zero,List.getD_cons_succ,Fw]
   rw[if_neg (by omega)]
  ·refine hm _ ?_ hl
   unfold lnk
   simp only[List.getD_cons_zero,List.getD_cons_succ,Fw]
   rw[if_neg (by omega)]
   unfold B7
   rw[Int.min_comm,Int.max_comm]
theorem merge_TB (hsub:∀v,has (M.getD g 0) v=true→has (M.getD k 0) v=true)(hl:Lk K (g:Int) (k:Int)):TB G ((M.eraseIdx g).map Ap) ((Ce g k K).mergeSort B5):=by
 have hml:(M.eraseIdx g).length=M.length-1:=by rw[List.length_eraseIdx,if_pos hg]
 have hTS:=h.merge hg hk hgk
 have hM:M.length=K.length+1:=by have:=hT.many;simpa using this.symm
 have hmem:∀i (hi:i<M.length) (v:Nat),(v:Int)∈(M.map Ap).getD i []↔has (M.getD i 0) v=true:=λi hi v=>by
  rw[AD (by simpa using hi),List.getElem_map,AD hi,AS (h.vs _ (List.getElem_mem hi))]
 have hmem':∀i (hi:i<M.length-1) (v:Nat),(v:Int)∈((M.eraseIdx g).map Ap).getD i []↔has ((M.eraseIdx g).getD i 0) v=true:=λi hi v=>by
  rw[AD (by simp;omega),List.getElem_map,AD (by omega),AS (hTS.vs _ (List.getElem_mem _))]
 have hphi:∀x v,x<M.length→has (M.getD x 0) v=true→has ((M.eraseIdx g).getD (phi g k x) 0) v=true:=λx v hx hv=>by
  by_cases hxg:x=g
  ·subst hxg
   rw[phi_gk hgk,Fu hg hk hgk.symm];exact hsub v hv
  ·rw[Fu hg hx hxg];exact hv
 have hwith:∀(v:Nat) (x:Int),x∈Cy (M.map Ap) (v:Int)↔∃b:Nat,x=b∧b<M.length∧has (M.getD b 0) v=true:=λv x=>by
  rw[mem_withV,List.length_map]
  constructor
  ·rintro⟨b,h1,h2,h3⟩;exact⟨b,h1,h2,(hmem b h2 v).1 h3⟩
  ·rintro⟨b,h1,h2,h3⟩;exact⟨b,h1,h2,(hmem b h2 v).2 h3⟩
 have hwith':∀(v:Nat) (x:Int),x∈Cy ((M.eraseIdx g).map Ap) (v:Int)↔∃b:Nat,x=b∧b<M.length-1∧has ((M.eraseIdx g).getD b 0) v=true:=λv x=>by
  rw[mem_withV,List.length_map,hml]
  constructor
  ·rintro⟨b,h1,h2,h3⟩;exact⟨b,h1,h2,(hmem' b h2 v).1 h3⟩
  ·rintro⟨b,h1,h2,h3⟩;exact⟨b,h1,h2,(hmem' b h2 v).2 h3⟩
 have htree:DE ((Ce g k K).mergeSort B5) ((List.range ((M.eraseIdx g).map Ap).length).map Int.ofNat):=by
  have ht:=hT.tree
  rw[List.length_map] at ht ⊢
  rw[hml]
  refine conn_map (λx=>((phi g k x.toNat:Nat):Int)) ht (λx hx=> ?_) (λy hy=> ?_) (λx y hx hy hxy=> ?_)
  ·obtain⟨i,hi,rfl⟩:=List.mem_map.1 hx
   exact List.mem_map.2 ⟨_,List.mem_range.2 (phi_lt hg hk hgk (List.mem_range.1 hi)),rfl⟩
  ·obtain⟨j,hj,rfl⟩:=List.mem_map.1 hy
   obtain⟨x,hx,_,e⟩:=phi_ex (k:=k) hg (List.mem_range.1 hj)
   exact⟨(x:Int),List.mem_map.2 ⟨x,List.mem_range.2 hx,rfl⟩,by rw[Int.toNat_natCast,e];rfl⟩
  ·obtain⟨i,hi,rfl⟩:=List.mem_map.1 hx
   obtain⟨j,hj,rfl⟩:=List.mem_map.1 hy
   rcases lnk_of h hT hg hk hgk (List.mem_range.1 hi) (List.mem_range.1 hj) hxy with e|e
   ·left;show ((phi g k i:Nat):Int)=((phi g k j:Nat):Int);rw[e]
   ·right;exact e
 refine⟨by rw[List.length_map,hml];omega,by rw[List.length_map];exact hTS.n16,?_,by rw[List.length_map];exact hTS.lk,λb hb=> ?_,htree,λu v hu ha=> ?_,λv hv=> ?_,λv hv=> ?_⟩
 ·rw[List.length_map,hml]
  have hnd:((List.range ((M.eraseIdx g).map Ap).length).map Int.ofNat).Nodup:=by
   unfold List.Nodup
   rw[List.pairwise_map]
   exact List.Pairwise.imp (fun{a b} h e=>by have:(a:Int)=(b:Int):=e;omega) List.pairwise_lt_range
  have h1:=conn_many hnd htree
  rw[List.length_map,List.length_range,List.length_map,hml] at h1
  have h2:(Ce g k K).length+1≤K.length:=by
   have hle:∀L:LL,(∃l∈L,lnk (g:Int) (k:Int) l=none)→(L.filterMap (lnk (g:Int) (k:Int))).length+1≤L.length:=by
    intro L
    induction L with
    |nil=>rintro⟨l,hl,_⟩;simp at hl
    |cons a L ih=>
     rintro⟨l,hl,e⟩
     rcases List.mem_cons.1 hl with rfl|hl
     ·rw[List.filterMap_cons_none e]
      have:=List.length_filterMap_le (lnk (g:Int) (k:Int)) L
      simp only[List.length_cons];omega
     ·have:=ih ⟨l,hl,e⟩
      cases ha:lnk (g:Int) (k:Int) a with
      |none=>rw[List.filterMap_cons_none ha];simp only[List.length_cons];omega
      |some r=>rw[List.filterMap_cons_some ha];simp only[List.length_cons];omega
   refine hle K ?_
   rcases hl with hl|hl
   ·exact⟨_,hl,by unfold lnk;simp only[List.getD_cons_zero,List.getD_cons_succ,Fw];rw[if_pos (by rw[phi_gk hgk])]⟩
   ·exact⟨_,hl,by unfold lnk;simp only[List.getD_cons_zero,List.getD_cons_succ,Fw];rw[if_pos (by rw[phi_gk hgk])]⟩
  have h3:=(BU (Ce g k K)).length_eq
  rw[h3] at h1 ⊢
  omega
 ·obtain⟨s,hs,rfl⟩:=List.mem_map.1 hb
  exact hT.sets _ (List.mem_map.2 ⟨s,List.mem_of_mem_eraseIdx hs,rfl⟩)
 ·obtain⟨b,hb,hub,hvb⟩:=hT.edges u v hu ha
  obtain⟨i,hi,rfl⟩:=List.getElem_of_mem hb
  have hi':i<M.length:=by simpa using hi
  rw[←AD hi [],hmem i hi'] at hub hvb
  have hp:=phi_lt hg hk hgk hi'
  refine⟨((M.eraseIdx g).map Ap).getD (phi g k i) [],?_,(hmem' _ hp u).2 (hphi i u hi' hub),(hmem' _ hp v).2 (hphi i v hi' hvb)⟩
  rw[AD (by simp;omega)]
  exact List.getElem_mem _
 ·obtain⟨x,hx⟩:=List.exists_mem_of_ne_nil _ (hT.some v hv)
  obtain⟨b,rfl,hb,hvb⟩:=(hwith v x).1 hx
  intro hc
  have:=(hwith' v _).2 ⟨_,rfl,phi_lt hg hk hgk hb,hphi b v hb hvb⟩
  rw[hc] at this
  simp at this
 ·refine conn_map (λx=>((phi g k x.toNat:Nat):Int)) (hT.conn v hv) (λx hx=> ?_) (λy hy=> ?_) (λx y hx hy hxy=> ?_)
  ·obtain⟨b,rfl,hb,hvb⟩:=(hwith v x).1 hx
   exact(hwith' v _).2 ⟨_,rfl,phi_lt hg hk hgk hb,hphi b v hb hvb⟩
  ·obtain⟨b,rfl,hb,hvb⟩:=(hwith' v y).1 hy
   obtain⟨x,hx,hxg,e⟩:=phi_ex (k:=k) hg hb
   refine⟨(x:Int),(hwith v _).2 ⟨x,rfl,hx,?_⟩,by rw[Int.toNat_natCast,e]⟩
   rw[←e,Fu hg hx hxg] at hvb
   exact hvb
  ·obtain⟨a,rfl,ha,_⟩:=(hwith v x).1 hx
   obtain⟨b,rfl,hb,_⟩:=(hwith v y).1 hy
   rcases lnk_of h hT hg hk hgk ha hb hxy with e|e
   ·left;rw[Int.toNat_natCast,Int.toNat_natCast,e]
   ·right;exact e
end
structure Kept (G:LL)(M0:LI)(M:LI)(K:LL):Prop where
 tb:TB G (M.map Ap) K
 len:M.length≤M0.length
 old:∀s∈M,s∈M0
 sup:∀s∈M0,∃t∈M,∀v,has s v=true→has t v=true
theorem spare_link {M:LI}{K:LL}(h:TS M K){g k:Nat}(e:Cz M K=some (g,k)):Lk K (g:Int) (k:Int)∧prt (M.getD g 0) (M.getD k 0)=true:=by
 obtain⟨i,hi,e2⟩:=List.exists_of_findSome?_eq_some e
 have hi':=List.mem_range.1 hi
 rw[AD hi'] at e2
 obtain⟨a,b,el,hab,hb⟩:=h.lk _ (List.getElem_mem hi')
 have hm:=List.getElem_mem hi'
 rw[el] at e2 hm
 unfold Dm at e2
 simp only[List.getD_cons_zero,List.getD_cons_succ,Int.toNat_natCast] at e2
 split at e2
 ·rename_i h1;cases e2;exact⟨.inr hm,h1⟩
 ·split at e2
  ·rename_i h1;cases e2;exact⟨.inl hm,h1⟩
  ·cases e2
theorem Kept.step {G:LL}{M0 M:LI}{K:LL}(hM:Kept G M0 M K)(h:TS M K){g k:Nat}(e:Cz M K=some (g,k)):Kept G M0 (M.eraseIdx g) ((Ce g k K).mergeSort B5):=by
 obtain⟨hg,hk,hgk⟩:=spare_in h e
 obtain⟨hl,hp⟩:=spare_link h e
 have hvs:∀i,i<M.length→VS (M.getD i 0):=λi hi=>by rw[AD hi];exact h.vs _ (List.getElem_mem hi)
 have hsub:∀v,has (M.getD g 0) v=true→has (M.getD k 0) v=true:=λv hv=>prt_has (hvs g hg) (hvs k hk) hp hv
 refine⟨merge_TB h hM.tb hg hk hgk hsub hl,?_,λs hs=>hM.old s (List.mem_of_mem_eraseIdx hs),λs hs=> ?_⟩
 ·have:=hM.len
  rw[List.length_eraseIdx,if_pos hg];omega
 ·obtain⟨t,ht,hst⟩:=hM.sup s hs
  obtain⟨i,hi,rfl⟩:=List.getElem_of_mem ht
  have hml:(M.eraseIdx g).length=M.length-1:=by rw[List.length_eraseIdx,if_pos hg]
  have hin:∀x,x<M.length→x≠g→M.getD x 0∈M.eraseIdx g:=λx hx hxg=>by
   rw[←Fu (k:=k) hg hx hxg,AD (by rw[hml];exact phi_lt hg hk hgk hx)]
   exact List.getElem_mem _
  by_cases hig:i=g
  ·subst hig
   exact⟨_,hin k hk hgk.symm,λv hv=>hsub v (by rw[AD hi];exact hst v hv)⟩
  ·refine⟨_,hin i hi hig,λv hv=>by rw[AD hi];exact hst v hv⟩
end Go.Sx

namespace Go.Sx
section
variable {g : LL} (hg : GOk g)
include hg
end
end Go.Sx

namespace Go.Sx
section
variable {g : LL} (hg : GOk g)
include hg
def prs (P:List (Nat×Nat)):LL:=P.map λp=>pr p.1 p.2
end
end Go.Sx

namespace Go.Sx
section
variable {g : LL} (hg : GOk g)
include hg
end
end Go.Sx

namespace Go.Sx
section
variable {g : LL} (hg : GOk g)
include hg
end
end Go.Sx

namespace Go.Sx
section
variable {g : LL} (hg : GOk g)
include hg
end
end Go.Sx

namespace Go.Sx
section
variable {g : LL} (hg : GOk g)
include hg
end
end Go.Sx

namespace Go.Sx
section
variable {g : LL} (hg : GOk g)
include hg
end
end Go.Sx

namespace Go.Sx
section
variable {g : LL} (hg : GOk g)
include hg
end
end Go.Sx

namespace Go.Sx
def wst (A:Nat→Nat→Bool)(s v u:Nat):Bool:=A v u&& !s.testBit u
def wcnF (A:Nat→Nat→Bool)(n:Nat)(L:Nat→Bool):Nat→Nat→Nat→Nat
 |0,_,_=>0
 |k+1,s,v=>if s=2^n-1 then bit (L v) else sumN (λu=>bit (wst A s v u)*wcnF A n L k (s|||2^u) u) n
def wcn (A:Nat→Nat→Bool)(n:Nat)(L:Nat→Bool)(s v:Nat):Nat:=wcnF A n L (2^n) s v
def Pot (n:Nat)(h w:Nat→Nat→Nat)(a:Nat):Nat:=sumN (λk=>sumN (λu=>(if a≤k then w k u else 0)*h k u) n) (2^n)
def zer (n s:Nat):Nat:=sumN (λu=>bit (!s.testBit u)) n
section
variable {F : LI} {n : Nat} (hF : FOk F n) (h1 : 1 ≤ n) (h16 : n ≤ 16)
include hF h1 h16
end
end Go.Sx

namespace Go.Sx
section
variable {F : LI} {n : Nat} (hF : FOk F n) (h1 : 1 ≤ n) (h16 : n ≤ 16)
include hF h1 h16
end
end Go.Sx

namespace Go.Sx
section
variable {g : LL} (hg : GOk g)
include hg
end
end Go.Sx

namespace Go.Sx
section
variable {g : LL} (hg : GOk g)
include hg
end
end Go.Sx

namespace Go.Sx
section
variable {g : LL} (hg : GOk g)
include hg
end
end Go.Sx

namespace Go.Sx
theorem some_of {α:Type}{e:Option α}{x:α}(h:∃r,e=some r∧r=x):e=some x:=by
 obtain⟨r,h,rfl⟩:=h
 exact h
section
variable {g : LL} (hg : GOk g)
include hg
end
end Go.Sx

namespace Go.Sx
structure Bf (g:LL)(S:Nat→Prop)(v0:Nat)(d q:LI):Prop where
 dl:d.length=g.length
 nd:q.Nodup
 me:∀x∈q,∃v:Nat,x=(v:Int)∧v<g.length∧0≤d.getD v (-1)
 bd:∀v,v<g.length→-1≤d.getD v (-1)∧d.getD v (-1)≤q.length
 rc:∀v,v<g.length→0≤d.getD v (-1)→Cn (adj g) S v0 v
 v0:0≤d.getD v0 (-1)
theorem Bf.ql {g:LL}{S:Nat→Prop}{v0:Nat}{d q:LI}(h:Bf g S v0 d q):q.length≤g.length:=by
 have:=Cd (l:=q) (m:=(List.range g.length).map Int.ofNat) h.nd (λx hx=>by
  obtain⟨v,rfl,hv,_⟩:=h.me x hx
  exact List.mem_map.2 ⟨v,List.mem_range.2 hv,rfl⟩)
 simpa using this
theorem Bf.add {g:LL}{S:Nat→Prop}{v0:Nat}{d q:LI}(h:Bf g S v0 d q){c u:Nat}(hc:c<g.length)(hu:u<g.length)(hcd:0≤d.getD c (-1))(hud:d.getD u (-1)<0)(ha:adj g c u)(hS:S u):Bf g S v0 (d.set u (d.getD c (-1)+1)) (q++[(u:Int)]):=by
 have hdl:=h.dl
 have hat:∀v,(d.set u (d.getD c (-1)+1)).getD v (-1)=if v=u then d.getD c (-1)+1 else d.getD v (-1):=λv=>by
  by_cases e:v=u
  ·subst e
   rw[if_pos rfl,AD (by rw[List.length_set];omega),List.getElem_set_self]
  ·rw[if_neg e,List.getD_eq_getElem?_getD,List.getElem?_set_ne (λh=>e h.symm),←List.getD_eq_getElem?_getD]
 refine⟨by rw[List.length_set];exact hdl,?_,λx hx=> ?_,λv hv=> ?_,λv hv hd=> ?_,?_⟩
 ·unfold List.Nodup
  rw[List.pairwise_append]
  refine⟨h.nd,List.pairwise_singleton _ _,λa ha b hb e=> ?_⟩
  obtain⟨v,rfl,hv,hvd⟩:=h.me a ha
  rw[List.mem_singleton] at hb
  obtain rfl:v=u:=by omega
  omega
 ·rw[List.mem_append,List.mem_singleton] at hx
  rcases hx with hx|rfl
  ·obtain⟨v,rfl,hv,hvd⟩:=h.me x hx
   refine⟨v,rfl,hv,?_⟩
   rw[hat]
   split<;>omega
  ·refine⟨u,rfl,hu,?_⟩
   rw[hat,if_pos rfl]
   omega
 ·rw[hat,List.length_append,List.length_singleton]
  have:=h.bd v hv
  have:=h.bd c hc
  split<;>omega
 ·rw[hat] at hd
  by_cases e:v=u
  ·subst e
   exact(h.rc c hc hcd).step ha hS
  ·rw[if_neg e] at hd
   exact h.rc v hv hd
 ·rw[hat]
  have:=h.v0
  split<;>omega
section
variable {g : LL} (hg : GOk g)
include hg
end
end Go.Sx

namespace Go.Sx
theorem opt_eq {α:Type}{e:Option α}{a:α}(h:∃y,e=some y∧y=a):e=some a:=by
 obtain⟨y,h1,rfl⟩:=h;exact h1
theorem opt_ex {α β:Type}{e:Option α}{f:β→α}{Q:β→Prop}(h:∃y,e=some y∧∃b,y=f b∧Q b):∃b,e=some (f b)∧Q b:=by
 obtain⟨_,h1,b,rfl,h2⟩:=h;exact⟨b,h1,h2⟩
structure GS (n:Nat)(m:Int)(k:Nat):Prop where
 vs:VS m
 lt:∀v,has m v=true→v<n
 left:SQ n (iandNot .u32 (full n) m) k
def rm (n:Nat)(m:Int):Int:=iandNot .u32 (full n) m
theorem DQ {n:Nat}{m:Int}(hn:n≤16)(hm:VS m)(v:Nat):has (rm n m) v=(decide (v<n)&& !has m v):=by
 unfold rm;rw[Bl (CF n) hm,CP hn]
theorem GS.zero {n:Nat}(hn:n≤16):GS n 0 n:=by
 refine⟨VS.zero,λv hv=>absurd hv (by rw[Ci];simp),?_⟩
 have:iandNot .u32 (full n) 0=full n:=(VS.iandNot _ _).ext (CF n) (λv _=>by rw[Bl (CF n) VS.zero,Ci];simp)
 rw[this];exact SQ.full hn
theorem GS.add {n k v:Nat}{m:Int}(hn:n≤16)(h:GS n m (k+1))(hv:v<n)(hm:has m v=false):GS n (ior .u32 m (ishl .u32 1 (v:Int))) k:=by
 refine⟨VS.ior _ _,λw hw=> ?_,?_⟩
 ·rw[CV h.vs (VS.ishl _ _),B3 (by omega),Bool.or_eq_true] at hw
  rcases hw with hw|hw
  ·exact h.lt w hw
  ·have:=of_decide_eq_true hw;omega
 ·have e:iandNot .u32 (full n) (ior .u32 m (ishl .u32 1 (v:Int)))=iandNot .u32 (iandNot .u32 (full n) m) (ishl .u32 1 (v:Int)):=by
   refine(VS.iandNot _ _).ext (VS.iandNot _ _) (λw _=> ?_)
   rw[Bl (CF n) (VS.ior _ _),Bl (VS.iandNot _ _) (VS.ishl _ _),Bl (CF n) h.vs,CV h.vs (VS.ishl _ _)]
   cases has (full n) w<;>cases has m w<;>simp
  rw[e]
  refine h.left.rm ?_
  have:=DQ hn h.vs v
  unfold rm at this
  rw[this,hm,decide_eq_true hv];rfl
theorem C6 {v w:Nat}{m:Int}(hm:VS m)(hv:v<32):has (ior .u32 m (ishl .u32 1 (v:Int))) w=(has m w||decide (w=v)):=by
 rw[CV hm (VS.ishl _ _),B3 hv]
def mks (n:Nat)(m:Int):List Bool:=(List.range n).map λv=>has m v
theorem mks_len (n:Nat)(m:Int):(mks n m).length=n:=by simp[mks]
theorem D6 {n v:Nat}{m:Int}(h:v<n):idx (mks n m) (v:Int)=some (has m v):=by
 rw[Au (by rw[mks_len];exact h)];simp[mks]
theorem mks_set {n v:Nat}{m:Int}(hn:n≤16)(hm:VS m)(h:v<n):(mks n m).set v true=mks n (ior .u32 m (ishl .u32 1 (v:Int))):=by
 apply List.ext_getElem
 ·simp[mks]
 ·intro i h1 h2
  have hi:i<n:=by simpa [mks] using h2
  rw[List.getElem_set]
  simp only[mks,List.getElem_map,List.getElem_range]
  rw[C6 hm (by omega)]
  by_cases hc:v=i
  ·simp[hc]
  ·have:¬i=v:=λe=>hc e.symm
   simp[hc,this]
theorem mks_unset {n v:Nat}{m:Int}(hn:n≤16)(hm:VS m)(h:v<n)(hv:has m v=false):(mks n (ior .u32 m (ishl .u32 1 (v:Int)))).set v false=mks n m:=by
 apply List.ext_getElem
 ·simp[mks]
 ·intro i h1 h2
  have hi:i<n:=by simpa [mks] using h2
  rw[List.getElem_set]
  simp only[mks,List.getElem_map,List.getElem_range]
  rw[C6 hm (by omega)]
  by_cases hc:v=i
  ·subst hc;simp[hv]
  ·have:¬i=v:=λe=>hc e.symm
   simp[hc,this]
theorem mks_zero {n:Nat}:List.replicate n false=mks n 0:=by
 apply List.ext_getElem
 ·simp[mks]
 ·intro i h1 h2
  simp[mks,Ci]
theorem has_joins (F:LI)(w:Nat):∀(xs:LI) (s:Int),VS s→(∀x∈xs,VS (F.getD x.toNat 0))→
  VS (xs.foldl (λs x=>ior .u32 s (F.getD x.toNat 0)) s)∧(has (xs.foldl (λs x=>ior .u32 s (F.getD x.toNat 0)) s) w=true↔has s w=true∨∃x∈xs,nb F x.toNat w=true)
 |[],s,hs,_=>⟨hs,by simp⟩
 |x::xs,s,hs,hx=>by
  obtain⟨h1,h2⟩:=has_joins F w xs (ior .u32 s (F.getD x.toNat 0)) (VS.ior _ _) (λy hy=>hx y (by simp[hy]))
  rw[List.foldl_cons]
  refine⟨h1,h2.trans ?_⟩
  rw[CV hs (hx x (by simp)),Bool.or_eq_true]
  simp only[List.mem_cons,exists_eq_or_imp]
  unfold nb
  rw[or_assoc]
noncomputable def bh (F:LI)(m v:Int):Int:=(D.k0 F m v).getD 0
theorem rch_via {F:LI}{n v:Nat}{m S:Int}(hn:n≤16)(hm:VS m)(hv:v<n)(h:Rch F (ior .u32 m (ishl .u32 1 (v:Int))) v S)(x:Nat):has S x=true↔Via F (λy=>has m y=true) v x:=by
 constructor
 ·intro hx
  refine h.least (λx=>Via F (λy=>has m y=true) v x) .me (λx y h1 h2 h3=> ?_) x hx
  rw[C6 hm (by omega),Bool.or_eq_true] at h3
  rcases h3 with h3|h3
  ·exact .step h1 h2 h3
  ·rw[of_decide_eq_true h3];exact .me
 ·intro hx
  induction hx with
  |me=>exact h.me
  |step _ h1 h2 ih=>exact h.step _ _ ih h1 (by rw[C6 hm (by omega),h2];rfl)
theorem Fg {F:LI}{n v:Nat}{m:Int}(hn:n≤16)(hF:FOk F n)(hm:VS m)(hv:v<n):
  D.k0 F m (v:Int)=some (bh F m (v:Int))∧VS (bh F m (v:Int))∧∀w,has (bh F m (v:Int)) w=true↔Bhd F (λx=>has m x=true) v w∧has m w=false∧w≠v:=by
 suffices H:∃X,D.k0 F m (v:Int)=some X∧VS X∧∀w,has X w=true↔Bhd F (λx=>has m x=true) v w∧has m w=false∧w≠v by
  obtain⟨X,e,h⟩:=H
  unfold bh
  rw[e]
  exact⟨rfl,h⟩
 obtain⟨S,e1,hS,hlt⟩:=reach_ok hn hF.net hv (VS.ior m (ishl .u32 1 (v:Int)))
 unfold D.k0
 rw[B2,bs,e1,bs,C5 S hS.vs,bs]
 have hel:∀x∈Ap S,∃u:Nat,x=u∧u<n∧has S u=true:=λx hx=>by
  obtain⟨u,_,h2,rfl⟩:=mem_elems.1 hx
  exact⟨u,rfl,hlt u h2,h2⟩
 have hfold:=λw=>has_joins F w (Ap S) 0 VS.zero (λx hx=>by
  obtain⟨u,rfl,h1,_⟩:=hel x hx
  exact hF.vs u h1)
 have hloop:=Fo (σ:=Int) (Ap S) (λs i=>(s,i)) (λs x=>ior .u32 s (F.getD x.toNat 0)) (λs=>s) (λ_=>True) 0 trivial
  (step:=(fun(s_59:Int×Int)=>match s_59 with|(x_62,x_63)=>cond (decide (x_63<((Ap S).length:Int))) ((idx (Ap S) x_63).bind λe_82=>(idx F e_82).bind λe_88=>some (.inl ((ior .u32 x_62 e_88),(IntKind.i64.wrap (x_63+1))))) (some (.inr x_62))))
  (λs i hi _=>by
   obtain⟨u,h1,h2,_⟩:=hel _ (List.getElem_mem hi)
   have hl:=BO S
   refine⟨?_,trivial⟩
   simp only[dlt hi,cond_true,Au hi,bs,h1]
   rw[Au (show u<F.length by rw[hF.len];exact h2),bs,wq i]
   simp[hF.len,h2])
  (λs _=>by simp only[Ba,cond_false])
 rw[hloop.1,bs,bs]
 refine⟨_,rfl,VS.iandNot _ _,λw=> ?_⟩
 have hw:=hfold w
 rw[Bl (VS.iandNot _ _) (VS.ishl _ _),Bl hw.1 hm,B3 (by omega),Bool.and_eq_true,Bool.and_eq_true,hw.2]
 simp only[Ci,Bool.false_eq_true,false_or,Bool.not_eq_true',decide_eq_false_iff_not]
 constructor
 ·rintro⟨⟨⟨x,hx,h1⟩,h2⟩,h3⟩
  obtain⟨u,rfl,h4,h5⟩:=hel x hx
  exact⟨⟨u,(rch_via hn hm hv hS u).1 h5,by simpa using h1⟩,h2,h3⟩
 ·rintro⟨⟨u,h1,h2⟩,h3,h4⟩
  exact⟨⟨⟨(u:Int),(AS hS.vs).2 ((rch_via hn hm hv hS u).2 h1),by simpa using h2⟩,h3⟩,h4⟩
theorem bh_lt {F:LI}{n v:Nat}{m:Int}(hn:n≤16)(hF:FOk F n)(hm:VS m)(hv:v<n){w:Nat}(h:has (bh F m (v:Int)) w=true):w<n:=by
 obtain⟨⟨u,h1,h2⟩,_⟩:=((Fg hn hF hm hv).2.2 w).1 h
 exact hF.lt u w (h1.lt hF hv) h2
theorem bh_len {F:LI}{n v:Nat}{m:Int}(hn:n≤16)(hF:FOk F n)(hm:VS m)(hv:v<n):(Ap (bh F m (v:Int))).length≤n:=by
 rw[←Fv (n:=n) (by omega) (λw hw=>bh_lt hn hF hm hv hw)]
 unfold els
 rw[List.length_map]
 exact Nat.le_trans (List.length_filter_le _ _) (by simp)
noncomputable def indP (p:Prop):Nat:=by classical exact if p then 1 else 0
noncomputable def cntP (n:Nat)(p:Nat→Prop):Nat:=sumN (λv=>indP (p v)) n
section
variable (A : Nat → Nat → Prop) (n : Nat)
def EdI (e:Nat):Prop:=e<n*n∧(e/n=e%n∨A (e/n) (e%n))
def AtI (v:Nat)(P:Nat→Prop):Prop:=∃e,EdI A n e∧P e∧(e/n=v∨e%n=v)
def TI (X:BitVec (n*n))(v:Nat):Prop:=AtI A n v λe=>X.getLsbD e=true
def BdI (X:BitVec (n*n))(v:Nat):Prop:=TI A n X v∧TI A n (~~~X) v
def DelI (m:List (BitVec (n*n)))(v:Nat):Prop:=∃X∈m,BdI A n X v
end
def DisI {N:Nat}(X Y:BitVec N):Prop:=∀e,¬(X.getLsbD e=true∧Y.getLsbD e=true)
def PartI {N:Nat}(m:List (BitVec N)):Prop:=m.Pairwise DisI∧∀e,e<N→∃X∈m,X.getLsbD e=true
section
variable {A : Nat → Nat → Prop} {n k : Nat}
end
end Go.Sx

namespace Go.Sx
theorem EG {g:LL}(hg:GOk g){m:Int}(hm:VS m){v:Nat}(hv:v<g.length):
  D.T g (mks g.length m) (v:Int)=some (Ap (bh (g.map mk) m (v:Int))):=by
 have h16:=hg.n16
 have hF:=FOk.of hg
 have hb:=Fg h16 hF hm hv
 have hbl:=λw=>bh_lt h16 hF hm hv (w:=w)
 have hsub:∀l:LI,l.Nodup→(∀x∈l,∃u:Nat,x=u∧u<g.length∧Via (g.map mk) (λy=>has m y=true) v u)→l.length≤g.length:=λl hl hr=>by
  have:=Cd (m:=(List.range g.length).map Int.ofNat) hl (λx hx=>by
   obtain⟨u,rfl,hu,_⟩:=hr x hx
   exact List.mem_map.2 ⟨u,List.mem_range.2 hu,rfl⟩)
  simpa using this
 unfold D.T
 refine opt_eq ?_
 refine AY (λs=>∃i:Nat,s.2.2=(i:Int)∧i≤s.1.length∧s.1.Nodup∧(∀x∈s.1,∃u:Nat,x=u∧u<g.length∧Via (g.map mk) (λy=>has m y=true) v u)∧(v:Int)∈s.1∧Inc s.2.1∧
   (∀y∈s.2.1,∃u w:Nat,y=w∧w<g.length∧has m w=false∧w≠v∧(u:Int)∈s.1∧nb (g.map mk) u w=true)∧
   (∀u w:Nat,(u:Int)∈s.1.take i→nb (g.map mk) u w=true→(has m w=true→(w:Int)∈s.1)∧(has m w=false→w≠v→(w:Int)∈s.2.1)))
  (λs=>g.length-s.2.2.toNat) (λr=>r=Ap (bh (g.map mk) m (v:Int))) ?_
  ⟨0,rfl,by simp,by simp,λx hx=>⟨v,by simpa using hx,hv,.me⟩,by simp,by simp[Inc],by simp,by simp⟩ (λr hr=>⟨r,rfl,hr⟩)
 rintro⟨q,out,_⟩ ⟨i,rfl,hi,hqn,hqm,hqv,hoi,hom,hcl⟩
 dsimp only at hi hqn hqm hqv hoi hom hcl ⊢
 have hql:=hsub q hqn hqm
 by_cases hiq:i<q.length
 ·obtain⟨u,hu1,hu,huv⟩:=hqm _ (List.getElem_mem hiq)
  rw[dlt hiq,cond_true,Au hiq,bs,hu1,Cj hu,bs]
  have hrl:=hg.row_len hu
  refine AY (λs=>∃k:Nat,s.2.2=(k:Int)∧k≤(row g u).length∧(∃t,s.1=q++t)∧s.1.Nodup∧(∀x∈s.1,∃u:Nat,x=u∧u<g.length∧Via (g.map mk) (λy=>has m y=true) v u)∧Inc s.2.1∧(∀y∈out,y∈s.2.1)∧
    (∀y∈s.2.1,∃u w:Nat,y=w∧w<g.length∧has m w=false∧w≠v∧(u:Int)∈q∧nb (g.map mk) u w=true)∧
    (∀w:Nat,(w:Int)∈(row g u).take k→(has m w=true→(w:Int)∈s.1)∧(has m w=false→w≠v→(w:Int)∈s.2.1)))
   (λs=>(row g u).length-s.2.2.toNat)
   (λr=>(∃t,r.1=q++t)∧r.1.Nodup∧(∀x∈r.1,∃u:Nat,x=u∧u<g.length∧Via (g.map mk) (λy=>has m y=true) v u)∧Inc r.2∧(∀y∈out,y∈r.2)∧
    (∀y∈r.2,∃u w:Nat,y=w∧w<g.length∧has m w=false∧w≠v∧(u:Int)∈q∧nb (g.map mk) u w=true)∧
    (∀w:Nat,(w:Int)∈row g u→(has m w=true→(w:Int)∈r.1)∧(has m w=false→w≠v→(w:Int)∈r.2))) ?_
   ⟨0,rfl,by simp,⟨[],by simp⟩,hqn,hqm,hoi,λ_ h=>h,hom,by simp⟩ ?_
  ·rintro⟨q',out',_⟩ ⟨k,rfl,hk,⟨t,rfl⟩,hqn',hqm',hoi',hsup,hom',hcl'⟩
   dsimp only at hk hqn' hqm' hoi' hsup hom' hcl' ⊢
   have hql':=hsub _ hqn' hqm'
   by_cases hkr:k<(row g u).length
   ·obtain⟨w,hw1,hw,hadj⟩:=hg.mem hu (List.getElem_mem hkr)
    have hnb:=(Dq hg hu).2 hadj
    have htk:=List.take_succ_eq_append_getElem hkr
    have hol:out'.length≤g.length:=hoi'.short (n:=g.length) (λx hx=>by
     obtain⟨_,w,rfl,h,_⟩:=hom' x hx
     omega)
    have hsh:Sh (q++t):=by unfold Sh;omega
    have hwk:=wq k
    simp only[dlt hkr,cond_true,Au hkr,hw1,bs,D6 hw]
    rw[hw1] at htk
    cases hmw:has m w with
    |true=>
     simp only[cond_true,bs,Cb _ _ hsh,Bool.not_true,cond_false,hwk]
     by_cases hin:(w:Int)∈q++t
     ·simp only[decide_eq_true hin,Bool.not_true,cond_false,bs]
      refine⟨_,rfl,⟨k+1,rfl,by omega,⟨t,rfl⟩,hqn',hqm',hoi',hsup,hom',λz hz=> ?_⟩,by dsimp only;omega⟩
      rw[htk] at hz
      rcases List.mem_append.1 hz with hz|hz
      ·exact hcl' z hz
      ·have:z=w:=Int.ofNat.inj (List.mem_singleton.1 hz)
       subst this
       exact⟨λ_=>hin,λh=>by rw[hmw] at h;cases h⟩
     ·simp only[decide_eq_false hin,Bool.not_false,cond_true,bs,AR (show (q++t).length+[(w:Int)].length≤4294967296 by simp only[List.length_cons,List.length_nil];omega)]
      refine⟨_,rfl,⟨k+1,rfl,by omega,⟨t++[(w:Int)],by simp⟩,?_,λx hx=> ?_,hoi',hsup,hom',λz hz=> ?_⟩,by dsimp only;omega⟩
      ·have hp:(q++t++[(w:Int)]).Perm ((w:Int)::(q++t)):=List.perm_append_comm
       exact hp.nodup_iff.2 (List.nodup_cons.2 ⟨hin,hqn'⟩)
      ·rcases List.mem_append.1 hx with hx|hx
       ·exact hqm' x hx
       ·exact⟨w,by simpa using hx,hw,.step huv hnb hmw⟩
      ·dsimp only
       rw[htk] at hz
       rcases List.mem_append.1 hz with hz|hz
       ·exact⟨λh=>List.mem_append_left _ ((hcl' z hz).1 h),(hcl' z hz).2⟩
       ·have:z=w:=Int.ofNat.inj (List.mem_singleton.1 hz)
        subst this
        exact⟨λ_=>by simp,λh=>by rw[hmw] at h;cases h⟩
    |false=>
     simp only[cond_false,bs,Bool.not_false,cond_true,hwk]
     by_cases hwv:w=v
     ·have e:(((w:Int) !=(v:Int)):Bool)=false:=by simp[hwv]
      simp only[e,cond_false]
      refine⟨_,rfl,⟨k+1,rfl,by omega,⟨t,rfl⟩,hqn',hqm',hoi',hsup,hom',λz hz=> ?_⟩,by dsimp only;omega⟩
      rw[htk] at hz
      rcases List.mem_append.1 hz with hz|hz
      ·exact hcl' z hz
      ·have:z=w:=Int.ofNat.inj (List.mem_singleton.1 hz)
       subst this
       exact⟨λh=>(by rw[hmw] at h;cases h),λ_ h=>absurd hwv h⟩
     ·have e:(((w:Int) !=(v:Int)):Bool)=true:=by simp;omega
      simp only[e,cond_true,Into_deep,Dt _ _ hoi' (show out'.length≤4294967295 by omega),bs]
      refine⟨_,rfl,⟨k+1,rfl,by omega,⟨t,rfl⟩,hqn',hqm',hoi'.into _,λy hy=>mem_into.2 (.inr (hsup y hy)),λy hy=> ?_,λz hz=> ?_⟩,by dsimp only;omega⟩
      ·rcases mem_into.1 hy with rfl|hy
       ·exact⟨u,w,rfl,hw,hmw,hwv,by rw[←hu1];exact List.getElem_mem hiq,hnb⟩
       ·exact hom' y hy
      ·dsimp only
       rw[htk] at hz
       rcases List.mem_append.1 hz with hz|hz
       ·exact⟨(hcl' z hz).1,λh1 h2=>mem_into.2 (.inr ((hcl' z hz).2 h1 h2))⟩
       ·have:z=w:=Int.ofNat.inj (List.mem_singleton.1 hz)
        subst this
        exact⟨λh=>(by rw[hmw] at h;cases h),λ_ _=>mem_into.2 (.inl rfl)⟩
   ·obtain rfl:k=(row g u).length:=by omega
    rw[Ba,cond_false]
    rw[List.take_length] at hcl'
    exact⟨_,rfl,⟨t,rfl⟩,hqn',hqm',hoi',hsup,hom',hcl'⟩
  ·rintro⟨q',out'⟩ ⟨⟨t,rfl⟩,hqn',hqm',hoi',hsup,hom',hcl'⟩
   dsimp only at hqn' hqm' hoi' hsup hom' hcl' ⊢
   rw[wq i]
   refine⟨_,rfl,⟨i+1,rfl,by simp;omega,hqn',hqm',List.mem_append_left _ hqv,hoi',λy hy=> ?_,λa w ha haw=> ?_⟩,by dsimp only;omega⟩
   ·obtain⟨a,w,h1,h2,h3,h4,h5,h6⟩:=hom' y hy
    exact⟨a,w,h1,h2,h3,h4,List.mem_append_left _ h5,h6⟩
   ·dsimp only at ha ⊢
    rw[List.take_append_of_le_length (by omega),List.take_succ_eq_append_getElem hiq,hu1] at ha
    rcases List.mem_append.1 ha with ha|ha
    ·have:=hcl a w ha haw
     exact⟨λh=>List.mem_append_left _ (this.1 h),λh1 h2=>hsup _ (this.2 h1 h2)⟩
    ·have:a=u:=Int.ofNat.inj (List.mem_singleton.1 ha)
     subst this
     exact hcl' w ((Dq hg hu).1 haw)
 ·obtain rfl:i=q.length:=by omega
  rw[Ba,cond_false]
  rw[List.take_length] at hcl
  refine⟨_,rfl,?_⟩
  show out=_
  have hall:∀x,Via (g.map mk) (λy=>has m y=true) v x→(x:Int)∈q:=λx hx=>by
   induction hx with
   |me=>exact hqv
   |step _ h1 h2 ih=>exact(hcl _ _ ih h1).1 h2
  refine hoi.ext (BD _) (λy=>⟨λhy=> ?_,λhy=> ?_⟩)
  ·obtain⟨u,w,rfl,h1,h2,h3,h4,h5⟩:=hom y hy
   refine(AS hb.2.1).2 ((hb.2.2 w).2 ⟨⟨u,?_,h5⟩,h2,h3⟩)
   obtain⟨u',e,_,h6⟩:=hqm _ h4
   obtain rfl:u=u':=by omega
   exact h6
  ·obtain⟨w,_,hw,rfl⟩:=mem_elems.1 hy
   obtain⟨⟨x,h1,h2⟩,h3,h4⟩:=(hb.2.2 w).1 hw
   exact(hcl x w (hall x h1) h2).2 h3 h4
noncomputable def wv (F:LI)(rec:Int→Int)(m v:Int):Int:=if((Ap (bh F m v)).length:Int)<rec (ior .u32 m (ishl .u32 1 v)) then rec (ior .u32 m (ishl .u32 1 v)) else((Ap (bh F m v)).length:Int)
noncomputable def wd (F:LI)(n:Nat):Nat→Int→Int
 |0,_=>0
 |k+1,m=>(Ap (rm n m)).foldl (λb v=>if wv F (wd F n k) m v<b then wv F (wd F n k) m v else b) 16
theorem Dz (f:Int→Int):∀(l:LI) (b:Int),(l.foldl (λb v=>if f v<b then f v else b) b≤b)∧(∀v∈l,l.foldl (λb v=>if f v<b then f v else b) b≤f v)∧(l.foldl (λb v=>if f v<b then f v else b) b=b∨∃v∈l,l.foldl (λb v=>if f v<b then f v else b) b=f v)
 |[],b=>by simp
 |x::l,b=>by
  obtain⟨h1,h2,h3⟩:=Dz f l (if f x<b then f x else b)
  rw[List.foldl_cons]
  have hc:(if f x<b then f x else b)≤b∧(if f x<b then f x else b)≤f x∧((if f x<b then f x else b)=b∨(if f x<b then f x else b)=f x):=by split<;>omega
  generalize (if f x<b then f x else b)=c at*
  refine⟨by omega,λv hv=> ?_,?_⟩
  ·rcases List.mem_cons.1 hv with rfl|hv
   ·omega
   ·exact h2 v hv
  ·rcases h3 with h3|⟨v,hv,h3⟩
   ·rcases hc.2.2 with h4|h4
    ·exact .inl (by omega)
    ·exact .inr ⟨x,by simp,by omega⟩
   ·exact .inr ⟨v,List.mem_cons_of_mem _ hv,h3⟩
theorem wd_le (F:LI)(n:Nat):∀k m,wd F n k m≤16
 |0,_=>by unfold wd;omega
 |k+1,m=>by unfold wd;exact(Dz (wv F (wd F n k) m) _ 16).1
theorem wv_ge (F:LI)(rec:Int→Int)(m v:Int):((Ap (bh F m v)).length:Int)≤wv F rec m v∧rec (ior .u32 m (ishl .u32 1 v))≤wv F rec m v:=by
 unfold wv;split<;>omega
theorem wv_le {F:LI}{rec:Int→Int}{m v b:Int}:wv F rec m v≤b↔((Ap (bh F m v)).length:Int)≤b∧rec (ior .u32 m (ishl .u32 1 v))≤b:=by
 unfold wv;split<;>omega
theorem wd_nonneg (F:LI)(n:Nat):∀k m,0≤wd F n k m
 |0,_=>by unfold wd;omega
 |k+1,m=>by
  unfold wd
  rcases(Dz (wv F (wd F n k) m) (Ap (rm n m)) 16).2.2 with h|⟨v,_,h⟩
  ·rw[h];omega
  ·rw[h]
   have:=(wv_ge F (wd F n k) m v).1
   omega
theorem wv_len {F:LI}{n v:Nat}{m:Int}(hn:n≤16)(hF:FOk F n)(hm:VS m)(hv:v<n)(k:Nat):wv F (wd F n k) m (v:Int)≤16:=by
 rw[wv_le]
 have:=bh_len hn hF hm hv
 exact⟨by omega,wd_le _ _ _ _⟩
theorem Dl {n:Nat}{m:Int}(hn:n≤16)(hm:VS m){x:Int}:x∈Ap (rm n m)↔∃v:Nat,x=v∧v<n∧has m v=false:=by
 rw[mem_elems]
 constructor
 ·rintro⟨v,_,h,rfl⟩
  rw[DQ hn hm,Bool.and_eq_true,decide_eq_true_eq,Bool.not_eq_true'] at h
  exact⟨v,rfl,h⟩
 ·rintro⟨v,rfl,h1,h2⟩
  exact⟨v,by omega,by rw[DQ hn hm,decide_eq_true h1,h2];rfl,rfl⟩
theorem GS.done {n:Nat}{m:Int}(hn:n≤16)(h:GS n m 0):m=full n:=by
 have hz:rm n m=0:=h.left.z
 refine h.vs.ext (CF n) (λv _=> ?_)
 rw[CP hn]
 have:=DQ hn h.vs v
 rw[hz,Ci] at this
 cases hm:has m v with
 |true=>exact(decide_eq_true (h.lt v hm)).symm
 |false=>
  rw[hm] at this
  simp at this
  simp;exact this
theorem GS.undone {n k:Nat}{m:Int}(h:GS n m (k+1)):m≠full n:=by
 intro e
 have h2:=h.left.ne
 rw[e] at h2
 apply h2
 have:iandNot .u32 (full n) (full n)=0:=(VS.iandNot _ _).ext VS.zero (λv _=>by rw[Bl (CF n) (CF n),Ci];cases has (full n) v<;>rfl)
 rw[this,Dx]
theorem GS.le {n k:Nat}{m:Int}(h:GS n m k)(hn:n≤16):k≤n:=by
 have h1:=h.left.card
 rw[←Fv (n:=n) (by omega) (λv hv=>by
  have:=DQ hn h.vs v
  unfold rm at this
  rw[this,Bool.and_eq_true] at hv
  exact of_decide_eq_true hv.1)] at h1
 unfold els at h1
 rw[List.length_map] at h1
 have:=List.length_filter_le (has (iandNot .u32 (full n) m)) (List.range n)
 simp at this;omega
theorem wWith_ok {F:LI}{n v:Nat}{m:Int}(hn:n≤16)(hF:FOk F n)(hm:VS m)(hv:v<n){rec:Int→Option Int}{r:Int→Int}(hr:rec (ior .u32 m (ishl .u32 1 (v:Int)))=some (r (ior .u32 m (ishl .u32 1 (v:Int))))):
  D.n0 rec F m (v:Int)=some (wv F r m (v:Int)):=by
 obtain⟨e,h1,_⟩:=Fg hn hF hm hv
 unfold D.n0 wv
 rw[e,bs,size_eq h1,bs,B2,bs,hr,bs]
theorem DV {F:LI}{n:Nat}(hn:n≤16)(hF:FOk F n):∀(fuel k:Nat) (m:Int),GS n m k→k<fuel→D.l fuel F m=some (wd F n k m)
 |0,_,_,_,h=>absurd h (by omega)
 |fuel+1,k,m,hm,h=>by
  unfold D.l
  rw[Dr,bs,hF.len]
  cases k with
  |zero=>
   rw[hm.done hn,beq_self_eq_true,cond_true];rfl
  |succ k=>
   rw[show (m==full n)=false by simpa using hm.undone,cond_false]
   have hrv:VS (rm n m):=VS.iandNot _ _
   have er:iandNot .u32 (full n) m=rm n m:=rfl
   rw[er,C5 _ hrv,bs]
   have:=BO (rm n m)
   refine(Fo (σ:=Int) (Ap (rm n m)) (λs i=>(s,i)) (λb v=>if wv F (wd F n k) m v<b then wv F (wd F n k) m v else b) (λs=>s) (λ_=>True) 16 trivial (λs i hi _=> ?_) (λs _=> ?_)).1
   ·refine⟨?_,trivial⟩
    obtain⟨v,e,hv,hmv⟩:=(Dl hn hm.vs).1 (List.getElem_mem hi)
    unfold D.f1
    dsimp only
    rw[dlt hi,cond_true,Au hi,bs,e,wWith_ok hn hF hm.vs hv (r:=wd F n k) (DV hn hF fuel k _ (hm.add hn hv hmv) (by omega)),bs,wq i]
   ·unfold D.f1
    dsimp only
    rw[Ba,cond_false]
theorem E8 {F:LI}{n k:Nat}{m:Int}(hn:n≤16)(hF:FOk F n)(hm:GS n m (k+1)):∃v:Nat,v<n∧has m v=false∧wv F (wd F n k) m (v:Int)=wd F n (k+1) m:=by
 have h:=Dz (wv F (wd F n k) m) (Ap (rm n m)) 16
 obtain⟨x,hx⟩:∃x,x∈Ap (rm n m):=List.exists_mem_of_ne_nil _ hm.left.ne
 rcases h.2.2 with h3|⟨v,hv,h3⟩
 ·obtain⟨v,rfl,h4,h5⟩:=(Dl hn hm.vs).1 hx
  refine⟨v,h4,h5,?_⟩
  have h6:=wv_len hn hF hm.vs h4 k
  have h7:=h.2.1 _ hx
  unfold wd
  omega
 ·obtain⟨v,rfl,h4,h5⟩:=(Dl hn hm.vs).1 hv
  exact⟨v,h4,h5,by unfold wd;rw[h3]⟩
section
variable {F : LI} {n k : Nat} (hn : n ≤ 16) (hF : FOk F n)
include hn hF
end
section
variable {A : Nat → Nat → Prop} {n k : Nat}
end
section
variable {F : LI} {n k : Nat} (hn : n ≤ 16) (hF : FOk F n)
include hn hF
end
end Go.Sx

namespace Go.Sx
def Tch (F:LI)(s t:Int):Prop:=∃x y,El s x∧El t y∧(x=y∨nb F x y=true)
structure IsPart (F:LI)(W:Nat→Prop)(C:Int):Prop where
 vs:VS C
 ne:∃v,El C v
 sub:∀x,El C x→W x
 cn:∀x y,El C x→(El C y↔Cn (Ad F) W x y)
theorem IsPart.mem {F:LI}{W:Nat→Prop}{C:Int}{l:LI}(h:IsPart F W C)(hP:Parts F W l):C∈l:=by
 obtain⟨v,hv⟩:=h.ne
 obtain⟨s,hs,h1⟩:=hP.all v (h.sub v hv)
 have:C=s:=h.vs.ext (hP.vs s hs) (λx _=>Bool.eq_iff_iff.2 ((h.cn v x hv).trans (hP.cn s hs v x h1).symm))
 rw[this]
 exact hs
section
variable {F : LI} {n k : Nat} (hn : n ≤ 16) (hF : FOk F n)
include hn hF
end
end Go.Sx

namespace Go.Sx
theorem set_at {d:LI}{u v:Nat}{x:Int}(hu:u<d.length):(d.set u x).getD v (-1)=if v=u then x else d.getD v (-1):=by
 by_cases e:v=u
 ·subst e
  rw[if_pos rfl,AD (by rw[List.length_set];omega),List.getElem_set_self]
 ·rw[if_neg e,List.getD_eq_getElem?_getD,List.getElem?_set_ne (λh=>e h.symm),←List.getD_eq_getElem?_getD]
structure Bq (g:LL)(L d q:LI)(i:Nat):Prop where
 inq:∀v,v<g.length→0≤d.getD v (-1)→(v:Int)∈q
 cl:∀j,j<i→∀c:Nat,q[j]? =some (c:Int)→∀w:Nat,adj g c w→(w:Int)∈L→0≤d.getD w (-1)
theorem Bq.add {g:LL}{L d q:LI}{i:Nat}(h:Bq g L d q i)(hi:i≤q.length)(hdl:d.length=g.length){u:Nat}{x:Int}(hu:u<g.length)(hx:0≤x):Bq g L (d.set u x) (q++[(u:Int)]) i:=by
 refine⟨λv hv hd=> ?_,λj hj c hc w ha hw=> ?_⟩
 ·rw[set_at (by omega)] at hd
  rw[List.mem_append,List.mem_singleton]
  by_cases e:v=u
  ·exact .inr (by rw[e])
  ·rw[if_neg e] at hd
   exact .inl (h.inq v hv hd)
 ·rw[List.getElem?_append_left (by omega)] at hc
  rw[set_at (by omega)]
  have:=h.cl j hj c hc w ha hw
  split<;>omega
section
variable {g : LL} (hg : GOk g)
include hg
theorem l3From_full {v0:Nat}(hv:v0<g.length){L:LI}(hL:Sh L)(hm:(v0:Int)∈L):∃d,D.h1 g (v0:Int) L=some d∧(d.length=g.length∧∀u,u<g.length→(0≤d.getD u (-1)↔Cn (adj g) (λx=>(x:Int)∈L) v0 u)):=by
 have h16:=hg.n16
 have hsz:D.a g=some (g.length:Int):=rfl
 unfold D.h1
 have e1:=BP (β:=LI) (k:=λl:LI=>some l) (step:=fun(s_54:LI×Int)=>match s_54 with|(l_57,x_62)=>(D.a g).bind λy_89=>cond (decide (x_62<y_89)) ((AN l_57 ([(-1)]:LI)).bind λl_101=>some (.inl (l_101,(IntKind.i64.wrap (x_62+1))))) (some (.inr l_57))) (s0:=(([]:LI),0)) (λi=>(List.replicate i (-1),(i:Int))) g.length (List.replicate g.length (-1)) (by simp) (λi hi=>by
  dsimp only
  rw[hsz,bs,dlt hi,cond_true,AR (by simp;omega),bs,wi (by omega),List.replicate_succ']) (by
  dsimp only
  rw[hsz,bs,Ba,cond_false])
 rw[Option.bind_fun_some] at e1
 rw[e1,bs,Cb _ _ hL,decide_eq_true hm,bs,Bool.not_true,cond_false,Au (show v0<(List.replicate g.length (-1:Int)).length by rw[List.length_replicate];exact hv),bs]
 have hrep:∀v,(List.replicate g.length (-1:Int)).getD v (-1)= -1:=λv=>by
  rw[List.getD_eq_getElem?_getD,List.getElem?_replicate]
  split<;>rfl
 have hat:∀v,((List.replicate g.length (-1:Int)).set v0 0).getD v (-1)=if v=v0 then 0 else-1:=λv=>by
  rw[set_at (by rw[List.length_replicate];exact hv),hrep]
 refine AY (λs:LI×LI×Int=>Bf g (λx=>(x:Int)∈L) v0 s.1 s.2.1∧∃i:Nat,s.2.2=(i:Int)∧i≤s.2.1.length∧Bq g L s.1 s.2.1 i) (λs=>g.length-s.2.2.toNat)
  (λd:LI=>d.length=g.length∧∀u,u<g.length→(0≤d.getD u (-1)↔Cn (adj g) (λx=>(x:Int)∈L) v0 u)) ?_ ⟨⟨by simp,List.pairwise_singleton _ _,λx hx=> ?_,λv _=> ?_,λv _ hd=> ?_,?_⟩,0,rfl,Nat.zero_le _,⟨λv _ hd=> ?_,λj hj=>absurd hj (Nat.not_lt_zero _)⟩⟩ (λr hr=>⟨r,rfl,hr⟩)
 ·rintro⟨d,q,_⟩ ⟨hB,i,rfl,hi,hQ⟩
  dsimp only at hB hi hQ ⊢
  have hql:=hB.ql
  by_cases hil:i<q.length
  ·obtain⟨c,ec,hcn,hcd⟩:=hB.me _ (List.getElem_mem hil)
   have hrl:=hg.row_len hcn
   rw[dlt hil,cond_true,Au hil,ec,bs,Cj hcn,bs]
   refine AY (λs:LI×LI×Int=>Bf g (λx=>(x:Int)∈L) v0 s.1 s.2.1∧s.2.1[i]? =some (c:Int)∧0≤s.1.getD c (-1)∧Bq g L s.1 s.2.1 i∧∃k:Nat,s.2.2=(k:Int)∧k≤(row g c).length∧∀w:Nat,(w:Int)∈(row g c).take k→(w:Int)∈L→0≤s.1.getD w (-1)) (λs=>(row g c).length-s.2.2.toNat)
    (λs:LI×LI=>Bf g (λx=>(x:Int)∈L) v0 s.1 s.2∧i<s.2.length∧Bq g L s.1 s.2 (i+1)) ?_ ⟨hB,by dsimp only;rw[List.getElem?_eq_getElem hil,ec],hcd,hQ,0,rfl,Nat.zero_le _,λw hw=>by simp at hw⟩ ?_
   ·rintro⟨d,q,_⟩ ⟨hB,hqi,hcd,hQ,k,rfl,hk,hdone⟩
    dsimp only at hB hqi hcd hQ hk hdone ⊢
    have hql:=hB.ql
    have hdl:=hB.dl
    obtain⟨hiq,eiq⟩:=List.getElem?_eq_some_iff.1 hqi
    by_cases hkl:k<(row g c).length
    ·obtain⟨u,eu,hun,_⟩:=hg.mem hcn (List.getElem_mem hkl)
     have hau:adj g c u:=by
      have:=List.getElem_mem hkl
      rw[eu] at this
      exact this
     have htake:∀w:Nat,(w:Int)∈(row g c).take (k+1)→(w:Int)∈(row g c).take k∨w=u:=λw hw=>by
      rw[List.take_succ_eq_append_getElem hkl,eu,List.mem_append,List.mem_singleton] at hw
      exact hw.imp id (λh=>by omega)
     rw[dlt hkl,cond_true,Au hkl,eu,bs,Au (show u<d.length by omega),bs,←AD (show u<d.length by omega) (-1),wi (by omega)]
     by_cases hud:d.getD u (-1)<0
     ·rw[decide_eq_true hud,cond_true,bs,Cb _ _ hL,bs]
      by_cases hS:(u:Int)∈L
      ·have hcb:=hB.bd c hcn
       have hadd:=hB.add hcn hun hcd hud hau hS
       rw[decide_eq_true hS,bs,cond_true,bs,Au hiq,eiq,bs,Au (show c<d.length by omega),bs,←AD (show c<d.length by omega) (-1),Au (show u<d.length by omega),bs,bs,AR (by simp;omega),bs,w64 (by omega) (by omega),Int.toNat_natCast]
       refine⟨_,rfl,⟨hadd,?_,?_,hQ.add (by omega) hdl hun (by omega),k+1,rfl,hkl,λw hw hwL=> ?_⟩,by dsimp only;omega⟩
       ·dsimp only
        rw[List.getElem?_append_left hiq,hqi]
       ·dsimp only
        rw[set_at (by omega)]
        split<;>omega
       ·dsimp only
        rw[set_at (by omega)]
        by_cases e:w=u
        ·rw[if_pos e];omega
        ·rw[if_neg e]
         rcases htake w hw with h|h
         ·exact hdone w h hwL
         ·exact absurd h e
      ·rw[decide_eq_false hS,bs,cond_false]
       refine⟨_,rfl,⟨hB,hqi,hcd,hQ,k+1,rfl,hkl,λw hw hwL=> ?_⟩,by dsimp only;omega⟩
       rcases htake w hw with h|rfl
       ·exact hdone w h hwL
       ·exact absurd hwL hS
     ·rw[decide_eq_false hud,cond_false,bs,cond_false]
      refine⟨_,rfl,⟨hB,hqi,hcd,hQ,k+1,rfl,hkl,λw hw hwL=> ?_⟩,by dsimp only;omega⟩
      rcases htake w hw with h|rfl
      ·exact hdone w h hwL
      ·dsimp only;omega
    ·obtain rfl:k=(row g c).length:=by omega
     rw[Ba,cond_false]
     rw[List.take_length] at hdone
     refine⟨_,rfl,hB,hiq,hQ.inq,λj hj c' hc' w ha hw=> ?_⟩
     by_cases e:j=i
     ·subst e
      rw[hqi] at hc'
      have:(c:Int)=(c':Int):=Option.some.inj hc'
      obtain rfl:c=c':=by omega
      exact hdone w ha hw
     ·exact hQ.cl j (by omega) c' hc' w ha hw
   ·rintro⟨d,q⟩ ⟨hB,hiq,hQ⟩
    dsimp only at hB hiq hQ ⊢
    have:=hB.ql
    rw[wi (by omega)]
    exact⟨_,rfl,⟨hB,i+1,rfl,hiq,hQ⟩,by dsimp only;omega⟩
  ·obtain rfl:i=q.length:=by omega
   rw[Ba,cond_false]
   refine⟨_,rfl,hB.dl,λu hu=>⟨hB.rc u hu,λhc=> ?_⟩⟩
   refine(hc (λx=>x<g.length∧0≤d.getD x (-1)) ⟨hv,hB.v0⟩ (λa b ha hab hb=>⟨hg.lt ha.1 hab,?_⟩)).2
   obtain⟨j,hj,ej⟩:=List.getElem_of_mem (hQ.inq a ha.1 ha.2)
   exact hQ.cl j hj a (by rw[List.getElem?_eq_getElem hj,ej]) b hab hb
 ·dsimp only at hx ⊢
  rw[List.mem_singleton] at hx
  exact⟨v0,hx,hv,by rw[Int.toNat_natCast,hat,if_pos rfl];omega⟩
 ·dsimp only
  rw[Int.toNat_natCast,hat]
  split<;>simp
 ·dsimp only at hd
  rw[Int.toNat_natCast,hat] at hd
  by_cases e:v=v0
  ·subst e;exact Cn.refl
  ·rw[if_neg e] at hd;omega
 ·dsimp only
  rw[Int.toNat_natCast,hat,if_pos rfl]
  omega
 ·dsimp only at hd ⊢
  rw[Int.toNat_natCast,hat] at hd
  by_cases e:v=v0
  ·rw[e,List.mem_singleton]
  ·rw[if_neg e] at hd;omega
theorem l3Part_full {v0:Nat}(hv:v0<g.length){L:LI}(hL:Sh L)(hm:(v0:Int)∈L):∃P,D.s g (v0:Int) L=some P∧(Inc P∧P.length≤g.length∧∀x,x∈P↔∃v:Nat,x=(v:Int)∧v<g.length∧Cn (adj g) (λx=>(x:Int)∈L) v0 v):=by
 have h16:=hg.n16
 obtain⟨d,ed,hdl,hd⟩:=l3From_full hg hv hL hm
 unfold D.s
 rw[ed,bs]
 refine AY (λs:LI×Int=>∃i:Nat,s.2=(i:Int)∧i≤d.length∧s.1.length≤i∧Inc s.1∧∀x,x∈s.1↔∃v:Nat,x=(v:Int)∧v<i∧Cn (adj g) (λx=>(x:Int)∈L) v0 v) (λs=>d.length-s.2.toNat)
  (λP:LI=>Inc P∧P.length≤g.length∧∀x,x∈P↔∃v:Nat,x=(v:Int)∧v<g.length∧Cn (adj g) (λx=>(x:Int)∈L) v0 v) ?_ ⟨0,rfl,Nat.zero_le _,Nat.le_refl _,List.Pairwise.nil,λx=>⟨λh=>(by cases h),fun⟨v,_,h,_⟩=>by omega⟩⟩ (λr hr=>⟨r,rfl,hr⟩)
 rintro⟨P,_⟩ ⟨i,rfl,hi,hPl,hPi,hP⟩
 dsimp only at hPl hPi hP ⊢
 by_cases hil:i<d.length
 ·rw[dlt hil,cond_true,Au hil,bs,←AD hil (-1),wi (by omega)]
  by_cases hdi:0≤d.getD i (-1)
  ·have hci:=(hd i (by omega)).1 hdi
   rw[decide_eq_true hdi,cond_true,AR (by simp;omega),bs]
   refine⟨_,rfl,⟨i+1,rfl,hil,by simp;omega,?_,λx=> ?_⟩,by dsimp only;omega⟩
   ·dsimp only
    unfold Inc
    rw[List.pairwise_append]
    refine⟨hPi,List.pairwise_singleton _ _,λa ha b hb=> ?_⟩
    obtain⟨v,rfl,hv,_⟩:=(hP a).1 ha
    rw[List.mem_singleton] at hb
    omega
   ·dsimp only
    rw[List.mem_append,List.mem_singleton,hP]
    constructor
    ·rintro(⟨v,e,h1,h2⟩|rfl)
     ·exact⟨v,e,by omega,h2⟩
     ·exact⟨i,rfl,by omega,hci⟩
    ·rintro⟨v,rfl,h1,h2⟩
     by_cases e:v=i
     ·exact .inr (by rw[e])
     ·exact .inl ⟨v,rfl,by omega,h2⟩
  ·have hci:¬Cn (adj g) (λx=>(x:Int)∈L) v0 i:=λh=>hdi ((hd i (by omega)).2 h)
   rw[decide_eq_false hdi,cond_false]
   refine⟨_,rfl,⟨i+1,rfl,hil,by dsimp only;omega,hPi,λx=> ?_⟩,by dsimp only;omega⟩
   dsimp only
   rw[hP]
   constructor
   ·rintro⟨v,e,h1,h2⟩
    exact⟨v,e,by omega,h2⟩
   ·rintro⟨v,rfl,h1,h2⟩
    by_cases e:v=i
    ·subst e;exact absurd h2 hci
    ·exact⟨v,rfl,by omega,h2⟩
 ·obtain rfl:i=d.length:=by omega
  rw[Ba,cond_false]
  exact⟨_,rfl,hPi,by omega,λx=>by rw[hP,hdl]⟩
theorem cn_adj {S:Nat→Prop}{x y:Nat}(hx:x<g.length)(hS:∀v,S v→v<g.length):Cn (adj g) S x y↔Cn (Ad (g.map mk)) S x y:=by
 constructor
 ·intro h
  exact(h (λy=>y<g.length∧Cn (Ad (g.map mk)) S x y) ⟨hx,Cn.refl⟩ (λa b ⟨h1,h2⟩ hab hb=>⟨hS b hb,h2.step ((Dq hg h1).2 hab) hb⟩)).2
 ·intro h
  exact(h (λy=>y<g.length∧Cn (adj g) S x y) ⟨hx,Cn.refl⟩ (λa b ⟨h1,h2⟩ hab hb=>⟨hS b hb,h2.step ((Dq hg h1).1 hab) hb⟩)).2
def Whole (g:LL)(s:Int):Prop:=In g.length s∧(∃v,El s v)∧Joint (Ad (g.map mk)) (El s)
end
end Go.Sx

namespace Go.Sx
theorem Tch.symm {F:LI}{n:Nat}(hF:FOk F n){s t:Int}(hs:In n s)(h:Tch F s t):Tch F t s:=by
 obtain⟨x,y,hx,hy,h⟩:=h
 exact⟨y,x,hy,hx,h.imp (λe=>e.symm) (λh=>hF.sym x y (hs.2 x hx) h)⟩
section
variable {g : LL} (hg : GOk g)
include hg
theorem touches_ok {s t:Int}(hs:In g.length s)(ht:In g.length t):∃b,D.D1 (g.map mk) s t=some b∧(b=true↔Tch (g.map mk) s t):=by
 have h16:=hg.n16
 have hF:=FOk.of hg
 have hand:∀a b:Int,VS a→VS b→((iand .u32 a b !=0)=true↔∃x,has a x=true∧has b x=true):=λa b ha hb=>by
  rw[bne_iff_ne]
  constructor
  ·intro h
   apply Classical.byContradiction
   intro hc
   refine h ((VS.iand _ _).eq_zero.2 (λv _=> ?_))
   cases h':has (iand .u32 a b) v
   ·rfl
   ·rw[Ch ha hb,Bool.and_eq_true] at h'
    exact absurd ⟨v,h'⟩ hc
  ·rintro⟨x,h1,h2⟩ e
   have:has (iand .u32 a b) x=true:=by rw[Ch ha hb,h1,h2];rfl
   rw[e,Ci] at this;cases this
 unfold D.D1
 by_cases h0:(iand .u32 s t !=0)=true
 ·rw[h0,cond_true]
  obtain⟨x,h1,h2⟩:=(hand s t hs.1 ht.1).1 h0
  exact⟨true,rfl,⟨λ_=>⟨x,x,h1,h2,.inl rfl⟩,λ_=>rfl⟩⟩
 ·have h0':(iand .u32 s t !=0)=false:=by simpa using h0
  have hel:=BO s
  rw[h0',cond_false,C5 s hs.1,bs]
  refine⟨_,Ej (Ap s).length (λi=>iand .u32 ((g.map mk).getD ((Ap s).getD i 0).toNat 0) t !=0) true (λi hi=> ?_) ?_ rfl rfl,?_⟩
  ·obtain⟨v,_,hv,ev⟩:=mem_elems.1 (List.getElem_mem hi)
   have hvn:=hs.2 v hv
   have hi':v<(g.map mk).length:=by rw[List.length_map];exact hvn
   rw[dlt hi,cond_true,Au hi,bs,ev,Au hi',bs,AD hi,ev,Int.toNat_natCast,AD hi',wi (by omega)]
   cases (iand .u32 (g.map mk)[v] t !=0)<;>rfl
  ·rw[Ba,cond_false]
  ·rw[List.any_eq_true]
   constructor
   ·rintro⟨i,hi,hb⟩
    have hi:=List.mem_range.1 hi
    obtain⟨v,_,hv,ev⟩:=mem_elems.1 (List.getElem_mem hi)
    rw[AD hi,ev,Int.toNat_natCast] at hb
    obtain⟨x,h1,h2⟩:=(hand _ t (hF.vs v (hs.2 v hv)) ht.1).1 hb
    exact⟨v,x,hv,h2,.inr h1⟩
   ·rintro⟨x,y,hx,hy,h⟩
    rcases h with rfl|h
    ·exact absurd ((hand s t hs.1 ht.1).2 ⟨x,hx,hy⟩) h0
    ·obtain⟨i,hi,ei⟩:=List.getElem_of_mem ((AS hs.1).2 hx)
     refine⟨i,List.mem_range.2 hi,?_⟩
     rw[AD hi,ei,Int.toNat_natCast]
     exact(hand _ t (hF.vs x (hs.2 x hx)) ht.1).2 ⟨y,h,hy⟩
theorem l11Touch_ok {a b:LI}(ha:∀x∈a,∃v:Nat,x=(v:Int)∧v<g.length)(hb:∀x∈b,∃v:Nat,x=(v:Int)∧v<g.length)(hla:a.length≤16)(hlb:b.length≤16):
  ∃r,D.X g a b=some r∧(r=true↔∃v:Nat,(v:Int)∈a∧((v:Int)∈b∨∃u:Nat,(u:Int)∈b∧adj g u v)):=by
 have h16:=hg.n16
 have hbz:b=iz (b.map Int.toNat):=by
  unfold iz
  rw[List.map_map]
  conv=>lhs;rw[←List.map_id b]
  refine List.map_congr_left (λx hx=> ?_)
  obtain⟨v,rfl,_⟩:=hb x hx
  rfl
 have hnear:∀v:Nat,∃c:Int,D.f0 g b (v:Int)=some c∧(0<c↔∃u:Nat,(u:Int)∈b∧adj g u v):=λv=>by
  have h1:=l8Near_ok hg (P:=b.map Int.toNat) (λx hx=>by
   obtain⟨z,hz,rfl⟩:=List.mem_map.1 hx
   obtain⟨w,rfl,hw⟩:=hb z hz
   simpa using hw) (by simpa using hlb) (v:Int)
  rw[←hbz] at h1
  refine⟨_,h1,?_⟩
  rw[show (0:Int)=((0:Nat):Int) from rfl,Int.ofNat_lt,List.countP_pos_iff]
  constructor
  ·rintro⟨u,hu,hd⟩
   obtain⟨z,hz,rfl⟩:=List.mem_map.1 hu
   obtain⟨w,rfl,hw⟩:=hb z hz
   rw[decide_eq_true_eq] at hd
   exact⟨w,hz,hd⟩
  ·rintro⟨u,hu,hd⟩
   exact⟨u,List.mem_map.2 ⟨(u:Int),hu,rfl⟩,decide_eq_true (show (v:Int)∈row g u from hd)⟩
 have hsh:Sh b:=by unfold Sh;omega
 unfold D.X
 have hstep:∀i,i<a.length→∃c:Bool,(D.c b (a.getD i 0)).bind (λy_128=>(cond y_128 (some true) ((D.f0 g b (a.getD i 0)).bind λy_150=>some (decide ((0:Int)<y_150)))))=some c∧(c=true↔∃v:Nat,a.getD i 0=(v:Int)∧((v:Int)∈b∨∃u:Nat,(u:Int)∈b∧adj g u v)):=λi hi=>by
  obtain⟨v,ev,hv⟩:=ha _ (List.getElem_mem hi)
  rw[AD hi,ev,Cb _ _ hsh,bs]
  by_cases hm:(v:Int)∈b
  ·rw[decide_eq_true hm,cond_true]
   exact⟨true,rfl,⟨λ_=>⟨v,rfl,.inl hm⟩,λ_=>rfl⟩⟩
  ·obtain⟨c,ec,hc⟩:=hnear v
   rw[decide_eq_false hm,cond_false,ec,bs]
   refine⟨_,rfl,?_⟩
   rw[decide_eq_true_eq,hc]
   constructor
   ·exact λh=>⟨v,rfl,.inr h⟩
   ·rintro⟨w,e,h⟩
    obtain rfl:v=w:=by omega
    exact h.resolve_left hm
 have hch:∃c:Nat→Bool,∀i,i<a.length→(D.c b (a.getD i 0)).bind (λy_128=>(cond y_128 (some true) ((D.f0 g b (a.getD i 0)).bind λy_150=>some (decide ((0:Int)<y_150)))))=some (c i)∧(c i=true↔∃v:Nat,a.getD i 0=(v:Int)∧((v:Int)∈b∨∃u:Nat,(u:Int)∈b∧adj g u v)):=
  ⟨λi=>by classical exact if h:i<a.length then Classical.choose (hstep i h) else false,λi hi=>by
   simp only[dif_pos hi]
   exact Classical.choose_spec (hstep i hi)⟩
 obtain⟨c,hc⟩:=hch
 refine⟨_,Ej a.length c true (λi hi=> ?_) ?_ rfl rfl,?_⟩
 ·obtain⟨h1,_⟩:=hc i hi
  rw[AD hi] at h1
  rw[dlt hi,cond_true,Au hi,bs,wi (by omega)]
  cases hh:D.c b a[i] with
  |none=>rw[hh] at h1;cases h1
  |some hb1=>
   rw[hh,bs] at h1
   rw[bs,bs,h1,bs]
   cases c i<;>rfl
 ·rw[Ba,cond_false]
 ·rw[List.any_eq_true]
  constructor
  ·rintro⟨i,hi,h⟩
   have hi:=List.mem_range.1 hi
   obtain⟨v,ev,hv⟩:=(hc i hi).2.1 h
   rw[AD hi] at ev
   exact⟨v,by rw[←ev];exact List.getElem_mem hi,hv⟩
  ·rintro⟨v,hv,h⟩
   obtain⟨i,hi,ei⟩:=List.getElem_of_mem hv
   exact⟨i,List.mem_range.2 hi,(hc i hi).2.2 ⟨v,by rw[AD hi,ei],h⟩⟩
theorem l11Touch_elems {s t:Int}(hs:In g.length s)(ht:In g.length t):∃r,D.X g (Ap s) (Ap t)=some r∧(r=true↔Tch (g.map mk) s t):=by
 have h16:=hg.n16
 have hr:∀{s:Int},In g.length s→∀x∈Ap s,∃v:Nat,x=(v:Int)∧v<g.length:=λhs x hx=>by
  obtain⟨v,_,hv,rfl⟩:=mem_elems.1 hx
  exact⟨v,rfl,hs.2 v hv⟩
 have hl:∀{s:Int},In g.length s→(Ap s).length≤16:=fun{s} hs=>by
  have:=Cd (l:=Ap s) (m:=(List.range g.length).map Int.ofNat) (BD _).nodup (λx hx=>by
   obtain⟨v,rfl,hv⟩:=hr hs x hx
   exact List.mem_map.2 ⟨v,List.mem_range.2 hv,rfl⟩)
  simp at this
  omega
 obtain⟨r,er,h⟩:=l11Touch_ok hg (hr hs) (hr ht) (hl hs) (hl ht)
 refine⟨r,er,?_⟩
 rw[h]
 constructor
 ·rintro⟨v,hv,h⟩
  have hv:=(AS hs.1).1 hv
  rcases h with h|⟨u,hu,ha⟩
  ·exact⟨v,v,hv,(AS ht.1).1 h,.inl rfl⟩
  ·have hu:=(AS ht.1).1 hu
   exact⟨v,u,hv,hu,.inr ((Dq hg (hs.2 v hv)).2 (adj_sym hg _ _ ha))⟩
 ·rintro⟨x,y,hx,hy,h⟩
  refine⟨x,(AS hs.1).2 hx,?_⟩
  rcases h with rfl|h
  ·exact .inl ((AS ht.1).2 hy)
  ·exact .inr ⟨y,(AS ht.1).2 hy,adj_sym hg _ _ ((Dq hg (hs.2 x hx)).1 h)⟩
end
end Go.Sx

namespace Go.Sx
section
variable {g : LL} (hg : GOk g)
include hg
theorem rest_in (t:Int)(ht:VS t):In g.length (iandNot .u32 (full g.length) t)∧∀x,has (iandNot .u32 (full g.length) t) x=true↔x<g.length∧has t x=false:=by
 have h16:=hg.n16
 have h:∀x,has (iandNot .u32 (full g.length) t) x=true↔x<g.length∧has t x=false:=λx=>by
  rw[Bl (CF _) ht,CP h16,Bool.and_eq_true,decide_eq_true_eq,Bool.not_eq_true']
 exact⟨⟨VS.iandNot _ _,λw hw=>((h w).1 hw).1⟩,h⟩
end
end Go.Sx

namespace Go.Sx
theorem in_zero {n:Nat}:In n 0:=⟨VS.zero,λw hw=>by rw[Ci] at hw;cases hw⟩
theorem indexG {α:Type}(d0:α){xs:List α}{c:α→Option Bool}(hl:xs.length≤1000000)(hc:∀x∈xs,∃b,c x=some b):
  ∃z:Int,(As (σ:=Int) (ρ:=(Unit) ⊕ (Int)) (fun(x_40:Int)=>cond (decide (x_40<(xs.length:Int))) ((idx xs x_40).bind λe_60=>(c e_60).bind λy_66=>cond y_66 (some (.inr (.inr x_40))) (some (.inl (IntKind.i64.wrap (x_40+1))))) (some (.inr (.inl ())))) 0).bind (λzz=>match zz with| .inl _=>(some (-1))| .inr z=>(some z))=some z∧(0≤z↔∃x∈xs,c x=some true):=by
 refine AY (λx:Int=>∃i:Nat,x=(i:Int)∧i≤xs.length∧∀k,k<i→c (xs.getD k d0)=some false) (λx=>xs.length-x.toNat)
  (λr:Unit ⊕ Int=>(r= .inl ()∧∀k,k<xs.length→c (xs.getD k d0)=some false)∨∃k:Nat,r= .inr (k:Int)∧k<xs.length∧c (xs.getD k d0)=some true) ?_ ⟨0,rfl,Nat.zero_le _,λk h=>absurd h (Nat.not_lt_zero _)⟩ ?_
 ·rintro _ ⟨i,rfl,hi,hf⟩
  by_cases hil:i<xs.length
  ·obtain⟨b,eb⟩:=hc _ (List.getElem_mem hil)
   rw[dlt hil,cond_true,Au hil,bs,eb,bs,wi (by omega)]
   cases b with
   |true=>exact⟨_,rfl,.inr ⟨i,rfl,hil,by rw[AD hil];exact eb⟩⟩
   |false=>
    refine⟨_,rfl,⟨i+1,rfl,hil,λk hk=> ?_⟩,by dsimp only;omega⟩
    by_cases e:k=i
    ·subst e;rw[AD hil];exact eb
    ·exact hf k (by omega)
  ·obtain rfl:i=xs.length:=by omega
   rw[Ba,cond_false]
   exact⟨_,rfl,.inl ⟨rfl,hf⟩⟩
 ·rintro r (⟨rfl,h⟩|⟨k,rfl,hk,h⟩)
  ·refine⟨_,rfl,⟨λh'=>absurd h' (by omega),?_⟩⟩
   rintro⟨x,hx,hcx⟩
   obtain⟨k,hk,rfl⟩:=List.getElem_of_mem hx
   have:=h k hk
   rw[AD hk,hcx] at this
   cases this
  ·rw[AD hk] at h
   exact⟨_,rfl,⟨λ_=>⟨_,List.getElem_mem hk,h⟩,λ_=>by omega⟩⟩
theorem indexF {xs:LI}{c:Int→Option Bool}(hl:xs.length≤1000000)(hc:∀x∈xs,∃b,c x=some b):
  ∃z:Int,(As (σ:=Int) (ρ:=(Unit) ⊕ (Int)) (fun(x_40:Int)=>cond (decide (x_40<(xs.length:Int))) ((idx xs x_40).bind λe_60=>(c e_60).bind λy_66=>cond y_66 (some (.inr (.inr x_40))) (some (.inl (IntKind.i64.wrap (x_40+1))))) (some (.inr (.inl ())))) 0).bind (λzz=>match zz with| .inl _=>(some (-1))| .inr z=>(some z))=some z∧(0≤z↔∃x∈xs,c x=some true):=indexG 0 hl hc
theorem toNat_div {m:Int}(hm:VS m)(v:Nat):m.toNat/2^v=2*(m.toNat/2^(v+1))+bit (has m v):=by
 have h1:m.toNat/2^(v+1)=m.toNat/2^v/2:=by rw[Nat.pow_succ,Nat.div_div_eq_div_mul]
 have h2:bit (has m v)=m.toNat/2^v%2:=by
  unfold has bit
  rw[Nat.testBit_eq_decide_div_mod_eq]
  have:=Nat.mod_lt (m.toNat/2^v) (show 2>0 by omega)
  by_cases hc:m.toNat/2^v%2=1
  ·simp[hc]
  ·simp[hc];omega
 omega
theorem toNat_lt {n:Nat}{m:Int}(h:∀v,has m v=true→v<n):m.toNat<2^n:=by
 refine Nat.lt_pow_two_of_testBit _ (λi hi=> ?_)
 cases hc:m.toNat.testBit i with
 |false=>rfl
 |true=>have:=h i hc;omega
theorem code_ok {n:Nat}{m:Int}(hn:n≤10)(hm:VS m)(h:∀v,has m v=true→v<n):D.e1 (mks n m)=some m:=by
 have hlt:=toNat_lt h
 have hp:2^n≤2^10:=Nat.pow_le_pow_right (by omega) hn
 have hle:∀v,m.toNat/2^v≤m.toNat:=λv=>Nat.div_le_self _ _
 have h10:(2:Nat)^10=1024:=rfl
 unfold D.e1
 rw[mks_len]
 refine(BP (λj=>(((m.toNat/2^(n-j):Nat):Int),(n:Int)-1-(j:Int))) n m ?_ (λj hj=> ?_) ?_).trans rfl
 ·rw[Nat.sub_zero,Nat.div_eq_of_lt hlt,w64 (by omega) (by omega)]
  simp
 ·obtain⟨v,hv⟩:∃v,v=n-(j+1):=⟨_,rfl⟩
  have e1:(n:Int)-1-(j:Int)=(v:Int):=by omega
  have e2:n-j=v+1:=by omega
  have d0:decide ((0:Int)≤(v:Int))=true:=by simp
  dsimp only
  rw[e1,d0,cond_true,D6 (show v<n by omega),bs,e2,←hv]
  have ef:D.m (has m v)=some ((bit (has m v):Nat):Int):=by
   unfold D.m bit;cases has m v<;>rfl
  have h1:=toNat_div hm v
  have h2:=hle v
  have h3:bit (has m v)≤1:=by unfold bit;split<;>omega
  rw[ef,bs,w64 (x:=2*_) (by omega) (by omega),w64 (by omega) (by omega),w64 (by omega) (by omega),h1]
  congr 3
  omega
 ·have d0:decide ((0:Int)≤(n:Int)-1-(n:Int))=false:=by simp;omega
  dsimp only
  rw[d0,cond_false,Nat.sub_self,Nat.pow_zero,Nat.div_one]
  congr 2
  have:=hm.1
  omega
structure TOk (F:LI)(n:Nat)(T:LI):Prop where
 len:T.length=2^n
 ok:∀m k,GS n m k→T.getD m.toNat (-1)= -1∨T.getD m.toNat (-1)=wd F n k m
theorem GS.tlt {n k:Nat}{m:Int}(h:GS n m k):m.toNat<2^n:=toNat_lt h.lt
theorem GS.card {n k k':Nat}{m:Int}(h:GS n m k)(h':GS n m k'):k=k':=by rw[←h.left.card,h'.left.card]
theorem TOk.set {F:LI}{n k:Nat}{T:LI}{m:Int}(h:TOk F n T)(hm:GS n m k):TOk F n (T.set m.toNat (wd F n k m)):=by
 refine⟨by rw[List.length_set,h.len],λm' k' hm'=> ?_⟩
 have hl:=hm'.tlt
 rw[←h.len] at hl
 rw[List.getD_eq_getElem?_getD,List.getElem?_set]
 by_cases he:m.toNat=m'.toNat
 ·have e:m=m':=by have:=hm.vs.1;have:=hm'.vs.1;omega
  subst e
  rw[if_pos rfl,if_pos hl]
  obtain rfl:=hm.card hm'
  exact .inr rfl
 ·rw[if_neg he,←List.getD_eq_getElem?_getD]
  exact h.ok m' k' hm'
theorem Table_ok {g:LL}(hn:g.length≤10)(F:LI):∃T,D.u0 g=some T∧TOk F g.length T:=by
 have hp:∀j,j≤10→2^j≤1024:=λj hj=>(Nat.pow_le_pow_right (by omega) hj:2^j≤2^10)
 have hpn:=hp _ hn
 refine⟨List.replicate (2^g.length) (-1),?_,by simp,λm k hm=> .inl ?_⟩
 ·unfold D.u0 D.a
  refine(BP (λj=>(((2^j:Nat):Int),(j:Int))) g.length ((2^g.length:Nat):Int) rfl (λj hj=> ?_) ?_).trans ?_
  ·have h1:=hp j (by omega)
   have h2:=hp (j+1) (by omega)
   rw[Nat.pow_succ] at h2
   dsimp only
   rw[bs,dlt hj,cond_true,w64 (x:=_*2) (by omega) (by omega),wq j,Nat.pow_succ]
   congr 3
  ·dsimp only
   rw[bs,Ba,cond_false]
  ·dsimp only
   rw[CI (by omega) (by omega),bs]
   refine(BP (λj=>(List.replicate j (-1)++List.replicate (2^g.length-j) (0:Int),(j:Int))) (2^g.length) (List.replicate (2^g.length) (-1)) (by simp) (λj hj=> ?_) ?_).trans rfl
   ·dsimp only
    rw[dlt hj,cond_true,Au (show j<_ by simp;omega),bs,wq j]
    congr 3
    rw[Int.toNat_natCast]
    obtain⟨d,hd⟩:∃d,2^g.length-j=d+1:=⟨2^g.length-j-1,by omega⟩
    rw[hd,show 2^g.length-(j+1)=d by omega,List.set_append_right _ _ (by simp),List.length_replicate,Nat.sub_self,List.replicate_succ,List.set_cons_zero,List.replicate_succ',List.append_assoc];rfl
   ·dsimp only
    rw[Ba,cond_false];simp
 ·have hl:=hm.tlt
  simp[List.getD_eq_getElem?_getD,hl]
def mst (f:Int→Int)(b v:Int):Int:=if b<0∨f v<b then f v else b
theorem mst_run (f:Int→Int):∀(l:LI) (b:Int),0≤b→(∀v∈l,0≤f v)→l.foldl (mst f) b=l.foldl (λb v=>if f v<b then f v else b) b
 |[],_,_,_=>rfl
 |x::l,b,hb,hl=>by
  rw[List.foldl_cons,List.foldl_cons]
  have hx:=hl x (by simp)
  have e:mst f b x=if f x<b then f x else b:=by
   unfold mst
   by_cases hc:f x<b
   ·rw[if_pos (.inr hc),if_pos hc]
   ·rw[if_neg (by omega),if_neg hc]
  rw[e]
  exact mst_run f l _ (by split<;>omega) (λv hv=>hl v (List.mem_cons_of_mem _ hv))
theorem mst_all (f:Int→Int)(l:LI)(hne:l≠[])(hl:∀v∈l,0≤f v∧f v≤16):l.foldl (mst f) (-1)=l.foldl (λb v=>if f v<b then f v else b) 16:=by
 cases l with
 |nil=>exact absurd rfl hne
 |cons x l=>
  rw[List.foldl_cons,List.foldl_cons]
  have hx:=hl x (by simp)
  have e1:mst f (-1) x=f x:=by unfold mst;rw[if_pos (.inl (by omega))]
  have e2:(if f x<16 then f x else 16)=f x:=by split<;>omega
  rw[e1,e2]
  exact mst_run f l _ hx.1 (λv hv=>(hl v (List.mem_cons_of_mem _ hv)).1)
theorem FromR_ok {g:LL}(hg:GOk g)(hn:g.length≤10):∀(fuel k:Nat) (m:Int) (T:LI),GS g.length m k→k<fuel→TOk (g.map mk) g.length T→
  ∃T',D.B0 fuel g (mks g.length m) T=some (wd (g.map mk) g.length k m,mks g.length m,T')∧TOk (g.map mk) g.length T'
 |0,_,_,_,_,h,_=>absurd h (by omega)
 |fuel+1,k,m,T,hm,h,hT=>by
  have h16:=hg.n16
  have hF:=FOk.of hg
  have hlt:=hm.tlt
  have hm0:=hm.vs.1
  have hi:m.toNat<T.length:=by rw[hT.len];exact hlt
  have ec:((m.toNat:Nat):Int)=m:=by omega
  have hix:idx T m=some (T.getD m.toNat (-1)):=by
   rw[←ec,Au hi,Int.toNat_natCast,AD hi]
  unfold D.B0
  rw[code_ok hn hm.vs hm.lt,bs,hix,bs]
  by_cases h0:0≤T.getD m.toNat (-1)
  ·have e:T.getD m.toNat (-1)=wd (g.map mk) g.length k m:=by
    rcases hT.ok m k hm with h|h
    ·omega
    ·exact h
   rw[decide_eq_true h0,cond_true,bs,e]
   exact⟨T,rfl,hT⟩
  ·rw[decide_eq_false h0,cond_false]
   have hk2:∀k',k=k'+1→∀v:Nat,v<g.length→0≤wv (g.map mk) (wd (g.map mk) g.length k') m (v:Int)∧wv (g.map mk) (wd (g.map mk) g.length k') m (v:Int)≤16:=λk' _ v hv=>by
    have:=(wv_ge (g.map mk) (wd (g.map mk) g.length k') m (v:Int)).1
    exact⟨by omega,wv_len h16 hF hm.vs hv k'⟩
   refine opt_ex ?_
   refine AY (λs=>∃i:Nat,s.2.2.2=(i:Int)∧i≤g.length∧TOk (g.map mk) g.length s.1∧s.2.1=mks g.length m∧s.2.2.1=(els (rm g.length m) i).foldl (mst (wv (g.map mk) (wd (g.map mk) g.length (k-1)) m)) (-1)) (λs=>g.length-s.2.2.2.toNat)
    (λr=>TOk (g.map mk) g.length r.1∧r.2.1=mks g.length m∧r.2.2=(Ap (rm g.length m)).foldl (mst (wv (g.map mk) (wd (g.map mk) g.length (k-1)) m)) (-1)) ?_ ⟨0,rfl,by omega,hT,rfl,rfl⟩ ?_
   ·rintro⟨T1,_,b,_⟩ ⟨i,rfl,hin,hT1,rfl,hb⟩
    dsimp only at hT1 hb ⊢
    unfold D.a
    rw[bs]
    by_cases hi2:i<g.length
    ·rw[dlt hi2,cond_true,D6 hi2,bs]
     cases hmi:has m i with
     |true=>
      rw[cond_true,wq i]
      refine⟨_,rfl,⟨i+1,rfl,by omega,hT1,rfl,?_⟩,by dsimp only;omega⟩
      dsimp only
      rw[els_succ,DQ h16 hm.vs,hmi,Bool.not_true,Bool.and_false,if_neg (by simp)]
      exact hb
     |false=>
      obtain⟨k',rfl⟩:∃k',k=k'+1:=by
       cases k with
       |zero=>
        have:=hm.done h16
        have h3:=CP h16 i
        rw[←this,hmi,decide_eq_true hi2] at h3
        cases h3
       |succ k=>exact⟨k,rfl⟩
      rw[cond_false,EG hg hm.vs hi2,bs,bs,Int.toNat_natCast,mks_set h16 hm.vs hi2]
      obtain⟨T2,e2,hT2⟩:=FromR_ok hg hn fuel k' _ T1 (hm.add h16 hi2 hmi) (by omega) hT1
      rw[e2,bs,l1Max_eq,bs,D6 hi2,bs]
      dsimp only
      have emx:max ((Ap (bh (g.map mk) m (i:Int))).length:Int) (wd (g.map mk) g.length k' (ior .u32 m (ishl .u32 1 (i:Int))))=wv (g.map mk) (wd (g.map mk) g.length k') m (i:Int):=by
       unfold wv
       rw[Int.max_def]
       split<;>split<;>omega
      have ese:els (rm g.length m) (i+1)=els (rm g.length m) i++[(i:Int)]:=by
       rw[els_succ,DQ h16 hm.vs,hmi,decide_eq_true hi2];rfl
      rw[emx,mks_unset h16 hm.vs hi2 hmi,wq i]
      simp only[Nat.add_sub_cancel] at hb
      by_cases hc:b<0∨wv (g.map mk) (wd (g.map mk) g.length k') m (i:Int)<b
      ·have hd:(decide (b<0)||decide (wv (g.map mk) (wd (g.map mk) g.length k') m (i:Int)<b))=true:=by simpa using hc
       rw[hd,cond_true]
       refine⟨_,rfl,⟨i+1,rfl,by omega,hT2,rfl,?_⟩,by dsimp only;omega⟩
       dsimp only
       rw[Nat.add_sub_cancel,ese,List.foldl_append,←hb,List.foldl_cons,List.foldl_nil]
       unfold mst
       rw[if_pos hc]
      ·have hd:(decide (b<0)||decide (wv (g.map mk) (wd (g.map mk) g.length k') m (i:Int)<b))=false:=by simpa using hc
       rw[hd,cond_false]
       refine⟨_,rfl,⟨i+1,rfl,by omega,hT2,rfl,?_⟩,by dsimp only;omega⟩
       dsimp only
       rw[Nat.add_sub_cancel,ese,List.foldl_append,←hb,List.foldl_cons,List.foldl_nil]
       unfold mst
       rw[if_neg hc]
    ·obtain rfl:i=g.length:=by omega
     rw[Ba,cond_false]
     refine⟨_,rfl,hT1,rfl,?_⟩
     dsimp only
     rw[hb,Fv (by omega) (λv hv=>by
      rw[DQ h16 hm.vs,Bool.and_eq_true] at hv
      exact of_decide_eq_true hv.1)]
   ·rintro⟨T1,_,b⟩ ⟨hT1,rfl,hb⟩
    dsimp only at hT1 hb ⊢
    have hi1:m.toNat<T1.length:=by rw[hT1.len];exact hlt
    have hi2:m.toNat<(T1.set m.toNat (max b 0)).length:=by rw[List.length_set];exact hi1
    have er:max b 0=wd (g.map mk) g.length k m:=by
     cases k with
     |zero=>
      have hz:rm g.length m=0:=hm.left.z
      rw[hz,Dx,List.foldl_nil] at hb
      rw[hb];rfl
     |succ k=>
      have e:b=wd (g.map mk) g.length (k+1) m:=by
       rw[hb,Nat.add_sub_cancel]
       unfold wd
       refine mst_all _ _ hm.left.ne (λv hv=> ?_)
       obtain⟨u,rfl,hu,_⟩:=(Dl h16 hm.vs).1 hv
       exact hk2 k rfl u hu
      have:=wd_nonneg (g.map mk) g.length (k+1) m
      omega
    have ex:∀{X:LI} (hX:m.toNat<X.length),idx X m=some (X[m.toNat]):=fun{X} hX=>by
     have:=Au hX
     rwa [ec] at this
    rw[l1Max_eq,bs,ex hi1,bs,ex hi2,bs,List.getElem_set_self,er]
    exact⟨_,rfl,_,rfl,hT1.set hm⟩
theorem TB.sh {g B K:LL}(hg:GOk g)(h:TB g B K):Sh2 B∧Sh2 K:=by
 have h16:=hg.n16;have:=h.n16;have:=h.many
 refine⟨⟨by unfold Sh;omega,λb hb=>by have:=(h.sets b hb).length_le (by omega);unfold Sh;omega⟩,⟨by unfold Sh;omega,λl hl=> ?_⟩⟩
 obtain⟨a,b,rfl,_⟩:=h.lks l hl
 simp[Sh]
section
variable {g B K : LL} (hg : GOk g) (h : TB g B K)
include hg h
theorem tidied_both :∃B' K':LL,D.U0 B K=some (B,K.mergeSort B5)∧D.S0 B K=some (B',K')∧
  (As (σ:=LL×LL) (ρ:=((LL)×(LL)×Bool)) (fun(s_125:LL×LL)=>match s_125 with|(l_128,l_133)=>(D.D0 l_128 l_133).bind λy_139=>cond (decide (y_139.1<0)) (some (.inr (l_128,l_133,true))) ((D.v0 l_128 l_133 y_139.1 y_139.2).bind λy_160=>some (.inl (y_160.1,y_160.2)))) (B,K.mergeSort B5)=some (B',K',true))∧
  B'.length≤16∧(∀x∈B',x.length≤32)∧K'.length≤16∧(∀x∈K',x.length=2)∧
  ∃M',B'=M'.map Ap∧TS M' K'∧Cz M' K'=none∧Kept g (B.map mk) M' K':=by
 have h16:=hg.n16;have b16:=h.n16;have hm:=h.many
 obtain⟨hB,hK⟩:=h.sh hg
 have hgood:∀x∈K,Co x:=λx hx=>(h.lks x hx).good (by omega)
 have hBe:(B.map mk).map Ap=B:=by
  rw[List.map_map]
  conv=>rhs;rw[←List.map_id B]
  refine List.map_congr_left (λb hb=> ?_)
  have hs:=h.sets b hb
  exact elems_mk' h16 hs.1 hs.2
 have hT:TS (B.map mk) (K.mergeSort B5):=by
  refine⟨by simpa using b16,λs hs=> ?_,λl hl=> ?_,by rw[(BU _).length_eq];omega⟩
  ·obtain⟨b,_,rfl⟩:=List.mem_map.1 hs
   exact VS.mk _
  ·rw[List.length_map]
   exact h.lks l ((BU K).mem_iff.1 hl)
 obtain⟨M',K',hT',e1,e2,e3,e4⟩:=tidy_both 16 (B.map mk) (K.mergeSort B5) (by simpa using b16) hT
 rw[hBe] at e2
 have hkept:Kept g (B.map mk) M' K':=e4 (Kept g (B.map mk)) ⟨by rw[hBe];exact TB.perm h (BU K),Nat.le_refl _,λs hs=>hs,λs hs=>⟨s,hs,λv hv=>hv⟩⟩ (λM K g k hTS e hI=>hI.step hTS e)
 refine⟨M'.map Ap,K',?_,?_,e2,by rw[List.length_map];exact hT'.n16,λx hx=> ?_,hT'.k16,λx hx=> ?_,M',rfl,hT',e3,hkept⟩
 ·unfold D.U0
  refine(BP (λi=>((i:Int),B.take i)) B.length B (by simp) (λi hi=> ?_) ?_).trans ?_
  ·simp only[dlt hi,cond_true,Au hi,bs,C9 _ (hB.2 _ (List.getElem_mem hi)),wq i]
   rw[AR (by simp;omega),bs,List.take_succ_eq_append_getElem hi]
  ·simp only[Ba,cond_false,List.take_length]
  ·refine(BP (λi=>((i:Int),CL [] (K.take i))) K.length (CL [] K) (by simp[CL]) (λi hi=> ?_) ?_).trans ?_
   ·obtain⟨a,b,e,hab,hb⟩:=h.lks _ (List.getElem_mem hi)
    have i0:idx K[i] 0=some (a:Int):=by rw[e];rfl
    have i1:idx K[i] 1=some (b:Int):=by rw[e];rfl
    have el:B7 (a:Int) (b:Int)=K[i]:=by
     rw[e];unfold B7
     rw[show min (a:Int) (b:Int)=a by omega,show max (a:Int) (b:Int)=b by omega]
    obtain⟨hp,_⟩:=DR (K.take i) [] (by simp[DZ])
    rw[List.append_nil] at hp
    have hlen:(CL [] (K.take i)).length≤16:=by rw[hp.length_eq,List.length_take];omega
    simp only[dlt hi,cond_true,Au hi,bs,i0,i1,wq i]
    rw[Fa (λx hx=>hgood x (List.mem_of_mem_take (hp.mem_iff.1 hx))) (by rw[el];exact hgood _ (List.getElem_mem hi)) (by omega),bs,el,List.take_succ_eq_append_getElem hi,FO]
   ·simp only[Ba,cond_false,List.take_length]
   ·rw[FQ hgood]
 ·unfold D.S0
  rw[masks_eq hg h.sets b16,bs]
  unfold D.h2
  rw[AR (by simp;omega)]
  simp only[bs,List.nil_append]
  rw[Fi (by omega) hgood,bs,e1,bs]
  dsimp only
  have hl:=hT'.n16;have hk:=hT'.k16
  rw[results_eq M' (by unfold Sh;omega) hT'.vs,bs]
  refine(BP (λi=>((i:Int),K'.take i)) K'.length K' (by simp) (λi hi=> ?_) ?_).trans rfl
  ·obtain⟨a,b,e,_⟩:=hT'.lk _ (List.getElem_mem hi)
   have hc:D.F1 K'[i]=some K'[i]:=by
    unfold D.F1
    rw[AR (by rw[e];simp)];rfl
   simp only[dlt hi,cond_true,Au hi,bs,hc,wq i]
   rw[AR (by simp;omega),bs,List.take_succ_eq_append_getElem hi]
  ·simp only[Ba,cond_false,List.take_length]
 ·obtain⟨s,_,rfl⟩:=List.mem_map.1 hx
  exact BO s
 ·obtain⟨a,b,rfl,_⟩:=hT'.lk x hx
  rfl
end
end Go.Sx

namespace Go.Sx
noncomputable def bo (F:LI)(n:Nat)(most:Int):Nat→Int→LI
 |0,_=>[]
 |k+1,m=>match(Ap (rm n m)).find? (λv=>decide (wv F (wd F n k) m v≤most)) with
  |some v=>v::bo F n most k (ior .u32 m (ishl .u32 1 v))
  |none=>[]
theorem bo_next {F:LI}{n k:Nat}{m most:Int}(hn:n≤16)(hF:FOk F n)(hm:GS n m (k+1))(hw:wd F n (k+1) m≤most):
  ∃v:Nat,(Ap (rm n m)).find? (λv=>decide (wv F (wd F n k) m v≤most))=some (v:Int)∧v<n∧has m v=false∧wv F (wd F n k) m (v:Int)≤most∧GS n (ior .u32 m (ishl .u32 1 (v:Int))) k∧wd F n k (ior .u32 m (ishl .u32 1 (v:Int)))≤most∧
   bo F n most (k+1) m=(v:Int)::bo F n most k (ior .u32 m (ishl .u32 1 (v:Int))):=by
 obtain⟨u,hu1,hu2,hu3⟩:=E8 hn hF hm
 cases hf:(Ap (rm n m)).find? (λv=>decide (wv F (wd F n k) m v≤most)) with
 |none=>
  rw[List.find?_eq_none] at hf
  have:=hf (u:Int) ((Dl hn hm.vs).2 ⟨u,rfl,hu1,hu2⟩)
  simp at this
  omega
 |some x=>
  obtain⟨v,rfl,h1,h2⟩:=(Dl hn hm.vs).1 (List.mem_of_find?_eq_some hf)
  have h3:wv F (wd F n k) m (v:Int)≤most:=by simpa using List.find?_some hf
  have h4:=(wv_ge F (wd F n k) m (v:Int)).2
  exact⟨v,rfl,h1,h2,h3,hm.add hn h1 h2,by omega,by rw[bo,hf]⟩
theorem bo_ok {F:LI}{n:Nat}{most:Int}(hn:n≤16)(hF:FOk F n):∀(k:Nat) (m:Int),GS n m k→wd F n k m≤most→(bo F n most k m).length=k∧(bo F n most k m).Nodup∧∀x∈bo F n most k m,∃v:Nat,x=v∧v<n∧has m v=false
 |0,_,_,_=>by simp[bo]
 |k+1,m,hm,hw=>by
  obtain⟨v,_,hv,hmv,_,hg,hw',e⟩:=bo_next hn hF hm hw
  obtain⟨h1,h2,h3⟩:=bo_ok hn hF k _ hg hw'
  rw[e]
  refine⟨by rw[List.length_cons,h1],List.nodup_cons.2 ⟨λhc=> ?_,h2⟩,λx hx=> ?_⟩
  ·obtain⟨u,e1,_,h4⟩:=h3 _ hc
   rw[C6 hm.vs (by omega),Bool.or_eq_false_iff] at h4
   have:=of_decide_eq_false h4.2
   omega
  ·rcases List.mem_cons.1 hx with rfl|hx
   ·exact⟨v,rfl,hv,hmv⟩
   ·obtain⟨u,rfl,h5,h4⟩:=h3 _ hx
    rw[C6 hm.vs (by omega),Bool.or_eq_false_iff] at h4
    exact⟨u,rfl,h5,h4.1⟩
theorem impl_bo {F:LI}{n:Nat}{most:Int}(hn:n≤16)(hF:FOk F n):∀(k:Nat) (m:Int) (out:LI),GS n m k→wd F n k m≤most→out.length+k≤1000→
  As (D.r2 F most) (out,m)=some (out++bo F n most k m)
 |0,m,out,hm,_,_=>by
  refine Bd ?_
  unfold D.r2
  rw[Dr,bs,hF.len]
  dsimp only
  rw[hm.done hn,bne_self_eq_false,cond_false,bo,List.append_nil]
 |k+1,m,out,hm,hw,hl=>by
  obtain⟨v,hf,hv,hmv,_,hg,hw',e⟩:=bo_next hn hF hm hw
  have hle:=hm.le hn
  have hrf:=DY
  have hrl:=BO (rm n m)
  rw[BF (s':=(out++[(v:Int)],ior .u32 m (ishl .u32 1 (v:Int)))),impl_bo hn hF k _ (out++[(v:Int)]) hg hw' (by simp;omega),e,List.append_assoc];rfl
  unfold D.r2
  rw[Dr,bs,hF.len]
  dsimp only
  have hne:(m !=full n)=true:=by simpa using hm.undone
  have hlist:D.i (iandNot .u32 (full n) m)=some (Ap (rm n m)):=C5 _ (VS.iandNot _ _)
  rw[hne,cond_true,hlist,bs]
  rw[loop_first (step:=D.s2 F (Ap (rm n m)) most out m) (Ap (rm n m)) (λv=>decide (wv F (wd F n k) m v≤most)) (λv=>(out++[v],ior .u32 m (ishl .u32 1 v))) (out,m) (λi hi=> ?_) ?_,hf,bs]
  rotate_left
  ·obtain⟨u,eu,hu,hmu⟩:=(Dl hn hm.vs).1 (List.getElem_mem hi)
   unfold D.s2
   rw[dlt hi,cond_true,Au hi,bs,eu,wWith_ok hn hF hm.vs hu (r:=wd F n k) (DV hn hF BL k _ (hm.add hn hu hmu) (by omega)),bs]
   by_cases hc:wv F (wd F n k) m (u:Int)≤most
   ·rw[decide_eq_true hc,cond_true,if_pos rfl,AR (by simp;omega),bs,B2,bs]
   ·rw[decide_eq_false hc,cond_false,if_neg (by simp),wq i]
  ·unfold D.s2
   rw[Ba,cond_false]
theorem bestOrder_ok {F:LI}{n:Nat}(hn:n≤16)(hF:FOk F n):D.Z0 F=some (bo F n (wd F n n 0) n 0):=by
 have hrf:=DY
 unfold D.Z0
 rw[DV hn hF BL n 0 (GS.zero hn) (by omega),bs]
 exact impl_bo hn hF n 0 [] (GS.zero hn) (Int.le_refl _) (by simp;omega)
theorem From_ok {g:LL}(hg:GOk g)(hn:g.length≤10){k:Nat}{m:Int}{T:LI}(hm:GS g.length m k)(hT:TOk (g.map mk) g.length T):
  ∃T',D.k g (mks g.length m) T=some (wd (g.map mk) g.length k m,mks g.length m,T')∧TOk (g.map mk) g.length T':=by
 have hrf:=DY
 have:=hm.le hg.n16
 exact FromR_ok hg hn BL k m T hm (by omega) hT
theorem spec_bo_round {g:LL}(hg:GOk g)(hn:g.length≤10){k:Nat}{m most:Int}{out T:LI}(hm:GS g.length m (k+1))(hT:TOk (g.map mk) g.length T)(ho:out.length≤1000){v:Nat}
  (hf:(Ap (rm g.length m)).find? (λv=>decide (wv (g.map mk) (wd (g.map mk) g.length k) m v≤most))=some (v:Int))
  {step:LI×List Bool×Int→Option ((LI×List Bool×Int) ⊕ (LI×LI×List Bool))}
  (hstep:∀l b x,step (l,b,x)=cond (decide (x<(g.length:Int))) ((idx b x).bind λe_1712=>(cond e_1712 (some true) ((D.T g b x).bind λy_1751=>some (decide (most<(y_1751.length:Int))))).bind λb_1749=>cond b_1749 (some (.inl (l,b,(IntKind.i64.wrap (x+1))))) ((idx b x).bind λe_1766=>(D.k g (b.set (Int.toNat x) true) l).bind λy_1772=>cond (decide (y_1772.1≤most)) ((AN out ([x]:LI)).bind λl_1788=>some (.inr (l_1788,y_1772.2.2,y_1772.2.1))) ((idx y_1772.2.1 x).bind λe_1794=>some (.inl (y_1772.2.2,(y_1772.2.1.set (Int.toNat x) false),(IntKind.i64.wrap (x+1))))))) (some (.inr (out,l,b)))):
  ∃T',As step (T,mks g.length m,0)=some (out++[(v:Int)],T',mks g.length (ior .u32 m (ishl .u32 1 (v:Int))))∧TOk (g.map mk) g.length T':=by
 have h16:=hg.n16
 have hF:=FOk.of hg
 have hv:=List.mem_of_find?_eq_some hf
 have hvle:wv (g.map mk) (wd (g.map mk) g.length k) m (v:Int)≤most:=by simpa using List.find?_some hf
 obtain⟨v',e,hvn,hmv⟩:=(Dl h16 hm.vs).1 hv
 obtain rfl:v=v':=by omega
 have hfirst:∀u,u<v→has m u=false→¬wv (g.map mk) (wd (g.map mk) g.length k) m (u:Int)≤most:=λu hu hmu hc=>by
  obtain⟨_,a1,b1,e1,e2⟩:=List.find?_eq_some_iff_append.1 hf
  have hi:=BD (rm g.length m)
  rw[e1] at hi
  have hmem:(u:Int)∈a1++(v:Int)::b1:=by
   rw[←e1]
   exact(Dl h16 hm.vs).2 ⟨u,rfl,by omega,hmu⟩
  unfold Inc at hi
  rw[List.pairwise_append] at hi
  rcases List.mem_append.1 hmem with hh|hh
  ·have:=e2 _ hh
   simp at this
   omega
  ·rcases List.mem_cons.1 hh with hh|hh
   ·omega
   ·have:=(List.pairwise_cons.1 hi.2.1).1 _ hh
    omega
 refine opt_ex ?_
 have key:=AY (step:=step) (s:=(T,mks g.length m,0)) (k:=λr=>some r) (Q:=λy=>∃T',y=(out++[(v:Int)],T',mks g.length (ior .u32 m (ishl .u32 1 (v:Int))))∧TOk (g.map mk) g.length T')
  (λs=>∃i:Nat,s.2.2=(i:Int)∧i≤v∧TOk (g.map mk) g.length s.1∧s.2.1=mks g.length m) (λs=>g.length-s.2.2.toNat)
  (λy=>∃T',y=(out++[(v:Int)],T',mks g.length (ior .u32 m (ishl .u32 1 (v:Int))))∧TOk (g.map mk) g.length T') ?_ ⟨0,rfl,by omega,hT,rfl⟩ (λr hr=>⟨r,rfl,hr⟩)
 ·obtain⟨y,h1,h2⟩:=key
  rw[Option.bind_eq_some_iff] at h1
  obtain⟨z,e1,e2⟩:=h1
  rw[Option.some.inj e2] at e1
  exact⟨y,e1,h2⟩
 ·rintro⟨T1,_,_⟩ ⟨i,rfl,hiv,hT1,rfl⟩
  dsimp only at hT1 ⊢
  have hi:i<g.length:=by omega
  rw[hstep,dlt hi,cond_true,D6 hi,bs]
  have hgo:∀T2,TOk (g.map mk) g.length T2→(i=v→False)→∃y,(some (Sum.inl (T2,mks g.length m,IntKind.i64.wrap ((i:Int)+1))):Option ((LI×List Bool×Int) ⊕ (LI×LI×List Bool)))=some y∧Stp (λs:LI×List Bool×Int=>∃i:Nat,s.2.2=(i:Int)∧i≤v∧TOk (g.map mk) g.length s.1∧s.2.1=mks g.length m) (λs=>g.length-s.2.2.toNat) (λy=>∃T',y=(out++[(v:Int)],T',mks g.length (ior .u32 m (ishl .u32 1 (v:Int))))∧TOk (g.map mk) g.length T') (T1,mks g.length m,(i:Int)) y:=λT2 h2 hne=>by
   have hne':i≠v:=λe=>hne e
   rw[wq i]
   exact⟨_,rfl,⟨i+1,rfl,by omega,h2,rfl⟩,by dsimp only;omega⟩
  cases hmi:has m i with
  |true=>
   rw[cond_true,bs,cond_true]
   exact hgo T1 hT1 (λe=>by rw[e,hmv] at hmi;cases hmi)
  |false=>
   rw[cond_false,EG hg hm.vs hi,bs,bs]
   have hwl:=wv_le (F:=g.map mk) (rec:=wd (g.map mk) g.length k) (m:=m) (v:=(i:Int)) (b:=most)
   by_cases hs:most<((Ap (bh (g.map mk) m (i:Int))).length:Int)
   ·rw[decide_eq_true hs,cond_true]
    exact hgo T1 hT1 (λe=>by subst e;have:=hwl.1 hvle;omega)
   ·rw[decide_eq_false hs,cond_false,bs,Int.toNat_natCast,mks_set h16 hm.vs hi]
    obtain⟨T2,e2,hT2⟩:=From_ok hg hn (hm.add h16 hi hmi) hT1
    rw[e2,bs]
    dsimp only
    by_cases hc:wd (g.map mk) g.length k (ior .u32 m (ishl .u32 1 (i:Int)))≤most
    ·have hiv2:i=v:=by
      rcases Nat.lt_or_ge i v with hlt|hge
      ·exact absurd (hwl.2 ⟨by omega,hc⟩) (hfirst i hlt hmi)
      ·omega
     subst hiv2
     rw[decide_eq_true hc,cond_true,AR (by simp;omega),bs]
     exact⟨_,rfl,T2,rfl,hT2⟩
    ·rw[decide_eq_false hc,cond_false,D6 hi,bs,mks_unset h16 hm.vs hi hmi]
     exact hgo T2 hT2 (λe=>by subst e;exact hc (hwl.1 hvle).2)
theorem DD {g:LL}(h:Sh2 g):D.Q g=some (gB g&&decide (g.length≤10)):=by
 unfold D.Q D.a
 rw[CA g h,bs]
 have e:decide ((g.length:Int)≤10)=decide (g.length≤10):=by rw[decide_eq_decide];omega
 cases gB g
 ·rfl
 ·rw[cond_true,bs,bs,e];rfl
theorem FE {g:LL}(hg:GOk g)(hn:g.length≤10)(hs:Sh2 g):D.O0 g=some (bo (g.map mk) g.length (wd (g.map mk) g.length g.length 0) g.length 0):=by
 have h16:=hg.n16
 have hF:=FOk.of hg
 unfold D.O0
 rw[DD hs,(DC g).2 hg,decide_eq_true hn,Bool.true_and,bs,Bool.not_true,cond_false]
 obtain⟨T,eT,hT⟩:=Table_ok hn (g.map mk)
 rw[eT,bs]
 unfold D.a
 rw[bs,CI (by omega) (by omega),bs,mks_zero]
 obtain⟨T1,e1,hT1⟩:=From_ok hg hn (GS.zero h16) hT
 rw[e1,bs]
 dsimp only
 generalize hmo:wd (g.map mk) g.length g.length 0=most
 refine opt_eq ?_
 refine AY (λs=>∃(k:Nat) (m:Int),GS g.length m k∧TOk (g.map mk) g.length s.2.1∧s.2.2=mks g.length m∧wd (g.map mk) g.length k m≤most∧s.1.length+k=g.length∧s.1++bo (g.map mk) g.length most k m=bo (g.map mk) g.length most g.length 0)
  (λs=>g.length-s.1.length) (λr=>r=bo (g.map mk) g.length most g.length 0) ?_ ⟨g.length,0,GS.zero h16,hT1,rfl,by rw[hmo];exact Int.le_refl _,by simp,by simp⟩ (λr hr=>⟨r,rfl,hr⟩)
 rintro⟨out,T2,_⟩ ⟨k,m,hm,hT2,rfl,hw,hl,he⟩
 dsimp only at hT2 hl he ⊢
 rw[bs]
 cases k with
 |zero=>
  have:decide ((out.length:Int)<(g.length:Int))=false:=by simp;omega
  rw[this,cond_false]
  refine⟨_,rfl,?_⟩
  show out=_
  rw[bo,List.append_nil] at he
  exact he
 |succ k=>
  obtain⟨v,hf,hv,hmv,_,hg',hw',e⟩:=bo_next h16 hF hm hw
  have hd:decide ((out.length:Int)<(g.length:Int))=true:=by simp;omega
  rw[hd,cond_true]
  refine Cw (λr=>∃T',r=(out++[(v:Int)],T',mks g.length (ior .u32 m (ishl .u32 1 (v:Int))))∧TOk (g.map mk) g.length T') ?_ ?_
  ·obtain⟨T3,e3,hT3⟩:=spec_bo_round hg hn (out:=out) hm hT2 (by omega) hf (step:=(fun(s_1584:LI×(List Bool)×Int)=>match s_1584 with|(l_1587,l_1590,x_1593)=>(some (g.length:Int)).bind λy_1704=>cond (decide (x_1593<y_1704)) ((idx l_1590 x_1593).bind λe_1712=>(cond e_1712 (some true) ((D.T g l_1590 x_1593).bind λy_1751=>some (decide (most<(y_1751.length:Int))))).bind λb_1749=>cond b_1749 (some (.inl (l_1587,l_1590,(IntKind.i64.wrap (x_1593+1))))) ((idx l_1590 x_1593).bind λe_1766=>(D.k g (l_1590.set (Int.toNat x_1593) true) l_1587).bind λy_1772=>cond (decide (y_1772.1≤most)) ((AN out ([x_1593]:LI)).bind λl_1788=>some (.inr (l_1788,y_1772.2.2,y_1772.2.1))) ((idx y_1772.2.1 x_1593).bind λe_1794=>some (.inl (y_1772.2.2,(y_1772.2.1.set (Int.toNat x_1593) false),(IntKind.i64.wrap (x_1593+1))))))) (some (.inr (out,l_1587,l_1590))))) (λl b x=>rfl)
   exact⟨_,e3,T3,rfl,hT3⟩
  ·rintro _ ⟨T3,rfl,hT3⟩
   refine⟨_,rfl,⟨k,_,hg',hT3,rfl,hw',by simp;omega,?_⟩,by dsimp only;simp;omega⟩
   dsimp only
   rw[←he,e,List.append_assoc];rfl
theorem bo_order {g:LL}(hg:GOk g):OOk g (bo (g.map mk) g.length (wd (g.map mk) g.length g.length 0) g.length 0):=by
 obtain⟨h1,h2,h3⟩:=bo_ok hg.n16 (FOk.of hg) g.length 0 (GS.zero hg.n16) (Int.le_refl _)
 refine⟨h1,λx hx=> ?_,h2⟩
 obtain⟨v,rfl,h,_⟩:=h3 x hx
 omega
section
variable {g : LL} {o F L : LI} (hg : GOk g) (ho : OOk g o) (hF : Fill g o F L)
include hg ho hF
end
open Classical in
theorem best_bags {g:LL}{o:LI}(hg:GOk g)(ho:OOk g o):∃A K B' K':LL,D.Y g o=some (A,K,true)∧D.Q0 (g.map mk) o=some (A,K)∧D.I1 g A K=some (B',K',true)∧D.S0 A K=some (B',K')∧
  TB g B' K'∧Sh2 B'∧Sh2 K'∧tot B'≤4294967296∧tot K'≤4294967296∧∃M',B'=M'.map Ap∧Kept g (A.map mk) M' K':=by
 obtain⟨F,L,hF⟩:=fill_ex hg ho
 have hT:=DecompBy_TB hg ho hF
 have e1:=FW hg ho hF
 have e2:=FY hg ho hF
 generalize (List.range o.length).map (Cc o L)=A at*
 generalize (List.range (o.length-1)).map (CJ o L)=K at*
 obtain⟨s2,s3⟩:=hT.sh hg
 obtain⟨B',K',f1,f2,f3,k1,k2,k3,k4,M',h1,h2,h3,h4⟩:=tidied_both hg hT
 have t1:=tot_le (xs:=B') (n:=32) (λx hx=>by have:=k2 x hx;omega)
 have t2:=tot_le (xs:=K') (n:=2) (λx hx=>by have:=k4 x hx;omega)
 have hTB:TB g B' K':=by rw[h1];exact h4.tb
 refine⟨A,K,B',K',e1,e2,?_,f2,hTB,(hTB.sh hg).1,(hTB.sh hg).2,by omega,by omega,M',h1,h4⟩
 unfold D.I1
 rw[F6 hg s2 s3,decide_eq_true hT,bs,Bool.not_true,cond_false,f1,bs,f3];rfl
end Go.Sx

namespace Go.Sx
theorem EF {g:LL}(h:Sh2 g):D.K1 g=some (gB g&&decide (g.length≤10)):=by
 unfold D.K1
 rw[C8 g h,bs]
 have e:decide ((g.length:Int)≤10)=decide (g.length≤10):=by rw[decide_eq_decide];omega
 rw[e]
theorem BestDecomp_ok {g:LL}(hg:GOk g)(hn:g.length≤10):∃A K B' K':LL,D.q0 g=some (B',K',true)∧D.x0 g=some (B',K',true)∧
  D.Y g (bo (g.map mk) g.length (wd (g.map mk) g.length g.length 0) g.length 0)=some (A,K,true)∧TB g B' K'∧Sh2 B'∧Sh2 K'∧tot B'≤4294967296∧tot K'≤4294967296∧∃M',B'=M'.map Ap∧Kept g (A.map mk) M' K':=by
 obtain⟨A,K,B',K',e1,e2,e3,e4,h⟩:=best_bags hg (bo_order hg)
 refine⟨A,K,B',K',?_,?_,e1,h⟩
 ·unfold D.q0
  rw[DD hg.sh2,(DC g).2 hg,decide_eq_true hn,Bool.true_and,bs,Bool.not_true,cond_false,FE hg hn hg.sh2,bs,e1,bs]
  dsimp only
  rw[bs,e3];rfl
 ·unfold D.x0
  rw[EF hg.sh2,(DC g).2 hg,decide_eq_true hn,Bool.true_and,bs,Bool.not_true,cond_false,netsOf_eq g hg,bs,bestOrder_ok hg.n16 (FOk.of hg),bs,e2,bs]
  dsimp only
  rw[e4];rfl
theorem Ga (g:LL)(h1:Sh2 g):∃r:LL×LL×Bool,D.q0 g=some r∧D.x0 g=some r∧Sh2 r.1∧Sh2 r.2.1∧tot r.1≤4294967296∧tot r.2.1≤4294967296:=by
 by_cases hc:(gB g&&decide (g.length≤10))=true
 ·have hc':=hc
  rw[Bool.and_eq_true,decide_eq_true_eq] at hc'
  obtain⟨A,K,B',K',e1,e2,_,_,s1,s2,t1,t2,_⟩:=BestDecomp_ok ((DC g).1 hc'.1) hc'.2
  exact⟨_,e1,e2,s1,s2,t1,t2⟩
 ·have hc':(gB g&&decide (g.length≤10))=false:=by simpa using hc
  refine⟨([],[],false),?_,?_,⟨by simp[Sh],by simp⟩,⟨by simp[Sh],by simp⟩,by simp[tot],by simp[tot]⟩
  ·unfold D.q0
   rw[DD h1,hc'];rfl
  ·unfold D.x0
   rw[EF h1,hc'];rfl
theorem FF {g:LL}(hg:GOk g)(hn:g.length≤10):D.x1 g=some (wd (g.map mk) g.length g.length 0):=by
 unfold D.x1 D.n2
 rw[DD hg.sh2,(DC g).2 hg,decide_eq_true hn,Bool.true_and,bs,Bool.not_true,cond_false]
 unfold D.Y1 D.a
 rw[bs,EP [] _ (by simp[Sh]) (by omega) (by omega),bs]
 have e:CN [] (g.length:Int)=true:=by simp[CN]
 rw[e,Bool.not_true,bs,cond_false,bs,CI (by omega) (by omega),bs]
 obtain⟨T,eT,hT⟩:=Table_ok hn (g.map mk)
 obtain⟨T1,e1,hT1⟩:=From_ok hg hn (GS.zero hg.n16) hT
 rw[Bd (r:=List.replicate g.length false) (by rfl),bs,bs,eT,bs,mks_zero,e1];rfl
def pcN :Nat→Nat→Nat
 |_,0=>1
 |0,_+1=>0
 |d+1,k+1=>pcN d k+pcN d (k+1)
theorem pc0 (d:Nat):pcN d 0=1:=by cases d<;>rfl
theorem clone_eq (x:LI)(h:x.length≤100000):D.L x=some x:=by
 unfold D.L
 rw[AR (by simp;omega)];rfl
section
variable {g : LL} (hg : GOk g)
include hg
theorem cpHas_ok {ch:LI}{s:Int}(hs:In g.length s)(hch:∀t∈ch,In g.length t)(hl:ch.length≤1000):∃b,D.J0 ch (g.map mk) s=some b∧(b=true↔∃t∈ch,¬Tch (g.map mk) s t):=by
 have h1:∀t∈ch,∃b,D.A0 t (g.map mk) s=some b∧(b=true↔¬Tch (g.map mk) s t):=λt ht=>by
  obtain⟨b,e,h⟩:=touches_ok hg hs (hch t ht)
  unfold D.A0
  rw[e]
  refine⟨!b,rfl,?_⟩
  rw[←h,Bool.not_eq_true',Bool.not_eq_true]
 obtain⟨z,ez,hz⟩:=indexF (xs:=ch) (c:=λe=>D.A0 e (g.map mk) s) (by omega) (λx hx=>by
  obtain⟨b,e,_⟩:=h1 x hx
  exact⟨b,e⟩)
 have e1:D.P1 ch (g.map mk) s=some z:=ez
 unfold D.J0
 rw[e1]
 refine⟨_,rfl,?_⟩
 rw[decide_eq_true_eq,hz]
 constructor
 ·rintro⟨t,ht,e⟩
  obtain⟨b,eb,hb⟩:=h1 t ht
  have e:D.A0 t (g.map mk) s=some true:=e
  rw[eb] at e
  exact⟨t,ht,hb.1 (Option.some.inj e)⟩
 ·rintro⟨t,ht,h⟩
  obtain⟨b,eb,hb⟩:=h1 t ht
  exact⟨t,ht,by rw[hb.2 h] at eb;exact eb⟩
end
end Go.Sx

namespace Go.Sx
section
variable {F : LI} {n : Nat} (hn : n ≤ 16) (hF : FOk F n)
include hn hF
theorem wd_n :∀(k:Nat) (m:Int),GS n m k→wd F n k m≤(n:Int)
 |0,_,_=>by unfold wd;omega
 |k+1,m,h=>by
  obtain⟨v,hv,hm,e⟩:=E8 hn hF h
  rw[←e,wv_le]
  have:=bh_len hn hF h.vs hv
  exact⟨by omega,wd_n k _ (h.add hn hv hm)⟩
end
section
variable {g : LL} (hg : GOk g)
include hg
theorem contains_vs {xs:LI}(x:Int)(hl:xs.length≤1000):D.J1 xs x=some (decide (x∈xs)):=by
 obtain⟨z,ez,hz⟩:=indexF (xs:=xs) (c:=λe=>some (x==e)) (by omega) (λy _=>⟨_,rfl⟩)
 have e1:D.O1 xs x=some z:=ez
 unfold D.J1
 rw[e1,bs]
 congr 1
 rw[Bool.eq_iff_iff,decide_eq_true_eq,decide_eq_true_eq,hz]
 constructor
 ·rintro⟨y,hy,e⟩
  have e:(x==y)=true:=Option.some.inj e
  rw[beq_iff_eq] at e
  rw[e];exact hy
 ·exact λh=>⟨x,h,by rw[beq_self_eq_true]⟩
theorem isSmall_ok (h8:g.length≤8):D.P g=some true:=by
 unfold D.P
 rw[C8 g hg.sh2,gB_true hg,bs,decide_eq_true (show (g.length:Int)≤8 by omega)]
 rfl
noncomputable def twN (g:LL):Nat:=(wd (g.map mk) g.length g.length 0).toNat
theorem tw_eq :((twN g:Nat):Int)=wd (g.map mk) g.length g.length 0:=by
 have:=wd_nonneg (g.map mk) g.length g.length 0
 unfold twN
 omega
theorem tw_le :twN g≤g.length:=by
 have h1:=wd_n hg.n16 (FOk.of hg) g.length 0 (GS.zero hg.n16)
 have h2:=tw_eq hg
 omega
theorem part_whole {W:Int}(hW:In g.length W){l:LI}(hP:Parts (g.map mk) (El W) l){s:Int}(hs:s∈l):Whole g s:=by
 refine⟨⟨hP.vs s hs,λw hw=>hW.2 w (hP.sub s hs w hw)⟩,hP.ne s hs,λx y hx hy=> ?_⟩
 have hc:=(hP.cn s hs x y hx).1 hy
 exact(hc (λz=>El s z∧Cn (Ad (g.map mk)) (El s) x z) ⟨hx,Cn.refl⟩ (λa b ⟨h1,h2⟩ hab hb=>by
  have hsb:El s b:=(hP.cn s hs a b h1).2 (Cn.refl.step hab hb)
  exact⟨hsb,h2.step hab hsb⟩)).2
end
end Go.Sx

namespace Go.Sx
def Bef (s t:Int):Prop:=∃m,El s m∧∀x,El t x→m<x
theorem Bef.ext :∀{l l':LI},(∀s∈l,∃x,El s x)→l.Pairwise Bef→l'.Pairwise Bef→(∀s,s∈l↔s∈l')→l=l'
 |[],[],_,_,_,_=>rfl
 |[],t::l',_,_,_,h=>absurd ((h t).2 List.mem_cons_self) (by simp)
 |s::l,[],_,_,_,h=>absurd ((h s).1 List.mem_cons_self) (by simp)
 |s::l,t::l',hne,h1,h2,h=>by
  have hirr:∀u,Bef u u→False:=λu ⟨m,h1,h2⟩=>by have:=h2 m h1;omega
  have hasym:∀u v,Bef u v→Bef v u→False:=λu v ⟨m,h1,h2⟩ ⟨m',h3,h4⟩=>by
   have:=h2 m' h3
   have:=h4 m h1
   omega
  have g1:=List.pairwise_cons.1 h1
  have g2:=List.pairwise_cons.1 h2
  have e:s=t:=by
   rcases List.mem_cons.1 ((h s).1 List.mem_cons_self) with e|e
   ·exact e
   ·rcases List.mem_cons.1 ((h t).2 List.mem_cons_self) with e'|e'
    ·exact e'.symm
    ·exact(hasym s t (g1.1 t e') (g2.1 s e)).elim
  subst e
  rw[Bef.ext (λu hu=>hne u (List.mem_cons_of_mem _ hu)) g1.2 g2.2 (λu=> ?_)]
  constructor
  ·intro hu
   rcases List.mem_cons.1 ((h u).1 (List.mem_cons_of_mem _ hu)) with e|e
   ·subst e;exact(hirr _ (g1.1 _ hu)).elim
   ·exact e
  ·intro hu
   rcases List.mem_cons.1 ((h u).2 (List.mem_cons_of_mem _ hu)) with e|e
   ·subst e;exact(hirr _ (g2.1 _ hu)).elim
   ·exact e
section
variable {F : LI} {n : Nat} (hn : n ≤ 16) (hF : FOk F n)
include hn hF
theorem partsOf_ord {W:Int}(hW:In n W):∃l,D.C F W=some l∧l.Pairwise Bef:=by
 have main:=AY (k:=λl=>some l) (Q:=λl:LI=>l.Pairwise Bef) (step:=fun(s_66:Int×LI)=>match s_66 with|(x_69,l_70)=>cond (x_69 !=0) ((D.O x_69).bind λy_109=>(D.V F y_109 x_69).bind λy_116=>(AN l_70 ([y_116]:LI)).bind λl_127=>some (.inl ((iandNot .u32 x_69 y_116),l_127))) (some (.inr l_70)))
  (s:=(W,([]:LI))) (λq=>VS q.1∧(∀x,El q.1 x→El W x)∧(∀s∈q.2,∃m,El s m∧∀x,El q.1 x→m<x)∧q.2.Pairwise Bef∧q.2.length+(Ap q.1).length≤32)
  (λq=>(Ap q.1).length) (λl=>l.Pairwise Bef) ?_ ⟨hW.1,λx h=>h,by simp,by simp,by have:=BO W;simp;omega⟩ (λr hr=>⟨r,rfl,hr⟩)
 ·obtain⟨l,e,hl⟩:=main
  refine⟨l,?_,hl⟩
  unfold D.C
  exact e
 ·rintro⟨W',l⟩ ⟨v1,h1,h2,h3,h4⟩
  dsimp only at v1 h1 h2 h3 h4 ⊢
  by_cases h0:W'=0
  ·have:(W' !=0)=false:=by simp[h0]
   rw[this,cond_false]
   exact⟨_,rfl,h3⟩
  ·have:(W' !=0)=true:=by simpa using h0
   rw[this,cond_true]
   obtain⟨k,hk32,ek,hk,hkl,_⟩:=least_eq v1 h0
   have hkn:=hW.2 k (h1 k hk)
   obtain⟨S,eS,hR,hSn⟩:=reach_ok hn hF.net hkn v1
   rw[ek,bs,eS,bs,AR (by simp;omega),bs]
   have hSW:∀x,El S x→El W' x:=λx hx=>((rch_cn hn hF hR x).1 hx).mem hk
   have hS':∀x,El (iandNot .u32 W' S) x↔El W' x∧¬El S x:=λx=>by
    unfold El
    rw[Bl v1 hR.vs];simp
   have hlt:(Ap (iandNot .u32 W' S)).length+1≤(Ap W').length:=by
    have:=Cd (l:=(k:Int)::Ap (iandNot .u32 W' S)) (m:=Ap W') (List.nodup_cons.2 ⟨λhx=>((hS' k).1 ((AS (VS.iandNot _ _)).1 hx)).2 hR.me,(BD _).nodup⟩) (λx hx=>by
     rcases List.mem_cons.1 hx with rfl|hx
     ·exact(AS v1).2 hk
     ·obtain⟨w,hw,q,rfl⟩:=mem_elems.1 hx
      exact(AS v1).2 ((hS' w).1 q).1)
    simpa using this
   refine⟨_,rfl,⟨VS.iandNot _ _,λx hx=>h1 x ((hS' x).1 hx).1,λs hs=> ?_,?_,by simp;omega⟩,by dsimp only;omega⟩
   ·dsimp only at hs ⊢
    rcases List.mem_append.1 hs with h|h
    ·obtain⟨m,hm,hmx⟩:=h2 s h
     exact⟨m,hm,λx hx=>hmx x ((hS' x).1 hx).1⟩
    ·rw[List.mem_singleton] at h
     subst h
     refine⟨k,hR.me,λx hx=> ?_⟩
     obtain⟨a,b⟩:=(hS' x).1 hx
     apply Classical.byContradiction
     intro hc
     by_cases e:x=k
     ·subst e;exact b hR.me
     ·have:=hkl x (by omega)
      unfold El at a
      rw[this] at a;cases a
   ·dsimp only
    rw[List.pairwise_append]
    refine⟨h3,List.pairwise_singleton _ _,λs hs t ht=> ?_⟩
    rw[List.mem_singleton] at ht
    subst ht
    obtain⟨m,hm,hmx⟩:=h2 s hs
    exact⟨m,hm,λx hx=>hmx x (hSW x hx)⟩
end
section
variable {g : LL} (hg : GOk g)
include hg
theorem l3Parts_parts {W:Int}(hW:In g.length W):∃l,D.F0 g (Ap W)=some (l.map Ap)∧Parts (g.map mk) (El W) l∧l.Pairwise Bef:=by
 have h16:=hg.n16
 have hF:=FOk.of hg
 have hel:=BO W
 have hL:Sh (Ap W):=by unfold Sh;omega
 have hWn:∀x,El W x→x<g.length:=λx hx=>hW.2 x hx
 have hmem:∀x:Nat,(x:Int)∈Ap W↔El W x:=λx=>AS hW.1
 unfold D.F0
 refine opt_ex (f:=λl:LI=>l.map Ap) (Q:=λl:LI=>Parts (g.map mk) (El W) l∧l.Pairwise Bef) ?_
 refine AY (λs:LL×LI×Int=>∃(i:Nat) (l:LI),s.2.2=(i:Int)∧i≤(Ap W).length∧s.1=l.map Ap∧l.length≤i∧s.2.1.length≤32*i∧(∀x:Nat,(x:Int)∈s.2.1↔∃s∈l,El s x)∧(∀x:Nat,(x:Int)∈(Ap W).take i→∃s∈l,El s x)∧(∀s∈l,IsPart (g.map mk) (El W) s)∧(∀s∈l,∃m:Nat,El s m∧(m:Int)∈(Ap W).take i)∧l.Pairwise Bef∧l.Pairwise λs t=>∀x,¬(El s x∧El t x)) (λs=>(Ap W).length-s.2.2.toNat)
  (λout:LL=>∃l:LI,out=l.map Ap∧Parts (g.map mk) (El W) l∧l.Pairwise Bef) ?_ ⟨0,[],rfl,Nat.zero_le _,rfl,Nat.le_refl _,Nat.le_refl _,λx=>by simp,λx hx=>by simp at hx,λs hs=>(by cases hs),λs hs=>(by cases hs),List.Pairwise.nil,List.Pairwise.nil⟩ (λr hr=>⟨r,rfl,hr⟩)
 rintro⟨_,sn,_⟩ ⟨i,l,rfl,hi,rfl,hll,hsl,hsn,hcov,hpart,hbeg,hord,hdis⟩
 dsimp only at hsl hsn ⊢
 by_cases hil:i<(Ap W).length
 ·obtain⟨v,_,hv,ev⟩:=mem_elems.1 (List.getElem_mem hil)
  have hvn:=hWn v hv
  have htake:∀x:Nat,(x:Int)∈(Ap W).take (i+1)↔(x:Int)∈(Ap W).take i∨x=v:=λx=>by
   rw[List.take_succ_eq_append_getElem hil,List.mem_append,List.mem_singleton,ev]
   exact⟨λh=>h.imp id (λh=>by omega),λh=>h.imp id (λh=>by omega)⟩
  rw[dlt hil,cond_true,Au hil,ev,bs,Cb _ _ (by unfold Sh;omega),bs,wi (by omega)]
  by_cases hs:(v:Int)∈sn
  ·rw[decide_eq_true hs,Bool.not_true,cond_false]
   refine⟨_,rfl,⟨i+1,l,rfl,hil,rfl,by omega,by dsimp only;omega,hsn,λx hx=> ?_,hpart,λs hs=> ?_,hord,hdis⟩,by dsimp only;omega⟩
   ·rcases(htake x).1 hx with h|rfl
    ·exact hcov x h
    ·exact(hsn _).1 hs
   ·obtain⟨m,h1,h2⟩:=hbeg s hs
    exact⟨m,h1,(htake m).2 (.inl h2)⟩
  ·obtain⟨P,eP,hPi,hPl,hP⟩:=l3Part_full hg hvn hL ((hmem v).2 hv)
   have hPr:∀z∈P,0≤z∧z<(g.length:Int):=λz hz=>by
    obtain⟨u,rfl,hu,_⟩:=(hP z).1 hz
    omega
   have hPe:Ap (mk P)=P:=elems_mk h16 hPi hPr
   have hPh:∀x,El (mk P) x↔x<g.length∧Cn (Ad (g.map mk)) (El W) v x:=λx=>by
    unfold El
    rw[Dc (λz hz=>by have:=hPr z hz;omega),decide_eq_true_eq,hP]
    have hcn:Cn (adj g) (λx=>(x:Int)∈Ap W) v x↔Cn (Ad (g.map mk)) (El W) v x:=by
     rw[cn_adj hg hvn (λw hw=>hWn w ((hmem w).1 hw))]
     exact⟨λh=>h.mono (λw hw=>(hmem w).1 hw),λh=>h.mono (λw hw=>(hmem w).2 hw)⟩
    constructor
    ·rintro⟨u,e,hu,hc⟩
     obtain rfl:x=u:=by omega
     exact⟨hu,hcn.1 hc⟩
    ·rintro⟨hu,hc⟩
     exact⟨x,rfl,hu,hcn.2 hc⟩
   have hPW:∀x,El (mk P) x→El W x:=λx hx=>((hPh x).1 hx).2.mem hv
   have hPp:IsPart (g.map mk) (El W) (mk P):=⟨VS.mk _,⟨v,(hPh v).2 ⟨hvn,Cn.refl⟩⟩,hPW,λx y hx=>by
    obtain⟨hxn,hxc⟩:=(hPh x).1 hx
    rw[hPh]
    constructor
    ·exact λh=>(cn_sym h16 hF hWn hv hxc).trans h.2
    ·intro h
     exact⟨hWn y (h.mem (hPW x hx)),hxc.trans h⟩⟩
   have hoff:∀s∈l,∀x,¬(El s x∧El (mk P) x):=λs hs' x ⟨h1,h2⟩=>by
    have hc:=cn_sym h16 hF hWn hv ((hPh x).1 h2).2
    exact hs ((hsn v).2 ⟨s,hs',((hpart s hs').cn x v h1).2 hc⟩)
   rw[decide_eq_false hs,Bool.not_false,cond_true,bs,eP,bs,AR (by simp;omega),bs,AR (by omega),bs]
   refine⟨_,rfl,⟨i+1,l++[mk P],rfl,hil,by rw[List.map_append,List.map_singleton,hPe],by simp;omega,by dsimp only;rw[List.length_append];omega,λx=> ?_,λx hx=> ?_,λs hs'=> ?_,λs hs'=> ?_,?_,?_⟩,by dsimp only;omega⟩
   ·dsimp only
    rw[List.mem_append,hsn]
    constructor
    ·rintro(⟨s,h1,h2⟩|h)
     ·exact⟨s,List.mem_append_left _ h1,h2⟩
     ·exact⟨mk P,List.mem_append_right _ (List.mem_singleton.2 rfl),by
       unfold El
       rw[Dc (λz hz=>by have:=hPr z hz;omega)]
       exact decide_eq_true h⟩
    ·rintro⟨s,h1,h2⟩
     rcases List.mem_append.1 h1 with h1|h1
     ·exact .inl ⟨s,h1,h2⟩
     ·rw[List.mem_singleton] at h1
      subst h1
      right
      unfold El at h2
      rw[Dc (λz hz=>by have:=hPr z hz;omega)] at h2
      exact of_decide_eq_true h2
   ·rcases(htake x).1 hx with h|rfl
    ·obtain⟨s,h1,h2⟩:=hcov x h
     exact⟨s,List.mem_append_left _ h1,h2⟩
    ·exact⟨mk P,List.mem_append_right _ (List.mem_singleton.2 rfl),(hPh _).2 ⟨hvn,Cn.refl⟩⟩
   ·rcases List.mem_append.1 hs' with h|h
    ·exact hpart s h
    ·rw[List.mem_singleton] at h;subst h;exact hPp
   ·rcases List.mem_append.1 hs' with h|h
    ·obtain⟨m,h1,h2⟩:=hbeg s h
     exact⟨m,h1,(htake m).2 (.inl h2)⟩
    ·rw[List.mem_singleton] at h;subst h
     exact⟨v,(hPh v).2 ⟨hvn,Cn.refl⟩,(htake v).2 (.inr rfl)⟩
   ·rw[List.pairwise_append]
    refine⟨hord,List.pairwise_singleton _ _,λs hs' t ht=> ?_⟩
    rw[List.mem_singleton] at ht
    subst ht
    obtain⟨m,h1,h2⟩:=hbeg s hs'
    refine⟨m,h1,λx hx=> ?_⟩
    have hxW:=(hmem x).2 (hPW x hx)
    have hxt:(x:Int)∉(Ap W).take i:=λh=>by
     obtain⟨s2,h3,h4⟩:=hcov x h
     exact hoff s2 h3 x ⟨h4,hx⟩
    obtain⟨j,hj,ej⟩:=List.getElem_of_mem hxW
    obtain⟨j2,hj2,ej2⟩:=List.getElem_of_mem h2
    rw[List.getElem_take] at ej2
    rw[List.length_take] at hj2
    have hij:i≤j:=by
     apply Classical.byContradiction
     intro hc
     refine hxt ?_
     rw[←ej]
     exact List.mem_take_iff_getElem.2 ⟨j,by omega,rfl⟩
    have hinc:=(List.pairwise_iff_getElem.1 (BD W)) j2 j (by omega) hj (by omega)
    rw[ej,ej2] at hinc
    omega
   ·rw[List.pairwise_append]
    refine⟨hdis,List.pairwise_singleton _ _,λs hs' t ht=> ?_⟩
    rw[List.mem_singleton] at ht
    subst ht
    exact hoff s hs'
 ·obtain rfl:i=(Ap W).length:=by omega
  rw[Ba,cond_false]
  rw[List.take_length] at hcov
  exact⟨_,rfl,l,rfl,⟨λs hs=>(hpart s hs).vs,λs hs=>(hpart s hs).ne,λs hs=>(hpart s hs).sub,λs hs=>(hpart s hs).cn,λx hx=>hcov x ((hmem x).2 hx),hdis⟩,hord⟩
theorem parts_same {W:Int}(hW:In g.length W):∃l,D.C (g.map mk) W=some l∧D.F0 g (Ap W)=some (l.map Ap)∧Parts (g.map mk) (El W) l∧l.length≤16:=by
 have h16:=hg.n16
 have hF:=FOk.of hg
 obtain⟨l,e1,hP1,hl⟩:=partsOf_ok h16 hF hW
 obtain⟨l1,e1',ho1⟩:=partsOf_ord h16 hF hW
 rw[e1] at e1'
 obtain rfl:l=l1:=Option.some.inj e1'
 obtain⟨l2,e2,hP2,ho2⟩:=l3Parts_parts hg hW
 have hp1:∀s∈l,IsPart (g.map mk) (El W) s:=λs hs=>⟨hP1.vs s hs,hP1.ne s hs,hP1.sub s hs,hP1.cn s hs⟩
 have hp2:∀s∈l2,IsPart (g.map mk) (El W) s:=λs hs=>⟨hP2.vs s hs,hP2.ne s hs,hP2.sub s hs,hP2.cn s hs⟩
 have:l=l2:=Bef.ext hP1.ne ho1 ho2 (λs=>⟨λhs=>(hp1 s hs).mem hP2,λhs=>(hp2 s hs).mem hP1⟩)
 subst this
 exact⟨l,e1,e2,hP1,hl⟩
end
end Go.Sx

namespace Go.Sx
section
variable {g : LL} (hg : GOk g)
include hg
end
end Go.Sx

namespace Go.Sx
def lxD (n:Nat):Nat→Nat→LL
 |_,0=>[[]]
 |0,_+1=>[]
 |d+1,k+1=>(lxD n d k).map (λy=>((n-(d+1):Nat):Int)::y)++lxD n d (k+1)
theorem lx0 (n d:Nat):lxD n d 0=[[]]:=by cases d<;>rfl
theorem ED (n:Nat):∀d k,(lxD n d k).length=pcN d k
 |d,0=>by rw[lx0,pc0];rfl
 |0,_+1=>rfl
 |d+1,k+1=>by
  unfold lxD pcN
  rw[List.length_append,List.length_map,ED n d k,ED n d (k+1)]
theorem Fx (n:Nat):∀d k,d<k→lxD n d k=[]
 |_,0,h=>by omega
 |0,_+1,_=>rfl
 |d+1,k+1,h=>by
  unfold lxD
  rw[Fx n d k (by omega),Fx n d (k+1) (by omega)];rfl
theorem lx_mem {n:Nat}:∀d k,d≤n→∀x∈lxD n d k,x.length=k∧∀e∈x,0≤e∧e<(n:Int)
 |d,0,_,x,hx=>by
  rw[lx0,List.mem_singleton] at hx
  subst hx
  exact⟨rfl,λe he=>by cases he⟩
 |0,_+1,_,x,hx=>by cases hx
 |d+1,k+1,hd,x,hx=>by
  unfold lxD at hx
  rcases List.mem_append.1 hx with h|h
  ·obtain⟨y,hy,rfl⟩:=List.mem_map.1 h
   obtain⟨h1,h2⟩:=lx_mem d k (by omega) y hy
   refine⟨by simp[h1],λe he=> ?_⟩
   rcases List.mem_cons.1 he with rfl|he
   ·omega
   ·exact h2 e he
  ·exact lx_mem d (k+1) (by omega) x h
def DJ (n f:Nat)(x:LI):LL:=(List.range' f (n-f)).map λv:Nat=>x++[(v:Int)]
def stA (a:Nat):LI→Nat
 |[]=>a
 |y::x=>((y::x).getLast (by simp)+1).toNat
theorem stA_ne {a b:Nat}{x:LI}(h:x≠[]):stA a x=stA b x:=by
 cases x with
 |nil=>exact absurd rfl h
 |cons _ _=>rfl
theorem E7 {α β:Type}{f g:α→List β}:∀{l:List α},(∀x∈l,f x=g x)→l.flatMap f=l.flatMap g
 |[],_=>rfl
 |x::l,h=>by
  rw[List.flatMap_cons,List.flatMap_cons,h x List.mem_cons_self,E7 (λy hy=>h y (List.mem_cons_of_mem _ hy))]
theorem FA {n:Nat}:∀d k,d≤n→lxD n d (k+1)=(lxD n d k).flatMap λx=>DJ n (stA (n-d) x) x
 |0,0,_=>by
  unfold lxD
  simp[DJ,stA]
 |0,k+1,_=>rfl
 |d+1,0,hd=>by
  have ih:=FA (n:=n) d 0 (by omega)
  rw[lx0] at ih ⊢
  unfold lxD
  rw[lx0,ih]
  simp only[List.flatMap_cons,List.flatMap_nil,List.append_nil,List.map_cons,List.map_nil]
  have h1:stA (n-(d+1)) []=n-(d+1):=rfl
  have h2:stA (n-d) []=n-d:=rfl
  rw[h1,h2]
  unfold DJ
  rw[show n-(n-(d+1))=(n-(n-d))+1 by omega,List.range'_succ,List.map_cons,show n-(d+1)+1=n-d by omega]
  rfl
 |d+1,k+1,hd=>by
  have ih1:=FA (n:=n) d k (by omega)
  have ih2:=FA (n:=n) d (k+1) (by omega)
  conv=>lhs;unfold lxD
  conv=>rhs;arg 2;unfold lxD
  rw[List.flatMap_append,ih2]
  congr 1
  ·rw[ih1,List.map_flatMap,List.flatMap_map]
   congr 1
   funext x
   have ha:stA (n-(d+1)) (((n-(d+1):Nat):Int)::x)=stA (n-d) x:=by
    cases x with
    |nil=>show (((n-(d+1):Nat):Int)+1).toNat=n-d;omega
    |cons y x=>rfl
   rw[ha]
   unfold DJ
   rw[List.map_map]
   rfl
  ·refine E7 (λx hx=> ?_)
   have hl:=(lx_mem (n:=n) d (k+1) (by omega) x hx).1
   rw[stA_ne (b:=n-(d+1)) (λe=>by rw[e] at hl;simp at hl)]
theorem pc8 :∀n,n<9→∀w,w<9→pcN n w≤70:=by decide
theorem elems_add {c:Int}{v:Nat}(hc:VS c)(hv:v<32)(h:∀u,has c u=true→u<v):Ap (ior .u32 c (ishl .u32 1 (v:Int)))=Ap c++[(v:Int)]:=by
 refine Inc.ext (BD _) ?_ (λx=> ?_)
 ·unfold Inc
  rw[List.pairwise_append]
  refine⟨BD c,List.pairwise_singleton _ _,λa ha b hb=> ?_⟩
  obtain⟨u,_,hu,rfl⟩:=mem_elems.1 ha
  rw[List.mem_singleton] at hb
  have:=h u hu
  omega
 ·rw[List.mem_append,List.mem_singleton]
  constructor
  ·intro hx
   obtain⟨u,_,hu,rfl⟩:=mem_elems.1 hx
   rw[C6 hc hv,Bool.or_eq_true,decide_eq_true_eq] at hu
   rcases hu with hu|rfl
   ·exact .inl ((AS hc).2 hu)
   ·exact .inr rfl
  ·rintro(hx|rfl)
   ·obtain⟨u,_,hu,rfl⟩:=mem_elems.1 hx
    exact(AS (VS.ior _ _)).2 (by rw[C6 hc hv,hu];rfl)
   ·exact(AS (VS.ior _ _)).2 (by rw[C6 hc hv,decide_eq_true rfl,Bool.or_true])
theorem chR_lex {α:Type}{f:Int→List α→Option (Bool×List α)}{n:Nat}(hn:n≤16)(p:Int→α)(hf:∀c s,In n c→s.length<900→f c s=some (false,s++[p c])):
  ∀(k fuel a:Nat) (c:Int) (s:List α),k<fuel→k≤16→In n c→(∀u,has c u=true→u<a)→a≤n+1→s.length+pcN (n-a) k≤900→∃Ls:LI,D.a0 f fuel (n:Int) (a:Int) (k:Int) c s=some (false,s++Ls.map p)∧(∀t∈Ls,In n t)∧Ls.map Ap=(lxD n (n-a) k).map (λy=>Ap c++y):=by
 intro k
 induction k with
 |zero=>
  intro fuel a c s hk _ hc _ _ hb
  obtain⟨m,rfl⟩:∃m,fuel=m+1:=⟨fuel-1,by omega⟩
  rw[pc0] at hb
  refine⟨[c],?_,λt ht=>by rw[List.mem_singleton] at ht;subst ht;exact hc,by rw[lx0];simp⟩
  unfold D.a0
  simp only[Int.natCast_zero,beq_self_eq_true,cond_true]
  exact hf c s hc (by omega)
 |succ k ih=>
  intro fuel a c s hk hk16 hc hca ha hb
  obtain⟨m,rfl⟩:∃m,fuel=m+1:=⟨fuel-1,by omega⟩
  unfold D.a0
  have h0:(((k+1:Nat):Int)==0)=false:=by rw[beq_eq_false_iff_ne];omega
  rw[h0,cond_false]
  have key:∀(d a:Nat) (s:List α),a+d=n+1→(∀u,has c u=true→u<a)→s.length+pcN (n-a) (k+1)≤900→∃Ls:LI,As (D.Y0 (D.a0 f m) (n:Int) ((k+1:Nat):Int) c) (s,(a:Int))=some (false,s++Ls.map p)∧(∀t∈Ls,In n t)∧Ls.map Ap=(lxD n (n-a) (k+1)).map (λy=>Ap c++y):=by
   intro d
   induction d with
   |zero=>
    intro a s hd _ hb
    refine⟨[],Bd ?_,λt ht=>(by cases ht),by rw[Fx n (n-a) (k+1) (by omega)];rfl⟩
    unfold D.Y0
    have:decide (IntKind.i64.wrap ((a:Int)+((k+1:Nat):Int))≤(n:Int))=false:=by rw[w64 (by omega) (by omega)];simp;omega
    simp only[this,cond_false,List.map_nil,List.append_nil]
   |succ d ihd=>
    intro a s hd hca hb
    by_cases hle:a+(k+1)≤n
    ·have hdec:decide (IntKind.i64.wrap ((a:Int)+((k+1:Nat):Int))≤(n:Int))=true:=by rw[w64 (by omega) (by omega)];simp;omega
     have hadd:∀v,has (ior .u32 c (ishl .u32 1 (a:Int))) v=true→has c v=true∨v=a:=λv hv=>by
      rw[C6 hc.1 (by omega),Bool.or_eq_true,decide_eq_true_eq] at hv
      exact hv
     have hc':In n (ior .u32 c (ishl .u32 1 (a:Int))):=⟨VS.ior _ _,λv hv=>by
      rcases hadd v hv with hv|rfl
      ·exact hc.2 v hv
      ·omega⟩
     have hna:n-a=(n-(a+1))+1:=by omega
     have hpc:pcN (n-a) (k+1)=pcN (n-(a+1)) k+pcN (n-(a+1)) (k+1):=by rw[hna];rfl
     obtain⟨L1,e,m1,l1⟩:=ih m (a+1) _ s (by omega) (by omega) hc' (λu hu=>by
      rcases hadd u hu with hu|rfl
      ·have:=hca u hu;omega
      ·omega) (by omega) (by omega)
     have ll1:L1.length=pcN (n-(a+1)) k:=by
      have:=congrArg List.length l1
      rw[List.length_map,List.length_map,ED] at this
      exact this
     have ek:IntKind.i64.wrap (((k+1:Nat):Int)-1)=(k:Int):=by rw[w64 (by omega) (by omega)];omega
     have hst:D.Y0 (D.a0 f m) (n:Int) ((k+1:Nat):Int) c (s,(a:Int))=some (.inl (s++L1.map p,((a+1:Nat):Int))):=by
      unfold D.Y0
      simp only[hdec,cond_true,B2,bs,wq a,ek,e,cond_false]
     obtain⟨L2,e2,m2,l2⟩:=ihd (a+1) (s++L1.map p) (by omega) (λu hu=>by have:=hca u hu;omega) (by rw[List.length_append,List.length_map];omega)
     refine⟨L1++L2,by rw[BF hst,e2,List.map_append,List.append_assoc],λt ht=> ?_,?_⟩
     ·rcases List.mem_append.1 ht with h|h
      ·exact m1 t h
      ·exact m2 t h
     ·rw[List.map_append,l1,l2,hna]
      conv=>rhs;unfold lxD
      rw[List.map_append,List.map_map,elems_add hc.1 (by omega) hca]
      congr 1
      refine List.map_congr_left (λy _=> ?_)
      simp only[Function.comp]
      rw[List.append_assoc,show n-(n-(a+1)+1)=a by omega]
      rfl
    ·refine⟨[],Bd ?_,λt ht=>(by cases ht),by rw[Fx n (n-a) (k+1) (by omega)];rfl⟩
     unfold D.Y0
     have:decide (IntKind.i64.wrap ((a:Int)+((k+1:Nat):Int))≤(n:Int))=false:=by rw[w64 (by omega) (by omega)];simp;omega
     simp only[this,cond_false,List.map_nil,List.append_nil]
  exact key (n+1-a) a s (by omega) hca hb
theorem l11Sets_lex {n w:Nat}(hn:n≤8)(hw:w≤8):D.H1 (n:Int) (w:Int)=some (lxD n n w):=by
 refine some_of ?_
 unfold D.H1
 refine AY (λs:LL×Int=>∃i:Nat,s.2=(i:Int)∧i≤w∧s.1=lxD n n i) (λs=>w-s.2.toNat)
  (λl:LL=>l=lxD n n w) ?_ ⟨0,rfl,Nat.zero_le _,by rw[lx0]⟩ (λr hr=>⟨r,rfl,hr⟩)
 rintro⟨_,_⟩ ⟨i,rfl,hi,rfl⟩
 dsimp only
 have hp1:=pc8 n (by omega) i (by omega)
 have hll:=ED n n i
 by_cases hiw:i<w
 ·have hp2:=pc8 n (by omega) (i+1) (by omega)
  have hll2:=ED n n (i+1)
  have hstep:=FA (n:=n) n i (Nat.le_refl _)
  rw[Nat.sub_self] at hstep
  have hpre:∀j,j≤(lxD n n i).length→(((lxD n n i).take j).flatMap λx=>DJ n (stA 0 x) x).length≤70:=λj hj=>by
   have h1:(lxD n n (i+1)).length=(((lxD n n i).take j).flatMap λx=>DJ n (stA 0 x) x).length+(((lxD n n i).drop j).flatMap λx=>DJ n (stA 0 x) x).length:=by
    rw[hstep,←List.length_append,←List.flatMap_append,List.take_append_drop]
   omega
  rw[decide_eq_true (show (i:Int)<(w:Int) by omega),cond_true]
  refine AY (λs:LL×Int=>∃j:Nat,s.2=(j:Int)∧j≤(lxD n n i).length∧s.1=((lxD n n i).take j).flatMap λx=>DJ n (stA 0 x) x) (λs=>(lxD n n i).length-s.2.toNat)
   (λm:LL=>m=lxD n n (i+1)) ?_ ⟨0,rfl,Nat.zero_le _,by simp⟩ ?_
  ·rintro⟨_,_⟩ ⟨j,rfl,hj,rfl⟩
   dsimp only
   by_cases hjl:j<(lxD n n i).length
   ·have hxj:=lx_mem n i (Nat.le_refl _) _ (List.getElem_mem hjl)
    rw[dlt hjl,cond_true,Au hjl,bs]
    refine Cw (λf:Int=>f=(stA 0 (lxD n n i)[j]:Nat)) ?_ ?_
    ·by_cases h0:(0:Int)<((lxD n n i)[j].length:Int)
     ·have hlast:(lxD n n i)[j].length-1<(lxD n n i)[j].length:=by omega
      have he:=hxj.2 _ (List.getElem_mem hlast)
      have ew:IntKind.i64.wrap (((lxD n n i)[j].length:Int)-1)=(((lxD n n i)[j].length-1:Nat):Int):=by rw[w64 (by omega) (by omega)];omega
      rw[decide_eq_true h0,cond_true,bs,bs,ew,Au hlast,bs,w64 (by omega) (by omega)]
      refine⟨_,rfl,?_⟩
      generalize (lxD n n i)[j]=x at*
      cases x with
      |nil=>simp at h0
      |cons y x=>
       show _=(((y::x).getLast (by simp)+1).toNat:Int)
       rw[List.getLast_eq_getElem]
       omega
     ·rw[decide_eq_false h0,cond_false]
      refine⟨_,rfl,?_⟩
      have:(lxD n n i)[j]=[]:=List.length_eq_zero_iff.1 (by omega)
      rw[this];rfl
    ·rintro _ rfl
     have hb1:=hpre j hj
     have hb2:=hpre (j+1) hjl
     have htk:((lxD n n i).take (j+1)).flatMap (λx=>DJ n (stA 0 x) x)=((lxD n n i).take j).flatMap (λx=>DJ n (stA 0 x) x)++DJ n (stA 0 (lxD n n i)[j]) (lxD n n i)[j]:=by
      rw[List.take_succ_eq_append_getElem hjl,List.flatMap_append]
      simp
     rw[htk,List.length_append] at hb2
     generalize ((lxD n n i).take j).flatMap (λx=>DJ n (stA 0 x) x)=mo at*
     generalize hf:stA 0 (lxD n n i)[j]=f at*
     refine AY (λs:LL×Int=>∃t:Nat,s.2=((f+t:Nat):Int)∧t≤n-f∧s.1=mo++(List.range' f t).map λv:Nat=>(lxD n n i)[j]++[(v:Int)]) (λs=>n-s.2.toNat)
      (λm:LL=>m=mo++DJ n f (lxD n n i)[j]) ?_ ⟨0,rfl,Nat.zero_le _,by simp⟩ ?_
     ·rintro⟨_,_⟩ ⟨t,rfl,ht,rfl⟩
      dsimp only
      have htb:(mo++(List.range' f t).map λv:Nat=>(lxD n n i)[j]++[(v:Int)]).length≤100:=by
       rw[List.length_append,List.length_map,List.length_range'];omega
      by_cases hv:f+t<n
      ·have hf8:f<n:=by omega
       rw[decide_eq_true (show ((f+t:Nat):Int)<(n:Int) by omega),cond_true,bs,C9 _ (by unfold Sh;omega),bs,AR (by simp;omega),bs,AR (by rw[List.length_singleton];omega),bs,wi (by omega)]
       refine⟨_,rfl,⟨t+1,by dsimp only;omega,by omega,?_⟩,by dsimp only;omega⟩
       dsimp only
       rw[List.range'_1_concat,List.map_append,List.append_assoc]
       rfl
      ·have e1:t=n-f:=by omega
       rw[decide_eq_false (show¬((f+t:Nat):Int)<(n:Int) by omega),cond_false]
       subst e1
       exact⟨_,rfl,rfl⟩
     ·rintro m rfl
      rw[wi (by omega)]
      exact⟨_,rfl,⟨j+1,rfl,hjl,htk.symm⟩,by dsimp only;omega⟩
   ·obtain rfl:j=(lxD n n i).length:=by omega
    rw[Ba,cond_false,List.take_length]
    exact⟨_,rfl,hstep.symm⟩
  ·rintro m rfl
   rw[wi (by omega)]
   exact⟨_,rfl,⟨i+1,rfl,hiw,rfl⟩,by dsimp only;omega⟩
 ·obtain rfl:i=w:=by omega
  rw[Ba,cond_false]
  exact⟨_,rfl,rfl⟩
theorem bindE {α β:Type}{e:Option α}{a:α}{k:α→Option β}(h:e=some a):e.bind k=k a:=by rw[h];rfl
theorem DT {α β:Type}(f:α→β)(c:Nat→Option α):∀l:List Nat,l.findSome? (λi=>(c i).map f)=(l.findSome? c).map f
 |[]=>rfl
 |x::l=>by
  rw[List.findSome?_cons,List.findSome?_cons]
  cases h:c x with
  |some r=>rfl
  |none=>exact DT f c l
section
variable {g : LL} (hg : GOk g)
include hg
theorem fits_ok {ch:LI}{s:Int}(hs:In g.length s)(hch:∀t∈ch,In g.length t)(hl:ch.length≤1000):
  ∃b,As (σ:=Bool×Int) (ρ:=(Bool)) (fun(s_661:Bool×Int)=>match s_661 with|(b_664,x_665)=>cond ((decide (x_665<((ch.map Ap).length:Int)))&&b_664) ((idx (ch.map Ap) x_665).bind λe_689=>(D.X g e_689 (Ap s)).bind λy_695=>some (.inl (y_695,(IntKind.i64.wrap (x_665+1))))) (some (.inr b_664))) (true,0)=some b∧(b=true↔∀t∈ch,Tch (g.map mk) t s):=by
 have hF:=FOk.of hg
 refine E4 (λq:Bool×Int=>∃k:Nat,q.2=(k:Int)∧k≤ch.length∧(q.1=true↔∀j,j<k→Tch (g.map mk) (ch.getD j 0) s)) (λq=>ch.length-q.2.toNat) _ ?_ _ ⟨0,rfl,Nat.zero_le _,⟨λ_ j h=>absurd h (Nat.not_lt_zero _),λ_=>rfl⟩⟩
 rintro⟨b,_⟩ ⟨k,rfl,hk,hb⟩
 dsimp only at hb ⊢
 rw[List.length_map]
 by_cases hkl:k<ch.length
 ·rw[dlt hkl,Bool.true_and]
  cases hbb:b with
  |true=>
   have hkm:k<(ch.map Ap).length:=by rw[List.length_map];exact hkl
   have hT:=hb.1 hbb
   obtain⟨r,er,hr⟩:=l11Touch_elems hg (hch _ (List.getElem_mem hkl)) hs
   rw[cond_true,Au hkm,bs,List.getElem_map,er,bs,wi (by omega)]
   refine .inl ⟨_,rfl,⟨k+1,rfl,hkl,?_⟩,by dsimp only;omega⟩
   dsimp only
   rw[hr]
   constructor
   ·intro h j hj
    by_cases e:j=k
    ·subst e;rw[AD hkl];exact h
    ·exact hT j (by omega)
   ·intro h
    have:=h k (by omega)
    rw[AD hkl] at this
    exact this
  |false=>
   rw[cond_false]
   refine .inr ⟨_,rfl,⟨λh=>(by cases h),λh=> ?_⟩⟩
   have:=hb.2 (λj hj=>by
    rw[AD (by omega)]
    exact h _ (List.getElem_mem (by omega)))
   rw[hbb] at this;cases this
 ·obtain rfl:k=ch.length:=by omega
  rw[Ba,Bool.false_and,cond_false]
  refine .inr ⟨_,rfl,?_⟩
  rw[hb]
  constructor
  ·intro h t ht
   obtain⟨j,hj,rfl⟩:=List.getElem_of_mem ht
   have:=h j hj
   rw[AD hj] at this
   exact this
  ·intro h j hj
   rw[AD hj]
   exact h _ (List.getElem_mem hj)
theorem pick_same {C:LL}(hC:∀l∈C,l.length≤16∧∀s∈l,In g.length s)(hl:C.length≤900)(h0:0<C.length):∀(d fuel:Nat) (ch:LI),ch.length+d=C.length→d<fuel→(∀s∈ch,In g.length s)→
  ∃r,D.M fuel (g.map mk) C ch=some r∧D.N fuel g (C.map (λl=>l.map Ap)) (ch.map Ap)=some (r.map Ap)∧r.length≤C.length∧∀s∈r,In g.length s:=by
 have hF:=FOk.of hg
 intro d
 induction d with
 |zero=>
  intro fuel ch hd hf hch
  obtain⟨m,rfl⟩:∃m,fuel=m+1:=⟨fuel-1,by omega⟩
  unfold D.M D.N
  have h1:((ch.length:Int)==(C.length:Int))=true:=by rw[beq_iff_eq];omega
  rw[List.length_map,List.length_map,h1,cond_true,cond_true]
  have hnE:nonE ch=some ():=by
   cases ch with
   |nil=>simp at hd;omega
   |cons _ _=>rfl
  rw[hnE]
  exact⟨ch,rfl,rfl,by omega,hch⟩
 |succ d ih=>
  intro fuel ch hd hf hch
  obtain⟨m,rfl⟩:∃m,fuel=m+1:=⟨fuel-1,by omega⟩
  have hcl:ch.length<C.length:=by omega
  have hlC:=hC _ (List.getElem_mem hcl)
  have hcl':ch.length<(C.map (λl=>l.map Ap)).length:=by rw[List.length_map];exact hcl
  unfold D.M D.N
  have h1:((ch.length:Int)==(C.length:Int))=false:=by rw[beq_eq_false_iff_ne];omega
  rw[List.length_map,List.length_map,h1,cond_false,cond_false,Au hcl,bs]
  have hres:∀i,∃o:Option LI,i<C[ch.length].length→(∀z,o=some z→z.length≤C.length∧∀s∈z,In g.length s)∧
    ((idx C[ch.length] (i:Int)).bind λe_373=>(D.J0 ch (g.map mk) e_373).bind λy_381=>cond y_381 (some (.inl (IntKind.i64.wrap ((i:Int)+1)))) ((((D.L ch).bind λy_445=>(AN y_445 ([e_373]:LI)).bind λl_466=>(D.M m (g.map mk) C l_466).bind λy_477=>some y_477:Option (LI))).bind λl_437=>cond (!l_437.isEmpty) (some (.inr (.inr l_437))) (some (.inl (IntKind.i64.wrap ((i:Int)+1))))))=(match o with|some r=>some (Sum.inr (Sum.inr r:Unit ⊕ LI))|none=>some (Sum.inl ((i+1:Nat):Int)))∧
    ((idx (C.map (λl=>l.map Ap)) (ch.length:Int)).bind λe_612=>(idx e_612 (i:Int)).bind λe_618=>(As (σ:=Bool×Int) (ρ:=(Bool)) (fun(s_661:Bool×Int)=>match s_661 with|(b_664,x_665)=>cond ((decide (x_665<((ch.map Ap).length:Int)))&&b_664) ((idx (ch.map Ap) x_665).bind λe_689=>(D.X g e_689 e_618).bind λy_695=>some (.inl (y_695,(IntKind.i64.wrap (x_665+1))))) (some (.inr b_664))) (true,0)).bind λb_683=>cond b_683 ((((AN ([]:LL) (ch.map Ap)).bind λl_764=>(AN l_764 ([e_618]:LL)).bind λl_780=>(D.N m g (C.map (λl=>l.map Ap)) l_780).bind λy_791=>some y_791:Option (LL))).bind λl_750=>cond (decide ((0:Int)<(l_750.length:Int))) (some (.inr (.inr l_750))) (some (.inl (IntKind.i64.wrap ((i:Int)+1))))) (some (.inl (IntKind.i64.wrap ((i:Int)+1)))))=(match o with|some r=>some (Sum.inr (Sum.inr (r.map Ap):Unit ⊕ LL))|none=>some (Sum.inl ((i+1:Nat):Int))):=λi=>by
   by_cases hil:i<C[ch.length].length
   ·have hs:=hlC.2 _ (List.getElem_mem hil)
    obtain⟨b,eb,hb⟩:=cpHas_ok hg hs hch (by omega)
    obtain⟨b2,eb2,hb2⟩:=fits_ok hg hs hch (by omega)
    have hbb:b2= !b:=by
     rw[Bool.eq_iff_iff,hb2,Bool.not_eq_true']
     constructor
     ·intro h
      cases hbv:b with
      |false=>rfl
      |true=>
       obtain⟨t,ht,hn⟩:=hb.1 hbv
       exact absurd ((h t ht).symm hF (hch t ht)) hn
     ·intro h t ht
      apply Classical.byContradiction
      intro hn
      have:=hb.2 ⟨t,ht,λh'=>hn (h'.symm hF hs)⟩
      rw[h] at this;cases this
    have hil':i<(C[ch.length].map Ap).length:=by rw[List.length_map];exact hil
    have eb2':=eb2
    rw[List.length_map] at eb2'
    cases hbv:b with
    |true=>
     rw[hbv] at eb hbb
     rw[hbb] at eb2
     refine⟨none,λ_=>⟨λz h=>(by cases h),?_,?_⟩⟩
     ·rw[Au hil,bs,eb,bs,cond_true,wi (by omega)]
     ·rw[Au hcl',bs,List.getElem_map,Au hil',bs,List.getElem_map]
      refine(bindE eb2).trans ?_
      rw[Bool.not_true,cond_false,wi (by omega)]
    |false=>
     rw[hbv] at eb hbb
     rw[hbb] at eb2
     obtain⟨r,er1,er2,hrl,hrs⟩:=ih m (ch++[C[ch.length][i]]) (by simp;omega) (by omega) (λs hs'=>by
      rcases List.mem_append.1 hs' with h|h
      ·exact hch s h
      ·rw[List.mem_singleton] at h;subst h;exact hs)
     rw[List.map_append,List.map_singleton] at er2
     refine⟨if r.isEmpty then none else some r,λ_=>⟨λz h=> ?_,?_,?_⟩⟩
     ·cases hre:r.isEmpty with
      |true=>rw[hre] at h;cases h
      |false=>
       rw[hre] at h
       have h:some r=some z:=h
       obtain rfl:=Option.some.inj h
       exact⟨hrl,hrs⟩
     ·rw[Au hil,bs,eb,bs,cond_false,clone_eq _ (by omega),bs,AR (by simp;omega),bs,er1,bs,bs,wi (by omega)]
      cases hre:r.isEmpty<;>rfl
     ·rw[Au hcl',bs,List.getElem_map,Au hil',bs,List.getElem_map]
      refine(bindE eb2).trans ?_
      rw[Bool.not_false,cond_true,AR (by simp;omega),bs,List.nil_append,AR (by simp;omega),bs,er2,bs,bs,wi (by omega),List.length_map]
      cases r with
      |nil=>rfl
      |cons x r=>
       rw[decide_eq_true (show (0:Int)<((x::r).length:Int) by rw[List.length_cons];omega)]
       rfl
   ·exact⟨none,λh=>absurd h hil⟩
  obtain⟨res,hres⟩:=Classical.axiomOfChoice hres
  have eI:=CW (ρ:=Unit ⊕ LI) (step:=fun(x_252:Int)=>cond (decide (x_252<(C[ch.length].length:Int))) ((idx C[ch.length] x_252).bind λe_373=>(D.J0 ch (g.map mk) e_373).bind λy_381=>cond y_381 (some (.inl (IntKind.i64.wrap (x_252+1)))) ((((D.L ch).bind λy_445=>(AN y_445 ([e_373]:LI)).bind λl_466=>(D.M m (g.map mk) C l_466).bind λy_477=>some y_477:Option (LI))).bind λl_437=>cond (!l_437.isEmpty) (some (.inr (.inr l_437))) (some (.inl (IntKind.i64.wrap (x_252+1)))))) (some (.inr (.inl ()))))
   C[ch.length].length (λi=>(res i).map Sum.inr) (.inl ()) (λi hi=>by
    have h2:=(hres i hi).2.1
    rw[dlt hi,cond_true,h2]
    cases res i<;>rfl) (by rw[Ba,cond_false])
  have eS:=CW (ρ:=Unit ⊕ LL) (step:=fun(x_405:Int)=>(idx (C.map (λl=>l.map Ap)) (ch.length:Int)).bind λe_605=>cond (decide (x_405<(e_605.length:Int))) ((idx (C.map (λl=>l.map Ap)) (ch.length:Int)).bind λe_612=>(idx e_612 x_405).bind λe_618=>(As (σ:=Bool×Int) (ρ:=(Bool)) (fun(s_661:Bool×Int)=>match s_661 with|(b_664,x_665)=>cond ((decide (x_665<((ch.map Ap).length:Int)))&&b_664) ((idx (ch.map Ap) x_665).bind λe_689=>(D.X g e_689 e_618).bind λy_695=>some (.inl (y_695,(IntKind.i64.wrap (x_665+1))))) (some (.inr b_664))) (true,0)).bind λb_683=>cond b_683 ((((AN ([]:LL) (ch.map Ap)).bind λl_764=>(AN l_764 ([e_618]:LL)).bind λl_780=>(D.N m g (C.map (λl=>l.map Ap)) l_780).bind λy_791=>some y_791:Option (LL))).bind λl_750=>cond (decide ((0:Int)<(l_750.length:Int))) (some (.inr (.inr l_750))) (some (.inl (IntKind.i64.wrap (x_405+1))))) (some (.inl (IntKind.i64.wrap (x_405+1))))) (some (.inr (.inl ()))))
   C[ch.length].length (λi=>(res i).map (λr=>Sum.inr (r.map Ap))) (.inl ()) (λi hi=>by
    have h3:=(hres i hi).2.2
    rw[Au hcl',bs,List.getElem_map,List.length_map,dlt hi,cond_true]
    rw[Au hcl',List.getElem_map] at h3
    refine Eq.trans h3 ?_
    cases res i<;>rfl) (by
    rw[Au hcl',bs,List.getElem_map,List.length_map,Ba,cond_false])
  rw[DT (λr:LI=>(Sum.inr r:Unit ⊕ LI))] at eI
  rw[DT (λr:LI=>(Sum.inr (r.map Ap):Unit ⊕ LL))] at eS
  cases hfs:(List.range C[ch.length].length).findSome? res with
  |none=>
   rw[hfs] at eI eS
   refine⟨[],?_,?_,Nat.zero_le _,λs hs=>(by cases hs)⟩
   ·exact Option.bind_eq_some_iff.2 ⟨_,eI,rfl⟩
   ·exact Option.bind_eq_some_iff.2 ⟨_,(by rw[List.length_map] at eS;exact eS),rfl⟩
  |some r=>
   rw[hfs] at eI eS
   obtain⟨i,hi,hri⟩:=List.exists_of_findSome?_eq_some hfs
   have hz:=(hres i (List.mem_range.1 hi)).1 r hri
   refine⟨r,?_,?_,hz.1,hz.2⟩
   ·exact Option.bind_eq_some_iff.2 ⟨_,eI,rfl⟩
   ·exact Option.bind_eq_some_iff.2 ⟨_,(by rw[List.length_map] at eS;exact eS),rfl⟩
end
end Go.Sx

namespace Go.Sx
theorem pcpos :∀n,n<9→∀w,w≤n→0<pcN n w:=by decide
theorem rest_eq {n:Nat}{t:Int}(hn:n≤16)(ht:VS t):((List.range n).filter (λv=> !has t v)).map Int.ofNat=Ap (rm n t):=by
 refine Inc.ext ?_ (BD _) (λx=> ?_)
 ·unfold Inc
  rw[List.pairwise_map]
  refine List.Pairwise.imp (fun{a b} h=> ?_) (List.Pairwise.filter _ List.pairwise_lt_range)
  show (a:Int)<(b:Int)
  omega
 ·rw[List.mem_map,Dl hn ht]
  constructor
  ·rintro⟨v,hv,rfl⟩
   rw[List.mem_filter,List.mem_range,Bool.not_eq_true'] at hv
   exact⟨v,rfl,hv.1,hv.2⟩
  ·rintro⟨v,rfl,h1,h2⟩
   exact⟨v,List.mem_filter.2 ⟨List.mem_range.2 h1,by rw[h2];rfl⟩,rfl⟩
def ddF (r:LI)(s:LI)(i:Nat):LI:=if r.getD i 0∈s then s else s++[r.getD i 0]
section
variable {g : LL} (hg : GOk g)
include hg
theorem dd_impl {r:LI}(hl:r.length≤900)(hr:∀s∈r,VS s):As (D.d2 r) (([]:LI),0)=some ((List.range r.length).foldl (ddF r) [])∧((List.range r.length).foldl (ddF r) []).length≤r.length∧∀x∈(List.range r.length).foldl (ddF r) [],VS x:=by
 have:=Ee (step:=D.d2 r) (ρ:=LI) r.length (fun(s:LI) (i:Int)=>(s,i)) (ddF r) (λs=>s) (λi s=>s.length≤i∧∀x∈s,VS x) [] ⟨Nat.le_refl _,λx hx=>(by cases hx)⟩ (λs i hi ⟨h1,h2⟩=>by
  unfold D.d2 ddF
  dsimp only
  rw[dlt hi,cond_true,Au hi,bs,contains_vs hg _ (by omega),bs,wi (by omega),AD hi]
  by_cases hm:r[i]∈s
  ·rw[decide_eq_true hm,Bool.not_true,cond_false,if_pos hm]
   exact⟨rfl,by omega,h2⟩
  ·rw[decide_eq_false hm,Bool.not_false,cond_true,AR (by simp;omega),bs,if_neg hm]
   refine⟨rfl,by simp;omega,λx hx=> ?_⟩
   rcases List.mem_append.1 hx with h|h
   ·exact h2 x h
   ·rw[List.mem_singleton] at h;subst h;exact hr _ (List.getElem_mem hi)) (λs _=>by
  unfold D.d2
  dsimp only
  rw[Ba,cond_false])
 exact⟨this.1,this.2⟩
theorem FG (h8:g.length≤8):∃o:LI,D.u g=some (o.map Ap)∧D.b0 g=some (o.map Ap)∧o.length≤70∧∀x∈o,VS x:=by
 have h16:=hg.n16
 have hn1:=hg.n1
 have hF:=FOk.of hg
 have h33:=DY
 have hrb:=Eu
 have htw:=tw_eq hg
 have htl:=tw_le hg
 have hsz:D.a g=some (g.length:Int):=rfl
 obtain⟨p,hp⟩:∃p:Int→LI,∀c,In g.length c→D.C (g.map mk) (rm g.length c)=some (p c)∧D.F0 g (Ap (rm g.length c))=some ((p c).map Ap)∧Parts (g.map mk) (El (rm g.length c)) (p c)∧(p c).length≤16:=by
  refine⟨λc=>(D.C (g.map mk) (rm g.length c)).getD [],λc hc=> ?_⟩
  obtain⟨l,e1,e2,hP,hl⟩:=parts_same hg (rest_in hg c hc.1).1
  have e1:D.C (g.map mk) (rm g.length c)=some l:=e1
  have e3:(D.C (g.map mk) (rm g.length c)).getD []=l:=by rw[e1];rfl
  dsimp only
  rw[e3]
  exact⟨e1,e2,hP,hl⟩
 have hf:∀(c:Int) (s:LL),In g.length c→s.length<900→D.v2 (g.map mk) c s=some (false,s++[p c]):=λc s hc hs=>by
  unfold D.v2 D.i2
  rw[Dr,List.length_map,bs,show iandNot .u32 (full g.length) c=rm g.length c from rfl,(hp c hc).1,bs,AR (by simp;omega),bs]
 have hpc:=pc8 g.length (by omega) (twN g) (by omega)
 have hpp:=pcpos g.length (by omega) (twN g) htl
 obtain⟨Ls,eL,hLs,hLe⟩:=chR_lex h16 p hf (twN g) BL 0 0 [] (by omega) (by omega) in_zero (λu hu=>by rw[Ci] at hu;cases hu) (by omega) (by rw[Nat.sub_zero];simp;omega)
 rw[Nat.sub_zero,Dx] at hLe
 rw[List.nil_append] at eL
 have hLe:Ls.map Ap=lxD g.length g.length (twN g):=by
  rw[hLe]
  conv=>rhs;rw[←List.map_id (lxD g.length g.length (twN g))]
  rfl
 have hLl:Ls.length=pcN g.length (twN g):=by
  have:=congrArg List.length hLe
  rw[List.length_map,ED] at this
  exact this
 have hC:∀l∈Ls.map p,l.length≤16∧∀s∈l,In g.length s:=λl hl=>by
  obtain⟨t,ht,rfl⟩:=List.mem_map.1 hl
  have hin:=hLs t ht
  exact⟨(hp t hin).2.2.2,λs hs=>(part_whole hg (rest_in hg t hin.1).1 (hp t hin).2.2.1 hs).1⟩
 obtain⟨r,er,es,hrl,hrin⟩:=pick_same hg hC (by rw[List.length_map];omega) (by rw[List.length_map];omega) (Ls.map p).length BL [] (by simp) (by rw[List.length_map];omega) (λs hs=>by cases hs)
 rw[List.length_map] at hrl
 have er:D.g (g.map mk) (Ls.map p) []=some r:=er
 have es:D.q g ((Ls.map p).map (λl=>l.map Ap)) []=some (r.map Ap):=es
 obtain⟨ed,hdl,hdv⟩:=dd_impl hg (r:=r) (by omega) (λs hs=>(hrin s hs).1)
 refine⟨(List.range r.length).foldl (ddF r) [],?_,?_,by omega,hdv⟩
 ·unfold D.u
  rw[isSmall_ok hg h8,bs,Bool.not_true,cond_false,netsOf_eq g hg,bs,DV h16 hF BL g.length 0 (GS.zero h16) (by omega),bs,List.length_map,←htw]
  refine Option.bind_eq_some_iff.2 ⟨_,eL,?_⟩
  refine Option.bind_eq_some_iff.2 ⟨_,er,?_⟩
  refine Option.bind_eq_some_iff.2 ⟨_,ed,?_⟩
  rw[results_eq _ (by unfold Sh;omega) hdv,bs]
 ·unfold D.b0 D.S
  rw[CA g hg.sh2,gB_true hg]
  simp only[bs,cond_true,hsz]
  rw[decide_eq_true (show (g.length:Int)≤8 by omega),Bool.not_true,cond_false,FF hg (by omega),bs,←htw,l11Sets_lex h8 (by omega),bs,←hLe,List.length_map]
  refine some_of ?_
  refine AY (λs:List LL×Int=>∃i:Nat,s.2=(i:Int)∧i≤Ls.length∧s.1=(Ls.take i).map (λt=>(p t).map Ap)) (λs=>Ls.length-s.2.toNat)
   (λC:List LL=>C=(Ls.map p).map (λl=>l.map Ap)) ?_ ⟨0,rfl,Nat.zero_le _,by simp⟩ ?_
  ·rintro⟨_,_⟩ ⟨i,rfl,hi,rfl⟩
   dsimp only
   by_cases hil:i<Ls.length
   ·have hin:=hLs _ (List.getElem_mem hil)
    have hil':i<(Ls.map Ap).length:=by rw[List.length_map];exact hil
    rw[dlt hil,cond_true]
    refine AY (λs:LI×Int=>∃v:Nat,s.2=(v:Int)∧v≤g.length∧s.1=((List.range v).filter (λu=> !has Ls[i] u)).map Int.ofNat) (λs=>g.length-s.2.toNat)
     (λR:LI=>R=Ap (rm g.length Ls[i])) ?_ ⟨0,rfl,Nat.zero_le _,rfl⟩ ?_
    ·rintro⟨_,_⟩ ⟨v,rfl,hv,rfl⟩
     dsimp only
     by_cases hvl:v<g.length
     ·have hm:decide ((v:Int)∈Ap Ls[i])=has Ls[i] v:=by
       rw[Bool.eq_iff_iff,decide_eq_true_eq,AS hin.1]
      have hfl:((List.range v).filter (λu=> !has Ls[i] u)).length≤v:=by
       have:=List.length_filter_le (λu=> !has Ls[i] u) (List.range v)
       simpa using this
      rw[dlt hvl,cond_true,Au hil',bs,List.getElem_map,Cb _ _ (by have:=BO Ls[i];unfold Sh;omega),bs,hm,wi (by omega)]
      cases h:has Ls[i] v with
      |true=>
       rw[Bool.not_true,cond_false]
       refine⟨_,rfl,⟨v+1,rfl,hvl,?_⟩,by dsimp only;omega⟩
       dsimp only
       rw[List.range_succ,List.filter_append]
       simp[h]
      |false=>
       rw[Bool.not_false,cond_true,AR (by simp;omega),bs]
       refine⟨_,rfl,⟨v+1,rfl,hvl,?_⟩,by dsimp only;omega⟩
       dsimp only
       rw[List.range_succ,List.filter_append,List.map_append]
       simp[h]
     ·obtain rfl:v=g.length:=by omega
      rw[Ba,cond_false]
      exact⟨_,rfl,rest_eq h16 hin.1⟩
    ·rintro R rfl
     rw[(hp _ hin).2.1,bs,AR (by simp;omega),bs,wi (by omega)]
     refine⟨_,rfl,⟨i+1,rfl,hil,?_⟩,by dsimp only;omega⟩
     dsimp only
     rw[List.take_succ_eq_append_getElem hil,List.map_append];rfl
   ·obtain rfl:i=Ls.length:=by omega
    rw[Ba,cond_false,List.take_length]
    exact⟨_,rfl,by rw[List.map_map];rfl⟩
  ·rintro C rfl
   rw[es,bs,List.length_map]
   have:=Ee (step:=fun(s_1096:LL×Int)=>match s_1096 with|(l_1099,x_1104)=>cond (decide (x_1104<(r.length:Int))) ((As (σ:=Bool×Int) (ρ:=(Bool)) (fun(s_1353:Bool×Int)=>match s_1353 with|(b_1356,x_1357)=>cond (decide (x_1357<(l_1099.length:Int))) ((cond b_1356 (some true) ((idx l_1099 x_1357).bind λe_1419=>(idx (r.map Ap) x_1104).bind λe_1425=>(D.l0 e_1419 e_1425).bind λy_1431=>some y_1431)).bind λb_1417=>some (.inl (b_1417,(IntKind.i64.wrap (x_1357+1))))) (some (.inr b_1356))) (false,0)).bind λb_1397=>cond (!b_1397) ((idx (r.map Ap) x_1104).bind λe_1437=>(D.e e_1437).bind λy_1443=>(AN l_1099 ([y_1443]:LL)).bind λl_1461=>some (.inl (l_1461,(IntKind.i64.wrap (x_1104+1))))) (some (.inl (l_1099,(IntKind.i64.wrap (x_1104+1)))))) (some (.inr l_1099)))
    (ρ:=LL) r.length (fun(s:LI) (i:Int)=>(s.map Ap,i)) (ddF r) (λs=>s.map Ap) (λi s=>s.length≤i∧∀x∈s,VS x) [] ⟨Nat.le_refl _,λx hx=>(by cases hx)⟩ (λs i hi ⟨h1,h2⟩=>by
     have hi':i<(r.map Ap).length:=by rw[List.length_map];exact hi
     have hri:=(hrin _ (List.getElem_mem hi)).1
     have hsh:∀x:Int,Sh (Ap x):=λx=>by have:=BO x;unfold Sh;omega
     dsimp only
     rw[dlt hi,cond_true]
     have hin:∃b,As (σ:=Bool×Int) (ρ:=(Bool)) (fun(s_1353:Bool×Int)=>match s_1353 with|(b_1356,x_1357)=>cond (decide (x_1357<((s.map Ap).length:Int))) ((cond b_1356 (some true) ((idx (s.map Ap) x_1357).bind λe_1419=>(idx (r.map Ap) (i:Int)).bind λe_1425=>(D.l0 e_1419 e_1425).bind λy_1431=>some y_1431)).bind λb_1417=>some (.inl (b_1417,(IntKind.i64.wrap (x_1357+1))))) (some (.inr b_1356))) (false,0)=some b∧(b=true↔r[i]∈s):=by
      refine E4 (λq:Bool×Int=>∃k:Nat,q.2=(k:Int)∧k≤s.length∧(q.1=true↔r[i]∈s.take k)) (λq=>s.length-q.2.toNat) _ ?_ _ ⟨0,rfl,Nat.zero_le _,by simp⟩
      rintro⟨b,_⟩ ⟨k,rfl,hk,hb⟩
      dsimp only at hb ⊢
      rw[List.length_map]
      by_cases hkl:k<s.length
      ·have hkl':k<(s.map Ap).length:=by rw[List.length_map];exact hkl
       have htk:r[i]∈s.take (k+1)↔r[i]∈s.take k∨r[i]=s[k]:=by
        rw[List.take_succ_eq_append_getElem hkl,List.mem_append,List.mem_singleton]
       left
       rw[dlt hkl,cond_true,wi (by omega)]
       cases hbb:b with
       |true=>
        rw[cond_true,bs]
        exact⟨_,rfl,⟨k+1,rfl,hkl,⟨λ_=>htk.2 (.inl (hb.1 hbb)),λ_=>rfl⟩⟩,by dsimp only;omega⟩
       |false=>
        rw[cond_false,Au hkl',bs,Au hi',bs,List.getElem_map,List.getElem_map,l1Same_eq _ _ (hsh _),bs,bs]
        refine⟨_,rfl,⟨k+1,rfl,hkl,?_⟩,by dsimp only;omega⟩
        dsimp only
        rw[decide_eq_true_eq,htk]
        constructor
        ·intro e
         right
         rw[←mk_elems hri,←e,mk_elems (h2 _ (List.getElem_mem hkl))]
        ·rintro(h|h)
         ·have:=hb.2 h
          rw[hbb] at this;cases this
         ·rw[h]
      ·obtain rfl:k=s.length:=by omega
       rw[Ba,cond_false]
       rw[List.take_length] at hb
       exact .inr ⟨_,rfl,hb⟩
     obtain⟨b,eb,hb⟩:=hin
     unfold ddF
     rw[AD hi]
     by_cases hm:r[i]∈s
     ·rw[if_pos hm]
      refine⟨Option.bind_eq_some_iff.2 ⟨_,eb,?_⟩,by omega,h2⟩
      rw[hb.2 hm,Bool.not_true,cond_false,wi (by omega)]
     ·rw[if_neg hm]
      refine⟨Option.bind_eq_some_iff.2 ⟨_,eb,?_⟩,by simp;omega,λx hx=> ?_⟩
      ·have:b=false:=by
        cases hbb:b with
        |false=>rfl
        |true=>exact absurd (hb.1 hbb) hm
       rw[this,Bool.not_false,cond_true,Au hi',bs,List.getElem_map,C9 _ (hsh _),bs,AR (by simp;omega),bs,wi (by omega),List.map_append]
       rfl
      ·rcases List.mem_append.1 hx with h|h
       ·exact h2 x h
       ·rw[List.mem_singleton] at h;subst h;exact hri) (λs _=>by
     dsimp only
     rw[Ba,cond_false])
   refine⟨_,Option.bind_eq_some_iff.2 ⟨_,this.1,rfl⟩,rfl⟩
end
theorem F5 {g:LL}(hs:Sh2 g):∃S,D.u g=some S∧D.b0 g=some S∧S.length≤70∧∀x∈S,x.length≤32:=by
 have hsz:D.a g=some (g.length:Int):=rfl
 by_cases h:gB g=true∧g.length≤8
 ·have hg:=(DC g).1 h.1
  obtain⟨o,e1,e2,h1,_⟩:=FG hg h.2
  refine⟨_,e1,e2,by rw[List.length_map];exact h1,λx hx=> ?_⟩
  obtain⟨s,_,rfl⟩:=List.mem_map.1 hx
  exact BO s
 ·refine⟨[],?_,?_,Nat.zero_le _,λx hx=>(by cases hx)⟩
  ·unfold D.u D.P
   rw[C8 g hs,bs,bs]
   have:(gB g&&decide ((g.length:Int)≤8))=false:=by
    cases hb:gB g with
    |false=>rfl
    |true=>rw[Bool.true_and];exact decide_eq_false (λh8=>h ⟨hb,by omega⟩)
   rw[this];rfl
  ·unfold D.b0 D.S
   rw[CA g hs,bs]
   cases hb:gB g with
   |false=>rfl
   |true=>
    simp only[cond_true,hsz,bs]
    rw[decide_eq_false (λh8=>h ⟨hb,by omega⟩)]
    rfl
end Go.Sx

namespace Go.Sx
theorem Ek {l:LL}{i:Nat}(hi:i<l.length):(l.take (i+1)).flatten=(l.take i).flatten++l[i]:=by
 rw[List.take_succ_eq_append_getElem hi,List.flatten_append];simp
theorem EI {l:LL}(h2:∀x∈l,x.length=2)(i:Nat)(hi:i≤l.length):(l.take i).flatten.length=2*i:=by
 induction i with
 |zero=>simp
 |succ i ih=>rw[Ek (by omega),List.length_append,ih (by omega),h2 _ (List.getElem_mem (by omega))];omega
theorem joined_ex (l:LL)(h16:l.length≤16):(D.M0 l 2=some false∧∀x∈l,x.length=2)∨(D.M0 l 2=some true∧∃x∈l,x.length≠2):=by
 unfold D.M0 D.S1
 have:=loop_ex (step:=fun(x_40:Int)=>cond (decide (x_40<(l.length:Int))) ((idx l x_40).bind λe_60=>(D.g1 e_60 2).bind λy_66=>cond y_66 (some (.inr (.inr x_40))) (some (.inl (IntKind.i64.wrap (x_40+1))))) (some (.inr (.inl ()))))
  (n:=l.length) (λi=>∃h:i<l.length,l[i].length≠2) (λz:Int=>0≤z)
  (λi hi=>by
   rw[decide_eq_true (show (i:Int)<l.length by omega),cond_true,Au hi,bs]
   unfold D.g1
   rw[bs]
   by_cases h:l[i].length=2
   ·left
    rw[h]
    exact⟨by rw[wi (by omega)];rfl,fun⟨_,hn⟩=>hn h⟩
   ·right
    refine⟨(i:Int),?_,⟨hi,h⟩,by omega⟩
    have:((l[i].length:Int) !=2)=true:=by rw[bne_iff_ne];omega
    rw[this];rfl)
  (λi hi=>by
   rw[decide_eq_false (show¬((i:Int)<l.length) by omega)];rfl) l.length 0 (by omega)
 rcases this with⟨e,h⟩|⟨z,e,hz,i,_,hi,hl,h⟩
 ·left
  have e':=congrArg (λo:Option (Unit ⊕ Int)=>(o.bind λzz=>match zz with| .inl _=>(some (-1))| .inr z=>(some z)).bind λy_1=>some (decide ((0:Int)≤y_1))) e
  refine⟨e',λx hx=> ?_⟩
  obtain⟨i,hi,rfl⟩:=List.mem_iff_getElem.1 hx
  exact Classical.byContradiction λhn=>h i (Nat.zero_le _) hi ⟨hi,hn⟩
 ·right
  have e':=congrArg (λo:Option (Unit ⊕ Int)=>(o.bind λzz=>match zz with| .inl _=>(some (-1))| .inr z=>(some z)).bind λy_1=>some (decide ((0:Int)≤y_1))) e
  refine⟨e'.trans ?_,l[i],List.getElem_mem hl,h⟩
  simp[hz]
theorem Concat_ok (l:LL)(h16:l.length≤16)(h2:∀x∈l,x.length=2):D.W0 l=some l.flatten:=by
 unfold D.W0
 have e1:=Dy (step:=fun(s_24:Int×Int)=>match s_24 with|(x_27,x_28)=>cond (decide (x_28<(l.length:Int))) ((idx l x_28).bind λe_42=>cond (decide ((IntKind.i64.wrap (x_27+(e_42.length:Int)))<0)) none (some (Sum.inl (β:=Int) ((IntKind.i64.wrap (x_27+(e_42.length:Int))),(IntKind.i64.wrap (x_28+1)))))) (some (.inr x_27)))
  (λi=>(((2*i:Nat):Int),(i:Int))) l.length (λi hi=>by
   dsimp only
   rw[decide_eq_true (show (i:Int)<l.length by omega),cond_true,Au hi,bs,h2 _ (List.getElem_mem hi),w64 (by omega) (by omega),decide_eq_false (by omega),cond_false,wi (by omega)]
   congr 3)
 rw[show ((0:Int),(0:Int))=(((2*0:Nat):Int),((0:Nat):Int)) from rfl,e1,Bd (r:=((2*l.length:Nat):Int)) (by
  dsimp only
  rw[decide_eq_false (by omega)];rfl),bs]
 unfold D.b2 growD
 rw[if_pos (by omega),bs]
 have e2:=Dy (step:=fun(s_97:LI×Int)=>match s_97 with|(l_100,x_105)=>cond (decide (x_105<(l.length:Int))) ((idx l x_105).bind λe_128=>(AN l_100 e_128).bind λl_134=>some (Sum.inl (β:=LI) (l_134,(IntKind.i64.wrap (x_105+1))))) (some (.inr l_100)))
  (λi=>((l.take i).flatten,(i:Int))) l.length (λi hi=>by
   dsimp only
   have:=EI h2 i (by omega)
   rw[decide_eq_true (show (i:Int)<l.length by omega),cond_true,Au hi,bs,AR (by rw[this,h2 _ (List.getElem_mem hi)];omega),bs,wi (by omega),Ek hi])
 have e0:(([]:LI),(0:Int))=((l.take 0).flatten,((0:Nat):Int)):=by simp
 rw[e0,e2,Bd (r:=l.flatten) (by
  dsimp only
  rw[decide_eq_false (by omega),List.take_length];rfl),bs]
theorem LinkNums_both (l:LL):∃s:LI,D.C1 l=some s∧D.A1 l=some s∧s.length≤32:=by
 unfold D.C1 D.A1 D.A D.X1
 by_cases h:l.length≤16
 ·have hd:decide ((16:Int)<(l.length:Int))=false:=decide_eq_false (by omega)
  rw[hd,cond_false,cond_false]
  rcases joined_ex l h with⟨e,h2⟩|⟨e,x,hx,h2⟩
  ·refine⟨l.flatten,?_,?_,?_⟩
   ·rw[e,bs,bs,cond_false,Concat_ok l h h2];rfl
   ·have e2:=Dy (step:=fun(s_65:LI×Int)=>match s_65 with|(l_68,x_73)=>cond (decide (x_73<(l.length:Int))) ((idx l x_73).bind λe_107=>cond ((e_107.length:Int) !=2) (some (Sum.inr (.inr ([]:LI)))) ((idx l x_73).bind λe_118=>(AN l_68 e_118).bind λl_124=>some (.inl (l_124,(IntKind.i64.wrap (x_73+1)))))) (some (.inr (Sum.inl (α:=LI) (β:=LI) l_68))))
     (λi=>((l.take i).flatten,(i:Int))) l.length (λi hi=>by
      dsimp only
      have:=EI h2 i (by omega)
      have hb:((l[i].length:Int) !=2)=false:=by rw[h2 _ (List.getElem_mem hi)];rfl
      rw[decide_eq_true (show (i:Int)<l.length by omega),cond_true,Au hi,bs,bs,hb,cond_false,AR (by rw[this,h2 _ (List.getElem_mem hi)];omega),bs,wi (by omega),Ek hi])
    have e0:(([]:LI),(0:Int))=((l.take 0).flatten,((0:Nat):Int)):=by simp
    rw[e0,e2,Bd (r:= .inl l.flatten) (by
     dsimp only
     rw[decide_eq_false (by omega),List.take_length];rfl),bs]
    rfl
   ·have:=EI h2 l.length (Nat.le_refl _)
    rw[List.take_length] at this
    omega
  ·refine⟨[],?_,?_,Nat.zero_le _⟩
   ·rw[e];rfl
   ·obtain⟨a,ha,h3⟩:∃a,∃h:a<l.length,l[a].length≠2:=by
     obtain⟨a,ha,rfl⟩:=List.mem_iff_getElem.1 hx
     exact⟨a,ha,h2⟩
    obtain⟨m,hm1,hm2⟩:=least_of (P:=λa=>∃h:a<l.length,l[a].length≠2) ⟨a,ha,h3⟩
    obtain⟨hml,hm1⟩:=hm1
    have h2':∀x∈l.take m,x.length=2:=λx hx=>by
     obtain⟨i,hi,rfl⟩:=List.mem_iff_getElem.1 hx
     rw[List.length_take] at hi
     rw[List.getElem_take]
     exact Classical.byContradiction λhn=>hm2 i (by omega) ⟨by omega,hn⟩
    have e2:=Dy (step:=fun(s_65:LI×Int)=>match s_65 with|(l_68,x_73)=>cond (decide (x_73<(l.length:Int))) ((idx l x_73).bind λe_107=>cond ((e_107.length:Int) !=2) (some (Sum.inr (.inr ([]:LI)))) ((idx l x_73).bind λe_118=>(AN l_68 e_118).bind λl_124=>some (.inl (l_124,(IntKind.i64.wrap (x_73+1)))))) (some (.inr (Sum.inl (α:=LI) (β:=LI) l_68))))
     (λi=>((l.take i).flatten,(i:Int))) m (λi hi=>by
      dsimp only
      have hil:i<l.length:=by omega
      have:=EI h2' i (by rw[List.length_take];omega)
      rw[List.take_take,Nat.min_eq_left (by omega)] at this
      have h3:l[i].length=2:=Classical.byContradiction λhn=>hm2 i hi ⟨hil,hn⟩
      have hb:((l[i].length:Int) !=2)=false:=by rw[h3];rfl
      rw[decide_eq_true (show (i:Int)<l.length by omega),cond_true,Au hil,bs,bs,hb,cond_false,AR (by rw[this,h3];omega),bs,wi (by omega),Ek hil])
    have e0:(([]:LI),(0:Int))=((l.take 0).flatten,((0:Nat):Int)):=by simp
    have hb:((l[m].length:Int) !=2)=true:=by rw[bne_iff_ne];omega
    rw[e0,e2,Bd (r:= .inr []) (by
     dsimp only
     rw[decide_eq_true (by omega),cond_true,Au hml,bs,hb];rfl),bs]
    rfl
 ·have hd:decide ((16:Int)<(l.length:Int))=true:=decide_eq_true (by omega)
  rw[hd]
  exact⟨[],rfl,rfl,Nat.zero_le _⟩
theorem small_both {g:LL}(hs:Sh2 g):∃b,D.P g=some b∧D.S g=some b:=by
 have hsz:D.a g=some (g.length:Int):=rfl
 unfold D.P D.S
 rw[C8 g hs,CA g hs,bs,bs]
 refine⟨_,rfl,?_⟩
 cases gB g with
 |false=>rfl
 |true=>simp only[cond_true,hsz,bs,Bool.true_and]
theorem F7 {g:LL}(hs:Sh2 g):∃(k0:Int) (n0:LI) (s0:LL) (k1:Int) (n1:LI) (s1:LL) (b:Bool),
  D.t0 g=some (k0,n0,s0,k1,n1,s1,b)∧D.w1 g=some (k0,n0,s0,k1,n1,s1,b)∧n0.length≤32∧n1.length≤32∧Sh2 s0∧Sh2 s1∧tot s0≤4294967296∧tot s1≤4294967296:=by
 have z2:Sh2 []:=⟨Nat.zero_le _,λx hx=>(by cases hx)⟩
 have zt:tot []≤4294967296:=by simp[tot]
 obtain⟨b,e1,e2⟩:=small_both hs
 unfold D.t0 D.w1
 rw[e1,e2,bs,bs]
 cases b with
 |false=>exact⟨_,_,_,_,_,_,_,rfl,rfl,Nat.zero_le _,Nat.zero_le _,z2,z2,zt,zt⟩
 |true=>
  obtain⟨r,f1,f2,r1,r2,r3,r4⟩:=Ga g hs
  obtain⟨s,g1,g2,g3⟩:=LinkNums_both r.2.1
  obtain⟨S,q1,q2,q3,q4⟩:=F5 hs
  have ht:=tot_le (n:=32) (λx hx=>(by have:=q4 x hx;omega:(x.length:Int)≤32))
  rw[Bool.not_true,cond_false,cond_false,f1,f2,bs,bs,g1,g2,q1,q2]
  exact⟨_,_,_,_,_,_,_,rfl,rfl,g3,Nat.zero_le _,r1,⟨by unfold Sh;omega,λx hx=>(by have:=q4 x hx;unfold Sh;omega)⟩,r3,by omega⟩
theorem eqCert_eq (k:Int)(n:LI)(s:LL)(h1:n.length≤32)(h2:Sh2 s):D.v k n s k n s=some true:=by
 unfold D.v
 rw[bne_self_eq_false,cond_false,eqS_eq _ _ (by unfold Sh;omega),eqSS_eq _ _ h2]
 simp
theorem FR (k:Int)(n:LI)(s:LL)(j:Int)(h1:n.length≤32)(h2:Sh2 s)(h0:0≤j)(h:j+n.length+tot s≤4611686018427387904):
  D.r0 k n s j=some (j+n.length+tot s,Cm j n.length,BR (j+n.length) s):=by
 have:=Cg s
 unfold D.r0
 rw[markS_eq n j (by unfold Sh;omega) h0 (by omega),bs,markSS_eq s _ h2 (by dsimp only;omega) (by dsimp only;omega)]
 rfl
theorem FM (k:Int)(n:LI)(s:LL)(j:Int)(h1:n.length≤32)(h2:Sh2 s)(h0:0≤j)(h:j+n.length+tot s≤4611686018427387904):
  D.E k (Cm j n.length) (BR (j+n.length) s) j=some (j+n.length+tot s):=by
 have:=Cg s
 unfold D.E
 rw[heldS_eq n.length j (by omega) h0 (by omega),bs,decide_eq_false (by omega),cond_false,heldSS_eq s _ h2 (by omega) (by omega),bs,decide_eq_false (by omega),cond_false]
theorem Es (g:LL)(hx:(g.length:Int)≤9223372036854775807)(hx2:∀x∈g,(x.length:Int)≤9223372036854775807):D.W1 g=some true:=by
 unfold D.W1
 have tg:=Cg g
 obtain⟨y,e,hy'⟩:=szGraph_eq g 1048576 hx hx2 (by omega) (by omega)
 rw[e,bs]
 rcases hy' with hy'|⟨hy',hy0⟩
 ·simp only[hy',decide_true,cond_true]
 ·have hd:decide (y<0)=false:=by simp;omega
  have h1:Sh2 g:=Sh2.of_tot (by unfold Sh;omega) (by omega)
  obtain⟨k0,n0,s0,k1,n1,s1,b,f1,f2,c0,c1,r0,r1,t0,t1⟩:=F7 h1
  have p0:=Cg s0;have p1:=Cg s1
  have d1:decide (1+tot g<0)=false:=by simp;omega
  have d2:decide (1+(n0.length:Int)+tot s0<0)=false:=by simp;omega
  have d3:decide (1+(n0.length:Int)+tot s0+(n1.length:Int)+tot s1<0)=false:=by simp;omega
  simp only[hd,cond_false,toGraph_eq g h1,f1,f2,bs,eqCert_eq k0 n0 s0 c0 r0,eqCert_eq k1 n1 s1 c1 r1,decide_true,Bool.not_true,bne_self_eq_false,Bool.or_false,
   eqGraph_eq g g h1,markGraph_eq g 1 h1 (by omega) (by omega),d1,FR k0 n0 s0 1 c0 r0 (by omega) (by omega),FM k0 n0 s0 1 c0 r0 (by omega) (by omega),d2,
   FR k1 n1 s1 (1+(n0.length:Int)+tot s0) c1 r1 (by omega) (by omega),FM k1 n1 s1 (1+(n0.length:Int)+tot s0) c1 r1 (by omega) (by omega),d3]
end Go.Sx
