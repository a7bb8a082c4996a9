/- Parts of the proof: Xd, Yb, Yc, Xm, Ze, Zg, Zh. -/
import Derived.Test.YtkffjeaefgfnnaaGreatDoorBd6
set_option linter.unusedVariables false
set_option linter.unusedSimpArgs false
set_option linter.unusedSectionVars false
namespace Go.Sx
theorem into_elems' {s:Int}(hs:VS s){v:Nat}(hv:v<32):into (Ap s) (v:Int)=Ap (ior .u32 s (ishl .u32 1 (v:Int))):=by
 refine Inc.ext ((BJ _).into _) (BJ _) (fun z=> ?_)
 rw[mem_into,mem_elems,mem_elems]
 constructor
 ·rintro(rfl|⟨w,h3,h4,rfl⟩)
  ·exact⟨v,hv,by rw[CM hs (VS.ishl _ _),BI hv];simp,rfl⟩
  ·exact⟨w,h3,by rw[CM hs (VS.ishl _ _),h4];rfl,rfl⟩
 ·rintro⟨w,h3,h4,rfl⟩
  rw[CM hs (VS.ishl _ _),BI hv,Bool.or_eq_true] at h4
  rcases h4 with h4|h4
  ·exact .inr ⟨w,h3,h4,rfl⟩
  ·exact .inl (by rw[of_decide_eq_true h4])
theorem CD {o:List Int}(h:o.Nodup){i j:Nat}(hi:i<o.length)(hj:j<o.length)(e:o[i]=o[j]):i=j:=by
 rcases Nat.lt_trichotomy i j with c|c|c
 ·exact absurd (mem_take_iff.2 ⟨i,hi,c,e⟩) (nodup_iff.1 h j hj)
 ·exact c
 ·exact absurd (mem_take_iff.2 ⟨j,hj,c,e.symm⟩) (nodup_iff.1 h i hi)
theorem ins_last {l:List Int}{xs:List (List Int)}(h:∀x∈xs,Bb x≤Bb l):ins l xs=xs++[l]:=by
 have e:Db l xs=xs.length:=by
  unfold Db
  rw[List.findIdx_eq_length]
  intro x hx
  have:=h x hx
  simp;omega
 unfold ins
 rw[e];simp
def nxt (o l:List Int)(i:Nat):Nat:=(i+1)+(o.drop (i+1)).findIdx (fun x=>decide (l=[])||decide (x∈l))
theorem nxt_gt (o l:List Int)(i:Nat):i<nxt o l i:=by unfold nxt;omega
theorem to_loop (o l:List Int)(hl:Sh l)(ho:o.length≤1000000)(i:Nat)(hi:i<o.length):
  (An (σ:=Int) (ρ:=Int) (fun(x:Int)=>(cond ((decide (x<(o.length:Int)))&&(decide ((0:Int)<(l.length:Int)))) ((idx o x).bind fun e=>(D.f l e).bind fun y=>some (!y)) (some false)).bind fun b=>cond b (some (.inl (IntKind.i64.wrap (x+1)))) (some (.inr x))) ((i+1:Nat):Int))=some ((nxt o l i:Nat):Int):=by
 have hk:=List.findIdx_le_length (p:=fun x=>decide (l=[])||decide (x∈l)) (xs:=o.drop (i+1))
 have key:=Bx (step:=(fun(x:Int)=>(cond ((decide (x<(o.length:Int)))&&(decide ((0:Int)<(l.length:Int)))) ((idx o x).bind fun e=>(D.f l e).bind fun y=>some (!y)) (some false)).bind fun b=>cond b (some (.inl (IntKind.i64.wrap (x+1)))) (some (.inr x)))) (k:=fun r=>some r) (s0:=((i+1:Nat):Int)) (fun j=>((i+1+j:Nat):Int)) ((o.drop (i+1)).findIdx (fun x=>decide (l=[])||decide (x∈l))) ((nxt o l i:Nat):Int) rfl (fun j hj=> ?_) ?_
 ·rw[Option.bind_eq_some_iff] at key
  obtain⟨a,h1,h2⟩:=key
  cases h2;exact h1
 ·have h1:=List.not_of_lt_findIdx hj
  simp only[List.length_drop] at hk
  have hx:i+1+j<o.length:=by omega
  simp only[Bool.not_eq_true,Bool.or_eq_false_iff,decide_eq_false_iff_not,List.getElem_drop] at h1
  have hp:(decide ((0:Int)<(l.length:Int)))=true:=by
   have:=List.length_pos_iff.2 h1.1
   simp;omega
  simp only[dlt hx,hp,Bool.and_self,cond_true,Ar hx,Option.bind_some,CG _ _ hl,h1.2,decide_false,Bool.not_false,wi (show i+1+j<4611686018427387904 by omega)]
  rfl
 ·show _=some (Sum.inr ((nxt o l i:Nat):Int))
  have e:((i+1+(o.drop (i+1)).findIdx (fun x=>decide (l=[])||decide (x∈l)):Nat):Int)=((nxt o l i:Nat):Int):=rfl
  rw[e]
  by_cases hx:nxt o l i<o.length
  ·have h1:=List.findIdx_getElem (p:=fun x=>decide (l=[])||decide (x∈l)) (xs:=o.drop (i+1)) (w:=by unfold nxt at hx;simp;omega)
   simp only[List.getElem_drop,Bool.or_eq_true,decide_eq_true_eq] at h1
   by_cases hn:l=[]
   ·subst hn;simp
   ·have h2:o[nxt o l i]∈l:=by rcases h1 with h1|h1;exact absurd h1 hn;exact h1
    have hp:(decide ((0:Int)<(l.length:Int)))=true:=by
     have:=List.length_pos_iff.2 hn
     simp;omega
    simp only[dlt hx,hp,Bool.and_self,cond_true,Ar hx,Option.bind_some,CG _ _ hl,h2,decide_true,Bool.not_true,cond_false]
  ·have:(decide (((nxt o l i:Nat):Int)<(o.length:Int)))=false:=by simp;omega
   simp only[this,Bool.false_and,cond_false,Option.bind_some]
section
variable {g : List (List Int)} {o F L : List Int} (hg : GOk g) (ho : OOk g o) (hF : Fill g o F L)
include hg ho hF
theorem Fill.efF :F=(ef g o g.length).1∧L=(ef g o g.length).2.1:=by
 have h:=hF.elim
 rw[elim_ef hg ho] at h
 have:=Option.some.inj h
 exact⟨(congrArg (·.1) this).symm,(congrArg (·.2) this).symm⟩
theorem l7Later_eq :D.J0 g o=some (L.map Ap):=by
 have h16:=hg.n16;have hn1:=hg.n1;have hl:=ho.len
 have hLl:=hF.lenL
 unfold D.J0 D.a
 rw[l7Fill_ef hg ho,Option.bind_some,←(hF.efF hg ho).1,Option.bind_some,CJ (by omega) (by omega),Option.bind_some,Option.bind_some,CJ (by omega) (by omega),Option.bind_some]
 have hG:=GOk.grow hF.f hn1 h16
 have hGl:(grow F).length=g.length:=by rw[C8,hF.f.len]
 refine(Bx (fun i=>(BY g.length (ef g o i).2.2,(List.range g.length).map (fun v=>if((v:Nat):Int)∈o.take i then Ap (L.getD v 0) else []),(i:Int))) g.length (L.map Ap) ?_ (fun i hi=> ?_) ?_).trans rfl
 ·have:(ef g o 0).2.2=full g.length:=rfl
  rw[this,←Fz h16]
  congr 2
  apply List.ext_getElem
  ·simp
  ·intro j h1 h2;simp
 ·have h:=EF hg ho i (by omega)
  have h':=EF hg ho (i+1) (by omega)
  have hio:i<o.length:=by omega
  have hr:=ho.rng _ (List.getElem_mem hio)
  obtain⟨v,hv⟩:∃v:Nat,o[i]=(v:Int):=⟨o[i].toNat,by omega⟩
  have hvn:v<g.length:=by omega
  have hd:o.getD i 0=(v:Int):=by rw[AD hio,hv]
  have hs':(ef g o (i+1)).2.2=iandNot .u32 (ef g o i).2.2 (ishl .u32 1 (v:Int)):=by simp only[ef,hd]
  rw[hs'] at h' ⊢
  have hl7:=l7Left_eq (grow F) hG (show v<(grow F).length by omega) (BY g.length (iandNot .u32 (ef g o i).2.2 (ishl .u32 1 (v:Int)))) (by rw[DZ];omega)
  simp only[dlt hio,cond_true,Ar hio,hv,Option.bind_some,goneOf_idx hvn,Int.toNat_natCast,goneOf_set h.vsl hvn (show g.length≤32 by omega),hl7,Ar (show v<((List.range g.length).map (fun v=>if((v:Nat):Int)∈o.take i then Ap (L.getD v 0) else [])).length by simpa using hvn),wi (show i<4611686018427387904 by omega)]
  rw[lft_grow hn1 h16 hF.f (VS.iandNot _ _) hvn]
  have hel:iand .u32 (F.getD v 0) (iandNot .u32 (ef g o i).2.2 (ishl .u32 1 (v:Int)))=L.getD v 0:=by
   refine(VS.iand _ _).ext (hF.vsL v hvn) (fun w _=> ?_)
   rw[Cc (hF.f.vs v hvn) (VS.iandNot _ _),h'.left]
   have hlat:=hF.lat i v hi (by rw[List.getElem?_eq_getElem hio,hv]) w
   unfold nb at hlat
   rw[hlat,Bool.eq_iff_iff]
   simp only[Bool.and_eq_true,decide_eq_true_eq]
   exact⟨fun⟨a,_,c⟩=>⟨a,c⟩,fun⟨a,c⟩=>⟨a,hF.f.lt v w hvn a,c⟩⟩
  rw[hel]
  congr 4
  apply List.ext_getElem
  ·simp
  ·intro j h1 h2
   rw[List.getElem_set]
   simp only[List.getElem_map,List.getElem_range]
   have htk:((j:Int)∈o.take (i+1))↔((j:Int)∈o.take i∨j=v):=by
    rw[List.take_succ_eq_append_getElem hio,List.mem_append,hv];simp[Int.natCast_inj]
   by_cases e:v=j
   ·subst e
    rw[if_pos rfl,if_pos (htk.2 (.inr rfl))]
   ·rw[if_neg e]
    by_cases hm:(j:Int)∈o.take i
    ·rw[if_pos hm,if_pos (htk.2 (.inl hm))]
    ·rw[if_neg hm,if_neg (fun hh=>(htk.1 hh).elim hm (fun e'=>e e'.symm))]
 ·simp only[hl,Ba,cond_false]
  congr 2
  apply List.ext_getElem
  ·simp[hLl]
  ·intro j h1 h2
   simp only[List.getElem_map,List.getElem_range]
   obtain⟨q,hq,hq2⟩:=DM ho (v:=j) (by simpa using h1)
   rw[if_pos,AD (by simpa using h2)]
   rw[←hl,List.take_length]
   exact List.mem_of_getElem? hq2
theorem later_pos {i v m:Nat}(hi:o[i]? =some (v:Int))(hm:m<o.length)(h:o[m]∈Ap (L.getD v 0)):i+1≤m:=by
 have hl:=ho.len
 obtain⟨hio,hv⟩:=List.getElem?_eq_some_iff.1 hi
 have hr:=ho.rng _ (List.getElem_mem hio)
 obtain⟨w,_,h2,h3⟩:=mem_elems.1 h
 have hlat:=hF.lat i v (by omega) hi w
 unfold nb at hlat
 rw[hlat] at h2
 simp only[Bool.and_eq_true,decide_eq_true_eq] at h2
 apply Classical.byContradiction
 intro hc
 exact h2.2 (mem_take_iff.2 ⟨m,hm,by omega,h3⟩)
theorem later_in {v:Nat}(hv:v<g.length){x:Int}(h:x∈Ap (L.getD v 0)):∃m:Nat,∃hm:m<o.length,o[m]=x∧0≤x∧x<g.length:=by
 have hl:=ho.len
 obtain⟨i,h1,h2⟩:=DM ho hv
 obtain⟨w,_,h3,rfl⟩:=mem_elems.1 h
 have hlat:=hF.lat i v h1 h2 w
 unfold nb at hlat
 rw[hlat] at h3
 simp only[Bool.and_eq_true,decide_eq_true_eq] at h3
 have hw:=hF.f.lt v w hv h3.1
 obtain⟨m,h4,h5⟩:=DM ho hw
 obtain⟨h6,h7⟩:=List.getElem?_eq_some_iff.1 h5
 exact⟨m,h6,h7,by omega,by omega⟩
noncomputable def BX (o L:List Int)(i:Nat):List Int:=into (Ap (L.getD (o.getD i 0).toNat 0)) (o.getD i 0)
noncomputable def Cx (o L:List Int)(i:Nat):List Int:=BN (i:Int) ((nxt o (Ap (L.getD (o.getD i 0).toNat 0)) i:Nat):Int)
omit hg ho hF in
theorem D3 (i:Nat):Cx o L i=[(i:Int),((nxt o (Ap (L.getD (o.getD i 0).toNat 0)) i:Nat):Int)]:=by
 have:=nxt_gt o (Ap (L.getD (o.getD i 0).toNat 0)) i
 unfold Cx BN
 rw[show min (i:Int) ((nxt o (Ap (L.getD (o.getD i 0).toNat 0)) i:Nat):Int)=i by omega,show max (i:Int) ((nxt o (Ap (L.getD (o.getD i 0).toNat 0)) i:Nat):Int)=((nxt o (Ap (L.getD (o.getD i 0).toNat 0)) i:Nat):Int) by omega]
omit hg ho hF in
theorem nxt_le (l:List Int){i:Nat}(hi:i<o.length):nxt o l i≤o.length:=by
 have hk:=List.findIdx_le_length (p:=fun x=>decide (l=[])||decide (x∈l)) (xs:=o.drop (i+1))
 simp at hk
 unfold nxt;omega
theorem nxt_lt {i:Nat}(hi:i+1<o.length):nxt o (Ap (L.getD (o.getD i 0).toNat 0)) i<o.length:=by
 have hio:i<o.length:=by omega
 have hl:=ho.len
 have hr:=ho.rng _ (List.getElem_mem hio)
 obtain⟨v,hv⟩:∃v:Nat,o[i]=(v:Int):=⟨o[i].toNat,by omega⟩
 have hvn:v<g.length:=by omega
 have hd:o.getD i 0=(v:Int):=by rw[AD hio,hv]
 rw[hd,Int.toNat_natCast]
 have hin:=fun x hx=>later_in hg ho hF hvn (x:=x) hx
 have hps:=fun m hm hh=>later_pos hg ho hF (i:=i) (v:=v) (m:=m) (by rw[List.getElem?_eq_getElem hio,hv]) hm hh
 generalize Ap (L.getD v 0)=l at hin hps ⊢
 have:(o.drop (i+1)).findIdx (fun x=>decide (l=[])||decide (x∈l))<(o.drop (i+1)).length:=by
  rw[List.findIdx_lt_length]
  by_cases hn:l=[]
  ·exact⟨(o.drop (i+1))[0]'(by simp;omega),List.getElem_mem _,by simp[hn]⟩
  ·obtain⟨x,hx⟩:=List.exists_mem_of_ne_nil _ hn
   obtain⟨m,hm,hmx,_⟩:=hin x hx
   have hp:=hps m hm (by rw[hmx];exact hx)
   refine⟨x,?_,by simp[hx]⟩
   have:(o.drop (i+1))[m-(i+1)]'(by simp;omega)=x:=by
    rw[List.getElem_drop,←hmx];congr 1;omega
   rw[←this];exact List.getElem_mem _
 unfold nxt
 simp at this
 omega
theorem Fc {i:Nat}(hi:i<o.length):B7 (Cx o L i):=by
 have h1:=nxt_le (o:=o) (Ap (L.getD (o.getD i 0).toNat 0)) hi
 have h16:=hg.n16;have hl:=ho.len
 rw[D3]
 refine⟨rfl,?_⟩
 simp only[List.getD_cons_zero,List.getD_cons_succ]
 omega
theorem lnkD_le {i j:Nat}(hij:i<j)(hj:j<o.length):Bb (Cx o L i)≤Bb (Cx o L j):=by
 have h1:=nxt_le (o:=o) (Ap (L.getD (o.getD i 0).toNat 0)) (show i<o.length by omega)
 have h16:=hg.n16;have hl:=ho.len
 rw[D3,D3]
 unfold Bb
 simp only[List.getD_cons_zero,List.getD_cons_succ]
 omega
theorem bagD_mask {i v:Nat}(hi:i<o.length)(hv:o[i]=(v:Int))(hvn:v<g.length):Ap (ior .u32 (L.getD v 0) (ishl .u32 1 (v:Int)))=BX o L i:=by
 have h16:=hg.n16
 unfold BX
 rw[AD hi,hv,Int.toNat_natCast,into_elems' (hF.vsL v hvn) (by omega)]
theorem FJ :D.H g o=some ((List.range o.length).map (BX o L),(List.range (o.length-1)).map (Cx o L),true):=by
 have h16:=hg.n16;have hl:=ho.len;have hn1:=hg.n1
 unfold D.H
 rw[FQ g o hg.sh2 (ho.sh hg),gB_true hg,(ordB_iff g o).2 ho,Option.bind_some,Bool.and_self,Bool.not_true,cond_false,l7Later_eq hg ho hF,Option.bind_some]
 refine(Bx (fun i=>((i:Int),(List.range i).map (BX o L),(List.range (min i (o.length-1))).map (Cx o L))) o.length ((List.range o.length).map (BX o L),(List.range (o.length-1)).map (Cx o L)) (by simp) (fun i hi=> ?_) ?_).trans rfl
 ·have hr:=ho.rng _ (List.getElem_mem hi)
  obtain⟨v,hv⟩:∃v:Nat,o[i]=(v:Int):=⟨o[i].toNat,by omega⟩
  have hvn:v<g.length:=by omega
  have hvL:v<L.length:=by rw[hF.lenL];exact hvn
  have hd:o.getD i 0=(v:Int):=by rw[AD hi,hv]
  have he:=B2 L[v]
  have hsh:Sh (Ap L[v]):=by unfold Sh;omega
  have hgL:L.getD v 0=L[v]:=AD hvL 0
  simp only[dlt hi,cond_true,Ar hi,hv,Option.bind_some,Ar (show v<(L.map Ap).length by simpa using hvL),List.getElem_map,DP _ hsh,Dn _ _ (BJ _) (show (Ap L[v]).length≤4294967295 by omega)]
  rw[A4 (by simp;omega),Option.bind_some,wi (show i<4611686018427387904 by omega),to_loop o (Ap L[v]) hsh (by omega) i hi,Option.bind_some]
  have eb:BX o L i=into (Ap L[v]) (v:Int):=by unfold BX;rw[hd,Int.toNat_natCast,hgL]
  by_cases hlast:i+1<o.length
  ·have hx:=nxt_lt hg ho hF hlast
   have el:BN (i:Int) ((nxt o (Ap L[v]) i:Nat):Int)=Cx o L i:=by unfold Cx;rw[hd,Int.toNat_natCast,hgL]
   rw[hd,Int.toNat_natCast,hgL] at hx
   rw[dlt hx,cond_true,Ff (fun x hx=> ?_) (by rw[el];exact Fc hg ho hF hi) (by simp;omega),Option.bind_some,el,ins_last (fun x hx=> ?_)]
   ·rw[show min i (o.length-1)=i by omega,show min (i+1) (o.length-1)=i+1 by omega,List.range_succ,List.map_append,List.map_append,List.map_singleton,List.map_singleton,eb]
   ·obtain⟨j,hj,rfl⟩:=List.mem_map.1 hx
    have:=List.mem_range.1 hj
    exact lnkD_le hg ho hF (by omega) hi
   ·obtain⟨j,hj,rfl⟩:=List.mem_map.1 hx
    have:=List.mem_range.1 hj
    exact Fc hg ho hF (by omega)
  ·have hx:nxt o (Ap L[v]) i=o.length:=by
    have h1:=nxt_le (o:=o) (Ap L[v]) hi
    have h2:=nxt_gt o (Ap L[v]) i
    omega
   rw[hx,Ba,cond_false,show min i (o.length-1)=o.length-1 by omega,show min (i+1) (o.length-1)=o.length-1 by omega,List.range_succ,List.map_append,List.map_singleton,eb]
 ·simp only[Ba,cond_false]
  rw[show min o.length (o.length-1)=o.length-1 by omega]
theorem places_ok (l0:List Int)(hl0:l0.length=g.length):∃P,(An (σ:=(List Int)×Int) (ρ:=((List Int))) (fun(s_59:(List Int)×Int)=>match s_59 with|(l_62,x_65)=>cond (decide (x_65<(o.length:Int))) ((idx o x_65).bind fun e_86=>(idx l_62 e_86).bind fun e_92=>some (.inl ((l_62.set (Int.toNat e_86) x_65),(IntKind.i64.wrap (x_65+1))))) (some (.inr l_62))) (l0,0))=some P∧P.length=g.length∧∀i (h:i<o.length),P.getD (o[i]).toNat 0=(i:Int):=by
 have h16:=hg.n16;have hl:=ho.len
 have key:=AN (step:=(fun(s_59:(List Int)×Int)=>match s_59 with|(l_62,x_65)=>cond (decide (x_65<(o.length:Int))) ((idx o x_65).bind fun e_86=>(idx l_62 e_86).bind fun e_92=>some (.inl ((l_62.set (Int.toNat e_86) x_65),(IntKind.i64.wrap (x_65+1))))) (some (.inr l_62)))) (s:=(l0,0)) (k:=fun r=>some r) (Q:=fun P:List Int=>P.length=g.length∧∀i (h:i<o.length),P.getD (o[i]).toNat 0=(i:Int))
  (fun s=>∃i:Nat,s.2=(i:Int)∧i≤o.length∧s.1.length=g.length∧∀j (h:j<o.length),j<i→s.1.getD (o[j]).toNat 0=(j:Int)) (fun s=>o.length-s.2.toNat) (fun P=>P.length=g.length∧∀i (h:i<o.length),P.getD (o[i]).toNat 0=(i:Int)) ?_ ⟨0,rfl,by omega,hl0,fun j _ h=>by omega⟩ (fun r hr=>⟨r,rfl,hr⟩)
 ·obtain⟨y,hy,hq⟩:=key
  rw[Option.bind_eq_some_iff] at hy
  obtain⟨z,h1,h2⟩:=hy
  cases h2
  exact⟨_,h1,hq⟩
 ·rintro⟨P,_⟩ ⟨i,rfl,hi,hP,hPp⟩
  dsimp only at hP hPp ⊢
  by_cases hil:i<o.length
  ·have hr:=ho.rng _ (List.getElem_mem hil)
   obtain⟨v,hv⟩:∃v:Nat,o[i]=(v:Int):=⟨o[i].toNat,by omega⟩
   have hvn:v<g.length:=by omega
   simp only[dlt hil,cond_true,Ar hil,hv,Option.bind_some,Ar (show v<P.length by omega),Int.toNat_natCast,wi (show i<4611686018427387904 by omega)]
   refine⟨_,rfl,⟨i+1,rfl,hil,by simpa using hP,fun j hj hji=> ?_⟩,by dsimp only;omega⟩
   dsimp only
   rw[C3 _ _ _ _ (by omega)]
   have hrj:=ho.rng _ (List.getElem_mem hj)
   by_cases e:j=i
   ·subst e;rw[hv];simp
   ·rw[if_neg]
    ·exact hPp j hj (by omega)
    ·intro hc
     have:o[j]=o[i]:=by omega
     exact e (CD ho.nd hj hil this)
  ·obtain rfl:i=o.length:=by omega
   simp only[Ba,cond_false]
   exact⟨_,rfl,hP,fun j hj=>hPp j hj hj⟩
theorem least_ok {P l:List Int}{i:Nat}(hi:i<o.length)(hP:P.length=g.length)(hPp:∀i (h:i<o.length),P.getD (o[i]).toNat 0=(i:Int))(hl32:l.length≤32)
  (hin:∀x∈l,∃m:Nat,∃hm:m<o.length,o[m]=x∧0≤x∧x<g.length) (hpos:∀m (hm:m<o.length),o[m]∈l→i+1≤m):
  (An (σ:=Int×Int) (ρ:=(Int)) (fun(s_1068:Int×Int)=>match s_1068 with|(x_1071,x_1072)=>cond (decide (x_1072<(l.length:Int))) ((idx l x_1072).bind fun e_1115=>(cond (x_1072==0) (some true) ((idx P e_1115).bind fun e_1138=>some (decide (e_1138<x_1071)))).bind fun b_1136=>cond b_1136 ((idx P e_1115).bind fun e_1145=>some (.inl (e_1145,(IntKind.i64.wrap (x_1072+1))))) (some (.inl (x_1071,(IntKind.i64.wrap (x_1072+1)))))) (some (.inr x_1071))) (((i+1:Nat):Int),0))=some ((nxt o l i:Nat):Int):=by
 have key:=AN (step:=(fun(s_1068:Int×Int)=>match s_1068 with|(x_1071,x_1072)=>cond (decide (x_1072<(l.length:Int))) ((idx l x_1072).bind fun e_1115=>(cond (x_1072==0) (some true) ((idx P e_1115).bind fun e_1138=>some (decide (e_1138<x_1071)))).bind fun b_1136=>cond b_1136 ((idx P e_1115).bind fun e_1145=>some (.inl (e_1145,(IntKind.i64.wrap (x_1072+1))))) (some (.inl (x_1071,(IntKind.i64.wrap (x_1072+1)))))) (some (.inr x_1071)))) (s:=(((i+1:Nat):Int),0)) (k:=fun r=>some r) (Q:=fun x=>x=((nxt o l i:Nat):Int))
  (fun s=>∃k:Nat,s.2=(k:Int)∧k≤l.length∧(k=0→s.1=((i+1:Nat):Int))∧(0<k→∃m:Nat,s.1=(m:Int)∧(∃hm:m<o.length,o[m]∈l.take k)∧∀m' (hm':m'<o.length),o[m']∈l.take k→m≤m')) (fun s=>l.length-s.2.toNat) (fun x=>x=((nxt o l i:Nat):Int)) ?_ ⟨0,rfl,by omega,fun _=>rfl,fun h=>by omega⟩ (fun r hr=>⟨r,rfl,hr⟩)
 ·obtain⟨y,hy,hq⟩:=key
  rw[Option.bind_eq_some_iff] at hy
  obtain⟨z,h1,h2⟩:=hy
  cases h2
  rw[h1,hq]
 ·rintro⟨x,_⟩ ⟨k,rfl,hk,h0,h1⟩
  dsimp only at h0 h1 ⊢
  by_cases hkl:k<l.length
  ·obtain⟨m,hm,hmx,hx0,hxg⟩:=hin _ (List.getElem_mem hkl)
   have hidx:idx P l[k]=some (m:Int):=by
    rw[idx_int hx0 (by omega)]
    have:=hPp m hm
    rw[hmx,AD (by omega)] at this
    rw[this]
   have hnew:∀m' (hm':m'<o.length),o[m']∈l.take (k+1)→o[m']∈l.take k∨m'=m:=fun m' hm' hh=>by
    rw[List.take_succ_eq_append_getElem hkl,List.mem_append] at hh
    rcases hh with hh|hh
    ·exact .inl hh
    ·right
     simp at hh
     rw[←hmx] at hh
     exact CD ho.nd hm' hm hh
   have hmm:o[m]∈l.take (k+1):=by
    rw[List.take_succ_eq_append_getElem hkl,List.mem_append,hmx];right;simp
   simp only[dlt hkl,cond_true,Ar hkl,Option.bind_some,hidx,wi (show k<4611686018427387904 by omega)]
   rcases Nat.eq_zero_or_pos k with e|e
   ·subst e
    refine⟨.inl ((m:Int),((0+1:Nat):Int)),rfl,⟨1,rfl,by omega,fun h=>by omega,fun _=>⟨m,rfl,⟨hm,hmm⟩,fun m' hm' hh=> ?_⟩⟩,by dsimp only;omega⟩
    rcases hnew m' hm' hh with h|h
    ·simp at h
    ·omega
   ·have ek:(((k:Nat):Int)==0)=false:=by simp;omega
    obtain⟨q,rfl,⟨hq,hql⟩,hqm⟩:=h1 e
    rw[ek,cond_false,Option.bind_some]
    by_cases hlt:(m:Int)<(q:Int)
    ·rw[decide_eq_true hlt,cond_true]
     refine⟨_,rfl,⟨k+1,rfl,hkl,fun h=>by omega,fun _=>⟨m,rfl,⟨hm,hmm⟩,fun m' hm' hh=> ?_⟩⟩,by dsimp only;omega⟩
     rcases hnew m' hm' hh with h|h
     ·have:=hqm m' hm' h;omega
     ·omega
    ·rw[decide_eq_false hlt,cond_false]
     refine⟨_,rfl,⟨k+1,rfl,hkl,fun h=>by omega,fun _=>⟨q,rfl,⟨hq,?_⟩,fun m' hm' hh=> ?_⟩⟩,by dsimp only;omega⟩
     ·rw[List.take_succ_eq_append_getElem hkl,List.mem_append];exact .inl hql
     ·rcases hnew m' hm' hh with h|h
      ·exact hqm m' hm' h
      ·omega
  ·obtain rfl:k=l.length:=by omega
   simp only[Ba,cond_false]
   refine⟨_,rfl,?_⟩
   show x=_
   by_cases hn:l=[]
   ·subst hn
    rw[h0 rfl]
    unfold nxt
    cases hd:o.drop (i+1) with
    |nil=>simp
    |cons a t=>simp[List.findIdx_cons]
   ·obtain⟨m,rfl,⟨hm,hml⟩,hmin⟩:=h1 (List.length_pos_iff.2 hn)
    rw[List.take_length] at hml
    simp only[List.take_length] at hmin
    have hmp:=hpos m hm hml
    have:(o.drop (i+1)).findIdx (fun x=>decide (l=[])||decide (x∈l))=m-(i+1):=by
     rw[List.findIdx_eq (by simp;omega)]
     refine⟨?_,fun j hj=> ?_⟩
     ·have:(o.drop (i+1))[m-(i+1)]'(by simp;omega)=o[m]:=by
       rw[List.getElem_drop];congr 1;omega
      rw[this];simp[hml]
     ·rw[List.getElem_drop]
      simp only[hn,decide_false,Bool.false_or,decide_eq_false_iff_not]
      intro hh
      have:=hmin (i+1+j) (by omega) hh
      omega
    unfold nxt
    rw[this]
    omega
theorem FO :D.V (g.map mk) o=some ((List.range o.length).map (BX o L),(List.range (o.length-1)).map (Cx o L)):=by
 have h16:=hg.n16;have hl:=ho.len;have hn1:=hg.n1
 unfold D.V
 rw[hF.elim,Option.bind_some,CJ (by omega) (by omega),Option.bind_some]
 obtain⟨P,e1,hP,hPp⟩:=places_ok hg ho hF (List.replicate o.length 0) (by simpa using hl)
 rw[e1,Option.bind_some]
 have hsort:CI ((List.range (o.length-1)).map (Cx o L))=some ((List.range (o.length-1)).map (Cx o L)):=by
  refine sortRows_ok (by simp;omega) (fun x hx=> ?_) (List.Perm.refl _) ?_
  ·obtain⟨j,hj,rfl⟩:=List.mem_map.1 hx
   have:=List.mem_range.1 hj
   exact Fc hg ho hF (by omega)
  ·rw[List.pairwise_map]
   refine List.pairwise_lt_range.imp_of_mem (fun{a b} ha hb hab=> ?_)
   have:=List.mem_range.1 hb
   exact lnkD_le hg ho hF hab (by omega)
 refine(Bx (fun i=>((i:Int),(List.range i).map (BX o L),(List.range i).map (Cx o L))) (o.length-1) ((List.range o.length).map (BX o L),(List.range (o.length-1)).map (Cx o L)) (by simp) (fun i hi=> ?_) ?_).trans ?_
 ·have hio:i<o.length:=by omega
  have hr:=ho.rng _ (List.getElem_mem hio)
  obtain⟨v,hv⟩:∃v:Nat,o[i]=(v:Int):=⟨o[i].toNat,by omega⟩
  have hvn:v<g.length:=by omega
  have hvL:v<L.length:=by rw[hF.lenL];exact hvn
  have hd:o.getD i 0=(v:Int):=by rw[AD hio,hv]
  have hgL:L.getD v 0=L[v]:=AD hvL 0
  have hlast:(((i:Nat):Int)==IntKind.i64.wrap ((o.length:Int)-1))=false:=by
   rw[w64 (by omega) (by omega)];simp;omega
  have hvs:=hF.vsL v hvn
  have hbag:=bagD_mask hg ho hF hio hv hvn
  rw[hgL] at hvs hbag
  have he:=B2 L[v]
  simp only[dlt hio,cond_true,Ar hio,hv,Option.bind_some,Ar hvL,BR,DU _ (VS.ior _ _),hbag,hlast,cond_false,Dc _ hvs]
  rw[A4 (by simp;omega),Option.bind_some,wi (show i<4611686018427387904 by omega)]
  rw[least_ok hg ho hF hio hP hPp (by omega) (fun x hx=>later_in hg ho hF hvn (by rw[hgL];exact hx)) (fun m hm hh=>later_pos hg ho hF (i:=i) (v:=v) (by rw[List.getElem?_eq_getElem hio,hv]) hm (by rw[hgL];exact hh)),Option.bind_some,EV,Option.bind_some,A4 (by simp;omega),Option.bind_some]
  have el:BN (i:Int) ((nxt o (Ap L[v]) i:Nat):Int)=Cx o L i:=by unfold Cx;rw[hd,Int.toNat_natCast,hgL]
  rw[el,List.range_succ,List.map_append,List.map_append,List.map_singleton,List.map_singleton]
 ·have hio:o.length-1<o.length:=by omega
  have hr:=ho.rng _ (List.getElem_mem hio)
  obtain⟨v,hv⟩:∃v:Nat,o[o.length-1]=(v:Int):=⟨o[o.length-1].toNat,by omega⟩
  have hvn:v<g.length:=by omega
  have hvL:v<L.length:=by rw[hF.lenL];exact hvn
  have hgL:L.getD v 0=L[v]:=AD hvL 0
  have hlast:(((o.length-1:Nat):Int)==IntKind.i64.wrap ((o.length:Int)-1))=true:=by
   rw[w64 (by omega) (by omega)];simp;omega
  have hbag:=bagD_mask hg ho hF hio hv hvn
  rw[hgL] at hbag
  simp only[dlt hio,cond_true,Ar hio,hv,Option.bind_some,Ar hvL,BR,DU _ (VS.ior _ _),hbag,hlast]
  rw[A4 (by simp;omega),Option.bind_some]
  have:(List.range o.length).map (BX o L)=(List.range (o.length-1)).map (BX o L)++[BX o L (o.length-1)]:=by
   have e:o.length=(o.length-1)+1:=by omega
   conv=>lhs;rw[e,List.range_succ,List.map_append,List.map_singleton]
  rw[this]
 ·simp only[hsort,Option.bind_some]
theorem FK :D.P1 g o=some ((List.range o.length).map (BX o L),(List.range (o.length-1)).map (Cx o L),true):=by
 unfold D.P1
 rw[De hg ho,Option.bind_some,Bool.not_true,cond_false,Eo g hg,Option.bind_some,E5 o (ho.sh hg),Option.bind_some,FO hg ho hF,Option.bind_some]
end
end Go.Sx

namespace Go.Sx
theorem conn_up {links:List (List Int)}{sel:List Int}{n:Nat}(hr:∀x∈sel,∃i:Nat,x=i∧i<n)(p:Int)(hp:p∈sel)(hup:∀x∈sel,x≠p→∃y∈sel,x<y∧Lk links x y):Ds links sel:=by
 intro m hm
 have hs:∀x y,x∈sel→y∈sel→Lk links x y→(x∈m↔y∈m):=fun x y hx hy h=>
  ⟨fun hxm=>hm.step x hxm y hy h,fun hym=>hm.step y hym x hx (Or.elim h (fun h=>Or.inr h) (fun h=>Or.inl h))⟩
 have key:∀(k:Nat) (x:Int),x∈sel→n-x.toNat≤k→(x∈m↔p∈m):=by
  intro k
  induction k with
  |zero=>intro x hx hk;obtain⟨i,rfl,hi⟩:=hr x hx;omega
  |succ k ih=>
   intro x hx hk
   by_cases hxp:x=p
   ·rw[hxp]
   ·obtain⟨y,hy,hxy,hl⟩:=hup x hx hxp
    rw[hs x y hx hy hl]
    obtain⟨i,rfl,hi⟩:=hr x hx
    obtain⟨j,rfl,hj⟩:=hr y hy
    exact ih _ hy (by omega)
 have hpm:p∈m:=by
  cases hsel:sel with
  |nil=>rw[hsel] at hp;simp at hp
  |cons x0 t=>
   have h0:x0∈m:=hm.first x0 (by rw[hsel];rfl)
   exact(key n x0 (by rw[hsel];simp) (by omega)).1 h0
 exact fun x hx=>(key n x hx (by omega)).2 hpm
section
variable {g : List (List Int)} {o F L : List Int} (hg : GOk g) (ho : OOk g o) (hF : Fill g o F L)
include hg ho hF
theorem C6 {i v:Nat}(hi:i<o.length)(hv:o[i]=(v:Int)){w:Nat}:(w:Int)∈BX o L i↔w=v∨(nb F v w=true∧(w:Int)∉o.take (i+1)):=by
 have hl:=ho.len
 have hr:=ho.rng _ (List.getElem_mem hi)
 unfold BX
 rw[AD hi,hv,Int.toNat_natCast,mem_into,Be (hF.vsL v (by omega))]
 have:=hF.lat i v (by omega) (by rw[List.getElem?_eq_getElem hi,hv]) w
 unfold nb at this ⊢
 rw[this,Bool.and_eq_true,decide_eq_true_eq]
 constructor
 ·rintro(h|h)
  ·exact .inl (by omega)
  ·exact .inr h
 ·rintro(h|h)
  ·exact .inl (by rw[h])
  ·exact .inr h
theorem bagD_pos {i w:Nat}(hi:i<o.length)(h:(w:Int)∈BX o L i):∃m,∃hm:m<o.length,o[m]=(w:Int)∧i≤m:=by
 have hl:=ho.len
 have hr:=ho.rng _ (List.getElem_mem hi)
 obtain⟨v,hv⟩:∃v:Nat,o[i]=(v:Int):=⟨o[i].toNat,by omega⟩
 rcases(C6 hg ho hF hi hv).1 h with rfl|⟨h1,h2⟩
 ·exact⟨i,hi,hv,Nat.le_refl _⟩
 ·have hwn:=hF.f.lt v w (by omega) h1
  obtain⟨m,hm,e⟩:=DM ho hwn
  obtain⟨hm',e'⟩:=List.getElem?_eq_some_iff.1 e
  refine⟨m,hm',e',?_⟩
  apply Classical.byContradiction
  intro hc
  exact h2 (mem_take_iff.2 ⟨m,hm',by omega,e'⟩)
theorem nxt_first {i:Nat}(hi:i<o.length){w m:Nat}(hm:m<o.length)(e:o[m]=(w:Int))(him:i<m)(h:(w:Int)∈BX o L i):nxt o (Ap (L.getD (o.getD i 0).toNat 0)) i≤m∧∃hx:nxt o (Ap (L.getD (o.getD i 0).toNat 0)) i<o.length,o[nxt o (Ap (L.getD (o.getD i 0).toNat 0)) i]∈BX o L i:=by
 have hb:(w:Int)∈Ap (L.getD (o.getD i 0).toNat 0):=by
  unfold BX at h
  rcases mem_into.1 h with h|h
  ·have hr:=AD hi 0
   rw[hr] at h
   have:=CD ho.nd hm hi (by rw[e,h])
   omega
  ·exact h
 generalize hls:Ap (L.getD (o.getD i 0).toNat 0)=l at hb
 have hdl:(o.drop (i+1))[m-(i+1)]'(by simp;omega)=(w:Int):=by
  rw[List.getElem_drop,←e];congr 1;omega
 have h1:(o.drop (i+1)).findIdx (fun x=>decide (l=[])||decide (x∈l))≤m-(i+1):=by
  apply Classical.byContradiction
  intro hc
  have:=List.not_of_lt_findIdx (p:=fun x=>decide (l=[])||decide (x∈l)) (xs:=o.drop (i+1)) (i:=m-(i+1)) (by omega)
  rw[hdl] at this
  simp[hb] at this
 have h2:(o.drop (i+1)).findIdx (fun x=>decide (l=[])||decide (x∈l))<(o.drop (i+1)).length:=by simp;omega
 have h3:=List.findIdx_getElem (w:=h2)
 have hne:l≠[]:=fun e=>by rw[e] at hb;simp at hb
 rw[Bool.or_eq_true,decide_eq_true_eq,decide_eq_true_eq] at h3
 have h3:=h3.resolve_left hne
 rw[List.getElem_drop] at h3
 unfold nxt
 refine⟨by omega,by omega,?_⟩
 unfold BX
 rw[hls]
 exact mem_into.2 (.inr h3)
theorem bagD_next {i w m:Nat}(hi:i<o.length)(hm:m<o.length)(e:o[m]=(w:Int))(him:i<m)(h:(w:Int)∈BX o L i):∃j,j<o.length∧i<j∧i+1<o.length∧Cx o L i=[(i:Int),(j:Int)]∧(w:Int)∈BX o L j:=by
 have hl:=ho.len
 obtain⟨h1,h2,h3⟩:=nxt_first hg ho hF hi hm e him h
 have hgt:=nxt_gt o (Ap (L.getD (o.getD i 0).toNat 0)) i
 refine⟨nxt o (Ap (L.getD (o.getD i 0).toNat 0)) i,h2,hgt,by omega,D3 i,?_⟩
 generalize nxt o (Ap (L.getD (o.getD i 0).toNat 0)) i=j at*
 have hri:=ho.rng _ (List.getElem_mem hi);have hrj:=ho.rng _ (List.getElem_mem h2)
 obtain⟨v,hv⟩:∃v:Nat,o[i]=(v:Int):=⟨o[i].toNat,by omega⟩
 obtain⟨u,hu⟩:∃u:Nat,o[j]=(u:Int):=⟨o[j].toNat,by omega⟩
 rw[hu] at h3
 by_cases hjm:j=m
 ·subst hjm
  rw[C6 hg ho hF h2 hu]
  left;omega
 ·have hnp:∀{a b:Nat} {x:Nat} (hb:b<o.length),o[b]=(x:Int)→a≤b→(x:Int)∉o.take a:=by
   intro a b x hb ex hab hc
   obtain⟨c,hc1,hc2,hc3⟩:=mem_take_iff.1 hc
   have:=CD ho.nd hc1 hb (by rw[hc3,ex])
   omega
  have hwv:w≠v:=fun e2=>by
   have:=CD ho.nd hm hi (by rw[e,hv,e2]);omega
  have huv:u≠v:=fun e2=>by
   have:=CD ho.nd h2 hi (by rw[hu,hv,e2]);omega
  have huw:u≠w:=fun e2=>hjm (CD ho.nd h2 hm (by rw[hu,e,e2]))
  have hw1:nb F v w=true:=by
   rcases(C6 hg ho hF hi hv).1 h with h|h
   ·exact absurd h hwv
   ·exact h.1
  have hu1:nb F v u=true:=by
   rcases(C6 hg ho hF hi hv).1 h3 with h|h
   ·exact absurd h huv
   ·exact h.1
  have hp:=hF.peo i v u w (by rw[List.getElem?_eq_getElem hi,hv]) hu1 hw1 (hnp h2 hu (by omega)) (hnp hm e (by omega)) huw
  exact(C6 hg ho hF h2 hu).2 (.inr ⟨hp,hnp hm e (by omega)⟩)
theorem DecompBy_TB :TB g ((List.range o.length).map (BX o L)) ((List.range (o.length-1)).map (Cx o L)):=by
 have hl:=ho.len;have hn1:=hg.n1;have hn16:=hg.n16
 have hbl:((List.range o.length).map (BX o L)).length=o.length:=by simp
 have hbg:∀i,i<o.length→((List.range o.length).map (BX o L)).getD i []=BX o L i:=fun i hi=>by rw[AD (by simpa using hi)];simp
 have hlk:∀i,i+1<o.length→Cx o L i∈(List.range (o.length-1)).map (Cx o L):=fun i hi=>List.mem_map.2 ⟨i,List.mem_range.2 (by omega),rfl⟩
 have hwith:∀(v:Nat) (x:Int),x∈Cn ((List.range o.length).map (BX o L)) (v:Int)↔∃b:Nat,x=b∧b<o.length∧(v:Int)∈BX o L b:=fun v x=>by
  rw[mem_withV,hbl]
  constructor
  ·rintro⟨b,h1,h2,h3⟩;rw[hbg b h2] at h3;exact⟨b,h1,h2,h3⟩
  ·rintro⟨b,h1,h2,h3⟩;exact⟨b,h1,h2,by rw[hbg b h2];exact h3⟩
 have hself:∀(p v:Nat) (hp:p<o.length),o[p]=(v:Int)→(v:Int)∈BX o L p:=fun p v hp e=>(C6 hg ho hF hp e).2 (.inl rfl)
 refine⟨by omega,by omega,by simp;omega,fun l h=> ?_,fun b h=> ?_,?_,fun u v hu ha=> ?_,fun v hv=> ?_,fun v hv=> ?_⟩
 ·obtain⟨i,hi,rfl⟩:=List.mem_map.1 h
  have hi:=List.mem_range.1 hi
  have:=nxt_lt hg ho hF (show i+1<o.length by omega)
  have:=nxt_gt o (Ap (L.getD (o.getD i 0).toNat 0)) i
  exact⟨i,_,D3 i,by omega,by omega⟩
 ·obtain⟨i,hi,rfl⟩:=List.mem_map.1 h
  have hi:=List.mem_range.1 hi
  have hr:=ho.rng _ (List.getElem_mem hi)
  refine⟨(BJ _).into _,fun x hx=> ?_⟩
  have hx0:0≤x:=by
   unfold BX at hx
   rcases mem_into.1 hx with hx|hx
   ·rw[hx,AD hi];omega
   ·obtain⟨w,_,_,rfl⟩:=mem_elems.1 hx;omega
  obtain⟨m,hm,e,_⟩:=bagD_pos hg ho hF hi (w:=x.toNat) (by rw[show ((x.toNat:Nat):Int)=x by omega];exact hx)
  have:=ho.rng _ (List.getElem_mem hm)
  omega
 ·rw[hbl]
  refine conn_up (n:=o.length) (fun x hx=> ?_) ((o.length-1:Nat):Int) (List.mem_map.2 ⟨o.length-1,List.mem_range.2 (by omega),rfl⟩) (fun x hx hne=> ?_)
  ·obtain⟨i,hi,rfl⟩:=List.mem_map.1 hx
   exact⟨i,rfl,List.mem_range.1 hi⟩
  ·obtain⟨i,hi,rfl⟩:=List.mem_map.1 hx
   have hi:=List.mem_range.1 hi
   have hi2:i+1<o.length:=by
    apply Classical.byContradiction
    intro hc
    exact hne (by show (i:Int)=_;congr 1;omega)
   have h1:=nxt_lt hg ho hF hi2
   have h2:=nxt_gt o (Ap (L.getD (o.getD i 0).toNat 0)) i
   refine⟨_,List.mem_map.2 ⟨_,List.mem_range.2 h1,rfl⟩,?_,.inl ?_⟩
   ·show (i:Int)<((_:Nat):Int)
    omega
   ·have:=hlk i hi2
    rw[D3] at this
    exact this
 ·have hv:=hg.lt hu ha
  obtain⟨p,hp,ep⟩:=DM ho hu
  obtain⟨q,hq,eq⟩:=DM ho hv
  obtain⟨hp',ep'⟩:=List.getElem?_eq_some_iff.1 ep
  obtain⟨hq',eq'⟩:=List.getElem?_eq_some_iff.1 eq
  have hne:u≠v:=fun e=>hg.irr u hu (by rw[e] at ha ⊢;exact ha)
  have hmn:=hF.mono u v hu ha
  have hmn2:=hF.f.sym u v hu hmn
  have hbm:∀i,i<o.length→BX o L i∈(List.range o.length).map (BX o L):=fun i hi=>List.mem_map.2 ⟨i,List.mem_range.2 hi,rfl⟩
  have hnp:∀{a b:Nat} {x:Nat} (hb:b<o.length),o[b]=(x:Int)→a≤b→(x:Int)∉o.take a:=by
   intro a b x hb ex hab hc
   obtain⟨c,hc1,hc2,hc3⟩:=mem_take_iff.1 hc
   have:=CD ho.nd hc1 hb (by rw[hc3,ex])
   omega
  rcases Nat.lt_trichotomy p q with c|c|c
  ·exact⟨_,hbm p hp',hself p u hp' ep',(C6 hg ho hF hp' ep').2 (.inr ⟨hmn,hnp hq' eq' (by omega)⟩)⟩
  ·subst c;rw[ep'] at eq';omega
  ·exact⟨_,hbm q hq',(C6 hg ho hF hq' eq').2 (.inr ⟨hmn2,hnp hp' ep' (by omega)⟩),hself q v hq' eq'⟩
 ·obtain⟨p,hp,ep⟩:=DM ho hv
  obtain⟨hp',ep'⟩:=List.getElem?_eq_some_iff.1 ep
  intro hc
  have:=(hwith v p).2 ⟨p,rfl,hp',hself p v hp' ep'⟩
  rw[hc] at this
  simp at this
 ·obtain⟨p,hp,ep⟩:=DM ho hv
  obtain⟨hp',ep'⟩:=List.getElem?_eq_some_iff.1 ep
  refine conn_up (n:=o.length) (fun x hx=> ?_) (p:Int) ((hwith v p).2 ⟨p,rfl,hp',hself p v hp' ep'⟩) (fun x hx hne=> ?_)
  ·obtain⟨b,rfl,hb,_⟩:=(hwith v x).1 hx
   exact⟨b,rfl,hb⟩
  ·obtain⟨b,rfl,hb,hvb⟩:=(hwith v x).1 hx
   obtain⟨m,hm,em,hbm⟩:=bagD_pos hg ho hF hb hvb
   have hmp:m=p:=CD ho.nd hm hp' (by rw[em,ep'])
   subst hmp
   have hbp:b≠m:=fun e=>hne (by rw[e])
   obtain⟨j,hj,hbj,hb1,hlj,hvj⟩:=bagD_next hg ho hF hb hm em (by omega) hvb
   refine⟨(j:Int),(hwith v j).2 ⟨j,rfl,hj,hvj⟩,by omega,.inl ?_⟩
   have:=hlk b hb1
   rw[hlj] at this
   exact this
end
end Go.Sx

namespace Go.Sx
theorem Lk.symm {links:List (List Int)}{x y:Int}(h:Lk links x y):Lk links y x:=Or.elim h (fun h=>Or.inr h) (fun h=>Or.inl h)
theorem conn_iff {links:List (List Int)}{sel:List Int}:Ds links sel↔∀T:Int→Prop,(∃x∈sel,T x)→(∀x y,x∈sel→y∈sel→T x→Lk links x y→T y)→∀x∈sel,T x:=by
 constructor
 ·intro h T ⟨x0,hx0,hT⟩ hs
  classical
  have hall:∀U:Int→Prop,(∀x,sel.head? =some x→U x)→(∀x y,x∈sel→y∈sel→U x→Lk links x y→U y)→∀x∈sel,U x:=fun U h1 h2 x hx=>by
   have:=h (sel.filter fun z=>decide (U z)) ⟨fun z hz=>(List.mem_filter.1 hz).1,fun z hz=>List.mem_filter.2 ⟨List.mem_of_mem_head? hz,decide_eq_true (h1 z hz)⟩,fun a ha b hb hl=>by
    have ha:=List.mem_filter.1 ha
    exact List.mem_filter.2 ⟨hb,decide_eq_true (h2 a b ha.1 hb (of_decide_eq_true ha.2) hl)⟩⟩ x hx
   exact of_decide_eq_true (List.mem_filter.1 this).2
  cases hsel:sel with
  |nil=>intro x hx;simp at hx
  |cons z t=>
   rw[←hsel]
   have hz:T z:=by
    apply Classical.byContradiction
    intro hc
    have:=hall (fun x=>¬T x) (fun x hx=>by rw[hsel] at hx;simp at hx;rw[←hx];exact hc) (fun a b ha hb hna hl hTb=>hna (hs b a hb ha hTb hl.symm)) x0 hx0
    exact this hT
   exact hall T (fun x hx=>by rw[hsel] at hx;simp at hx;rw[←hx];exact hz) hs
 ·intro h m hm x hx
  cases hsel:sel with
  |nil=>rw[hsel] at hx;simp at hx
  |cons z t=>
   exact h (fun z=>z∈m) ⟨z,by rw[hsel];simp,hm.first z (by rw[hsel];rfl)⟩ (fun a b _ hb ha hl=>hm.step a ha b hb hl) x hx
theorem conn_map {K K':List (List Int)}{sel sel':List Int}(φ:Int→Int)(h:Ds K sel)(h1:∀x∈sel,φ x∈sel')(h2:∀y∈sel',∃x∈sel,φ x=y)(h3:∀x y,x∈sel→y∈sel→Lk K x y→φ x=φ y∨Lk K' (φ x) (φ y)):Ds K' sel':=by
 rw[conn_iff] at h ⊢
 intro T ⟨y0,hy0,hT⟩ hs y hy
 obtain⟨x0,hx0,rfl⟩:=h2 y0 hy0
 obtain⟨x,hx,rfl⟩:=h2 y hy
 refine h (fun z=>T (φ z)) ⟨x0,hx0,hT⟩ (fun a b ha hb hTa hl=> ?_) x hx
 rcases h3 a b ha hb hl with e|e
 ·rw[←e];exact hTa
 ·exact hs _ _ (h1 a ha) (h1 b hb) hTa e
theorem countP_lt {α:Type}{p q:α→Bool}:∀{l:List α},(∀x∈l,p x=true→q x=true)→(∃x∈l,q x=true∧p x=false)→l.countP p+1≤l.countP q
 |[],_,h=>by obtain⟨x,hx,_⟩:=h;simp at hx
 |a::l,h1,h2=>by
  have hm:l.countP p≤l.countP q:=List.countP_mono_left fun x hx=>h1 x (List.mem_cons_of_mem _ hx)
  obtain⟨x,hx,hq,hp⟩:=h2
  rw[List.countP_cons,List.countP_cons]
  rcases List.mem_cons.1 hx with rfl|hx
  ·rw[hq,hp];simp;omega
  ·have:=countP_lt (fun x hx=>h1 x (List.mem_cons_of_mem _ hx)) ⟨x,hx,hq,hp⟩
   have h3:=h1 a (List.mem_cons_self ..)
   cases hpa:p a
   ·cases q a<;>simp<;>omega
   ·rw[h3 hpa];simp;omega
theorem conn_many {links:List (List Int)}{sel:List Int}(hn:sel.Nodup)(h:Ds links sel):sel.length≤links.length+1:=by
 rw[conn_iff] at h
 have key:∀k,k+1≤sel.length→∃T:List Int,T.Nodup∧(∀x∈T,x∈sel)∧T.length=k+1∧k≤links.countP (fun l=>decide (l.getD 0 0∈T)&&decide (l.getD 1 0∈T)):=by
  intro k
  induction k with
  |zero=>
   intro hk
   have hs:0<sel.length:=by omega
   exact⟨[sel[0]],by simp,fun x hx=>by simp at hx;rw[hx];exact List.getElem_mem hs,rfl,by omega⟩
  |succ k ih=>
   intro hk
   obtain⟨T,hT1,hT2,hT3,hT4⟩:=ih (by omega)
   have hex:∃x y,x∈T∧y∈sel∧y∉T∧Lk links x y:=by
    apply Classical.byContradiction
    intro hc
    have hall:=h (fun z=>z∈T) ⟨T[0]'(by omega),hT2 _ (List.getElem_mem _),List.getElem_mem _⟩ (fun x y _ hy hx hl=>by
     apply Classical.byContradiction
     intro hy2
     exact hc ⟨x,y,hx,hy,hy2,hl⟩)
    have:=Cw hn hall
    omega
   obtain⟨x,y,hx,hy,hyT,hl⟩:=hex
   refine⟨y::T,List.nodup_cons.2 ⟨hyT,hT1⟩,fun z hz=> ?_,by simp[hT3],?_⟩
   ·rcases List.mem_cons.1 hz with rfl|hz
    ·exact hy
    ·exact hT2 z hz
   ·refine Nat.le_trans (Nat.succ_le_succ hT4) (countP_lt (fun l _ hl=> ?_) ?_)
    ·simp only[Bool.and_eq_true,decide_eq_true_eq] at hl ⊢
     exact⟨List.mem_cons_of_mem _ hl.1,List.mem_cons_of_mem _ hl.2⟩
    ·rcases hl with hl|hl
     ·exact⟨[x,y],hl,by simp[hx],by simp[hyT]⟩
     ·exact⟨[y,x],hl,by simp[hx],by simp[hyT]⟩
 cases hs:sel.length with
 |zero=>omega
 |succ k=>
  obtain⟨T,_,_,_,h4⟩:=key k (by omega)
  have:=List.countP_le_length (p:=fun l:List Int=>decide (l.getD 0 0∈T)&&decide (l.getD 1 0∈T)) (l:=links)
  omega
theorem conn_perm {K K':List (List Int)}{sel:List Int}(h:Ds K sel)(hp:∀x y,Lk K x y→Lk K' x y):Ds K' sel:=
 conn_map id h (fun x hx=>hx) (fun y hy=>⟨y,hy,rfl⟩) (fun x y _ _ hl=> .inr (hp x y hl))
theorem TB.perm {g B K K':List (List Int)}(h:TB g B K)(p:K'.Perm K):TB g B K':=by
 have hl:∀x y,Lk K x y→Lk K' x y:=fun x y hl=>Or.elim hl (fun h=>Or.inl (p.mem_iff.2 h)) (fun h=>Or.inr (p.mem_iff.2 h))
 exact⟨h.n1,h.n16,by rw[p.length_eq];exact h.many,fun l hl'=>h.lks l (p.mem_iff.1 hl'),h.sets,conn_perm h.tree hl,h.edges,h.some,fun v hv=>conn_perm (h.conn v hv) hl⟩
def phi (g k:Nat)(x:Nat):Nat:=if g<(if x=g then k else x) then(if x=g then k else x)-1 else(if x=g then k else x)
theorem Fk (g k x:Nat):ren (g:Int) (k:Int) (x:Int)=((phi g k x:Nat):Int):=by
 unfold ren phi
 by_cases h:x=g
 ·simp only[h,if_true]
  by_cases h2:g<k
  ·rw[if_pos (by omega),if_pos h2];omega
  ·rw[if_neg (by omega),if_neg h2]
 ·rw[if_neg (show¬(x:Int)=g by omega),if_neg h]
  by_cases h2:g<x
  ·rw[if_pos (by omega),if_pos h2];omega
  ·rw[if_neg (by omega),if_neg h2]
theorem phi_lt {n g k x:Nat}(hg:g<n)(hk:k<n)(hgk:g≠k)(hx:x<n):phi g k x<n-1:=by
 unfold phi
 by_cases h:x=g
 ·simp only[h,if_true]
  by_cases h2:g<k
  ·rw[if_pos h2];omega
  ·rw[if_neg h2];omega
 ·simp only[h,if_false]
  by_cases h2:g<x
  ·rw[if_pos h2];omega
  ·rw[if_neg h2];omega
theorem phi_gk {g k:Nat}(hgk:g≠k):phi g k g=phi g k k:=by
 unfold phi;simp[hgk.symm]
theorem phi_ex {n g k y:Nat}(hg:g<n)(hy:y<n-1):∃x,x<n∧x≠g∧phi g k x=y:=by
 by_cases h:y<g
 ·exact⟨y,by omega,by omega,by unfold phi;rw[if_neg (show¬y=g by omega),if_neg (by omega)]⟩
 ·exact⟨y+1,by omega,by omega,by unfold phi;rw[if_neg (show¬y+1=g by omega),if_pos (by omega)];omega⟩
theorem Fm {M:List Int}{g k x:Nat}(hg:g<M.length)(hx:x<M.length)(hxg:x≠g):(M.eraseIdx g).getD (phi g k x) 0=M.getD x 0:=by
 unfold phi
 rw[if_neg hxg,List.getD_eq_getElem?_getD,List.getD_eq_getElem?_getD,List.getElem?_eraseIdx]
 by_cases h:g<x
 ·rw[if_pos h,if_neg (by omega)];congr 2;omega
 ·rw[if_neg h,if_pos (by omega)]
theorem prt_has {s t:Int}(hs:VS s)(ht:VS t)(h:prt s t=true){v:Nat}(hv:has s v=true):has t v=true:=by
 unfold prt at h
 rw[beq_iff_eq] at h
 have:=congrArg (fun z=>has z v) h
 rw[Bd hs ht,Cy,hv] at this
 simpa using this
section
variable {G : List (List Int)} {M : List Int} {K : List (List Int)} (h : TS M K) (hT : TB G (M.map Ap) K) {g k : Nat} (hg : g < M.length) (hk : k < M.length) (hgk : g ≠ k)
include h hT hg hk hgk
theorem lnk_of {a b:Nat}(ha:a<M.length)(hb:b<M.length)(hl:Lk K (a:Int) (b:Int)):phi g k a=phi g k b∨Lk ((B4 g k K).mergeSort BM) ((phi g k a:Nat):Int) ((phi g k b:Nat):Int):=by
 by_cases he:phi g k a=phi g k b
 ·exact .inl he
 ·right
  have hm:∀l,lnk (g:Int) (k:Int) l=some (BN ((phi g k a:Nat):Int) ((phi g k b:Nat):Int))→l∈K→Lk ((B4 g k K).mergeSort BM) ((phi g k a:Nat):Int) ((phi g k b:Nat):Int):=fun l e hl=>by
   have hin:BN ((phi g k a:Nat):Int) ((phi g k b:Nat):Int)∈(B4 g k K).mergeSort BM:=(BC _).mem_iff.2 (List.mem_filterMap.2 ⟨l,hl,e⟩)
   unfold BN at hin
   rcases Nat.lt_or_ge (phi g k a) (phi g k b) with c|c
   ·rw[Int.min_eq_left (by omega),Int.max_eq_right (by omega)] at hin;exact .inl hin
   ·rw[Int.min_eq_right (by omega),Int.max_eq_left (by omega)] at hin;exact .inr hin
  rcases hl with hl|hl
  ·refine hm _ ?_ hl
   unfold lnk
   simp only[List.getD_cons_zero,List.getD_cons_succ,Fk]
   rw[if_neg (by omega)]
  ·refine hm _ ?_ hl
   unfold lnk
   simp only[List.getD_cons_zero,List.getD_cons_succ,Fk]
   rw[if_neg (by omega)]
   unfold BN
   rw[Int.min_comm,Int.max_comm]
theorem merge_TB (hsub:∀v,has (M.getD g 0) v=true→has (M.getD k 0) v=true)(hl:Lk K (g:Int) (k:Int)):TB G ((M.eraseIdx g).map Ap) ((B4 g k K).mergeSort BM):=by
 have hml:(M.eraseIdx g).length=M.length-1:=by rw[List.length_eraseIdx,if_pos hg]
 have hTS:=h.merge hg hk hgk
 have hM:M.length=K.length+1:=by have:=hT.many;simpa using this.symm
 have hmem:∀i (hi:i<M.length) (v:Nat),(v:Int)∈(M.map Ap).getD i []↔has (M.getD i 0) v=true:=fun i hi v=>by
  rw[AD (by simpa using hi),List.getElem_map,AD hi,Be (h.vs _ (List.getElem_mem hi))]
 have hmem':∀i (hi:i<M.length-1) (v:Nat),(v:Int)∈((M.eraseIdx g).map Ap).getD i []↔has ((M.eraseIdx g).getD i 0) v=true:=fun i hi v=>by
  rw[AD (by simp;omega),List.getElem_map,AD (by omega),Be (hTS.vs _ (List.getElem_mem _))]
 have hphi:∀x v,x<M.length→has (M.getD x 0) v=true→has ((M.eraseIdx g).getD (phi g k x) 0) v=true:=fun x v hx hv=>by
  by_cases hxg:x=g
  ·subst hxg
   rw[phi_gk hgk,Fm hg hk hgk.symm];exact hsub v hv
  ·rw[Fm hg hx hxg];exact hv
 have hwith:∀(v:Nat) (x:Int),x∈Cn (M.map Ap) (v:Int)↔∃b:Nat,x=b∧b<M.length∧has (M.getD b 0) v=true:=fun v x=>by
  rw[mem_withV,List.length_map]
  constructor
  ·rintro⟨b,h1,h2,h3⟩;exact⟨b,h1,h2,(hmem b h2 v).1 h3⟩
  ·rintro⟨b,h1,h2,h3⟩;exact⟨b,h1,h2,(hmem b h2 v).2 h3⟩
 have hwith':∀(v:Nat) (x:Int),x∈Cn ((M.eraseIdx g).map Ap) (v:Int)↔∃b:Nat,x=b∧b<M.length-1∧has ((M.eraseIdx g).getD b 0) v=true:=fun v x=>by
  rw[mem_withV,List.length_map,hml]
  constructor
  ·rintro⟨b,h1,h2,h3⟩;exact⟨b,h1,h2,(hmem' b h2 v).1 h3⟩
  ·rintro⟨b,h1,h2,h3⟩;exact⟨b,h1,h2,(hmem' b h2 v).2 h3⟩
 have htree:Ds ((B4 g k K).mergeSort BM) ((List.range ((M.eraseIdx g).map Ap).length).map Int.ofNat):=by
  have ht:=hT.tree
  rw[List.length_map] at ht ⊢
  rw[hml]
  refine conn_map (fun x=>((phi g k x.toNat:Nat):Int)) ht (fun x hx=> ?_) (fun y hy=> ?_) (fun x y hx hy hxy=> ?_)
  ·obtain⟨i,hi,rfl⟩:=List.mem_map.1 hx
   exact List.mem_map.2 ⟨_,List.mem_range.2 (phi_lt hg hk hgk (List.mem_range.1 hi)),rfl⟩
  ·obtain⟨j,hj,rfl⟩:=List.mem_map.1 hy
   obtain⟨x,hx,_,e⟩:=phi_ex (k:=k) hg (List.mem_range.1 hj)
   exact⟨(x:Int),List.mem_map.2 ⟨x,List.mem_range.2 hx,rfl⟩,by rw[Int.toNat_natCast,e];rfl⟩
  ·obtain⟨i,hi,rfl⟩:=List.mem_map.1 hx
   obtain⟨j,hj,rfl⟩:=List.mem_map.1 hy
   rcases lnk_of h hT hg hk hgk (List.mem_range.1 hi) (List.mem_range.1 hj) hxy with e|e
   ·left;show ((phi g k i:Nat):Int)=((phi g k j:Nat):Int);rw[e]
   ·right;exact e
 refine⟨by rw[List.length_map,hml];omega,by rw[List.length_map];exact hTS.n16,?_,by rw[List.length_map];exact hTS.lk,fun b hb=> ?_,htree,fun u v hu ha=> ?_,fun v hv=> ?_,fun v hv=> ?_⟩
 ·rw[List.length_map,hml]
  have hnd:((List.range ((M.eraseIdx g).map Ap).length).map Int.ofNat).Nodup:=by
   unfold List.Nodup
   rw[List.pairwise_map]
   exact List.Pairwise.imp (fun{a b} h e=>by have:(a:Int)=(b:Int):=e;omega) List.pairwise_lt_range
  have h1:=conn_many hnd htree
  rw[List.length_map,List.length_range,List.length_map,hml] at h1
  have h2:(B4 g k K).length+1≤K.length:=by
   have hle:∀L:List (List Int),(∃l∈L,lnk (g:Int) (k:Int) l=none)→(L.filterMap (lnk (g:Int) (k:Int))).length+1≤L.length:=by
    intro L
    induction L with
    |nil=>rintro⟨l,hl,_⟩;simp at hl
    |cons a L ih=>
     rintro⟨l,hl,e⟩
     rcases List.mem_cons.1 hl with rfl|hl
     ·rw[List.filterMap_cons_none e]
      have:=List.length_filterMap_le (lnk (g:Int) (k:Int)) L
      simp only[List.length_cons];omega
     ·have:=ih ⟨l,hl,e⟩
      cases ha:lnk (g:Int) (k:Int) a with
      |none=>rw[List.filterMap_cons_none ha];simp only[List.length_cons];omega
      |some r=>rw[List.filterMap_cons_some ha];simp only[List.length_cons];omega
   refine hle K ?_
   rcases hl with hl|hl
   ·exact⟨_,hl,by unfold lnk;simp only[List.getD_cons_zero,List.getD_cons_succ,Fk];rw[if_pos (by rw[phi_gk hgk])]⟩
   ·exact⟨_,hl,by unfold lnk;simp only[List.getD_cons_zero,List.getD_cons_succ,Fk];rw[if_pos (by rw[phi_gk hgk])]⟩
  have h3:=(BC (B4 g k K)).length_eq
  rw[h3] at h1 ⊢
  omega
 ·obtain⟨s,hs,rfl⟩:=List.mem_map.1 hb
  exact hT.sets _ (List.mem_map.2 ⟨s,List.mem_of_mem_eraseIdx hs,rfl⟩)
 ·obtain⟨b,hb,hub,hvb⟩:=hT.edges u v hu ha
  obtain⟨i,hi,rfl⟩:=List.getElem_of_mem hb
  have hi':i<M.length:=by simpa using hi
  rw[←AD hi [],hmem i hi'] at hub hvb
  have hp:=phi_lt hg hk hgk hi'
  refine⟨((M.eraseIdx g).map Ap).getD (phi g k i) [],?_,(hmem' _ hp u).2 (hphi i u hi' hub),(hmem' _ hp v).2 (hphi i v hi' hvb)⟩
  rw[AD (by simp;omega)]
  exact List.getElem_mem _
 ·obtain⟨x,hx⟩:=List.exists_mem_of_ne_nil _ (hT.some v hv)
  obtain⟨b,rfl,hb,hvb⟩:=(hwith v x).1 hx
  intro hc
  have:=(hwith' v _).2 ⟨_,rfl,phi_lt hg hk hgk hb,hphi b v hb hvb⟩
  rw[hc] at this
  simp at this
 ·refine conn_map (fun x=>((phi g k x.toNat:Nat):Int)) (hT.conn v hv) (fun x hx=> ?_) (fun y hy=> ?_) (fun x y hx hy hxy=> ?_)
  ·obtain⟨b,rfl,hb,hvb⟩:=(hwith v x).1 hx
   exact(hwith' v _).2 ⟨_,rfl,phi_lt hg hk hgk hb,hphi b v hb hvb⟩
  ·obtain⟨b,rfl,hb,hvb⟩:=(hwith' v y).1 hy
   obtain⟨x,hx,hxg,e⟩:=phi_ex (k:=k) hg hb
   refine⟨(x:Int),(hwith v _).2 ⟨x,rfl,hx,?_⟩,by rw[Int.toNat_natCast,e]⟩
   rw[←e,Fm hg hx hxg] at hvb
   exact hvb
  ·obtain⟨a,rfl,ha,_⟩:=(hwith v x).1 hx
   obtain⟨b,rfl,hb,_⟩:=(hwith v y).1 hy
   rcases lnk_of h hT hg hk hgk ha hb hxy with e|e
   ·left;rw[Int.toNat_natCast,Int.toNat_natCast,e]
   ·right;exact e
end
structure Kept (G:List (List Int))(M0:List Int)(M:List Int)(K:List (List Int)):Prop where
 tb:TB G (M.map Ap) K
 len:M.length≤M0.length
 old:∀s∈M,s∈M0
 sup:∀s∈M0,∃t∈M,∀v,has s v=true→has t v=true
theorem spare_link {M:List Int}{K:List (List Int)}(h:TS M K){g k:Nat}(e:Ck M K=some (g,k)):Lk K (g:Int) (k:Int)∧prt (M.getD g 0) (M.getD k 0)=true:=by
 obtain⟨i,hi,e2⟩:=List.exists_of_findSome?_eq_some e
 have hi':=List.mem_range.1 hi
 rw[AD hi'] at e2
 obtain⟨a,b,el,hab,hb⟩:=h.lk _ (List.getElem_mem hi')
 have hm:=List.getElem_mem hi'
 rw[el] at e2 hm
 unfold Dh at e2
 simp only[List.getD_cons_zero,List.getD_cons_succ,Int.toNat_natCast] at e2
 split at e2
 ·rename_i h1;cases e2;exact⟨.inr hm,h1⟩
 ·split at e2
  ·rename_i h1;cases e2;exact⟨.inl hm,h1⟩
  ·cases e2
theorem Kept.step {G:List (List Int)}{M0 M:List Int}{K:List (List Int)}(hM:Kept G M0 M K)(h:TS M K){g k:Nat}(e:Ck M K=some (g,k)):Kept G M0 (M.eraseIdx g) ((B4 g k K).mergeSort BM):=by
 obtain⟨hg,hk,hgk⟩:=spare_in h e
 obtain⟨hl,hp⟩:=spare_link h e
 have hvs:∀i,i<M.length→VS (M.getD i 0):=fun i hi=>by rw[AD hi];exact h.vs _ (List.getElem_mem hi)
 have hsub:∀v,has (M.getD g 0) v=true→has (M.getD k 0) v=true:=fun v hv=>prt_has (hvs g hg) (hvs k hk) hp hv
 refine⟨merge_TB h hM.tb hg hk hgk hsub hl,?_,fun s hs=>hM.old s (List.mem_of_mem_eraseIdx hs),fun s hs=> ?_⟩
 ·have:=hM.len
  rw[List.length_eraseIdx,if_pos hg];omega
 ·obtain⟨t,ht,hst⟩:=hM.sup s hs
  obtain⟨i,hi,rfl⟩:=List.getElem_of_mem ht
  have hml:(M.eraseIdx g).length=M.length-1:=by rw[List.length_eraseIdx,if_pos hg]
  have hin:∀x,x<M.length→x≠g→M.getD x 0∈M.eraseIdx g:=fun x hx hxg=>by
   rw[←Fm (k:=k) hg hx hxg,AD (by rw[hml];exact phi_lt hg hk hgk hx)]
   exact List.getElem_mem _
  by_cases hig:i=g
  ·subst hig
   exact⟨_,hin k hk hgk.symm,fun v hv=>hsub v (by rw[AD hi];exact hst v hv)⟩
  ·refine⟨_,hin i hi hig,fun v hv=>by rw[AD hi];exact hst v hv⟩
end Go.Sx

namespace Go.Sx
theorem TB.sh {g B K:List (List Int)}(hg:GOk g)(h:TB g B K):Sh2 B∧Sh2 K:=by
 have h16:=hg.n16;have:=h.n16;have:=h.many
 refine⟨⟨by unfold Sh;omega,fun b hb=>by have:=(h.sets b hb).length_le (by omega);unfold Sh;omega⟩,⟨by unfold Sh;omega,fun l hl=> ?_⟩⟩
 obtain⟨a,b,rfl,_⟩:=h.lks l hl
 simp[Sh]
section
variable {g B K : List (List Int)} (hg : GOk g) (h : TB g B K)
include hg h
theorem tidied_both :∃B' K':List (List Int),D.G0 B K=some (B,K.mergeSort BM)∧D.n0 B K=some (B',K')∧
  (An (σ:=(List (List Int))×(List (List Int))) (ρ:=(((List (List Int)))×((List (List Int)))×Bool)) (fun(s_125:(List (List Int))×(List (List Int)))=>match s_125 with|(l_128,l_133)=>(D.g0 l_128 l_133).bind fun y_139=>cond (decide (y_139.1<0)) (some (.inr (l_128,l_133,true))) ((D.Q l_128 l_133 y_139.1 y_139.2).bind fun y_160=>some (.inl (y_160.1,y_160.2)))) (B,K.mergeSort BM)=some (B',K',true))∧
  B'.length≤16∧(∀x∈B',x.length≤32)∧K'.length≤16∧(∀x∈K',x.length=2)∧
  ∃M',B'=M'.map Ap∧TS M' K'∧Ck M' K'=none∧Kept g (B.map mk) M' K':=by
 have h16:=hg.n16;have b16:=h.n16;have hm:=h.many
 obtain⟨hB,hK⟩:=h.sh hg
 have hgood:∀x∈K,B7 x:=fun x hx=>(h.lks x hx).good (by omega)
 have hBe:(B.map mk).map Ap=B:=by
  rw[List.map_map]
  conv=>rhs;rw[←List.map_id B]
  refine List.map_congr_left (fun b hb=> ?_)
  have hs:=h.sets b hb
  exact elems_mk' h16 hs.1 hs.2
 have hT:TS (B.map mk) (K.mergeSort BM):=by
  refine⟨by simpa using b16,fun s hs=> ?_,fun l hl=> ?_,by rw[(BC _).length_eq];omega⟩
  ·obtain⟨b,_,rfl⟩:=List.mem_map.1 hs
   exact VS.mk _
  ·rw[List.length_map]
   exact h.lks l ((BC K).mem_iff.1 hl)
 obtain⟨M',K',hT',e1,e2,e3,e4⟩:=tidy_both 16 (B.map mk) (K.mergeSort BM) (by simpa using b16) hT
 rw[hBe] at e2
 have hkept:Kept g (B.map mk) M' K':=e4 (Kept g (B.map mk)) ⟨by rw[hBe];exact TB.perm h (BC K),Nat.le_refl _,fun s hs=>hs,fun s hs=>⟨s,hs,fun v hv=>hv⟩⟩ (fun M K g k hTS e hI=>hI.step hTS e)
 refine⟨M'.map Ap,K',?_,?_,e2,by rw[List.length_map];exact hT'.n16,fun x hx=> ?_,hT'.k16,fun x hx=> ?_,M',rfl,hT',e3,hkept⟩
 ·unfold D.G0
  refine(Bx (fun i=>((i:Int),B.take i)) B.length B (by simp) (fun i hi=> ?_) ?_).trans ?_
  ·simp only[dlt hi,cond_true,Ar hi,Option.bind_some,DP _ (hB.2 _ (List.getElem_mem hi)),wi (show i<4611686018427387904 by omega)]
   rw[A4 (by simp;omega),Option.bind_some,List.take_succ_eq_append_getElem hi]
  ·simp only[Ba,cond_false,List.take_length]
  ·refine(Bx (fun i=>((i:Int),CE [] (K.take i))) K.length (CE [] K) (by simp[CE]) (fun i hi=> ?_) ?_).trans ?_
   ·obtain⟨a,b,e,hab,hb⟩:=h.lks _ (List.getElem_mem hi)
    have i0:idx K[i] 0=some (a:Int):=by rw[e];rfl
    have i1:idx K[i] 1=some (b:Int):=by rw[e];rfl
    have el:BN (a:Int) (b:Int)=K[i]:=by
     rw[e];unfold BN
     rw[show min (a:Int) (b:Int)=a by omega,show max (a:Int) (b:Int)=b by omega]
    obtain⟨hp,_⟩:=DO (K.take i) [] (by simp[DV])
    rw[List.append_nil] at hp
    have hlen:(CE [] (K.take i)).length≤16:=by rw[hp.length_eq,List.length_take];omega
    simp only[dlt hi,cond_true,Ar hi,Option.bind_some,i0,i1,wi (show i<4611686018427387904 by omega)]
    rw[Ff (fun x hx=>hgood x (List.mem_of_mem_take (hp.mem_iff.1 hx))) (by rw[el];exact hgood _ (List.getElem_mem hi)) (by omega),Option.bind_some,el,List.take_succ_eq_append_getElem hi,Fx]
   ·simp only[Ba,cond_false,List.take_length]
   ·rw[FD hgood]
 ·unfold D.n0
  rw[masks_eq hg h.sets b16,Option.bind_some]
  unfold D.o1
  rw[A4 (by simp;omega)]
  simp only[Option.bind_some,List.nil_append]
  rw[E3 (by omega) hgood,Option.bind_some,e1,Option.bind_some]
  dsimp only
  have hl:=hT'.n16;have hk:=hT'.k16
  rw[results_eq M' (by unfold Sh;omega) hT'.vs,Option.bind_some]
  refine(Bx (fun i=>((i:Int),K'.take i)) K'.length K' (by simp) (fun i hi=> ?_) ?_).trans rfl
  ·obtain⟨a,b,e,_⟩:=hT'.lk _ (List.getElem_mem hi)
   have hc:D.Y0 K'[i]=some K'[i]:=by
    unfold D.Y0
    rw[A4 (by rw[e];simp)];rfl
   simp only[dlt hi,cond_true,Ar hi,Option.bind_some,hc,wi (show i<4611686018427387904 by omega)]
   rw[A4 (by simp;omega),Option.bind_some,List.take_succ_eq_append_getElem hi]
  ·simp only[Ba,cond_false,List.take_length]
 ·obtain⟨s,_,rfl⟩:=List.mem_map.1 hx
  exact B2 s
 ·obtain⟨a,b,rfl,_⟩:=hT'.lk x hx
  rfl
end
end Go.Sx

namespace Go.Sx
noncomputable def bo (F:List Int)(n:Nat)(most:Int):Nat→Int→List Int
 |0,_=>[]
 |k+1,m=>match(Ap (rm n m)).find? (fun v=>decide (wv F (wd F n k) m v≤most)) with
  |some v=>v::bo F n most k (ior .u32 m (ishl .u32 1 v))
  |none=>[]
theorem bo_next {F:List Int}{n k:Nat}{m most:Int}(hn:n≤16)(hF:FOk F n)(hm:GS n m (k+1))(hw:wd F n (k+1) m≤most):
  ∃v:Nat,(Ap (rm n m)).find? (fun v=>decide (wv F (wd F n k) m v≤most))=some (v:Int)∧v<n∧has m v=false∧wv F (wd F n k) m (v:Int)≤most∧GS n (ior .u32 m (ishl .u32 1 (v:Int))) k∧wd F n k (ior .u32 m (ishl .u32 1 (v:Int)))≤most∧
   bo F n most (k+1) m=(v:Int)::bo F n most k (ior .u32 m (ishl .u32 1 (v:Int))):=by
 obtain⟨u,hu1,hu2,hu3⟩:=some_attains hn hF hm
 cases hf:(Ap (rm n m)).find? (fun v=>decide (wv F (wd F n k) m v≤most)) with
 |none=>
  rw[List.find?_eq_none] at hf
  have:=hf (u:Int) ((Dx hn hm.vs).2 ⟨u,rfl,hu1,hu2⟩)
  simp at this
  omega
 |some x=>
  obtain⟨v,rfl,h1,h2⟩:=(Dx hn hm.vs).1 (List.mem_of_find?_eq_some hf)
  have h3:wv F (wd F n k) m (v:Int)≤most:=by simpa using List.find?_some hf
  have h4:=(wv_ge F (wd F n k) m (v:Int)).2
  exact⟨v,rfl,h1,h2,h3,hm.add hn h1 h2,by omega,by rw[bo,hf]⟩
theorem bo_ok {F:List Int}{n:Nat}{most:Int}(hn:n≤16)(hF:FOk F n):∀(k:Nat) (m:Int),GS n m k→wd F n k m≤most→(bo F n most k m).length=k∧(bo F n most k m).Nodup∧∀x∈bo F n most k m,∃v:Nat,x=v∧v<n∧has m v=false
 |0,_,_,_=>by simp[bo]
 |k+1,m,hm,hw=>by
  obtain⟨v,_,hv,hmv,_,hg,hw',e⟩:=bo_next hn hF hm hw
  obtain⟨h1,h2,h3⟩:=bo_ok hn hF k _ hg hw'
  rw[e]
  refine⟨by rw[List.length_cons,h1],List.nodup_cons.2 ⟨fun hc=> ?_,h2⟩,fun x hx=> ?_⟩
  ·obtain⟨u,e1,_,h4⟩:=h3 _ hc
   rw[D6 hm.vs (by omega),Bool.or_eq_false_iff] at h4
   have:=of_decide_eq_false h4.2
   omega
  ·rcases List.mem_cons.1 hx with rfl|hx
   ·exact⟨v,rfl,hv,hmv⟩
   ·obtain⟨u,rfl,h5,h4⟩:=h3 _ hx
    rw[D6 hm.vs (by omega),Bool.or_eq_false_iff] at h4
    exact⟨u,rfl,h5,h4.1⟩
theorem impl_bo {F:List Int}{n:Nat}{most:Int}(hn:n≤16)(hF:FOk F n):∀(k:Nat) (m:Int) (out:List Int),GS n m k→wd F n k m≤most→out.length+k≤1000→
  An (D.v1 F most) (out,m)=some (out++bo F n most k m)
 |0,m,out,hm,_,_=>by
  refine Bi ?_
  unfold D.v1
  rw[DR,Option.bind_some,hF.len]
  dsimp only
  rw[hm.done hn,bne_self_eq_false,cond_false,bo,List.append_nil]
 |k+1,m,out,hm,hw,hl=>by
  obtain⟨v,hf,hv,hmv,_,hg,hw',e⟩:=bo_next hn hF hm hw
  have hle:=hm.le hn
  have hrf:=EH
  have hrl:=B2 (rm n m)
  rw[Bu (s':=(out++[(v:Int)],ior .u32 m (ishl .u32 1 (v:Int)))),impl_bo hn hF k _ (out++[(v:Int)]) hg hw' (by simp;omega),e,List.append_assoc];rfl
  unfold D.v1
  rw[DR,Option.bind_some,hF.len]
  dsimp only
  have hne:(m !=full n)=true:=by simpa using hm.undone
  have hlist:D.i (iandNot .u32 (full n) m)=some (Ap (rm n m)):=Dc _ (VS.iandNot _ _)
  rw[hne,cond_true,hlist,Option.bind_some]
  rw[loop_first (step:=D.z1 F (Ap (rm n m)) most out m) (Ap (rm n m)) (fun v=>decide (wv F (wd F n k) m v≤most)) (fun v=>(out++[v],ior .u32 m (ishl .u32 1 v))) (out,m) (fun i hi=> ?_) ?_,hf,Option.bind_some]
  rotate_left
  ·obtain⟨u,eu,hu,hmu⟩:=(Dx hn hm.vs).1 (List.getElem_mem hi)
   unfold D.z1
   rw[dlt hi,cond_true,Ar hi,Option.bind_some,eu,wWith_ok hn hF hm.vs hu (r:=wd F n k) (EL hn hF BW k _ (hm.add hn hu hmu) (by omega)),Option.bind_some]
   by_cases hc:wv F (wd F n k) m (u:Int)≤most
   ·rw[decide_eq_true hc,cond_true,if_pos rfl,A4 (by simp;omega),Option.bind_some,BR,Option.bind_some]
   ·rw[decide_eq_false hc,cond_false,if_neg (by simp),wi (show i<4611686018427387904 by omega)]
  ·unfold D.z1
   rw[Ba,cond_false]
theorem bestOrder_ok {F:List Int}{n:Nat}(hn:n≤16)(hF:FOk F n):D.z0 F=some (bo F n (wd F n n 0) n 0):=by
 have hrf:=EH
 unfold D.z0
 rw[EL hn hF BW n 0 (GS.zero hn) (by omega),Option.bind_some]
 exact impl_bo hn hF n 0 [] (GS.zero hn) (Int.le_refl _) (by simp;omega)
theorem From_ok {g:List (List Int)}(hg:GOk g)(hn:g.length≤10){k:Nat}{m:Int}{T:List Int}(hm:GS g.length m k)(hT:TOk (g.map mk) g.length T):
  ∃T',D.m g (mks g.length m) T=some (wd (g.map mk) g.length k m,mks g.length m,T')∧TOk (g.map mk) g.length T':=by
 have hrf:=EH
 have:=hm.le hg.n16
 exact FromR_ok hg hn BW k m T hm (by omega) hT
theorem spec_bo_round {g:List (List Int)}(hg:GOk g)(hn:g.length≤10){k:Nat}{m most:Int}{out T:List Int}(hm:GS g.length m (k+1))(hT:TOk (g.map mk) g.length T)(ho:out.length≤1000){v:Nat}
  (hf:(Ap (rm g.length m)).find? (fun v=>decide (wv (g.map mk) (wd (g.map mk) g.length k) m v≤most))=some (v:Int))
  {step:List Int×List Bool×Int→Option ((List Int×List Bool×Int) ⊕ (List Int×List Int×List Bool))}
  (hstep:∀l b x,step (l,b,x)=cond (decide (x<(g.length:Int))) ((idx b x).bind fun e_1712=>(cond e_1712 (some true) ((D.F g b x).bind fun y_1751=>some (decide (most<(y_1751.length:Int))))).bind fun b_1749=>cond b_1749 (some (.inl (l,b,(IntKind.i64.wrap (x+1))))) ((idx b x).bind fun e_1766=>(D.m g (b.set (Int.toNat x) true) l).bind fun y_1772=>cond (decide (y_1772.1≤most)) ((AR out ([x]:List Int)).bind fun l_1788=>some (.inr (l_1788,y_1772.2.2,y_1772.2.1))) ((idx y_1772.2.1 x).bind fun e_1794=>some (.inl (y_1772.2.2,(y_1772.2.1.set (Int.toNat x) false),(IntKind.i64.wrap (x+1))))))) (some (.inr (out,l,b)))):
  ∃T',An step (T,mks g.length m,0)=some (out++[(v:Int)],T',mks g.length (ior .u32 m (ishl .u32 1 (v:Int))))∧TOk (g.map mk) g.length T':=by
 have h16:=hg.n16
 have hF:=FOk.of hg
 have hv:=List.mem_of_find?_eq_some hf
 have hvle:wv (g.map mk) (wd (g.map mk) g.length k) m (v:Int)≤most:=by simpa using List.find?_some hf
 obtain⟨v',e,hvn,hmv⟩:=(Dx h16 hm.vs).1 hv
 obtain rfl:v=v':=by omega
 have hfirst:∀u,u<v→has m u=false→¬wv (g.map mk) (wd (g.map mk) g.length k) m (u:Int)≤most:=fun u hu hmu hc=>by
  obtain⟨_,a1,b1,e1,e2⟩:=List.find?_eq_some_iff_append.1 hf
  have hi:=BJ (rm g.length m)
  rw[e1] at hi
  have hmem:(u:Int)∈a1++(v:Int)::b1:=by
   rw[←e1]
   exact(Dx h16 hm.vs).2 ⟨u,rfl,by omega,hmu⟩
  unfold Inc at hi
  rw[List.pairwise_append] at hi
  rcases List.mem_append.1 hmem with hh|hh
  ·have:=e2 _ hh
   simp at this
   omega
  ·rcases List.mem_cons.1 hh with hh|hh
   ·omega
   ·have:=(List.pairwise_cons.1 hi.2.1).1 _ hh
    omega
 refine opt_ex ?_
 have key:=AN (step:=step) (s:=(T,mks g.length m,0)) (k:=fun r=>some r) (Q:=fun y=>∃T',y=(out++[(v:Int)],T',mks g.length (ior .u32 m (ishl .u32 1 (v:Int))))∧TOk (g.map mk) g.length T')
  (fun s=>∃i:Nat,s.2.2=(i:Int)∧i≤v∧TOk (g.map mk) g.length s.1∧s.2.1=mks g.length m) (fun s=>g.length-s.2.2.toNat)
  (fun y=>∃T',y=(out++[(v:Int)],T',mks g.length (ior .u32 m (ishl .u32 1 (v:Int))))∧TOk (g.map mk) g.length T') ?_ ⟨0,rfl,by omega,hT,rfl⟩ (fun r hr=>⟨r,rfl,hr⟩)
 ·obtain⟨y,h1,h2⟩:=key
  rw[Option.bind_eq_some_iff] at h1
  obtain⟨z,e1,e2⟩:=h1
  rw[Option.some.inj e2] at e1
  exact⟨y,e1,h2⟩
 ·rintro⟨T1,_,_⟩ ⟨i,rfl,hiv,hT1,rfl⟩
  dsimp only at hT1 ⊢
  have hi:i<g.length:=by omega
  rw[hstep,dlt hi,cond_true,D5 hi,Option.bind_some]
  have hgo:∀T2,TOk (g.map mk) g.length T2→(i=v→False)→∃y,(some (Sum.inl (T2,mks g.length m,IntKind.i64.wrap ((i:Int)+1))):Option ((List Int×List Bool×Int) ⊕ (List Int×List Int×List Bool)))=some y∧Stp (fun s:List Int×List Bool×Int=>∃i:Nat,s.2.2=(i:Int)∧i≤v∧TOk (g.map mk) g.length s.1∧s.2.1=mks g.length m) (fun s=>g.length-s.2.2.toNat) (fun y=>∃T',y=(out++[(v:Int)],T',mks g.length (ior .u32 m (ishl .u32 1 (v:Int))))∧TOk (g.map mk) g.length T') (T1,mks g.length m,(i:Int)) y:=fun T2 h2 hne=>by
   have hne':i≠v:=fun e=>hne e
   rw[wi (show i<4611686018427387904 by omega)]
   exact⟨_,rfl,⟨i+1,rfl,by omega,h2,rfl⟩,by dsimp only;omega⟩
  cases hmi:has m i with
  |true=>
   rw[cond_true,Option.bind_some,cond_true]
   exact hgo T1 hT1 (fun e=>by rw[e,hmv] at hmi;cases hmi)
  |false=>
   rw[cond_false,Ey hg hm.vs hi,Option.bind_some,Option.bind_some]
   have hwl:=wv_le (F:=g.map mk) (rec:=wd (g.map mk) g.length k) (m:=m) (v:=(i:Int)) (b:=most)
   by_cases hs:most<((Ap (bh (g.map mk) m (i:Int))).length:Int)
   ·rw[decide_eq_true hs,cond_true]
    exact hgo T1 hT1 (fun e=>by subst e;have:=hwl.1 hvle;omega)
   ·rw[decide_eq_false hs,cond_false,Option.bind_some,Int.toNat_natCast,mks_set h16 hm.vs hi]
    obtain⟨T2,e2,hT2⟩:=From_ok hg hn (hm.add h16 hi hmi) hT1
    rw[e2,Option.bind_some]
    dsimp only
    by_cases hc:wd (g.map mk) g.length k (ior .u32 m (ishl .u32 1 (i:Int)))≤most
    ·have hiv2:i=v:=by
      rcases Nat.lt_or_ge i v with hlt|hge
      ·exact absurd (hwl.2 ⟨by omega,hc⟩) (hfirst i hlt hmi)
      ·omega
     subst hiv2
     rw[decide_eq_true hc,cond_true,A4 (by simp;omega),Option.bind_some]
     exact⟨_,rfl,T2,rfl,hT2⟩
    ·rw[decide_eq_false hc,cond_false,D5 hi,Option.bind_some,mks_unset h16 hm.vs hi hmi]
     exact hgo T2 hT2 (fun e=>by subst e;exact hc (hwl.1 hvle).2)
theorem Eb {g:List (List Int)}(h:Sh2 g):D.c0 g=some (gB g&&decide (g.length≤10)):=by
 unfold D.c0 D.a
 rw[Dz g h,Option.bind_some]
 have e:decide ((g.length:Int)≤10)=decide (g.length≤10):=by rw[decide_eq_decide];omega
 cases gB g
 ·rfl
 ·rw[cond_true,Option.bind_some,Option.bind_some,e];rfl
theorem Fv {g:List (List Int)}(hg:GOk g)(hn:g.length≤10)(hs:Sh2 g):D.q0 g=some (bo (g.map mk) g.length (wd (g.map mk) g.length g.length 0) g.length 0):=by
 have h16:=hg.n16
 have hF:=FOk.of hg
 unfold D.q0
 rw[Eb hs,(DQ g).2 hg,decide_eq_true hn,Bool.true_and,Option.bind_some,Bool.not_true,cond_false]
 obtain⟨T,eT,hT⟩:=Table_ok hn (g.map mk)
 rw[eT,Option.bind_some]
 unfold D.a
 rw[Option.bind_some,CJ (by omega) (by omega),Option.bind_some,mks_zero]
 obtain⟨T1,e1,hT1⟩:=From_ok hg hn (GS.zero h16) hT
 rw[e1,Option.bind_some]
 dsimp only
 generalize hmo:wd (g.map mk) g.length g.length 0=most
 refine opt_eq ?_
 refine AN (fun s=>∃(k:Nat) (m:Int),GS g.length m k∧TOk (g.map mk) g.length s.2.1∧s.2.2=mks g.length m∧wd (g.map mk) g.length k m≤most∧s.1.length+k=g.length∧s.1++bo (g.map mk) g.length most k m=bo (g.map mk) g.length most g.length 0)
  (fun s=>g.length-s.1.length) (fun r=>r=bo (g.map mk) g.length most g.length 0) ?_ ⟨g.length,0,GS.zero h16,hT1,rfl,by rw[hmo];exact Int.le_refl _,by simp,by simp⟩ (fun r hr=>⟨r,rfl,hr⟩)
 rintro⟨out,T2,_⟩ ⟨k,m,hm,hT2,rfl,hw,hl,he⟩
 dsimp only at hT2 hl he ⊢
 rw[Option.bind_some]
 cases k with
 |zero=>
  have:decide ((out.length:Int)<(g.length:Int))=false:=by simp;omega
  rw[this,cond_false]
  refine⟨_,rfl,?_⟩
  show out=_
  rw[bo,List.append_nil] at he
  exact he
 |succ k=>
  obtain⟨v,hf,hv,hmv,_,hg',hw',e⟩:=bo_next h16 hF hm hw
  have hd:decide ((out.length:Int)<(g.length:Int))=true:=by simp;omega
  rw[hd,cond_true]
  refine BZ (fun r=>∃T',r=(out++[(v:Int)],T',mks g.length (ior .u32 m (ishl .u32 1 (v:Int))))∧TOk (g.map mk) g.length T') ?_ ?_
  ·obtain⟨T3,e3,hT3⟩:=spec_bo_round hg hn (out:=out) hm hT2 (by omega) hf (step:=(fun(s_1584:(List Int)×(List Bool)×Int)=>match s_1584 with|(l_1587,l_1590,x_1593)=>(some (g.length:Int)).bind fun y_1704=>cond (decide (x_1593<y_1704)) ((idx l_1590 x_1593).bind fun e_1712=>(cond e_1712 (some true) ((D.F g l_1590 x_1593).bind fun y_1751=>some (decide (most<(y_1751.length:Int))))).bind fun b_1749=>cond b_1749 (some (.inl (l_1587,l_1590,(IntKind.i64.wrap (x_1593+1))))) ((idx l_1590 x_1593).bind fun e_1766=>(D.m g (l_1590.set (Int.toNat x_1593) true) l_1587).bind fun y_1772=>cond (decide (y_1772.1≤most)) ((AR out ([x_1593]:List Int)).bind fun l_1788=>some (.inr (l_1788,y_1772.2.2,y_1772.2.1))) ((idx y_1772.2.1 x_1593).bind fun e_1794=>some (.inl (y_1772.2.2,(y_1772.2.1.set (Int.toNat x_1593) false),(IntKind.i64.wrap (x_1593+1))))))) (some (.inr (out,l_1587,l_1590))))) (fun l b x=>rfl)
   exact⟨_,e3,T3,rfl,hT3⟩
  ·rintro _ ⟨T3,rfl,hT3⟩
   refine⟨_,rfl,⟨k,_,hg',hT3,rfl,hw',by simp;omega,?_⟩,by dsimp only;simp;omega⟩
   dsimp only
   rw[←he,e,List.append_assoc];rfl
theorem bo_order {g:List (List Int)}(hg:GOk g):OOk g (bo (g.map mk) g.length (wd (g.map mk) g.length g.length 0) g.length 0):=by
 obtain⟨h1,h2,h3⟩:=bo_ok hg.n16 (FOk.of hg) g.length 0 (GS.zero hg.n16) (Int.le_refl _)
 refine⟨h1,fun x hx=> ?_,h2⟩
 obtain⟨v,rfl,h,_⟩:=h3 x hx
 omega
end Go.Sx

namespace Go.Sx
section
variable {g : List (List Int)} {o F L : List Int} (hg : GOk g) (ho : OOk g o) (hF : Fill g o F L)
include hg ho hF
end
open Classical in
theorem best_bags {g:List (List Int)}{o:List Int}(hg:GOk g)(ho:OOk g o):∃A K B' K':List (List Int),D.H g o=some (A,K,true)∧D.V (g.map mk) o=some (A,K)∧D.D0 g A K=some (B',K',true)∧D.n0 A K=some (B',K')∧
  TB g B' K'∧Sh2 B'∧Sh2 K'∧tot B'≤4294967296∧tot K'≤4294967296∧∃M',B'=M'.map Ap∧Kept g (A.map mk) M' K':=by
 obtain⟨F,L,hF⟩:=fill_ex hg ho
 have hT:=DecompBy_TB hg ho hF
 have e1:=FJ hg ho hF
 have e2:=FK hg ho hF
 unfold D.P1 at e2
 rw[De hg ho,Option.bind_some,Bool.not_true,cond_false,Eo g hg,Option.bind_some,E5 o (ho.sh hg),Option.bind_some,Option.bind_eq_some_iff] at e2
 obtain⟨y,e2,e3⟩:=e2
 generalize (List.range o.length).map (BX o L)=A at*
 generalize (List.range (o.length-1)).map (Cx o L)=K at*
 have ey:y=(A,K):=by
  obtain⟨y1,y2⟩:=y
  have:=Option.some.inj e3
  simp only[Prod.mk.injEq] at this ⊢
  exact⟨this.1,this.2.1⟩
 subst ey
 obtain⟨s2,s3⟩:=hT.sh hg
 obtain⟨B',K',f1,f2,f3,k1,k2,k3,k4,M',h1,h2,h3,h4⟩:=tidied_both hg hT
 have t1:=tot_le (xs:=B') (n:=32) (fun x hx=>by have:=k2 x hx;omega)
 have t2:=tot_le (xs:=K') (n:=2) (fun x hx=>by have:=k4 x hx;omega)
 have hTB:TB g B' K':=by rw[h1];exact h4.tb
 refine⟨A,K,B',K',e1,e2,?_,f2,hTB,(hTB.sh hg).1,(hTB.sh hg).2,by omega,by omega,M',h1,h4⟩
 unfold D.D0
 rw[FL hg s2 s3,decide_eq_true hT,Option.bind_some,Bool.not_true,cond_false,f1,Option.bind_some,f3];rfl
end Go.Sx

namespace Go.Sx
theorem EG {g:List (List Int)}(h:Sh2 g):D.S0 g=some (gB g&&decide (g.length≤10)):=by
 unfold D.S0
 rw[Dr g h,Option.bind_some]
 have e:decide ((g.length:Int)≤10)=decide (g.length≤10):=by rw[decide_eq_decide];omega
 rw[e]
theorem BestDecomp_ok {g:List (List Int)}(hg:GOk g)(hn:g.length≤10):∃A K B' K':List (List Int),D.j0 g=some (B',K',true)∧D.K g=some (B',K',true)∧
  D.H g (bo (g.map mk) g.length (wd (g.map mk) g.length g.length 0) g.length 0)=some (A,K,true)∧TB g B' K'∧Sh2 B'∧Sh2 K'∧tot B'≤4294967296∧tot K'≤4294967296∧∃M',B'=M'.map Ap∧Kept g (A.map mk) M' K':=by
 obtain⟨A,K,B',K',e1,e2,e3,e4,h⟩:=best_bags hg (bo_order hg)
 refine⟨A,K,B',K',?_,?_,e1,h⟩
 ·unfold D.j0
  rw[Eb hg.sh2,(DQ g).2 hg,decide_eq_true hn,Bool.true_and,Option.bind_some,Bool.not_true,cond_false,Fv hg hn hg.sh2,Option.bind_some,e1,Option.bind_some]
  dsimp only
  rw[Option.bind_some,e3];rfl
 ·unfold D.K
  rw[EG hg.sh2,(DQ g).2 hg,decide_eq_true hn,Bool.true_and,Option.bind_some,Bool.not_true,cond_false,Eo g hg,Option.bind_some,bestOrder_ok hg.n16 (FOk.of hg),Option.bind_some,e2,Option.bind_some]
  dsimp only
  rw[e4];rfl
theorem FT (g:List (List Int))(h1:Sh2 g):∃r:List (List Int)×List (List Int)×Bool,D.j0 g=some r∧D.K g=some r∧Sh2 r.1∧Sh2 r.2.1∧tot r.1≤4294967296∧tot r.2.1≤4294967296:=by
 by_cases hc:(gB g&&decide (g.length≤10))=true
 ·have hc':=hc
  rw[Bool.and_eq_true,decide_eq_true_eq] at hc'
  obtain⟨A,K,B',K',e1,e2,_,_,s1,s2,t1,t2,_⟩:=BestDecomp_ok ((DQ g).1 hc'.1) hc'.2
  exact⟨_,e1,e2,s1,s2,t1,t2⟩
 ·have hc':(gB g&&decide (g.length≤10))=false:=by simpa using hc
  refine⟨([],[],false),?_,?_,⟨by simp[Sh],by simp⟩,⟨by simp[Sh],by simp⟩,by simp[tot],by simp[tot]⟩
  ·unfold D.j0
   rw[Eb h1,hc'];rfl
  ·unfold D.K
   rw[EG h1,hc'];rfl
theorem Et (g:List (List Int))(hx:(g.length:Int)≤9223372036854775807)(hx2:∀x∈g,(x.length:Int)≤9223372036854775807):D.k1 g=some true:=by
 unfold D.k1
 have tg:=BL g
 obtain⟨y,e,hy'⟩:=szGraph_eq g 1048576 hx hx2 (by omega) (by omega)
 rw[e,Option.bind_some]
 rcases hy' with hy'|⟨hy',hy0⟩
 ·simp only[hy',decide_true,cond_true]
 ·have hd:decide (y<0)=false:=by simp;omega
  have h1:Sh2 g:=Sh2.of_tot (by unfold Sh;omega) (by omega)
  obtain⟨r,f1,f2,r1,r2,r3,r4⟩:=FT g h1
  have n1:=BL r.1;have n2:=BL r.2.1
  simp only[hd,cond_false,toGraph_eq g h1,f1,f2,Option.bind_some,eqDecomp_eq _ _ _ _ r1 r2,decide_true,Bool.and_self,Bool.not_true,bne_self_eq_false,Bool.or_false,
   eqGraph_eq g g h1,markGraph_eq g 1 h1 (by omega) (by omega)]
  have d1:decide (1+tot g<0)=false:=by simp;omega
  have d2:decide (1+tot r.1+tot r.2.1<0)=false:=by simp;omega
  simp only[Option.bind_some,d1,cond_false,markDecomp_eq r.1 r.2.1 1 r1 r2 (by omega) (by omega),heldDecomp_eq r.1 r.2.1 1 r1 r2 (by omega) (by omega),d2,bne_self_eq_false]
end Go.Sx
