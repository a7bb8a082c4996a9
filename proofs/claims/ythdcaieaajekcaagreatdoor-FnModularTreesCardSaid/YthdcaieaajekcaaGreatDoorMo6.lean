/- Parts. -/
import Derived.Test.YthdcaieaajekcaaGreatDoorMo5
set_option linter.unusedVariables false
set_option linter.unusedSimpArgs false
set_option linter.unusedSectionVars false
namespace Go.Sx
theorem EN (code:LI)(hb:∀x∈code,0≤x∧x≤255):D.n1 code=some true:=by
 unfold D.n1 D.i1
 rw[bs]
 by_cases hl:(4096:Int)<(code.length:Int)
 ·rw[decide_eq_true hl,cT]
 ·rw[decide_eq_false hl,cF]
  obtain⟨z,ez,hk⟩:=roll_ok code 1015 hb (by omega)
  rw[ez,bs]
  obtain⟨⟨g0,b,i,z2⟩,eg,hg0,h60,rfl,hk2⟩:=w9Graph_ok hk z 6 (by omega) (by omega)
  have eg:D.n0 b 0 z 6=_:=eg
  dsimp only at hg0 h60 hk2 ⊢
  rw[eg,bs]
  dsimp only
  obtain⟨c,i3,z3,ec,c0,c1,hk3⟩:=below_ok hk2 z2 2 (by omega)
  rw[ec,bs]
  dsimp only
  have hgr:∃g,(cond (c==0) ((D.o0 b i3 z3 6 2).bind λy_68=>some y_68.1) (some g0):Option LL)=some g∧GOk g∧g.length≤6:=by
   by_cases h:c=0
   ·obtain⟨y,ey,y1,y2,_⟩:=w9Grown2_ok hk3 z3
    rw[show (c==0)=true from beq_iff_eq.2 h,cT,ey,bs]
    exact⟨_,rfl,y1,y2⟩
   ·rw[show (c==0)=false from beq_eq_false_iff_ne.2 h,cF]
    exact⟨_,rfl,hg0,h60⟩
  obtain⟨g,egr,hg,h6⟩:=hgr
  rw[egr,bs]
  clear egr ec eg hk3 hk2 hk ez
  have h16:=hg.n16
  obtain⟨F',eF',hFc,hF'⟩:=complement_ok h16 (FOk.of hg)
  have hsz:=C7 hg hFc hF'
  have hel:=(MT g F').em_len 0
  have hsl:=(MT g F').sts_len
  have hpn:=C9 hg hFc hF'
  rw[Et hg hFc hF' eF',bs]
  dsimp only
  rw[Bool.not_true,cF,Fb hg hFc hF',bs,bs,Bool.not_true,cF,Ff hg hFc hF' eF',bs,bs,Bool.not_true,cF]
  obtain⟨L,eL,hL,hLn,hLm⟩:=DD hg (by omega)
  rw[eL,bs]
  have hst:∀x∈L,∃b,D.n g x=some b∧(b=true↔x∈(MT g F').sts.map Aj):=λx hx=>by
   obtain⟨X,rfl,hX,_⟩:=(hLm x).1 hx
   obtain⟨b,eb,hb⟩:=Fy hg (by omega) hX
   refine⟨b,eb,hb.trans ?_⟩
   rw[List.mem_map]
   constructor
   ·intro h
    exact⟨X,(Dp hg hFc hF').2 ⟨hX,h⟩,rfl⟩
   ·rintro⟨Y,hY,e⟩
    have hY:=(Dp hg hFc hF').1 hY
    rw[←EQ hY.1.1.1 hX.1.1 e];exact hY.2
  have hcount:(L.filter λx=>decide (x∈(MT g F').sts.map Aj)).length=(MT g F').sz:=by
   have hnd:((MT g F').sts.map Aj).Nodup:=by
    unfold List.Nodup
    rw[List.pairwise_map]
    refine List.Pairwise.imp_of_mem (R:=λa b=>a≠b) (fun{a b} ha hb hab e=>hab ?_) (sts_nd hg hFc hF')
    exact EQ ((Dp hg hFc hF').1 ha).1.1.1 ((Dp hg hFc hF').1 hb).1.1.1 e
   have hp:(L.filter λx=>decide (x∈(MT g F').sts.map Aj)).Perm ((MT g F').sts.map Aj):=by
    refine(List.perm_ext_iff_of_nodup (hLn.sublist List.filter_sublist) hnd).2 λx=> ?_
    rw[List.mem_filter,decide_eq_true_eq]
    refine⟨λh=>h.2,λh=>⟨?_,h⟩⟩
    obtain⟨X,hX,rfl⟩:=List.mem_map.1 h
    have hX:=(Dp hg hFc hF').1 hX
    exact(hLm _).2 ⟨X,rfl,hX.1,hX.2.1⟩
   rw[hp.length_eq,List.length_map,hsl]
  suffices h:∃y,(Ar _ _).bind _=some y∧y=true by
   obtain⟨y,h1,rfl⟩:=h;exact h1
  refine AO (λq:Int×Int=>∃j:Nat,q.2=(j:Int)∧j≤L.length∧q.1=((((L.take j).filter λx=>decide (x∈(MT g F').sts.map Aj)).length:Nat):Int)) (λq=>L.length-q.2.toNat) (λr=>r=(((MT g F').sz:Nat):Int)) ?_ ⟨0,rfl,by omega,rfl⟩ ?_
  ·rintro⟨_,_⟩ ⟨j,rfl,hj,rfl⟩
   dsimp only
   by_cases hjl:j<L.length
   ·obtain⟨b,eb,hb⟩:=hst _ (List.getElem_mem hjl)
    have hle:=List.length_filter_le (λx=>decide (x∈(MT g F').sts.map Aj)) (L.take j)
    have htl:(L.take j).length≤j:=by simp;omega
    rw[dlt hjl,cT,AF hjl,bs,eb,bs,wq j]
    have hfil:((L.take (j+1)).filter λx=>decide (x∈(MT g F').sts.map Aj)).length=((L.take j).filter λx=>decide (x∈(MT g F').sts.map Aj)).length+(if b=true then 1 else 0):=by
     rw[List.take_succ_eq_append_getElem hjl,List.filter_append,List.length_append]
     congr 1
     by_cases h:L[j]∈(MT g F').sts.map Aj
     ·rw[if_pos (hb.2 h),List.filter_cons_of_pos (by simpa using h)];rfl
     ·rw[if_neg (λc=>h (hb.1 c)),List.filter_cons_of_neg (by simpa using h)];rfl
    cases hbb:b with
    |true=>
     rw[cT,wi (by omega)]
     exact⟨_,rfl,⟨j+1,rfl,by omega,by rw[hfil,if_pos hbb]⟩,by dsimp only;omega⟩
    |false=>
     rw[cF]
     exact⟨_,rfl,⟨j+1,rfl,by omega,by rw[hfil,if_neg (by rw[hbb];simp)];rfl⟩,by dsimp only;omega⟩
   ·obtain rfl:j=L.length:=by omega
    rw[Bs,cF]
    refine⟨_,rfl,?_⟩
    show _=_
    rw[List.take_length,hcount]
  ·rintro _ rfl
   refine AO (λq:List (Int×Int×LI)×Bool×Int=>q.1=(MT g F').em 0∧∃j:Nat,q.2.2=(j:Int)∧j≤(MT g F').sz∧q.2.1=(((MT g F').em 0).take j).any λx=>decide (x.1=4)) (λq=>(MT g F').sz-q.2.2.toNat) (λr=>r= .inl ((MT g F').em 0,((MT g F').em 0).any λx=>decide (x.1=4))) ?_ ⟨rfl,0,rfl,by omega,rfl⟩ ?_
   ·rintro⟨_,_,_⟩ ⟨rfl,j,rfl,hj,rfl⟩
    dsimp only
    rw[hel]
    by_cases hjl:j<(MT g F').sz
    ·have hjl':j<((MT g F').em 0).length:=by omega
     obtain⟨s,es,eLv⟩:=LeavesOf_ok hg hFc hF' hjl
     obtain⟨k,s',c',o,hN,_⟩:=Eu hpn hjl
     have hss:=(Dp hg hFc hF').1 (List.mem_of_getElem? es)
     have hrl:=c'.rts_len o
     have hkl:=Ds hN.pn.1.1 hN.pn.2.2.1
     have hnode:((MT g F').em 0)[j]=(k,(if k=1 then lst s' else 0),c'.rts o):=by
      have:=hN.em
      rw[List.getElem?_eq_getElem hjl'] at this
      exact Option.some.inj this
     rw[dlt hjl,cT,eLv,bs,Fx hg (by omega) hss.1 hss.2,bs,Bool.not_true,cF,AF hjl',hnode,bs]
     dsimp only
     have hany:((((MT g F').em 0).take (j+1)).any λx=>decide (x.1=4))=(((((MT g F').em 0).take j).any λx=>decide (x.1=4))||decide (k=4)):=by
      rw[List.take_succ_eq_append_getElem hjl',List.any_append,hnode]
      simp
     by_cases hk4:k=4
     ·subst hk4
      obtain⟨y,ey,hyp,hyl⟩:=QuotientAt_ok hg hFc hF' hjl hN
      rw[beq_self_eq_true,cT,ey,bs]
      dsimp only
      rw[Bool.not_true,cF,hyp,bs,bs,Bool.not_true,cF,bs,hyl,hrl,bne_self_eq_false,bs,cF,wi (by omega)]
      exact⟨_,rfl,⟨rfl,j+1,rfl,by omega,by rw[hany];simp⟩,by dsimp only;omega⟩
     ·rw[show (k==4)=false from beq_eq_false_iff_ne.2 hk4,cF,wi (by omega)]
      exact⟨_,rfl,⟨rfl,j+1,rfl,by omega,by rw[hany,decide_eq_false hk4,Bool.or_false]⟩,by dsimp only;omega⟩
    ·obtain rfl:j=(MT g F').sz:=by omega
     rw[Bs,cF]
     refine⟨_,rfl,?_⟩
     show _=_
     rw[List.take_of_length_le (by omega)]
   ·rintro _ rfl
    dsimp only
    obtain⟨b,eb,hb⟩:=CographIn_ok hg hFc hF'
    rw[hel,beq_self_eq_true,cT,eb,bs,bs]
    refine⟨_,rfl,?_⟩
    rw[bne_iff_ne]
    intro e
    have h1:((((MT g F').em 0).any λx=>decide (x.1=4))=true)↔¬no4 (MT g F'):=by
     rw[no4_em (MT g F') 0,List.any_eq_true]
     constructor
     ·rintro⟨x,hx,h⟩ hall
      exact hall x hx (by simpa using h)
     ·intro h
      apply Classical.byContradiction
      intro c
      exact h λx hx h4=>c ⟨x,hx,by simpa using h4⟩
    rw[e,hb] at h1
    by_cases hq:no4 (MT g F')
    ·exact(h1.1 hq) hq
    ·exact hq (h1.2 hq)
end Go.Sx
