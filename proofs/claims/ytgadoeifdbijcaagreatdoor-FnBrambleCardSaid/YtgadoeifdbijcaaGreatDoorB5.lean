/- Parts. -/
import Derived.Test.YtgadoeifdbijcaaGreatDoorB4
set_option linter.unusedVariables false
set_option linter.unusedSimpArgs false
set_option linter.unusedSectionVars false
namespace Go.Sx
theorem Lk.symm {links:LL}{x y:Int}(h:Lk links x y):Lk links y x:=Or.elim h (λh=>Or.inr h) (λh=>Or.inl h)
theorem conn_iff {links:LL}{sel:LI}:Conn links sel↔∀T:Int→Prop,(∃x∈sel,T x)→(∀x y,x∈sel→y∈sel→T x→Lk links x y→T y)→∀x∈sel,T x:=by
 constructor
 ·intro h T ⟨x0,hx0,hT⟩ hs
  classical
  have hall:∀U:Int→Prop,(∀x,sel.head? =some x→U x)→(∀x y,x∈sel→y∈sel→U x→Lk links x y→U y)→∀x∈sel,U x:=λU h1 h2 x hx=>by
   have:=h (sel.filter λz=>decide (U z)) ⟨λz hz=>(List.mem_filter.1 hz).1,λz hz=>List.mem_filter.2 ⟨List.mem_of_mem_head? hz,decide_eq_true (h1 z hz)⟩,λa ha b hb hl=>by
    have ha:=List.mem_filter.1 ha
    exact List.mem_filter.2 ⟨hb,decide_eq_true (h2 a b ha.1 hb (of_decide_eq_true ha.2) hl)⟩⟩ x hx
   exact of_decide_eq_true (List.mem_filter.1 this).2
  cases hsel:sel with
  |nil=>intro x hx;simp at hx
  |cons z t=>
   rw[←hsel]
   have hz:T z:=by
    apply Classical.byContradiction
    intro hc
    have:=hall (λx=>¬T x) (λx hx=>by rw[hsel] at hx;simp at hx;rw[←hx];exact hc) (λa b ha hb hna hl hTb=>hna (hs b a hb ha hTb hl.symm)) x0 hx0
    exact this hT
   exact hall T (λx hx=>by rw[hsel] at hx;simp at hx;rw[←hx];exact hz) hs
 ·intro h m hm x hx
  cases hsel:sel with
  |nil=>rw[hsel] at hx;simp at hx
  |cons z t=>
   exact h (λz=>z∈m) ⟨z,by rw[hsel];simp,hm.first z (by rw[hsel];rfl)⟩ (λa b _ hb ha hl=>hm.step a ha b hb hl) x hx
theorem conn_map {K K':LL}{sel sel':LI}(φ:Int→Int)(h:Conn K sel)(h1:∀x∈sel,φ x∈sel')(h2:∀y∈sel',∃x∈sel,φ x=y)(h3:∀x y,x∈sel→y∈sel→Lk K x y→φ x=φ y∨Lk K' (φ x) (φ y)):Conn K' sel':=by
 rw[conn_iff] at h ⊢
 intro T ⟨y0,hy0,hT⟩ hs y hy
 obtain⟨x0,hx0,rfl⟩:=h2 y0 hy0
 obtain⟨x,hx,rfl⟩:=h2 y hy
 refine h (λz=>T (φ z)) ⟨x0,hx0,hT⟩ (λa b ha hb hTa hl=> ?_) x hx
 rcases h3 a b ha hb hl with e|e
 ·rw[←e];exact hTa
 ·exact hs _ _ (h1 a ha) (h1 b hb) hTa e
theorem countP_lt {α:Type}{p q:α→Bool}:∀{l:List α},(∀x∈l,p x=true→q x=true)→(∃x∈l,q x=true∧p x=false)→l.countP p+1≤l.countP q
 |[],_,h=>by obtain⟨x,hx,_⟩:=h;simp at hx
 |a::l,h1,h2=>by
  have hm:l.countP p≤l.countP q:=List.countP_mono_left λx hx=>h1 x (List.mem_cons_of_mem _ hx)
  obtain⟨x,hx,hq,hp⟩:=h2
  rw[List.countP_cons,List.countP_cons]
  rcases List.mem_cons.1 hx with rfl|hx
  ·rw[hq,hp];simp;omega
  ·have:=countP_lt (λx hx=>h1 x (List.mem_cons_of_mem _ hx)) ⟨x,hx,hq,hp⟩
   have h3:=h1 a (List.mem_cons_self ..)
   cases hpa:p a
   ·cases q a<;>simp<;>omega
   ·rw[h3 hpa];simp;omega
theorem conn_many {links:LL}{sel:LI}(hn:sel.Nodup)(h:Conn links sel):sel.length≤links.length+1:=by
 rw[conn_iff] at h
 have key:∀k,k+1≤sel.length→∃T:LI,T.Nodup∧(∀x∈T,x∈sel)∧T.length=k+1∧k≤links.countP (λl=>decide (l.getD 0 0∈T)&&decide (l.getD 1 0∈T)):=by
  intro k
  induction k with
  |zero=>
   intro hk
   have hs:0<sel.length:=by omega
   exact⟨[sel[0]],by simp,λx hx=>by simp at hx;rw[hx];exact List.getElem_mem hs,rfl,by omega⟩
  |succ k ih=>
   intro hk
   obtain⟨T,hT1,hT2,hT3,hT4⟩:=ih (by omega)
   have hex:∃x y,x∈T∧y∈sel∧y∉T∧Lk links x y:=by
    apply Classical.byContradiction
    intro hc
    have hall:=h (λz=>z∈T) ⟨T[0]'(by omega),hT2 _ (List.getElem_mem _),List.getElem_mem _⟩ (λx y _ hy hx hl=>by
     apply Classical.byContradiction
     intro hy2
     exact hc ⟨x,y,hx,hy,hy2,hl⟩)
    have:=Bi hn hall
    omega
   obtain⟨x,y,hx,hy,hyT,hl⟩:=hex
   refine⟨y::T,List.nodup_cons.2 ⟨hyT,hT1⟩,λz hz=> ?_,by simp[hT3],?_⟩
   ·rcases List.mem_cons.1 hz with rfl|hz
    ·exact hy
    ·exact hT2 z hz
   ·refine Nat.le_trans (Nat.succ_le_succ hT4) (countP_lt (λl _ hl=> ?_) ?_)
    ·simp only[Bool.and_eq_true,decide_eq_true_eq] at hl ⊢
     exact⟨List.mem_cons_of_mem _ hl.1,List.mem_cons_of_mem _ hl.2⟩
    ·rcases hl with hl|hl
     ·exact⟨[x,y],hl,by simp[hx],by simp[hyT]⟩
     ·exact⟨[y,x],hl,by simp[hx],by simp[hyT]⟩
 cases hs:sel.length with
 |zero=>omega
 |succ k=>
  obtain⟨T,_,_,_,h4⟩:=key k (by omega)
  have:= @List.countP_le_length _ (λl=>decide (l.getD 0 0∈T)&&decide (l.getD 1 0∈T)) links
  omega
theorem conn_perm {K K':LL}{sel:LI}(h:Conn K sel)(hp:∀x y,Lk K x y→Lk K' x y):Conn K' sel:=
 conn_map id h (λx hx=>hx) (λy hy=>⟨y,hy,rfl⟩) (λx y _ _ hl=> .inr (hp x y hl))
theorem TB.perm {g B K K':LL}(h:TB g B K)(p:K'.Perm K):TB g B K':=by
 have hl:∀x y,Lk K x y→Lk K' x y:=λx y hl=>Or.elim hl (λh=>Or.inl (p.mem_iff.2 h)) (λh=>Or.inr (p.mem_iff.2 h))
 exact⟨h.n1,h.n16,by rw[p.length_eq];exact h.many,λl hl'=>h.lks l (p.mem_iff.1 hl'),h.sets,conn_perm h.tree hl,h.edges,h.some,λv hv=>conn_perm (h.conn v hv) hl⟩
def phi (g k:Nat)(x:Nat):Nat:=if g<(if x=g then k else x) then(if x=g then k else x)-1 else(if x=g then k else x)
theorem E6 (g k x:Nat):ren (g:Int) (k:Int) (x:Int)=((phi g k x:Nat):Int):=by
 unfold ren phi
 by_cases h:x=g
 ·simp only[h,if_true]
  by_cases h2:g<k
  ·rw[if_pos (by omega),if_pos h2];omega
  ·rw[if_neg (by omega),if_neg h2]
 ·rw[if_neg (show¬(x:Int)=g by omega),if_neg h]
  by_cases h2:g<x
  ·rw[if_pos (by omega),if_pos h2];omega
  ·rw[if_neg (by omega),if_neg h2]
theorem phi_lt {n g k x:Nat}(hg:g<n)(hk:k<n)(hgk:g≠k)(hx:x<n):phi g k x<n-1:=by
 unfold phi
 by_cases h:x=g
 ·simp only[h,if_true]
  by_cases h2:g<k
  ·rw[if_pos h2];omega
  ·rw[if_neg h2];omega
 ·simp only[h,if_false]
  by_cases h2:g<x
  ·rw[if_pos h2];omega
  ·rw[if_neg h2];omega
theorem phi_gk {g k:Nat}(hgk:g≠k):phi g k g=phi g k k:=by
 unfold phi;simp[hgk.symm]
theorem phi_ex {n g k y:Nat}(hg:g<n)(hy:y<n-1):∃x,x<n∧x≠g∧phi g k x=y:=by
 by_cases h:y<g
 ·exact⟨y,by omega,by omega,by unfold phi;rw[if_neg (show¬y=g by omega),if_neg (by omega)]⟩
 ·exact⟨y+1,by omega,by omega,by unfold phi;rw[if_neg (show¬y+1=g by omega),if_pos (by omega)];omega⟩
theorem Fa {M:LI}{g k x:Nat}(hg:g<M.length)(hx:x<M.length)(hxg:x≠g):(M.eraseIdx g).getD (phi g k x) 0=M.getD x 0:=by
 unfold phi
 rw[if_neg hxg,List.getD_eq_getElem?_getD,List.getD_eq_getElem?_getD,List.getElem?_eraseIdx]
 by_cases h:g<x
 ·rw[if_pos h,if_neg (by omega)];congr 2;omega
 ·rw[if_neg h,if_pos (by omega)]
theorem prt_has {s t:Int}(hs:VS s)(ht:VS t)(h:prt s t=true){v:Nat}(hv:has s v=true):has t v=true:=by
 unfold prt at h
 rw[beq_iff_eq] at h
 have:=congrArg (λz=>has z v) h
 rw[Ba hs ht,A4,hv] at this
 simpa using this
section
variable {G : LL} {M : LI} {K : LL} (h : TS M K) (hT : TB G (M.map Am) K) {g k : Nat} (hg : g < M.length) (hk : k < M.length) (hgk : g ≠ k)
include h hT hg hk hgk
theorem lnk_of {a b:Nat}(ha:a<M.length)(hb:b<M.length)(hl:Lk K (a:Int) (b:Int)):phi g k a=phi g k b∨Lk ((CM g k K).mergeSort D6) ((phi g k a:Nat):Int) ((phi g k b:Nat):Int):=by
 by_cases he:phi g k a=phi g k b
 ·exact .inl he
 ·right
  have hm:∀l,lnk (g:Int) (k:Int) l=some (Cv ((phi g k a:Nat):Int) ((phi g k b:Nat):Int))→l∈K→Lk ((CM g k K).mergeSort D6) ((phi g k a:Nat):Int) ((phi g k b:Nat):Int):=λl e hl=>by
   have hin:Cv ((phi g k a:Nat):Int) ((phi g k b:Nat):Int)∈(CM g k K).mergeSort D6:=(CX _).mem_iff.2 (List.mem_filterMap.2 ⟨l,hl,e⟩)
   unfold Cv at hin
   rcases Nat.lt_or_ge (phi g k a) (phi g k b) with c|c
   ·rw[Int.min_eq_left (by omega),Int.max_eq_right (by omega)] at hin;exact .inl hin
   ·rw[Int.min_eq_right (by omega),Int.max_eq_left (by omega)] at hin;exact .inr hin
  rcases hl with hl|hl
  ·refine hm _ ?_ hl
   unfold lnk
   simp only[List.getD_cons_zero,List.getD_cons_succ,E6]
   rw[if_neg (by omega)]
  ·refine hm _ ?_ hl
   unfold lnk
   simp only[List.getD_cons_zero,List.getD_cons_succ,E6]
   rw[if_neg (by omega)]
   unfold Cv
   rw[Int.min_comm,Int.max_comm]
theorem merge_TB (hsub:∀v,has (M.getD g 0) v=true→has (M.getD k 0) v=true)(hl:Lk K (g:Int) (k:Int)):TB G ((M.eraseIdx g).map Am) ((CM g k K).mergeSort D6):=by
 have hml:(M.eraseIdx g).length=M.length-1:=by rw[List.length_eraseIdx,if_pos hg]
 have hTS:=h.merge hg hk hgk
 have hM:M.length=K.length+1:=by have:=hT.many;simpa using this.symm
 have hmem:∀i (hi:i<M.length) (v:Nat),(v:Int)∈(M.map Am).getD i []↔has (M.getD i 0) v=true:=λi hi v=>by
  rw[Ar (by simpa using hi),List.getElem_map,Ar hi,AN (h.vs _ (List.getElem_mem hi))]
 have hmem':∀i (hi:i<M.length-1) (v:Nat),(v:Int)∈((M.eraseIdx g).map Am).getD i []↔has ((M.eraseIdx g).getD i 0) v=true:=λi hi v=>by
  rw[Ar (by simp;omega),List.getElem_map,Ar (by omega),AN (hTS.vs _ (List.getElem_mem _))]
 have hphi:∀x v,x<M.length→has (M.getD x 0) v=true→has ((M.eraseIdx g).getD (phi g k x) 0) v=true:=λx v hx hv=>by
  by_cases hxg:x=g
  ·subst hxg
   rw[phi_gk hgk,Fa hg hk hgk.symm];exact hsub v hv
  ·rw[Fa hg hx hxg];exact hv
 have hwith:∀(v:Nat) (x:Int),x∈withV (M.map Am) (v:Int)↔∃b:Nat,x=b∧b<M.length∧has (M.getD b 0) v=true:=λv x=>by
  rw[mem_withV,List.length_map]
  constructor
  ·rintro⟨b,h1,h2,h3⟩;exact⟨b,h1,h2,(hmem b h2 v).1 h3⟩
  ·rintro⟨b,h1,h2,h3⟩;exact⟨b,h1,h2,(hmem b h2 v).2 h3⟩
 have hwith':∀(v:Nat) (x:Int),x∈withV ((M.eraseIdx g).map Am) (v:Int)↔∃b:Nat,x=b∧b<M.length-1∧has ((M.eraseIdx g).getD b 0) v=true:=λv x=>by
  rw[mem_withV,List.length_map,hml]
  constructor
  ·rintro⟨b,h1,h2,h3⟩;exact⟨b,h1,h2,(hmem' b h2 v).1 h3⟩
  ·rintro⟨b,h1,h2,h3⟩;exact⟨b,h1,h2,(hmem' b h2 v).2 h3⟩
 have htree:Conn ((CM g k K).mergeSort D6) ((List.range ((M.eraseIdx g).map Am).length).map Int.ofNat):=by
  have ht:=hT.tree
  rw[List.length_map] at ht ⊢
  rw[hml]
  refine conn_map (λx=>((phi g k x.toNat:Nat):Int)) ht (λx hx=> ?_) (λy hy=> ?_) (λx y hx hy hxy=> ?_)
  ·obtain⟨i,hi,rfl⟩:=List.mem_map.1 hx
   exact List.mem_map.2 ⟨_,List.mem_range.2 (phi_lt hg hk hgk (List.mem_range.1 hi)),rfl⟩
  ·obtain⟨j,hj,rfl⟩:=List.mem_map.1 hy
   obtain⟨x,hx,_,e⟩:=phi_ex (k:=k) hg (List.mem_range.1 hj)
   exact⟨(x:Int),List.mem_map.2 ⟨x,List.mem_range.2 hx,rfl⟩,by rw[Int.toNat_natCast,e];rfl⟩
  ·obtain⟨i,hi,rfl⟩:=List.mem_map.1 hx
   obtain⟨j,hj,rfl⟩:=List.mem_map.1 hy
   rcases lnk_of h hT hg hk hgk (List.mem_range.1 hi) (List.mem_range.1 hj) hxy with e|e
   ·left;show ((phi g k i:Nat):Int)=((phi g k j:Nat):Int);rw[e]
   ·right;exact e
 refine⟨by rw[List.length_map,hml];omega,by rw[List.length_map];exact hTS.n16,?_,by rw[List.length_map];exact hTS.lk,λb hb=> ?_,htree,λu v hu ha=> ?_,λv hv=> ?_,λv hv=> ?_⟩
 ·rw[List.length_map,hml]
  have hnd:((List.range ((M.eraseIdx g).map Am).length).map Int.ofNat).Nodup:=by
   unfold List.Nodup
   rw[List.pairwise_map]
   exact List.Pairwise.imp (fun{a b} h e=>by have:(a:Int)=(b:Int):=e;omega) List.pairwise_lt_range
  have h1:=conn_many hnd htree
  rw[List.length_map,List.length_range,List.length_map,hml] at h1
  have h2:(CM g k K).length+1≤K.length:=by
   have hle:∀L:LL,(∃l∈L,lnk (g:Int) (k:Int) l=none)→(L.filterMap (lnk (g:Int) (k:Int))).length+1≤L.length:=by
    intro L
    induction L with
    |nil=>rintro⟨l,hl,_⟩;simp at hl
    |cons a L ih=>
     rintro⟨l,hl,e⟩
     rcases List.mem_cons.1 hl with rfl|hl
     ·rw[List.filterMap_cons_none e]
      have:=List.length_filterMap_le (lnk (g:Int) (k:Int)) L
      simp only[List.length_cons];omega
     ·have:=ih ⟨l,hl,e⟩
      cases ha:lnk (g:Int) (k:Int) a with
      |none=>rw[List.filterMap_cons_none ha];simp only[List.length_cons];omega
      |some r=>rw[List.filterMap_cons_some ha];simp only[List.length_cons];omega
   refine hle K ?_
   rcases hl with hl|hl
   ·exact⟨_,hl,by unfold lnk;simp only[List.getD_cons_zero,List.getD_cons_succ,E6];rw[if_pos (by rw[phi_gk hgk])]⟩
   ·exact⟨_,hl,by unfold lnk;simp only[List.getD_cons_zero,List.getD_cons_succ,E6];rw[if_pos (by rw[phi_gk hgk])]⟩
  have h3:=(CX (CM g k K)).length_eq
  rw[h3] at h1 ⊢
  omega
 ·obtain⟨s,hs,rfl⟩:=List.mem_map.1 hb
  exact hT.sets _ (List.mem_map.2 ⟨s,List.mem_of_mem_eraseIdx hs,rfl⟩)
 ·obtain⟨b,hb,hub,hvb⟩:=hT.edges u v hu ha
  obtain⟨i,hi,rfl⟩:=List.getElem_of_mem hb
  have hi':i<M.length:=by simpa using hi
  rw[←Ar hi [],hmem i hi'] at hub hvb
  have hp:=phi_lt hg hk hgk hi'
  refine⟨((M.eraseIdx g).map Am).getD (phi g k i) [],?_,(hmem' _ hp u).2 (hphi i u hi' hub),(hmem' _ hp v).2 (hphi i v hi' hvb)⟩
  rw[Ar (by simp;omega)]
  exact List.getElem_mem _
 ·obtain⟨x,hx⟩:=List.exists_mem_of_ne_nil _ (hT.some v hv)
  obtain⟨b,rfl,hb,hvb⟩:=(hwith v x).1 hx
  intro hc
  have:=(hwith' v _).2 ⟨_,rfl,phi_lt hg hk hgk hb,hphi b v hb hvb⟩
  rw[hc] at this
  simp at this
 ·refine conn_map (λx=>((phi g k x.toNat:Nat):Int)) (hT.conn v hv) (λx hx=> ?_) (λy hy=> ?_) (λx y hx hy hxy=> ?_)
  ·obtain⟨b,rfl,hb,hvb⟩:=(hwith v x).1 hx
   exact(hwith' v _).2 ⟨_,rfl,phi_lt hg hk hgk hb,hphi b v hb hvb⟩
  ·obtain⟨b,rfl,hb,hvb⟩:=(hwith' v y).1 hy
   obtain⟨x,hx,hxg,e⟩:=phi_ex (k:=k) hg hb
   refine⟨(x:Int),(hwith v _).2 ⟨x,rfl,hx,?_⟩,by rw[Int.toNat_natCast,e]⟩
   rw[←e,Fa hg hx hxg] at hvb
   exact hvb
  ·obtain⟨a,rfl,ha,_⟩:=(hwith v x).1 hx
   obtain⟨b,rfl,hb,_⟩:=(hwith v y).1 hy
   rcases lnk_of h hT hg hk hgk ha hb hxy with e|e
   ·left;rw[Int.toNat_natCast,Int.toNat_natCast,e]
   ·right;exact e
end
structure Kept (G:LL)(M0:LI)(M:LI)(K:LL):Prop where
 tb:TB G (M.map Am) K
 len:M.length≤M0.length
 old:∀s∈M,s∈M0
 sup:∀s∈M0,∃t∈M,∀v,has s v=true→has t v=true
theorem spare_link {M:LI}{K:LL}(h:TS M K){g k:Nat}(e:Dj M K=some (g,k)):Lk K (g:Int) (k:Int)∧prt (M.getD g 0) (M.getD k 0)=true:=by
 obtain⟨i,hi,e2⟩:=List.exists_of_findSome?_eq_some e
 have hi':=List.mem_range.1 hi
 rw[Ar hi'] at e2
 obtain⟨a,b,el,hab,hb⟩:=h.lk _ (List.getElem_mem hi')
 have hm:=List.getElem_mem hi'
 rw[el] at e2 hm
 unfold spareM at e2
 simp only[List.getD_cons_zero,List.getD_cons_succ,Int.toNat_natCast] at e2
 split at e2
 ·rename_i h1;cases e2;exact⟨.inr hm,h1⟩
 ·split at e2
  ·rename_i h1;cases e2;exact⟨.inl hm,h1⟩
  ·cases e2
theorem Kept.step {G:LL}{M0 M:LI}{K:LL}(hM:Kept G M0 M K)(h:TS M K){g k:Nat}(e:Dj M K=some (g,k)):Kept G M0 (M.eraseIdx g) ((CM g k K).mergeSort D6):=by
 obtain⟨hg,hk,hgk⟩:=spare_in h e
 obtain⟨hl,hp⟩:=spare_link h e
 have hvs:∀i,i<M.length→VS (M.getD i 0):=λi hi=>by rw[Ar hi];exact h.vs _ (List.getElem_mem hi)
 have hsub:∀v,has (M.getD g 0) v=true→has (M.getD k 0) v=true:=λv hv=>prt_has (hvs g hg) (hvs k hk) hp hv
 refine⟨merge_TB h hM.tb hg hk hgk hsub hl,?_,λs hs=>hM.old s (List.mem_of_mem_eraseIdx hs),λs hs=> ?_⟩
 ·have:=hM.len
  rw[List.length_eraseIdx,if_pos hg];omega
 ·obtain⟨t,ht,hst⟩:=hM.sup s hs
  obtain⟨i,hi,rfl⟩:=List.getElem_of_mem ht
  have hml:(M.eraseIdx g).length=M.length-1:=by rw[List.length_eraseIdx,if_pos hg]
  have hin:∀x,x<M.length→x≠g→M.getD x 0∈M.eraseIdx g:=λx hx hxg=>by
   rw[←Fa (k:=k) hg hx hxg,Ar (by rw[hml];exact phi_lt hg hk hgk hx)]
   exact List.getElem_mem _
  by_cases hig:i=g
  ·subst hig
   exact⟨_,hin k hk hgk.symm,λv hv=>hsub v (by rw[Ar hi];exact hst v hv)⟩
  ·refine⟨_,hin i hi hig,λv hv=>by rw[Ar hi];exact hst v hv⟩
end Go.Sx

namespace Go.Sx
def cutF (F:LI)(a b:Nat):LI:=(F.modify a (λe=>iandNot .u32 e (ishl .u32 1 (b:Int)))).modify b (λe=>iandNot .u32 e (ishl .u32 1 (a:Int)))
def hdF (H:LI)(a b:Nat):LI:=H.modify a (λe=>ior .u32 e (ishl .u32 1 (b:Int)))
theorem Eh (l:LI)(i j:Nat)(f:Int→Int)(hi:i<l.length):(l.modify i f).getD j 0=if j=i then f (l.getD j 0) else l.getD j 0:=by
 rw[List.getD_eq_getElem?_getD,List.getElem?_modify,List.getD_eq_getElem?_getD]
 by_cases h:j=i
 ·subst h
  rw[List.getElem?_eq_getElem hi];simp
 ·have:¬i=j:=λe=>h e.symm
  rw[if_neg h]
  cases l[j]? <;>simp[this]
theorem Ex (l:LI)(i:Nat)(f:Int→Int):(l.modify i f).length=l.length:=by simp
theorem cutF_getD (F:LI){a b u:Nat}(ha:a<F.length)(hb:b<F.length)(hab:a≠b):(cutF F a b).getD u 0=if u=b then iandNot .u32 (F.getD u 0) (ishl .u32 1 (a:Int)) else if u=a then iandNot .u32 (F.getD u 0) (ishl .u32 1 (b:Int)) else F.getD u 0:=by
 unfold cutF
 rw[Eh _ _ _ _ (by simpa using hb),Eh _ _ _ _ ha]
 by_cases h:u=b
 ·subst h
  rw[if_pos rfl,if_pos rfl,if_neg (λe=>hab e.symm)]
 ·rw[if_neg h,if_neg h]
theorem nb_cut {F:LI}{n:Nat}(hF:FOk F n)(h16:n≤16){a b:Nat}(ha:a<n)(hb:b<n)(hab:a≠b){u w:Nat}(hu:u<n):nb (cutF F a b) u w=(nb F u w&& !decide (u=a∧w=b)&& !decide (u=b∧w=a)):=by
 have hl:=hF.len
 unfold nb
 rw[cutF_getD F (by omega) (by omega) hab]
 by_cases h:u=b
 ·subst h
  rw[if_pos rfl,Ba (hF.vs u hu) (VS.ishl _ _),Bv (by omega)]
  have:¬(u=a∧w=u):=λh=>hab h.1.symm
  simp[this]
 ·rw[if_neg h]
  by_cases h':u=a
  ·subst h'
   rw[if_pos rfl,Ba (hF.vs u hu) (VS.ishl _ _),Bv (by omega)]
   simp[h]
  ·rw[if_neg h'];simp[h,h']
theorem FOk.cut {F:LI}{n:Nat}(hF:FOk F n)(h16:n≤16){a b:Nat}(ha:a<n)(hb:b<n)(hab:a≠b):FOk (cutF F a b) n:=by
 have hl:=hF.len
 have hn:∀{u w},u<n→nb (cutF F a b) u w=true→nb F u w=true∧¬(u=a∧w=b)∧¬(u=b∧w=a):=fun{u w} hu h=>by
  rw[nb_cut hF h16 ha hb hab hu,Bool.and_eq_true,Bool.and_eq_true] at h
  simp only[Bool.not_eq_true',decide_eq_false_iff_not] at h
  exact⟨h.1.1,h.1.2,h.2⟩
 refine⟨by unfold cutF;rw[Ex,Ex,hl],λu hu=> ?_,λu w hu h=>hF.lt u w hu (hn hu h).1,λu hu=> ?_,λu w hu h=> ?_⟩
 ·rw[cutF_getD F (by omega) (by omega) hab]
  split
  ·exact VS.iandNot _ _
  ·split
   ·exact VS.iandNot _ _
   ·exact hF.vs u hu
 ·cases h:nb (cutF F a b) u u
  ·rfl
  ·have:=(hn hu h).1
   rw[hF.irr u hu] at this;cases this
 ·obtain⟨h1,h2,h3⟩:=hn hu h
  have hw:=hF.lt u w hu h1
  rw[nb_cut hF h16 ha hb hab hw,hF.sym u w hu h1]
  have e1:¬(w=a∧u=b):=λe=>h3 ⟨e.2,e.1⟩
  have e2:¬(w=b∧u=a):=λe=>h2 ⟨e.2,e.1⟩
  simp only[decide_eq_false e1,decide_eq_false e2];rfl
structure Oks (n:Nat)(s:LI×LI):Prop where
 f:FOk s.1 n
 l:s.2.length=n
 v:∀u,u<n→VS (s.2.getD u 0)
theorem Oks.step {n:Nat}{s:LI×LI}(h:Oks n s)(h16:n≤16){a b:Nat}(ha:a<n)(hb:b<n)(hab:a≠b):Oks n (cutF s.1 a b,hdF s.2 a b):=by
 have hl:=h.l
 refine⟨h.f.cut h16 ha hb hab,by unfold hdF;rw[Ex];exact h.l,λu hu=> ?_⟩
 show VS ((hdF s.2 a b).getD u 0)
 unfold hdF
 rw[Eh _ _ _ _ (by omega)]
 split
 ·exact VS.ior _ _
 ·exact h.v u hu
section
variable {g : LL} (hg : GOk g)
include hg
end
end Go.Sx

namespace Go.Sx
structure St (g:LL)(u v:Nat)(M:ArM):Prop where
 b:∀kv∈M,∃t:Nat,kv.2=(t:Int)∧t<M.length∧(t=0→kv.1=ap u v)∧(0<t→∃kv'∈M,kv'.2=((t-1:Nat):Int)∧∃p q c d:Nat,kv'.1=ap p q∧kv.1=ap c d∧Gm (adj g) p q c d)
 s:(ap u v,0)∈M
section
variable {g : LL} (hg : GOk g)
include hg
structure Chn (g:LL)(P:List (Nat×Nat)):Prop where
 e:∀p∈P,adj g p.1 p.2
 n:∀i (h:i+1<P.length),Gm (adj g) P[i].1 P[i].2 P[i+1].1 P[i+1].2
def prs (P:List (Nat×Nat)):LL:=P.map λp=>pr p.1 p.2
end
end Go.Sx

namespace Go.Sx
structure Odd (g:LL)(a b:Nat)(l:LL):Prop where
 q:∃Q:List (Nat×Nat),l=prs (Q++[(b,a)])∧Chn g (Q++[(b,a)])∧1≤Q.length∧Q.length≤200∧Q[0]? =some (a,b)∧∀p∈Q,p≠(b,a)
section
variable {g : LL} (hg : GOk g)
include hg
end
end Go.Sx

namespace Go.Sx
theorem Chn.cut {g:LL}{P:List (Nat×Nat)}{x:Nat×Nat}(h:Chn g (P++[x])):Chn g P:=
 ⟨λp hp=>h.e p (List.mem_append_left _ hp),λi hi=>by
  have:=h.n i (by simp;omega)
  rw[List.getElem_append_left (show i<P.length by omega),List.getElem_append_left hi] at this
  exact this⟩
section
variable {g : LL} (hg : GOk g)
include hg
end
end Go.Sx

namespace Go.Sx
section
variable {g : LL} (hg : GOk g)
include hg
end
end Go.Sx

namespace Go.Sx
structure Hd (g:LL)(H:LI):Prop where
 len:H.length=g.length
 vs:∀u,u<g.length→VS (H.getD u 0)
 o:Orn (adj g) (λa b=>a<g.length∧nb H a b=true)
section
variable {g : LL} (hg : GOk g)
include hg
theorem Hd.lt {H:LI}(h:Hd g H){a b:Nat}(ha:a<g.length)(hb:nb H a b=true):b<g.length:=hg.lt ha (h.o.sub a b ⟨ha,hb⟩)
theorem Hd.one {H:LI}(h:Hd g H){a b:Nat}(hab:adj g a b):nb H a b= !nb H b a:=by
 have ha:=DR hg hab
 have hb:=hg.lt ha hab
 cases h1:nb H a b<;>cases h2:nb H b a
 ·rcases h.o.all a b hab with h|h
  ·rw[h1] at h;cases h.2
  ·rw[h2] at h;cases h.2
 ·rfl
 ·rfl
 ·exact absurd ⟨hb,h2⟩ (h.o.one a b ⟨ha,h1⟩)
theorem Hd.idx {H:LI}(h:Hd g H){i:Nat}(hi:i<g.length):idx (H.map Am) (i:Int)=some (Am (H.getD i 0)):=by
 have hl:=h.len
 rw[Ax (show i<(H.map Am).length by simp;omega),List.getElem_map]
 congr 2
 exact(Ar _ _).symm
theorem Hd.set {H:LI}(h:Hd g H){i:Nat}(hi:i<g.length):SetOf (Am (H.getD i 0)) (g.length:Int):=by
 refine⟨Bu _,λx hx=> ?_⟩
 obtain⟨w,_,h2,rfl⟩:=mem_elems.1 hx
 have:=h.lt hg (a:=i) (b:=w) hi h2
 omega
end
end Go.Sx

namespace Go.Sx
theorem Goes2.mono {A:Nat→Nat→Prop}{n:Nat}{L L':Nat→Prop}(hL:∀v,v<n→L v→L' v){s v:Nat}(h:Goes2 A n L s v)(hv:v<n):Goes2 A n L' s v:=by
 induction h with
 |fin h=>exact .fin (hL _ hv h)
 |step a b c d _ ih=>exact .step a b c d (ih d)
section
variable {g : LL} (hg : GOk g)
include hg
def Ring (g:LL):Prop:=3≤g.length∧GoF (g.map mk) g.length (mk (row g 0)) 1 0
theorem Ring.full (h:Ring g):GoF (g.map mk) g.length (full g.length) (2^0) 0:=by
 have h16:=hg.n16
 exact h.2.mono (λv hv _=>by rw[BY h16];exact decide_eq_true hv) (by have:=h.1;omega)
end
end Go.Sx

namespace Go.Sx
section
variable {g : LL} (hg : GOk g)
include hg
end
end Go.Sx

namespace Go.Sx
theorem Dr {f f':Nat→Nat}{i0 d:Nat}:∀{m:Nat},i0<m→(∀i,i≠i0→f' i=f i)→f' i0=f i0+d→AU f' m=AU f m+d
 |0,h,_,_=>absurd h (Nat.not_lt_zero _)
 |m+1,h,h1,h2=>by
  simp only[AU]
  by_cases hm:m=i0
  ·subst hm
   rw[h2,Bg (n:=m) (λi hi=>h1 i (by omega))]
   omega
  ·rw[Dr (show i0<m by omega) h1 h2,h1 m hm]
   omega
theorem Da {f g:Nat→Nat}:∀{m:Nat},(∀i,i<m→f i≤g i)→AU f m≤AU g m
 |0,_=>Nat.le_refl _
 |m+1,h=>by simp only[AU];have:=Da (m:=m) (λi hi=>h i (by omega));have:=h m (by omega);omega
theorem sumN_one {f:Nat→Nat}{i m:Nat}(h:i<m):f i≤AU f m:=by
 induction m with
 |zero=>omega
 |succ m ih=>
  simp only[AU]
  by_cases hm:i=m
  ·subst hm;omega
  ·have:=ih (by omega);omega
theorem EF (f:Nat→Nat)(k:Nat):∀m,AU (λi=>k*f i) m=k*AU f m
 |0=>rfl
 |m+1=>by simp only[AU];rw[EF f k m,Nat.mul_add]
def wst (A:Nat→Nat→Bool)(s v u:Nat):Bool:=A v u&& !s.testBit u
def wcnF (A:Nat→Nat→Bool)(n:Nat)(L:Nat→Bool):Nat→Nat→Nat→Nat
 |0,_,_=>0
 |k+1,s,v=>if s=2^n-1 then bit (L v) else AU (λu=>bit (wst A s v u)*wcnF A n L k (s|||2^u) u) n
theorem wcnF_le {A:Nat→Nat→Bool}{n:Nat}{L:Nat→Bool}(hn:n≤16):∀(k j s v:Nat),s<2^n→2^n-s≤k→k≤j→wcnF A n L k s v=wcnF A n L j s v:=by
 intro k
 induction k with
 |zero=>intro j s v hs hk;omega
 |succ k ih=>
  intro j s v hs hk hj
  obtain⟨j,rfl⟩:∃j',j=j'+1:=⟨j-1,by omega⟩
  unfold wcnF
  by_cases h:s=2^n-1
  ·rw[if_pos h,if_pos h]
  ·rw[if_neg h,if_neg h]
   refine Bg (λu hu=> ?_)
   cases hb:wst A s v u
   ·simp[bit]
   ·have hb2:s.testBit u=false:=by
     unfold wst at hb
     rw[Bool.and_eq_true,Bool.not_eq_true'] at hb
     exact hb.2
    have hgt:=or_gt hn hs hu hb2
    rw[ih j (s|||2^u) u (or_lt hs hu) (by omega) (by omega)]
def wcn (A:Nat→Nat→Bool)(n:Nat)(L:Nat→Bool)(s v:Nat):Nat:=wcnF A n L (2^n) s v
theorem wcn_step {A:Nat→Nat→Bool}{n:Nat}{L:Nat→Bool}(hn:n≤16){s v:Nat}(hs:s<2^n-1)(h0:0<s):wcn A n L s v=AU (λu=>bit (wst A s v u)*wcn A n L (s|||2^u) u) n:=by
 have:=Nat.two_pow_pos n
 unfold wcn
 obtain⟨k,hk⟩:∃k,2^n=k+1:=⟨2^n-1,by omega⟩
 have e:wcnF A n L (2^n) s v=AU (λu=>bit (wst A s v u)*wcnF A n L k (s|||2^u) u) n:=by
  conv=>lhs;rw[hk]
  rw[show wcnF A n L (k+1) s v=if s=2^n-1 then bit (L v) else AU (λu=>bit (wst A s v u)*wcnF A n L k (s|||2^u) u) n from rfl,if_neg (by omega)]
 rw[e]
 refine Bg (λu hu=> ?_)
 cases hb:wst A s v u
 ·simp[bit]
 ·have hb2:s.testBit u=false:=by
   unfold wst at hb
   rw[Bool.and_eq_true,Bool.not_eq_true'] at hb
   exact hb.2
  have hgt:=or_gt hn (show s<2^n by omega) hu hb2
  rw[wcnF_le hn k (2^n) (s|||2^u) u (or_lt (by omega) hu) (by omega) (by omega)]
theorem Ec {f:Nat→Nat}{i0:Nat}:∀{m:Nat},i0<m→AU (λi=>if i=i0 then f i else 0) m=f i0
 |0,h=>absurd h (Nat.not_lt_zero _)
 |m+1,h=>by
  simp only[AU]
  by_cases hm:m=i0
  ·subst hm
   rw[if_pos rfl,Bg (g:=λ_=>0) (λi hi=>if_neg (by omega)),Cp]
   omega
  ·rw[Ec (show i0<m by omega),if_neg hm];omega
def Pot (n:Nat)(h w:Nat→Nat→Nat)(a:Nat):Nat:=AU (λk=>AU (λu=>(if a≤k then w k u else 0)*h k u) n) (2^n)
theorem Pot_next {n:Nat}{h w:Nat→Nat→Nat}{a:Nat}(ha:a<2^n):Pot n h w a=Pot n h w (a+1)+AU (λu=>w a u*h a u) n:=by
 unfold Pot
 refine Dr ha (λk hk=>Bg (λu _=> ?_)) ?_
 ·by_cases h1:a≤k
  ·rw[if_pos h1,if_pos (by omega)]
  ·rw[if_neg h1,if_neg (by omega)]
 ·rw[Bg (g:=λu=>w a u*h a u) (λu _=>by rw[if_pos (Nat.le_refl _)])]
  rw[Bg (f:=λu=>(if a+1≤a then w a u else 0)*h a u) (g:=λ_=>0) (λu _=>by rw[if_neg (by omega),Nat.zero_mul]),Cp]
  omega
def Cm (A:Nat→Nat→Bool)(n:Nat)(w:Nat→Nat→Nat)(s k u:Nat):Nat:=w k u+if s.testBit u=false∧k=s|||2^u then AU (λv=>bit (A v u)*w s v) n else 0
theorem Pot_push {A:Nat→Nat→Bool}{n:Nat}(hn:n≤16){h w:Nat→Nat→Nat}{s:Nat}(hs:s<2^n):Pot n h (Cm A n w s) (s+1)=Pot n h w (s+1)+AU (λv=>w s v*AU (λu=>bit (wst A s v u)*h (s|||2^u) u) n) n:=by
 have e1:Pot n h (Cm A n w s) (s+1)=Pot n h w (s+1)+AU (λk=>AU (λu=>if k=s|||2^u then(if s.testBit u=false then AU (λv=>bit (A v u)*w s v) n*h k u else 0) else 0) n) (2^n):=by
  unfold Pot
  rw[←C6]
  refine Bg (λk hk=> ?_)
  rw[←C6]
  refine Bg (λu hu=> ?_)
  unfold Cm
  by_cases h1:k=s|||2^u
  ·by_cases h2:s.testBit u=false
   ·have hgt:=or_gt hn hs hu h2
    rw[if_pos (show s+1≤k by omega),if_pos ⟨h2,h1⟩,if_pos (show s+1≤k by omega),if_pos h1,if_pos h2,Nat.add_mul]
   ·rw[if_pos h1,if_neg h2]
    have:¬(s.testBit u=false∧k=s|||2^u):=λhc=>h2 hc.1
    rw[if_neg this];rfl
  ·have:¬(s.testBit u=false∧k=s|||2^u):=λhc=>h1 hc.2
   rw[if_neg this,if_neg h1];rfl
 rw[e1,E4]
 congr 1
 refine(Bg (g:=λu=>if s.testBit u=false then AU (λv=>bit (A v u)*w s v) n*h (s|||2^u) u else 0) (λu hu=>Ec (f:=λi=>if s.testBit u=false then AU (λv=>bit (A v u)*w s v) n*h i u else 0) (or_lt hs hu))).trans ?_
 have e2:∀v,w s v*AU (λu=>bit (wst A s v u)*h (s|||2^u) u) n=AU (λu=>w s v*(bit (wst A s v u)*h (s|||2^u) u)) n:=λv=>(EF _ _ n).symm
 rw[Bg (f:=λv=>w s v*AU (λu=>bit (wst A s v u)*h (s|||2^u) u) n) (λv _=>e2 v),E4]
 refine Bg (λu hu=> ?_)
 by_cases h2:s.testBit u=false
 ·rw[if_pos h2,Nat.mul_comm,←EF]
  refine Bg (λv _=> ?_)
  unfold wst
  rw[h2,Bool.not_false,Bool.and_true]
  rw[Nat.mul_comm (h (s|||2^u) u),Nat.mul_comm (bit (A v u)) (w s v),Nat.mul_assoc]
 ·rw[if_neg h2]
  symm
  rw[Bg (g:=λ_=>0) (λv _=> ?_),Cp]
  unfold wst
  cases hb:s.testBit u
  ·exact absurd hb h2
  ·simp[bit]
theorem Pot_eq {A:Nat→Nat→Bool}{n:Nat}(hn:n≤16){h w:Nat→Nat→Nat}{s:Nat}(hs:s<2^n)(hh:∀v,v<n→AU (λu=>bit (wst A s v u)*h (s|||2^u) u) n=h s v):Pot n h (Cm A n w s) (s+1)=Pot n h w s:=by
 rw[Pot_push hn hs,Pot_next hs]
 congr 1
 exact Bg (λv hv=>by rw[hh v hv])
theorem Pot_le {A:Nat→Nat→Bool}{n:Nat}(hn:n≤16){h w:Nat→Nat→Nat}{s:Nat}(hs:s<2^n)(hh:∀v,v<n→AU (λu=>bit (wst A s v u)*h (s|||2^u) u) n≤h s v):Pot n h (Cm A n w s) (s+1)≤Pot n h w s:=by
 rw[Pot_push hn hs,Pot_next hs]
 exact Nat.add_le_add_left (Da (λv hv=>Nat.mul_le_mul_left _ (hh v hv))) _
theorem Pot_one {n:Nat}{h w:Nat→Nat→Nat}{a k u:Nat}(hk:k<2^n)(hu:u<n)(hak:a≤k):w k u*h k u≤Pot n h w a:=by
 unfold Pot
 have h1:=sumN_one (f:=λk=>AU (λu=>(if a≤k then w k u else 0)*h k u) n) hk
 have h2:=sumN_one (f:=λu=>(if a≤k then w k u else 0)*h k u) hu
 rw[if_pos hak] at h2
 omega
def zer (n s:Nat):Nat:=AU (λu=>bit (!s.testBit u)) n
theorem zer_or {n s u:Nat}(hu:u<n)(h:s.testBit u=false):zer n s=zer n (s|||2^u)+1:=by
 unfold zer
 refine Dr hu (λi hi=> ?_) ?_
 ·have:(s|||2^u).testBit i=s.testBit i:=by rw[Nat.testBit_or,Nat.testBit_two_pow,decide_eq_false (λe=>hi e.symm),Bool.or_false]
  rw[this]
 ·have:(s|||2^u).testBit u=true:=by rw[Nat.testBit_or,Nat.testBit_two_pow,decide_eq_true rfl,Bool.or_true]
  rw[this,h];rfl
theorem zer_le (n s:Nat):zer n s≤n:=by
 unfold zer
 have:=Da (f:=λu=>bit (!s.testBit u)) (g:=λ_=>1) (m:=n) (λu _=>by unfold bit;split<;>omega)
 have e:∀n,AU (λ_=>1) n=n:=λn=>by
  induction n with
  |zero=>rfl
  |succ n ih=>simp only[AU];rw[ih]
 rw[e] at this
 exact this
theorem wei_le {A:Nat→Nat→Bool}{n s v:Nat}(h7:n≤7):AU (λu=>bit (wst A s v u)*8^zer n (s|||2^u)) n≤8^zer n s:=by
 have hterm:∀u,u<n→8*(bit (wst A s v u)*8^zer n (s|||2^u))≤8^zer n s:=λu hu=>by
  cases hb:wst A s v u
  ·simp[bit]
  ·have h2:s.testBit u=false:=by
    unfold wst at hb
    rw[Bool.and_eq_true,Bool.not_eq_true'] at hb
    exact hb.2
   rw[zer_or hu h2,Nat.pow_succ,show bit true=1 from rfl,Nat.one_mul,Nat.mul_comm]
   exact Nat.le_refl _
 have h1:=Da (m:=n) (f:=λu=>8*(bit (wst A s v u)*8^zer n (s|||2^u))) (g:=λ_=>8^zer n s) hterm
 rw[EF] at h1
 have e:∀n c,AU (λ_=>c) n=n*c:=λn c=>by
  induction n with
  |zero=>simp[AU]
  |succ n ih=>simp only[AU];rw[ih,Nat.succ_mul]
 rw[e] at h1
 have h2:n*8^zer n s≤8*8^zer n s:=Nat.mul_le_mul_right _ (by omega)
 omega
structure Tab (n:Nat)(W:List (Nat→Int))(w:Nat→Nat→Nat):Prop where
 len:W.length=2^n
 at_:∀k (h:k<W.length) u,u<n→W[k] u=(w k u:Int)
theorem Tab.congr {n:Nat}{W:List (Nat→Int)}{w w':Nat→Nat→Nat}(h:Tab n W w)(e:∀k u,k<2^n→u<n→w' k u=w k u):Tab n W w':=
 ⟨h.len,λk hk u hu=>by rw[e k u (by rw[←h.len];exact hk) hu];exact h.at_ k hk u hu⟩
section
variable {F : LI} {n : Nat} (hF : FOk F n) (h1 : 1 ≤ n) (h16 : n ≤ 16)
include hF h1 h16
end
end Go.Sx

namespace Go.Sx
section
variable {F : LI} {n : Nat} (hF : FOk F n) (h1 : 1 ≤ n) (h16 : n ≤ 16)
include hF h1 h16
end
end Go.Sx

namespace Go.Sx
def w0F (k u:Nat):Nat:=if k=1 then(if u=0 then 1 else 0) else 0
theorem Pot_w0 {n:Nat}(h:Nat→Nat→Nat)(hn:0<n)(h2:1<2^n):Pot n h w0F 1=h 1 0:=by
 unfold Pot
 have e:∀k,AU (λu=>(if 1≤k then w0F k u else 0)*h k u) n=if k=1 then h k 0 else 0:=λk=>by
  by_cases hk:k=1
  ·subst hk
   rw[if_pos rfl]
   have:(λu=>(if 1≤1 then w0F 1 u else 0)*h 1 u)=λu=>if u=0 then h 1 u else 0:=by
    funext u
    unfold w0F
    by_cases hu:u=0<;>simp[hu]
   rw[this,Ec hn]
  ·rw[if_neg hk]
   have:(λu=>(if 1≤k then w0F k u else 0)*h k u)=λ_=>0:=by
    funext u
    unfold w0F
    simp[hk]
   rw[this,Cp]
 rw[Bg (g:=λk=>if k=1 then h k 0 else 0) (λk _=>e k),Ec h2]
structure Psh (F:LI)(n:Nat)(L:Nat→Bool)(w:Nat→Nat→Nat)(s:Nat):Prop where
 odd:s%2=1
 le:s≤2^n-1
 out:∀k v,k.testBit v=false→w k v=0
 ev:∀k v,k%2=0→w k v=0
 p1:Pot n (wcn (nb F) n L) w s=wcn (nb F) n L 1 0
 p2:Pot n (λk _=>8^zer n k) w s≤8^7
 bd:∀k u,k<2^n→u<n→w k u≤8^7
theorem or_odd {s u:Nat}(hs:s%2=1):(s|||2^u)%2=1:=by
 have h1:s.testBit 0=true:=by rw[Nat.testBit_zero];exact decide_eq_true hs
 have h2:(s|||2^u).testBit 0=true:=by rw[Nat.testBit_or,h1,Bool.true_or]
 rw[Nat.testBit_zero] at h2
 exact of_decide_eq_true h2
theorem Psh.bdW {F:LI}{n:Nat}{L:Nat→Bool}{w:Nat→Nat→Nat}{s:Nat}(h7:n≤7)(h:Psh F n L w s)(hs:s<2^n-1):∀k u,k<2^n→u<n→Cm (nb F) n w s k u≤8^7:=λk u hk hu=>by
 have hp:=Pot_le (A:=nb F) (n:=n) (by omega) (h:=λk _=>8^zer n k) (w:=w) (s:=s) (by omega) (λv _=>wei_le h7)
 have h2:=h.p2
 by_cases hks:s+1≤k
 ·have:=Pot_one (n:=n) (h:=λk _=>8^zer n k) (w:=Cm (nb F) n w s) hk hu hks
  have hpos:0<8^zer n k:=Nat.pos_of_ne_zero (by simp)
  have:Cm (nb F) n w s k u≤Cm (nb F) n w s k u*8^zer n k:=Nat.le_mul_of_pos_right _ hpos
  omega
 ·have:Cm (nb F) n w s k u=w k u:=by
   unfold Cm
   rw[if_neg,Nat.add_zero]
   rintro⟨a,b⟩
   have:=or_gt (n:=n) (by omega) (by omega) hu a
   omega
  rw[this];exact h.bd k u hk hu
theorem Psh.next {F:LI}{n:Nat}{L:Nat→Bool}{w:Nat→Nat→Nat}{s:Nat}(h1:1≤n)(h7:n≤7)(h:Psh F n L w s)(hs:s<2^n-1):Psh F n L (Cm (nb F) n w s) (s+2):=by
 have hodd:=h.odd
 have heven:2^n%2=0:=by
  obtain⟨m,rfl⟩:∃m,n=m+1:=⟨n-1,by omega⟩
  rw[Nat.pow_succ];omega
 have hout:∀k v,k.testBit v=false→Cm (nb F) n w s k v=0:=λk v hk=>by
  unfold Cm
  rw[h.out k v hk,if_neg]
  rintro⟨a,b⟩
  rw[b,Nat.testBit_or,Nat.testBit_two_pow,decide_eq_true rfl,Bool.or_true] at hk
  cases hk
 have hev:∀k v,k%2=0→Cm (nb F) n w s k v=0:=λk v hk=>by
  unfold Cm
  rw[h.ev k v hk,if_neg]
  rintro⟨a,b⟩
  have:=or_odd (u:=v) hodd
  omega
 have hrow:∀H:Nat→Nat→Nat,Pot n H (Cm (nb F) n w s) (s+2)=Pot n H (Cm (nb F) n w s) (s+1):=λH=>by
  rw[Pot_next (a:=s+1) (by omega),Bg (g:=λ_=>0) (λu _=>by rw[hev (s+1) u (by omega),Nat.zero_mul]),Cp]
  exact(Nat.add_zero _).symm
 refine⟨by omega,by omega,hout,hev,?_,?_,h.bdW h7 hs⟩
 ·rw[hrow,Pot_eq (by omega) (by omega) (λv _=>(wcn_step (by omega) hs (by omega)).symm)]
  exact h.p1
 ·rw[hrow]
  exact Nat.le_trans (Pot_le (by omega) (by omega) (λv _=>wei_le h7)) h.p2
theorem Psh.start {F:LI}{n:Nat}{L:Nat→Bool}(h1:1≤n)(h7:n≤7):Psh F n L w0F 1:=by
 have hp:2≤2^n:=by
  have:2^1≤2^n:=Nat.pow_le_pow_right (by omega) h1
  omega
 refine⟨rfl,by omega,λk v hk=> ?_,λk v hk=> ?_,Pot_w0 _ (by omega) (by omega),?_,λk u _ _=> ?_⟩
 ·unfold w0F
  by_cases h:k=1
  ·subst h
   by_cases h':v=0
   ·subst h';simp at hk
   ·rw[if_pos rfl,if_neg h']
  ·rw[if_neg h]
 ·unfold w0F
  rw[if_neg (by omega)]
 ·rw[Pot_w0 _ (by omega) (by omega)]
  exact Nat.pow_le_pow_right (by omega) (Nat.le_trans (zer_le n 1) h7)
 ·unfold w0F
  split
  ·split<;>decide
  ·omega
section
variable {g : LL} (hg : GOk g)
include hg
end
end Go.Sx

namespace Go.Sx
section
variable {g : LL} (hg : GOk g)
include hg
end
end Go.Sx

namespace Go.Sx
section
variable {g : LL} (hg : GOk g)
include hg
end
end Go.Sx

namespace Go.Sx
section
variable {g : LL} (hg : GOk g)
include hg
end
end Go.Sx

namespace Go.Sx
structure Bf (g:LL)(S:Nat→Prop)(v0:Nat)(d q:LI):Prop where
 dl:d.length=g.length
 nd:q.Nodup
 me:∀x∈q,∃v:Nat,x=(v:Int)∧v<g.length∧0≤d.getD v (-1)
 bd:∀v,v<g.length→-1≤d.getD v (-1)∧d.getD v (-1)≤q.length
 rc:∀v,v<g.length→0≤d.getD v (-1)→Cn (adj g) S v0 v
 v0:0≤d.getD v0 (-1)
theorem Bf.ql {g:LL}{S:Nat→Prop}{v0:Nat}{d q:LI}(h:Bf g S v0 d q):q.length≤g.length:=by
 have:=Bi (l:=q) (m:=(List.range g.length).map Int.ofNat) h.nd (λx hx=>by
  obtain⟨v,rfl,hv,_⟩:=h.me x hx
  exact List.mem_map.2 ⟨v,List.mem_range.2 hv,rfl⟩)
 simpa using this
theorem Bf.add {g:LL}{S:Nat→Prop}{v0:Nat}{d q:LI}(h:Bf g S v0 d q){c u:Nat}(hc:c<g.length)(hu:u<g.length)(hcd:0≤d.getD c (-1))(hud:d.getD u (-1)<0)(ha:adj g c u)(hS:S u):Bf g S v0 (d.set u (d.getD c (-1)+1)) (q++[(u:Int)]):=by
 have hdl:=h.dl
 have hat:∀v,(d.set u (d.getD c (-1)+1)).getD v (-1)=if v=u then d.getD c (-1)+1 else d.getD v (-1):=λv=>by
  by_cases e:v=u
  ·subst e
   rw[if_pos rfl,Ar (by rw[List.length_set];omega),List.getElem_set_self]
  ·rw[if_neg e,List.getD_eq_getElem?_getD,List.getElem?_set_ne (λh=>e h.symm),←List.getD_eq_getElem?_getD]
 refine⟨by rw[List.length_set];exact hdl,?_,λx hx=> ?_,λv hv=> ?_,λv hv hd=> ?_,?_⟩
 ·unfold List.Nodup
  rw[List.pairwise_append]
  refine⟨h.nd,List.pairwise_singleton _ _,λa ha b hb e=> ?_⟩
  obtain⟨v,rfl,hv,hvd⟩:=h.me a ha
  rw[List.mem_singleton] at hb
  obtain rfl:v=u:=by omega
  omega
 ·rw[List.mem_append,List.mem_singleton] at hx
  rcases hx with hx|rfl
  ·obtain⟨v,rfl,hv,hvd⟩:=h.me x hx
   refine⟨v,rfl,hv,?_⟩
   rw[hat]
   split<;>omega
  ·refine⟨u,rfl,hu,?_⟩
   rw[hat,if_pos rfl]
   omega
 ·rw[hat,List.length_append,List.length_singleton]
  have:=h.bd v hv
  have:=h.bd c hc
  split<;>omega
 ·rw[hat] at hd
  by_cases e:v=u
  ·subst e
   exact(h.rc c hc hcd).step ha hS
  ·rw[if_neg e] at hd
   exact h.rc v hv hd
 ·rw[hat]
  have:=h.v0
  split<;>omega
section
variable {g : LL} (hg : GOk g)
include hg
theorem l3From_ok {v0:Nat}(hv:v0<g.length){L:LI}(hL:Sh L)(hm:(v0:Int)∈L):∃d,D.d0 g (v0:Int) L=some d∧(d.length=g.length∧0≤d.getD v0 (-1)∧(∀u,u<g.length→-1≤d.getD u (-1))∧∀u,u<g.length→0≤d.getD u (-1)→Cn (adj g) (λx=>(x:Int)∈L) v0 u):=by
 have h16:=hg.n16
 have hsz:D.b g=some (g.length:Int):=rfl
 unfold D.d0
 have e1:=C8 (β:=LI) (k:=λl:LI=>some l) (step:=fun(s_54:LI×Int)=>match s_54 with|(l_57,x_62)=>(D.b g).bind λy_89=>cond (decide (x_62<y_89)) ((AC l_57 ([(-1)]:LI)).bind λl_101=>some (.inl (l_101,(IntKind.i64.wrap (x_62+1))))) (some (.inr l_57))) (s0:=(([]:LI),0)) (λi=>(List.replicate i (-1),(i:Int))) g.length (List.replicate g.length (-1)) (by simp) (λi hi=>by
  dsimp only
  rw[hsz,bs,dlt hi,cond_true,AQ (by simp;omega),bs,wi (by omega),List.replicate_succ']) (by
  dsimp only
  rw[hsz,bs,A3,cond_false])
 rw[Option.bind_fun_some] at e1
 rw[e1,bs,Cj _ _ hL,decide_eq_true hm,bs,Bool.not_true,cond_false,Ax (show v0<(List.replicate g.length (-1:Int)).length by rw[List.length_replicate];exact hv),bs]
 have hrep:∀v,(List.replicate g.length (-1:Int)).getD v (-1)= -1:=λv=>by
  rw[List.getD_eq_getElem?_getD,List.getElem?_replicate]
  split<;>rfl
 have hat:∀v,((List.replicate g.length (-1:Int)).set v0 0).getD v (-1)=if v=v0 then 0 else-1:=λv=>by
  by_cases e:v=v0
  ·subst e
   rw[if_pos rfl,Ar (by simp;exact hv),List.getElem_set_self]
  ·rw[if_neg e,List.getD_eq_getElem?_getD,List.getElem?_set_ne (λh=>e h.symm),←List.getD_eq_getElem?_getD,hrep]
 refine AB (λs:LI×LI×Int=>Bf g (λx=>(x:Int)∈L) v0 s.1 s.2.1∧∃i:Nat,s.2.2=(i:Int)∧i≤s.2.1.length) (λs=>g.length-s.2.2.toNat)
  (λd:LI=>d.length=g.length∧0≤d.getD v0 (-1)∧(∀u,u<g.length→-1≤d.getD u (-1))∧∀u,u<g.length→0≤d.getD u (-1)→Cn (adj g) (λx=>(x:Int)∈L) v0 u) ?_ ⟨⟨by simp,List.pairwise_singleton _ _,λx hx=> ?_,λv _=> ?_,λv _ hd=> ?_,?_⟩,0,rfl,Nat.zero_le _⟩ (λr hr=>⟨r,rfl,hr⟩)
 ·rintro⟨d,q,_⟩ ⟨hB,i,rfl,hi⟩
  dsimp only at hB hi ⊢
  have hql:=hB.ql
  by_cases hil:i<q.length
  ·obtain⟨c,ec,hcn,hcd⟩:=hB.me _ (List.getElem_mem hil)
   have hrl:=hg.row_len hcn
   rw[dlt hil,cond_true,Ax hil,ec,bs,Cd hcn,bs]
   refine AB (λs:LI×LI×Int=>Bf g (λx=>(x:Int)∈L) v0 s.1 s.2.1∧s.2.1[i]? =some (c:Int)∧0≤s.1.getD c (-1)∧∃k:Nat,s.2.2=(k:Int)∧k≤(row g c).length) (λs=>(row g c).length-s.2.2.toNat)
    (λs:LI×LI=>Bf g (λx=>(x:Int)∈L) v0 s.1 s.2∧i<s.2.length) ?_ ⟨hB,by dsimp only;rw[List.getElem?_eq_getElem hil,ec],hcd,0,rfl,Nat.zero_le _⟩ ?_
   ·rintro⟨d,q,_⟩ ⟨hB,hqi,hcd,k,rfl,hk⟩
    dsimp only at hB hqi hcd hk ⊢
    have hql:=hB.ql
    have hdl:=hB.dl
    obtain⟨hiq,eiq⟩:=List.getElem?_eq_some_iff.1 hqi
    by_cases hkl:k<(row g c).length
    ·obtain⟨u,eu,hun,_⟩:=hg.mem hcn (List.getElem_mem hkl)
     have hau:adj g c u:=by
      have:=List.getElem_mem hkl
      rw[eu] at this
      exact this
     rw[dlt hkl,cond_true,Ax hkl,eu,bs,Ax (show u<d.length by omega),bs,←Ar (show u<d.length by omega) (-1),wi (by omega)]
     by_cases hud:d.getD u (-1)<0
     ·rw[decide_eq_true hud,cond_true,bs,Cj _ _ hL,bs]
      by_cases hS:(u:Int)∈L
      ·have hcb:=hB.bd c hcn
       have hadd:=hB.add hcn hun hcd hud hau hS
       rw[decide_eq_true hS,bs,cond_true,bs,Ax hiq,eiq,bs,Ax (show c<d.length by omega),bs,←Ar (show c<d.length by omega) (-1),Ax (show u<d.length by omega),bs,bs,AQ (by simp;omega),bs,w64 (by omega) (by omega),Int.toNat_natCast]
       refine⟨_,rfl,⟨hadd,?_,?_,k+1,rfl,hkl⟩,by dsimp only;omega⟩
       ·dsimp only
        rw[List.getElem?_append_left hiq,hqi]
       ·dsimp only
        obtain⟨v,e,_,h⟩:=hadd.me (c:Int) (List.mem_append_left _ (by rw[←eiq];exact List.getElem_mem hiq))
        obtain rfl:c=v:=by omega
        exact h
      ·rw[decide_eq_false hS,bs,cond_false]
       exact⟨_,rfl,⟨hB,hqi,hcd,k+1,rfl,hkl⟩,by dsimp only;omega⟩
     ·rw[decide_eq_false hud,cond_false,bs,cond_false]
      exact⟨_,rfl,⟨hB,hqi,hcd,k+1,rfl,hkl⟩,by dsimp only;omega⟩
    ·obtain rfl:k=(row g c).length:=by omega
     rw[A3,cond_false]
     exact⟨_,rfl,hB,hiq⟩
   ·rintro⟨d,q⟩ ⟨hB,hiq⟩
    dsimp only at hB hiq ⊢
    have:=hB.ql
    rw[wi (by omega)]
    exact⟨_,rfl,⟨hB,i+1,rfl,hiq⟩,by dsimp only;omega⟩
  ·obtain rfl:i=q.length:=by omega
   rw[A3,cond_false]
   exact⟨_,rfl,hB.dl,hB.v0,λu hu=>(hB.bd u hu).1,hB.rc⟩
 ·dsimp only at hx ⊢
  rw[List.mem_singleton] at hx
  exact⟨v0,hx,hv,by rw[Int.toNat_natCast,hat,if_pos rfl];omega⟩
 ·dsimp only
  rw[Int.toNat_natCast,hat]
  split<;>simp
 ·dsimp only at hd
  rw[Int.toNat_natCast,hat] at hd
  by_cases e:v=v0
  ·subst e;exact Cn.refl
  ·rw[if_neg e] at hd;omega
 ·dsimp only
  rw[Int.toNat_natCast,hat,if_pos rfl]
  omega
theorem l3Part_ok {v0:Nat}(hv:v0<g.length){L:LI}(hL:Sh L)(hm:(v0:Int)∈L):∃P,D.k g (v0:Int) L=some P∧((v0:Int)∈P∧P.length≤g.length∧∀x∈P,∃v:Nat,x=(v:Int)∧v<g.length∧Cn (adj g) (λx=>(x:Int)∈L) v0 v):=by
 have h16:=hg.n16
 obtain⟨d,ed,hdl,hd0,_,hrc⟩:=l3From_ok hg hv hL hm
 unfold D.k
 rw[ed,bs]
 refine AB (λs:LI×Int=>∃i:Nat,s.2=(i:Int)∧i≤d.length∧s.1.length≤i∧(v0<i→(v0:Int)∈s.1)∧∀x∈s.1,∃v:Nat,x=(v:Int)∧v<g.length∧Cn (adj g) (λx=>(x:Int)∈L) v0 v) (λs=>d.length-s.2.toNat)
  (λP:LI=>(v0:Int)∈P∧P.length≤g.length∧∀x∈P,∃v:Nat,x=(v:Int)∧v<g.length∧Cn (adj g) (λx=>(x:Int)∈L) v0 v) ?_ ⟨0,rfl,Nat.zero_le _,Nat.le_refl _,λh=>absurd h (Nat.not_lt_zero _),λx hx=>(by cases hx)⟩ (λr hr=>⟨r,rfl,hr⟩)
 rintro⟨P,_⟩ ⟨i,rfl,hi,hPl,h0,hP⟩
 dsimp only at hPl h0 hP ⊢
 by_cases hil:i<d.length
 ·rw[dlt hil,cond_true,Ax hil,bs,←Ar hil (-1),wi (by omega)]
  by_cases hd:0≤d.getD i (-1)
  ·rw[decide_eq_true hd,cond_true,AQ (by simp;omega),bs]
   refine⟨_,rfl,⟨i+1,rfl,hil,by simp;omega,λh=> ?_,λx hx=> ?_⟩,by dsimp only;omega⟩
   ·dsimp only
    rw[List.mem_append,List.mem_singleton]
    by_cases e:v0=i
    ·exact .inr (by rw[e])
    ·exact .inl (h0 (by omega))
   ·dsimp only at hx
    rw[List.mem_append,List.mem_singleton] at hx
    rcases hx with hx|rfl
    ·exact hP x hx
    ·exact⟨i,rfl,by omega,hrc i (by omega) hd⟩
  ·rw[decide_eq_false hd,cond_false]
   refine⟨_,rfl,⟨i+1,rfl,hil,by dsimp only;omega,λh=> ?_,hP⟩,by dsimp only;omega⟩
   by_cases e:v0=i
   ·subst e;exact absurd hd0 hd
   ·exact h0 (by omega)
 ·obtain rfl:i=d.length:=by omega
  rw[A3,cond_false]
  exact⟨_,rfl,h0 (by omega),by omega,hP⟩
end
end Go.Sx

namespace Go.Sx
theorem opt_eq {α:Type}{e:Option α}{a:α}(h:∃y,e=some y∧y=a):e=some a:=by
 obtain⟨y,h1,rfl⟩:=h;exact h1
theorem opt_ex {α β:Type}{e:Option α}{f:β→α}{Q:β→Prop}(h:∃y,e=some y∧∃b,y=f b∧Q b):∃b,e=some (f b)∧Q b:=by
 obtain⟨_,h1,b,rfl,h2⟩:=h;exact⟨b,h1,h2⟩
structure GS (n:Nat)(m:Int)(k:Nat):Prop where
 vs:VS m
 lt:∀v,has m v=true→v<n
 left:SQ n (iandNot .u32 (full n) m) k
def rm (n:Nat)(m:Int):Int:=iandNot .u32 (full n) m
theorem CU {n:Nat}{m:Int}(hn:n≤16)(hm:VS m)(v:Nat):has (rm n m) v=(decide (v<n)&& !has m v):=by
 unfold rm;rw[Ba (Ci n) hm,BY hn]
theorem GS.zero {n:Nat}(hn:n≤16):GS n 0 n:=by
 refine⟨VS.zero,λv hv=>absurd hv (by rw[A4];simp),?_⟩
 have:iandNot .u32 (full n) 0=full n:=(VS.iandNot _ _).ext (Ci n) (λv _=>by rw[Ba (Ci n) VS.zero,A4];simp)
 rw[this];exact SQ.full hn
theorem GS.add {n k v:Nat}{m:Int}(hn:n≤16)(h:GS n m (k+1))(hv:v<n)(hm:has m v=false):GS n (ior .u32 m (ishl .u32 1 (v:Int))) k:=by
 refine⟨VS.ior _ _,λw hw=> ?_,?_⟩
 ·rw[BV h.vs (VS.ishl _ _),Bv (by omega),Bool.or_eq_true] at hw
  rcases hw with hw|hw
  ·exact h.lt w hw
  ·have:=of_decide_eq_true hw;omega
 ·have e:iandNot .u32 (full n) (ior .u32 m (ishl .u32 1 (v:Int)))=iandNot .u32 (iandNot .u32 (full n) m) (ishl .u32 1 (v:Int)):=by
   refine(VS.iandNot _ _).ext (VS.iandNot _ _) (λw _=> ?_)
   rw[Ba (Ci n) (VS.ior _ _),Ba (VS.iandNot _ _) (VS.ishl _ _),Ba (Ci n) h.vs,BV h.vs (VS.ishl _ _)]
   cases has (full n) w<;>cases has m w<;>simp
  rw[e]
  refine h.left.rm ?_
  have:=CU hn h.vs v
  unfold rm at this
  rw[this,hm,decide_eq_true hv];rfl
theorem Cc {v w:Nat}{m:Int}(hm:VS m)(hv:v<32):has (ior .u32 m (ishl .u32 1 (v:Int))) w=(has m w||decide (w=v)):=by
 rw[BV hm (VS.ishl _ _),Bv hv]
def mks (n:Nat)(m:Int):List Bool:=(List.range n).map λv=>has m v
theorem mks_len (n:Nat)(m:Int):(mks n m).length=n:=by simp[mks]
theorem E7 {n v:Nat}{m:Int}(h:v<n):idx (mks n m) (v:Int)=some (has m v):=by
 rw[Ax (by rw[mks_len];exact h)];simp[mks]
theorem mks_set {n v:Nat}{m:Int}(hn:n≤16)(hm:VS m)(h:v<n):(mks n m).set v true=mks n (ior .u32 m (ishl .u32 1 (v:Int))):=by
 apply List.ext_getElem
 ·simp[mks]
 ·intro i h1 h2
  have hi:i<n:=by simpa [mks] using h2
  rw[List.getElem_set]
  simp only[mks,List.getElem_map,List.getElem_range]
  rw[Cc hm (by omega)]
  by_cases hc:v=i
  ·simp[hc]
  ·have:¬i=v:=λe=>hc e.symm
   simp[hc,this]
theorem mks_unset {n v:Nat}{m:Int}(hn:n≤16)(hm:VS m)(h:v<n)(hv:has m v=false):(mks n (ior .u32 m (ishl .u32 1 (v:Int)))).set v false=mks n m:=by
 apply List.ext_getElem
 ·simp[mks]
 ·intro i h1 h2
  have hi:i<n:=by simpa [mks] using h2
  rw[List.getElem_set]
  simp only[mks,List.getElem_map,List.getElem_range]
  rw[Cc hm (by omega)]
  by_cases hc:v=i
  ·subst hc;simp[hv]
  ·have:¬i=v:=λe=>hc e.symm
   simp[hc,this]
theorem mks_zero {n:Nat}:List.replicate n false=mks n 0:=by
 apply List.ext_getElem
 ·simp[mks]
 ·intro i h1 h2
  simp[mks,A4]
theorem has_joins (F:LI)(w:Nat):∀(xs:LI) (s:Int),VS s→(∀x∈xs,VS (F.getD x.toNat 0))→
  VS (xs.foldl (λs x=>ior .u32 s (F.getD x.toNat 0)) s)∧(has (xs.foldl (λs x=>ior .u32 s (F.getD x.toNat 0)) s) w=true↔has s w=true∨∃x∈xs,nb F x.toNat w=true)
 |[],s,hs,_=>⟨hs,by simp⟩
 |x::xs,s,hs,hx=>by
  obtain⟨h1,h2⟩:=has_joins F w xs (ior .u32 s (F.getD x.toNat 0)) (VS.ior _ _) (λy hy=>hx y (by simp[hy]))
  rw[List.foldl_cons]
  refine⟨h1,h2.trans ?_⟩
  rw[BV hs (hx x (by simp)),Bool.or_eq_true]
  simp only[List.mem_cons,exists_eq_or_imp]
  unfold nb
  rw[or_assoc]
noncomputable def bh (F:LI)(m v:Int):Int:=(D.i0 F m v).getD 0
theorem rch_via {F:LI}{n v:Nat}{m S:Int}(hn:n≤16)(hm:VS m)(hv:v<n)(h:Rch F (ior .u32 m (ishl .u32 1 (v:Int))) v S)(x:Nat):has S x=true↔Via F (λy=>has m y=true) v x:=by
 constructor
 ·intro hx
  refine h.least (λx=>Via F (λy=>has m y=true) v x) .me (λx y h1 h2 h3=> ?_) x hx
  rw[Cc hm (by omega),Bool.or_eq_true] at h3
  rcases h3 with h3|h3
  ·exact .step h1 h2 h3
  ·rw[of_decide_eq_true h3];exact .me
 ·intro hx
  induction hx with
  |me=>exact h.me
  |step _ h1 h2 ih=>exact h.step _ _ ih h1 (by rw[Cc hm (by omega),h2];rfl)
theorem DC {F:LI}{n v:Nat}{m:Int}(hn:n≤16)(hF:FOk F n)(hm:VS m)(hv:v<n):
  D.i0 F m (v:Int)=some (bh F m (v:Int))∧VS (bh F m (v:Int))∧∀w,has (bh F m (v:Int)) w=true↔Bhd F (λx=>has m x=true) v w∧has m w=false∧w≠v:=by
 suffices H:∃X,D.i0 F m (v:Int)=some X∧VS X∧∀w,has X w=true↔Bhd F (λx=>has m x=true) v w∧has m w=false∧w≠v by
  obtain⟨X,e,h⟩:=H
  unfold bh
  rw[e]
  exact⟨rfl,h⟩
 obtain⟨S,e1,hS,hlt⟩:=reach_ok hn hF.net hv (VS.ior m (ishl .u32 1 (v:Int)))
 unfold D.i0
 rw[CA,bs,e1,bs,Eo S hS.vs,bs]
 have hel:∀x∈Am S,∃u:Nat,x=u∧u<n∧has S u=true:=λx hx=>by
  obtain⟨u,_,h2,rfl⟩:=mem_elems.1 hx
  exact⟨u,rfl,hlt u h2,h2⟩
 have hfold:=λw=>has_joins F w (Am S) 0 VS.zero (λx hx=>by
  obtain⟨u,rfl,h1,_⟩:=hel x hx
  exact hF.vs u h1)
 have hloop:=E3 (σ:=Int) (Am S) (λs i=>(s,i)) (λs x=>ior .u32 s (F.getD x.toNat 0)) (λs=>s) (λ_=>True) 0 trivial
  (step:=(fun(s_59:Int×Int)=>match s_59 with|(x_62,x_63)=>cond (decide (x_63<((Am S).length:Int))) ((idx (Am S) x_63).bind λe_82=>(idx F e_82).bind λe_88=>some (.inl ((ior .u32 x_62 e_88),(IntKind.i64.wrap (x_63+1))))) (some (.inr x_62))))
  (λs i hi _=>by
   obtain⟨u,h1,h2,_⟩:=hel _ (List.getElem_mem hi)
   have hl:=BO S
   refine⟨?_,trivial⟩
   simp only[dlt hi,cond_true,Ax hi,bs,h1]
   rw[Ax (show u<F.length by rw[hF.len];exact h2),bs,wq i]
   simp[hF.len,h2])
  (λs _=>by simp only[A3,cond_false])
 rw[hloop.1,bs,bs]
 refine⟨_,rfl,VS.iandNot _ _,λw=> ?_⟩
 have hw:=hfold w
 rw[Ba (VS.iandNot _ _) (VS.ishl _ _),Ba hw.1 hm,Bv (by omega),Bool.and_eq_true,Bool.and_eq_true,hw.2]
 simp only[A4,Bool.false_eq_true,false_or,Bool.not_eq_true',decide_eq_false_iff_not]
 constructor
 ·rintro⟨⟨⟨x,hx,h1⟩,h2⟩,h3⟩
  obtain⟨u,rfl,h4,h5⟩:=hel x hx
  exact⟨⟨u,(rch_via hn hm hv hS u).1 h5,by simpa using h1⟩,h2,h3⟩
 ·rintro⟨⟨u,h1,h2⟩,h3,h4⟩
  exact⟨⟨⟨(u:Int),(AN hS.vs).2 ((rch_via hn hm hv hS u).2 h1),by simpa using h2⟩,h3⟩,h4⟩
theorem bh_lt {F:LI}{n v:Nat}{m:Int}(hn:n≤16)(hF:FOk F n)(hm:VS m)(hv:v<n){w:Nat}(h:has (bh F m (v:Int)) w=true):w<n:=by
 obtain⟨⟨u,h1,h2⟩,_⟩:=((DC hn hF hm hv).2.2 w).1 h
 exact hF.lt u w (h1.lt hF hv) h2
theorem bh_len {F:LI}{n v:Nat}{m:Int}(hn:n≤16)(hF:FOk F n)(hm:VS m)(hv:v<n):(Am (bh F m (v:Int))).length≤n:=by
 rw[←Fd (n:=n) (by omega) (λw hw=>bh_lt hn hF hm hv hw)]
 unfold els
 rw[List.length_map]
 exact Nat.le_trans (List.length_filter_le _ _) (by simp)
noncomputable def BD (p:Prop):Nat:=by classical exact if p then 1 else 0
theorem A5 {p:Prop}(h:p):BD p=1:=by unfold BD;rw[if_pos h]
theorem BB {p:Prop}(h:¬p):BD p=0:=by unfold BD;rw[if_neg h]
theorem E8 {p q:Prop}(h:p→q):BD p≤BD q:=by
 by_cases hp:p
 ·rw[A5 hp,A5 (h hp)];exact Nat.le_refl _
 ·rw[BB hp];exact Nat.zero_le _
noncomputable def Bw (n:Nat)(p:Nat→Prop):Nat:=AU (λv=>BD (p v)) n
theorem CB {n:Nat}{p q:Nat→Prop}(h:∀v,v<n→p v→q v):Bw n p≤Bw n q:=Da (λv hv=>E8 (h v hv))
theorem sumN_lt {f g:Nat→Nat}{i m:Nat}(h:∀j,j<m→f j≤g j)(hi:i<m)(hlt:f i<g i):AU f m<AU g m:=by
 induction m with
 |zero=>omega
 |succ m ih=>
  simp only[AU]
  have h1:=h m (by omega)
  by_cases e:i=m
  ·subst e
   have:=Da (f:=f) (g:=g) (m:=i) (λj hj=>h j (by omega))
   omega
  ·have:=ih (λj hj=>h j (by omega)) (by omega)
   omega
theorem DN {α:Type}{P:α→Prop}(f:α→Nat)(h:∃x,P x):∃x,P x∧∀y,P y→f x≤f y:=by
 obtain⟨x,hx⟩:=h
 generalize hk:f x=k
 induction k using Nat.strongRecOn generalizing x with
 |_ k ih=>
  by_cases hc:∃y,P y∧f y<k
  ·obtain⟨y,hy,hlt⟩:=hc
   exact ih _ hlt y hy rfl
  ·refine⟨x,hx,λy hy=> ?_⟩
   apply Classical.byContradiction
   intro h
   exact hc ⟨y,hy,by omega⟩
section
variable (A : Nat → Nat → Prop) (n : Nat)
def EdI (e:Nat):Prop:=e<n*n∧(e/n=e%n∨A (e/n) (e%n))
def AtI (v:Nat)(P:Nat→Prop):Prop:=∃e,EdI A n e∧P e∧(e/n=v∨e%n=v)
def TI (X:BitVec (n*n))(v:Nat):Prop:=AtI A n v λe=>X.getLsbD e=true
def BdI (X:BitVec (n*n))(v:Nat):Prop:=TI A n X v∧TI A n (~~~X) v
def DelI (m:List (BitVec (n*n)))(v:Nat):Prop:=∃X∈m,BdI A n X v
end
def DisI {N:Nat}(X Y:BitVec N):Prop:=∀e,¬(X.getLsbD e=true∧Y.getLsbD e=true)
def Cy {N:Nat}(X Y:BitVec N):Prop:=∀e,X.getLsbD e=true→Y.getLsbD e=true
def PartI {N:Nat}(m:List (BitVec N)):Prop:=m.Pairwise DisI∧∀e,e<N→∃X∈m,X.getLsbD e=true
theorem DisI.symm {N:Nat}{X Y:BitVec N}(h:DisI X Y):DisI Y X:=λe he=>h e ⟨he.2,he.1⟩
theorem CH {N:Nat}{X:BitVec N}{e:Nat}(h:X.getLsbD e=true):e<N:=by
 apply Classical.byContradiction
 intro hc
 rw[BitVec.getLsbD_of_ge X e (by omega)] at h
 cases h
theorem bit_not {N:Nat}{X:BitVec N}{e:Nat}:(~~~X).getLsbD e=true↔e<N∧¬X.getLsbD e=true:=by
 rw[BitVec.getLsbD_not,Bool.and_eq_true,decide_eq_true_eq,Bool.not_eq_true',Bool.not_eq_true]
theorem bit_or {N:Nat}{X Y:BitVec N}{e:Nat}:(X|||Y).getLsbD e=true↔X.getLsbD e=true∨Y.getLsbD e=true:=by
 rw[BitVec.getLsbD_or,Bool.or_eq_true]
theorem bit_and {N:Nat}{X Y:BitVec N}{e:Nat}:(X&&&Y).getLsbD e=true↔X.getLsbD e=true∧Y.getLsbD e=true:=by
 rw[BitVec.getLsbD_and,Bool.and_eq_true]
theorem DT {N:Nat}{X Y:BitVec N}(h:∀e,X.getLsbD e=true↔Y.getLsbD e=true):X=Y:=
 BitVec.eq_of_getLsbD_eq (λe _=>Bool.eq_iff_iff.2 (h e))
theorem Fm {N:Nat}(X:BitVec N): ~~~(~~~X)=X:=DT (λe=>by
 rw[bit_not,bit_not]
 constructor
 ·rintro⟨h1,h2⟩
  apply Classical.byContradiction
  intro hc
  exact h2 ⟨h1,hc⟩
 ·exact λh=>⟨CH h,λh'=>h'.2 h⟩)
theorem PartI.perm {N:Nat}{m m':List (BitVec N)}(h:PartI m)(hp:m.Perm m'):PartI m':=
 ⟨(hp.pairwise_iff (λh=>DisI.symm h)).1 h.1,λe he=>by
  obtain⟨X,hX,h⟩:=h.2 e he
  exact⟨X,hp.mem_iff.1 hX,h⟩⟩
inductive TrI (A:Nat→Nat→Prop)(n k:Nat):List (BitVec (n*n))→Prop
 |node {m:List (BitVec (n*n))}:PartI m→Bw n (DelI A n m)≤k→TrI A n k m
 |glue {X:BitVec (n*n)} {a b:List (BitVec (n*n))}:TrI A n k (X::a)→TrI A n k (~~~X::b)→TrI A n k (a++b)
 |perm {m m':List (BitVec (n*n))}:TrI A n k m→m.Perm m'→TrI A n k m'
section
variable {A : Nat → Nat → Prop} {n k : Nat}
theorem TI_not {X:BitVec (n*n)}{v:Nat}:TI A n (~~~X) v↔AtI A n v λe=>¬X.getLsbD e=true:=by
 constructor
 ·rintro⟨e,h1,h2,h3⟩
  exact⟨e,h1,(bit_not.1 h2).2,h3⟩
 ·rintro⟨e,h1,h2,h3⟩
  exact⟨e,h1,bit_not.2 ⟨h1.1,h2⟩,h3⟩
theorem TI.mono {X Y:BitVec (n*n)}{v:Nat}(h:TI A n X v)(hs:Cy X Y):TI A n Y v:=by
 obtain⟨e,h1,h2,h3⟩:=h
 exact⟨e,h1,hs e h2,h3⟩
theorem BdI.not {X:BitVec (n*n)}{v:Nat}:BdI A n (~~~X) v↔BdI A n X v:=by
 unfold BdI
 rw[Fm]
 exact⟨λh=>⟨h.2,h.1⟩,λh=>⟨h.2,h.1⟩⟩
theorem TrI.part {m:List (BitVec (n*n))}(h:TrI A n k m):PartI m:=by
 induction h with
 |node h _=>exact h
 |perm _ hp ih=>exact ih.perm hp
 | @glue X a b _ _ ih1 ih2=>
  obtain⟨p1,c1⟩:=ih1
  obtain⟨p2,c2⟩:=ih2
  rw[List.pairwise_cons] at p1 p2
  refine⟨?_,λe he=> ?_⟩
  ·rw[List.pairwise_append]
   refine⟨p1.2,p2.2,λY hY Z hZ e hh=> ?_⟩
   have h1:=p1.1 Y hY e
   have h2:=p2.1 Z hZ e
   refine h2 ⟨bit_not.2 ⟨CH hh.1,λh=>h1 ⟨h,hh.1⟩⟩,hh.2⟩
  ·obtain⟨Y,hY,h⟩:=c1 e he
   rcases List.mem_cons.1 hY with rfl|hY
   ·obtain⟨Z,hZ,h'⟩:=c2 e he
    rcases List.mem_cons.1 hZ with rfl|hZ
    ·exact absurd h (bit_not.1 h').2
    ·exact⟨Z,List.mem_append_right _ hZ,h'⟩
   ·exact⟨Y,List.mem_append_left _ hY,h⟩
theorem push_ind {M Fs:BitVec (n*n)}{ms:List (BitVec (n*n))}(hd:∀X∈ms,DisI M X)(v:Nat):
  BD (DelI A n ((M|||Fs)::ms.map (λX=>X&&& ~~~Fs)) v)+BD (BdI A n (M&&&Fs) v)≤BD (DelI A n (M::ms) v)+BD (BdI A n Fs v):=by
 have dM:∀e f,EdI A n e→EdI A n f→M.getLsbD e=true→¬M.getLsbD f=true→(e/n=v∨e%n=v)→(f/n=v∨f%n=v)→DelI A n (M::ms) v:=λe f he hf h1 h2 h3 h4=>
  ⟨M,List.mem_cons_self,⟨e,he,h1,h3⟩,TI_not.2 ⟨f,hf,h2,h4⟩⟩
 have dF:∀e f,EdI A n e→EdI A n f→Fs.getLsbD e=true→¬Fs.getLsbD f=true→(e/n=v∨e%n=v)→(f/n=v∨f%n=v)→BdI A n Fs v:=λe f he hf h1 h2 h3 h4=>
  ⟨⟨e,he,h1,h3⟩,TI_not.2 ⟨f,hf,h2,h4⟩⟩
 have k1:DelI A n ((M|||Fs)::ms.map (λX=>X&&& ~~~Fs)) v→(DelI A n (M::ms) v∨BdI A n Fs v)∧AtI A n v λe=>¬M.getLsbD e=true∧¬Fs.getLsbD e=true:=by
  rintro⟨X,hX,⟨e,he,h1,h3⟩,hn⟩
  obtain⟨f,hf,h2,h4⟩:=TI_not.1 hn
  rcases List.mem_cons.1 hX with rfl|hX
  ·rw[bit_or] at h1
   rw[bit_or] at h2
   have h2':¬M.getLsbD f=true∧¬Fs.getLsbD f=true:=⟨λh=>h2 (.inl h),λh=>h2 (.inr h)⟩
   refine⟨?_,f,hf,h2',h4⟩
   rcases h1 with h1|h1
   ·exact .inl (dM e f he hf h1 h2'.1 h3 h4)
   ·exact .inr (dF e f he hf h1 h2'.2 h3 h4)
  ·obtain⟨Y,hY,rfl⟩:=List.mem_map.1 hX
   rw[bit_and,bit_not] at h1
   have hM:¬M.getLsbD e=true:=λh=>hd Y hY e ⟨h,h1.1⟩
   refine⟨?_,e,he,⟨hM,h1.2.2⟩,h3⟩
   by_cases hfF:Fs.getLsbD f=true
   ·exact .inr (dF f e hf he hfF h1.2.2 h4 h3)
   ·have hfY:¬Y.getLsbD f=true:=λh=>h2 (bit_and.2 ⟨h,bit_not.2 ⟨hf.1,hfF⟩⟩)
    exact .inl ⟨Y,List.mem_cons_of_mem _ hY,⟨e,he,h1.1,h3⟩,TI_not.2 ⟨f,hf,hfY,h4⟩⟩
 have k2:BdI A n (M&&&Fs) v→(DelI A n (M::ms) v∨BdI A n Fs v)∧AtI A n v λe=>M.getLsbD e=true∧Fs.getLsbD e=true:=by
  rintro⟨⟨e,he,h1,h3⟩,hn⟩
  obtain⟨f,hf,h2,h4⟩:=TI_not.1 hn
  rw[bit_and] at h1
  rw[bit_and] at h2
  refine⟨?_,e,he,h1,h3⟩
  by_cases hM:M.getLsbD f=true
  ·exact .inr (dF e f he hf h1.2 (λh=>h2 ⟨hM,h⟩) h3 h4)
  ·exact .inl (dM e f he hf h1.1 hM h3 h4)
 by_cases c1:DelI A n ((M|||Fs)::ms.map (λX=>X&&& ~~~Fs)) v
 ·obtain⟨o1,f,hf,hf2,hf3⟩:=k1 c1
  by_cases c2:BdI A n (M&&&Fs) v
  ·obtain⟨_,e,he,he2,he3⟩:=k2 c2
   rw[A5 c1,A5 c2,A5 (dM e f he hf he2.1 hf2.1 he3 hf3),A5 (dF e f he hf he2.2 hf2.2 he3 hf3)]
   exact Nat.le_refl _
  ·rw[A5 c1,BB c2]
   rcases o1 with h|h
   ·rw[A5 h];omega
   ·rw[A5 h];omega
 ·rw[BB c1]
  by_cases c2:BdI A n (M&&&Fs) v
  ·rw[A5 c2]
   rcases(k2 c2).1 with h|h
   ·rw[A5 h];omega
   ·rw[A5 h];omega
  ·rw[BB c2];omega
theorem push_part {M Fs:BitVec (n*n)}{ms:List (BitVec (n*n))}(h:PartI (M::ms)):PartI ((M|||Fs)::ms.map (λX=>X&&& ~~~Fs)):=by
 obtain⟨p,c⟩:=h
 rw[List.pairwise_cons] at p
 refine⟨?_,λe he=> ?_⟩
 ·rw[List.pairwise_cons]
  refine⟨λX hX e hh=> ?_,?_⟩
  ·obtain⟨Y,hY,rfl⟩:=List.mem_map.1 hX
   rw[bit_or,bit_and,bit_not] at hh
   rcases hh.1 with h|h
   ·exact p.1 Y hY e ⟨h,hh.2.1⟩
   ·exact hh.2.2.2 h
  ·rw[List.pairwise_map]
   refine p.2.imp (fun{X Y} hd e hh=> ?_)
   rw[bit_and,bit_and] at hh
   exact hd e ⟨hh.1.1,hh.2.1⟩
 ·obtain⟨X,hX,h⟩:=c e he
  rcases List.mem_cons.1 hX with rfl|hX
  ·exact⟨_,List.mem_cons_self,bit_or.2 (.inl h)⟩
  ·by_cases hF:Fs.getLsbD e=true
   ·exact⟨_,List.mem_cons_self,bit_or.2 (.inr hF)⟩
   ·exact⟨_,List.mem_cons_of_mem _ (List.mem_map.2 ⟨X,hX,rfl⟩),bit_and.2 ⟨h,bit_not.2 ⟨he,hF⟩⟩⟩
theorem DelI.perm {m m':List (BitVec (n*n))}(hp:m.Perm m'){v:Nat}(h:DelI A n m v):DelI A n m' v:=by
 obtain⟨X,hX,h⟩:=h
 exact⟨X,hp.mem_iff.1 hX,h⟩
theorem TrI.push {A0 B0 Fs:BitVec (n*n)}(hmin:∀S,Cy A0 S→Cy S (~~~B0)→Bw n (BdI A n Fs)≤Bw n (BdI A n S))(hA:Cy A0 Fs)(hB:Cy Fs (~~~B0)){m:List (BitVec (n*n))}(h:TrI A n k m):
  ∀M ms,m.Perm (M::ms)→Cy A0 M→TrI A n k ((M|||Fs)::ms.map (λX=>X&&& ~~~Fs)):=by
 induction h with
 | @node m hP hc=>
  intro M ms hp hM
  have hP':=hP.perm hp
  refine .node (push_part hP') ?_
  have hd:=(List.pairwise_cons.1 hP'.1).1
  have h1:=Da (m:=n) (λv _=>push_ind (A:=A) (Fs:=Fs) hd v)
  rw[C6,C6] at h1
  have h2:=hmin (M&&&Fs) (λe he=>bit_and.2 ⟨hM e he,hA e he⟩) (λe he=>hB e (bit_and.1 he).2)
  have h3:Bw n (DelI A n (M::ms))≤Bw n (DelI A n m):=CB (λv _ h=>h.perm hp.symm)
  unfold Bw at h2 h3 hc ⊢
  omega
 |perm _ hp ih=>exact λM ms hp' hM=>ih M ms (hp.trans hp') hM
 | @glue X a b t1 t2 ih1 ih2=>
  intro M ms hp hM
  have q1:=(List.pairwise_cons.1 t1.part.1).1
  have q2:=(List.pairwise_cons.1 t2.part.1).1
  rcases List.mem_append.1 (hp.mem_iff.2 List.mem_cons_self) with hm|hm
  ·obtain⟨s,t,rfl⟩:=List.append_of_mem hm
   have pa:(s++M::t).Perm (M::(s++t)):=List.perm_middle
   have pm:((s++t)++b).Perm ms:=by
    have:(M::((s++t)++b)).Perm (M::ms):=((pa.append_right b).symm).trans hp
    exact this.cons_inv
   have r1:=ih1 M (X::(s++t)) ((pa.cons X).trans (List.Perm.swap _ _ _)) hM
   have r2:=ih2 (~~~X) b (List.Perm.refl _) (λe he=>bit_not.2 ⟨CH he,λh=>q1 M hm e ⟨h,hM e he⟩⟩)
   rw[List.map_cons] at r1
   have e:(~~~X|||Fs)= ~~~(X&&& ~~~Fs):=DT (λe=>by
    rw[bit_or,bit_not,bit_not,bit_and,bit_not]
    constructor
    ·rintro(h|h)
     ·exact⟨h.1,λh'=>h.2 h'.1⟩
     ·exact⟨CH h,λh'=>h'.2.2 h⟩
    ·rintro⟨h,h'⟩
     by_cases hF:Fs.getLsbD e=true
     ·exact .inr hF
     ·exact .inl ⟨h,λhX=>h' ⟨hX,h,hF⟩⟩)
   rw[e] at r2
   have r3:=TrI.glue (r1.perm (List.Perm.swap _ _ _)) r2
   refine r3.perm ?_
   have:=(pm.map (λX=>X&&& ~~~Fs)).cons (M|||Fs)
   rw[List.map_append] at this
   exact this
  ·obtain⟨s,t,rfl⟩:=List.append_of_mem hm
   have pb:(s++M::t).Perm (M::(s++t)):=List.perm_middle
   have pm:(a++(s++t)).Perm ms:=by
    have h1:(a++(s++M::t)).Perm (M::(a++(s++t))):=(pb.append_left a).trans List.perm_middle
    exact(h1.symm.trans hp).cons_inv
   have r2:=ih2 M (~~~X::(s++t)) ((pb.cons (~~~X)).trans (List.Perm.swap _ _ _)) hM
   have r1:=ih1 X a (List.Perm.refl _) (λe he=>by
    apply Classical.byContradiction
    intro hc
    exact q2 M hm e ⟨bit_not.2 ⟨CH he,hc⟩,hM e he⟩)
   rw[List.map_cons] at r2
   have e:(~~~X&&& ~~~Fs)= ~~~(X|||Fs):=DT (λe=>by
    rw[bit_and,bit_not,bit_not,bit_not,bit_or]
    constructor
    ·exact λh=>⟨h.1.1,λh'=>h'.elim h.1.2 h.2.2⟩
    ·exact λh=>⟨⟨h.1,λh'=>h.2 (.inl h')⟩,h.1,λh'=>h.2 (.inr h')⟩)
   rw[e] at r2
   have r3:=TrI.glue r1 (r2.perm (List.Perm.swap _ _ _))
   refine r3.perm ?_
   have:=(pm.map (λX=>X&&& ~~~Fs)).cons (M|||Fs)
   rw[List.map_append] at this
   exact List.perm_middle.trans this
theorem TrI.refine {X Y:BitVec (n*n)}{a b:List (BitVec (n*n))}(h1:TrI A n k (X::a))(h2:TrI A n k (Y::b))(hd:DisI X Y):∃m,TrI A n k m∧∀Z∈m,∃W,(W∈a∨W∈b)∧Cy Z W:=by
 obtain⟨Fs,⟨hX,hY⟩,hmin⟩:=DN (P:=λS:BitVec (n*n)=>Cy X S∧Cy S (~~~Y)) (λS=>Bw n (BdI A n S)) ⟨X,λ_ h=>h,λe h=>bit_not.2 ⟨CH h,λh'=>hd e ⟨h,h'⟩⟩⟩
 have r1:=h1.push (A0:=X) (B0:=Y) (Fs:=Fs) (λS p q=>hmin S ⟨p,q⟩) hX hY X a (List.Perm.refl _) (λ_ h=>h)
 have hnn:Cy Y (~~~Fs):=λe h=>bit_not.2 ⟨CH h,λh'=>(bit_not.1 (hY e h')).2 h⟩
 have hnx:Cy (~~~Fs) (~~~X):=λe h=>by
  rw[bit_not] at h ⊢
  exact⟨h.1,λh'=>h.2 (hX e h')⟩
 have r2:=h2.push (A0:=Y) (B0:=X) (Fs:= ~~~Fs) (λS p q=>by
  have e1:Bw n (BdI A n (~~~Fs))≤Bw n (BdI A n Fs):=CB (λv _ h=>BdI.not.1 h)
  have e2:Bw n (BdI A n (~~~S))≤Bw n (BdI A n S):=CB (λv _ h=>BdI.not.1 h)
  have:=hmin (~~~S) ⟨λe h=>bit_not.2 ⟨CH h,λh'=>(bit_not.1 (q e h')).2 h⟩,λe h=>by
   rw[bit_not] at h ⊢
   exact⟨h.1,λh'=>h.2 (p e h')⟩⟩
  omega) hnn hnx Y b (List.Perm.refl _) (λ_ h=>h)
 have eX:X|||Fs=Fs:=DT (λe=>by rw[bit_or];exact⟨λh=>h.elim (hX e) id,.inr⟩)
 have eY:Y||| ~~~Fs= ~~~Fs:=DT (λe=>by rw[bit_or];exact⟨λh=>h.elim (hnn e) id,.inr⟩)
 rw[eX] at r1
 rw[eY] at r2
 refine⟨_,TrI.glue r1 r2,λZ hZ=> ?_⟩
 rcases List.mem_append.1 hZ with h|h
 ·obtain⟨W,hW,rfl⟩:=List.mem_map.1 h
  exact⟨W,.inl hW,λe h=>(bit_and.1 h).1⟩
 ·obtain⟨W,hW,rfl⟩:=List.mem_map.1 h
  exact⟨W,.inr hW,λe h=>(bit_and.1 h).1⟩
end
end Go.Sx

namespace Go.Sx
def SmI (A:Nat→Nat→Prop)(n k:Nat)(X:BitVec (n*n)):Prop:=Bw n (TI A n X)≤k
theorem SmI.mono {A:Nat→Nat→Prop}{n k:Nat}{X Y:BitVec (n*n)}(h:SmI A n k Y)(hs:Cy X Y):SmI A n k X:=
 Nat.le_trans (CB (λ_ _ hv=>hv.mono hs)) h
theorem cntP_none {n:Nat}{p:Nat→Prop}(h:∀v,v<n→¬p v):Bw n p=0:=by
 unfold Bw
 rw[Bg (g:=λ_=>0) (λv hv=>BB (h v hv)),Cp]
noncomputable def famI {N:Nat}(B:BitVec N→Prop):Nat:=AU (λi=>BD (B (BitVec.ofNat N i))) (2^N)
theorem famI_lt {N:Nat}{B B':BitVec N→Prop}(h:∀X,B' X→B X){X:BitVec N}(h1:B X)(h2:¬B' X):famI B'<famI B:=by
 have e:BitVec.ofNat N X.toNat=X:=by simp
 refine sumN_lt (i:=X.toNat) (λj _=>E8 (h _)) X.isLt ?_
 rw[e,A5 h1,BB h2]
 exact Nat.one_pos
theorem bitsI_lt {N:Nat}{X Y:BitVec N}(h:Cy X Y)(hne:X≠Y):AU (λe=>BD (X.getLsbD e=true)) N<AU (λe=>BD (Y.getLsbD e=true)) N:=by
 have:∃e,Y.getLsbD e=true∧¬X.getLsbD e=true:=by
  apply Classical.byContradiction
  intro hc
  refine hne (DT (λe=>⟨h e,λhy=> ?_⟩))
  apply Classical.byContradiction
  intro hx
  exact hc ⟨e,hy,hx⟩
 obtain⟨e,h1,h2⟩:=this
 refine sumN_lt (i:=e) (λj _=>E8 (h j)) (CH h1) ?_
 rw[A5 h1,BB h2]
 exact Nat.one_pos
theorem brambleI {A:Nat→Nat→Prop}{n k:Nat}(hns:∀m,TrI A n k m→∃X∈m,¬SmI A n k X):
  ∃B:BitVec (n*n)→Prop,(∀m,TrI A n k m→∃X∈m,B X)∧(∀X,B X→¬SmI A n k X)∧∀X Y,B X→B Y→¬DisI X Y:=by
 obtain⟨B,⟨hup,hn,hhit⟩,hmin⟩:=DN (P:=λB:BitVec (n*n)→Prop=>(∀X Y,B X→Cy X Y→B Y)∧(∀X,B X→¬SmI A n k X)∧∀m,TrI A n k m→∃X∈m,B X) famI
  ⟨λX=>¬SmI A n k X,λX Y h hs h'=>h (h'.mono hs),λX h=>h,hns⟩
 have key:∀X0,B X0→∃X,Cy X X0∧∃a,TrI A n k (X::a)∧∀Z∈a,¬B Z:=λX0 hX0=>by
  obtain⟨X,⟨hs,hX⟩,hm⟩:=DN (P:=λX=>Cy X X0∧B X) (λX=>AU (λe=>BD (X.getLsbD e=true)) (n*n)) ⟨X0,λ_ h=>h,hX0⟩
  refine⟨X,hs,?_⟩
  have hlt:=famI_lt (B:=B) (B':=λZ=>B Z∧Z≠X) (λZ h=>h.1) hX (λh=>h.2 rfl)
  have:¬∀m,TrI A n k m→∃Z∈m,B Z∧Z≠X:=λhh=>by
   have:=hmin (λZ=>B Z∧Z≠X) ⟨λZ W h hs'=>⟨hup Z W h.1 hs',λe=>by
    subst e
    have h1:=hm Z ⟨λe he=>hs e (hs' e he),h.1⟩
    have h2:=bitsI_lt hs' h.2
    omega⟩,λZ h=>hn Z h.1,hh⟩
   omega
  obtain⟨m,hm'⟩:=Classical.not_forall.1 this
  obtain⟨ht,hno⟩:=Classical.not_imp.1 hm'
  obtain⟨Z,hZ,hB⟩:=hhit m ht
  have e:Z=X:=by
   apply Classical.byContradiction
   intro hne
   exact hno ⟨Z,hZ,hB,hne⟩
  subst e
  obtain⟨s,t,rfl⟩:=List.append_of_mem hZ
  have ht':=ht.perm (List.perm_middle (a:=Z) (l₁:=s) (l₂:=t))
  refine⟨s++t,ht',λW hW hBW=> ?_⟩
  have e:W=Z:=by
   apply Classical.byContradiction
   intro hne
   refine hno ⟨W,?_,hBW,hne⟩
   rcases List.mem_append.1 hW with h|h
   ·exact List.mem_append_left _ h
   ·exact List.mem_append_right _ (List.mem_cons_of_mem _ h)
  subst e
  have hd:=(List.pairwise_cons.1 ht'.part.1).1 W hW
  refine hn W hBW ?_
  unfold SmI
  rw[cntP_none (λv _ hT=>by
   obtain⟨e,_,h,_⟩:=hT
   exact hd e ⟨h,h⟩)]
  exact Nat.zero_le _
 refine⟨B,hhit,hn,λX0 Y0 hX hY hd=> ?_⟩
 obtain⟨X,hsX,a,ta,na⟩:=key X0 hX
 obtain⟨Y,hsY,b,tb,nb'⟩:=key Y0 hY
 obtain⟨m,tm,hsub⟩:=ta.refine tb (λe h=>hd e ⟨hsX e h.1,hsY e h.2⟩)
 obtain⟨Z,hZ,hBZ⟩:=hhit m tm
 obtain⟨W,hW,hs⟩:=hsub Z hZ
 rcases hW with h|h
 ·exact na W h (hup Z W hBZ hs)
 ·exact nb' W h (hup Z W hBZ hs)
theorem spec_behind_ok {g:LL}(hg:GOk g){m:Int}(hm:VS m){v:Nat}(hv:v<g.length):
  D.L0 g (mks g.length m) (v:Int)=some (Am (bh (g.map mk) m (v:Int))):=by
 have h16:=hg.n16
 have hF:=FOk.of hg
 have hb:=DC h16 hF hm hv
 have hbl:=λw=>bh_lt h16 hF hm hv (w:=w)
 have hsub:∀l:LI,l.Nodup→(∀x∈l,∃u:Nat,x=u∧u<g.length∧Via (g.map mk) (λy=>has m y=true) v u)→l.length≤g.length:=λl hl hr=>by
  have:=Bi (m:=(List.range g.length).map Int.ofNat) hl (λx hx=>by
   obtain⟨u,rfl,hu,_⟩:=hr x hx
   exact List.mem_map.2 ⟨u,List.mem_range.2 hu,rfl⟩)
  simpa using this
 unfold D.L0
 refine opt_eq ?_
 refine AB (λs=>∃i:Nat,s.2.2=(i:Int)∧i≤s.1.length∧s.1.Nodup∧(∀x∈s.1,∃u:Nat,x=u∧u<g.length∧Via (g.map mk) (λy=>has m y=true) v u)∧(v:Int)∈s.1∧Inc s.2.1∧
   (∀y∈s.2.1,∃u w:Nat,y=w∧w<g.length∧has m w=false∧w≠v∧(u:Int)∈s.1∧nb (g.map mk) u w=true)∧
   (∀u w:Nat,(u:Int)∈s.1.take i→nb (g.map mk) u w=true→(has m w=true→(w:Int)∈s.1)∧(has m w=false→w≠v→(w:Int)∈s.2.1)))
  (λs=>g.length-s.2.2.toNat) (λr=>r=Am (bh (g.map mk) m (v:Int))) ?_
  ⟨0,rfl,by simp,by simp,λx hx=>⟨v,by simpa using hx,hv,.me⟩,by simp,by simp[Inc],by simp,by simp⟩ (λr hr=>⟨r,rfl,hr⟩)
 rintro⟨q,out,_⟩ ⟨i,rfl,hi,hqn,hqm,hqv,hoi,hom,hcl⟩
 dsimp only at hi hqn hqm hqv hoi hom hcl ⊢
 have hql:=hsub q hqn hqm
 by_cases hiq:i<q.length
 ·obtain⟨u,hu1,hu,huv⟩:=hqm _ (List.getElem_mem hiq)
  rw[dlt hiq,cond_true,Ax hiq,bs,hu1,Cd hu,bs]
  have hrl:=hg.row_len hu
  refine AB (λs=>∃k:Nat,s.2.2=(k:Int)∧k≤(row g u).length∧(∃t,s.1=q++t)∧s.1.Nodup∧(∀x∈s.1,∃u:Nat,x=u∧u<g.length∧Via (g.map mk) (λy=>has m y=true) v u)∧Inc s.2.1∧(∀y∈out,y∈s.2.1)∧
    (∀y∈s.2.1,∃u w:Nat,y=w∧w<g.length∧has m w=false∧w≠v∧(u:Int)∈q∧nb (g.map mk) u w=true)∧
    (∀w:Nat,(w:Int)∈(row g u).take k→(has m w=true→(w:Int)∈s.1)∧(has m w=false→w≠v→(w:Int)∈s.2.1)))
   (λs=>(row g u).length-s.2.2.toNat)
   (λr=>(∃t,r.1=q++t)∧r.1.Nodup∧(∀x∈r.1,∃u:Nat,x=u∧u<g.length∧Via (g.map mk) (λy=>has m y=true) v u)∧Inc r.2∧(∀y∈out,y∈r.2)∧
    (∀y∈r.2,∃u w:Nat,y=w∧w<g.length∧has m w=false∧w≠v∧(u:Int)∈q∧nb (g.map mk) u w=true)∧
    (∀w:Nat,(w:Int)∈row g u→(has m w=true→(w:Int)∈r.1)∧(has m w=false→w≠v→(w:Int)∈r.2))) ?_
   ⟨0,rfl,by simp,⟨[],by simp⟩,hqn,hqm,hoi,λ_ h=>h,hom,by simp⟩ ?_
  ·rintro⟨q',out',_⟩ ⟨k,rfl,hk,⟨t,rfl⟩,hqn',hqm',hoi',hsup,hom',hcl'⟩
   dsimp only at hk hqn' hqm' hoi' hsup hom' hcl' ⊢
   have hql':=hsub _ hqn' hqm'
   by_cases hkr:k<(row g u).length
   ·obtain⟨w,hw1,hw,hadj⟩:=hg.mem hu (List.getElem_mem hkr)
    have hnb:=(Dz hg hu).2 hadj
    have htk:=List.take_succ_eq_append_getElem hkr
    have hol:out'.length≤g.length:=hoi'.short (n:=g.length) (λx hx=>by
     obtain⟨_,w,rfl,h,_⟩:=hom' x hx
     omega)
    have hsh:Sh (q++t):=by unfold Sh;omega
    have hwk:=wq k
    simp only[dlt hkr,cond_true,Ax hkr,hw1,bs,E7 hw]
    rw[hw1] at htk
    cases hmw:has m w with
    |true=>
     simp only[cond_true,bs,Cj _ _ hsh,Bool.not_true,cond_false,hwk]
     by_cases hin:(w:Int)∈q++t
     ·simp only[decide_eq_true hin,Bool.not_true,cond_false,bs]
      refine⟨_,rfl,⟨k+1,rfl,by omega,⟨t,rfl⟩,hqn',hqm',hoi',hsup,hom',λz hz=> ?_⟩,by dsimp only;omega⟩
      rw[htk] at hz
      rcases List.mem_append.1 hz with hz|hz
      ·exact hcl' z hz
      ·have:z=w:=Int.ofNat.inj (List.mem_singleton.1 hz)
       subst this
       exact⟨λ_=>hin,λh=>by rw[hmw] at h;cases h⟩
     ·simp only[decide_eq_false hin,Bool.not_false,cond_true,bs,AQ (show (q++t).length+[(w:Int)].length≤4294967296 by simp only[List.length_cons,List.length_nil];omega)]
      refine⟨_,rfl,⟨k+1,rfl,by omega,⟨t++[(w:Int)],by simp⟩,?_,λx hx=> ?_,hoi',hsup,hom',λz hz=> ?_⟩,by dsimp only;omega⟩
      ·have hp:(q++t++[(w:Int)]).Perm ((w:Int)::(q++t)):=List.perm_append_comm
       exact hp.nodup_iff.2 (List.nodup_cons.2 ⟨hin,hqn'⟩)
      ·rcases List.mem_append.1 hx with hx|hx
       ·exact hqm' x hx
       ·exact⟨w,by simpa using hx,hw,.step huv hnb hmw⟩
      ·dsimp only
       rw[htk] at hz
       rcases List.mem_append.1 hz with hz|hz
       ·exact⟨λh=>List.mem_append_left _ ((hcl' z hz).1 h),(hcl' z hz).2⟩
       ·have:z=w:=Int.ofNat.inj (List.mem_singleton.1 hz)
        subst this
        exact⟨λ_=>by simp,λh=>by rw[hmw] at h;cases h⟩
    |false=>
     simp only[cond_false,bs,Bool.not_false,cond_true,hwk]
     by_cases hwv:w=v
     ·have e:(((w:Int) !=(v:Int)):Bool)=false:=by simp[hwv]
      simp only[e,cond_false]
      refine⟨_,rfl,⟨k+1,rfl,by omega,⟨t,rfl⟩,hqn',hqm',hoi',hsup,hom',λz hz=> ?_⟩,by dsimp only;omega⟩
      rw[htk] at hz
      rcases List.mem_append.1 hz with hz|hz
      ·exact hcl' z hz
      ·have:z=w:=Int.ofNat.inj (List.mem_singleton.1 hz)
       subst this
       exact⟨λh=>(by rw[hmw] at h;cases h),λ_ h=>absurd hwv h⟩
     ·have e:(((w:Int) !=(v:Int)):Bool)=true:=by simp;omega
      simp only[e,cond_true,Into_deep,EW _ _ hoi' (show out'.length≤4294967295 by omega),bs]
      refine⟨_,rfl,⟨k+1,rfl,by omega,⟨t,rfl⟩,hqn',hqm',hoi'.into _,λy hy=>mem_into.2 (.inr (hsup y hy)),λy hy=> ?_,λz hz=> ?_⟩,by dsimp only;omega⟩
      ·rcases mem_into.1 hy with rfl|hy
       ·exact⟨u,w,rfl,hw,hmw,hwv,by rw[←hu1];exact List.getElem_mem hiq,hnb⟩
       ·exact hom' y hy
      ·dsimp only
       rw[htk] at hz
       rcases List.mem_append.1 hz with hz|hz
       ·exact⟨(hcl' z hz).1,λh1 h2=>mem_into.2 (.inr ((hcl' z hz).2 h1 h2))⟩
       ·have:z=w:=Int.ofNat.inj (List.mem_singleton.1 hz)
        subst this
        exact⟨λh=>(by rw[hmw] at h;cases h),λ_ _=>mem_into.2 (.inl rfl)⟩
   ·obtain rfl:k=(row g u).length:=by omega
    rw[A3,cond_false]
    rw[List.take_length] at hcl'
    exact⟨_,rfl,⟨t,rfl⟩,hqn',hqm',hoi',hsup,hom',hcl'⟩
  ·rintro⟨q',out'⟩ ⟨⟨t,rfl⟩,hqn',hqm',hoi',hsup,hom',hcl'⟩
   dsimp only at hqn' hqm' hoi' hsup hom' hcl' ⊢
   rw[wq i]
   refine⟨_,rfl,⟨i+1,rfl,by simp;omega,hqn',hqm',List.mem_append_left _ hqv,hoi',λy hy=> ?_,λa w ha haw=> ?_⟩,by dsimp only;omega⟩
   ·obtain⟨a,w,h1,h2,h3,h4,h5,h6⟩:=hom' y hy
    exact⟨a,w,h1,h2,h3,h4,List.mem_append_left _ h5,h6⟩
   ·dsimp only at ha ⊢
    rw[List.take_append_of_le_length (by omega),List.take_succ_eq_append_getElem hiq,hu1] at ha
    rcases List.mem_append.1 ha with ha|ha
    ·have:=hcl a w ha haw
     exact⟨λh=>List.mem_append_left _ (this.1 h),λh1 h2=>hsup _ (this.2 h1 h2)⟩
    ·have:a=u:=Int.ofNat.inj (List.mem_singleton.1 ha)
     subst this
     exact hcl' w ((Dz hg hu).1 haw)
 ·obtain rfl:i=q.length:=by omega
  rw[A3,cond_false]
  rw[List.take_length] at hcl
  refine⟨_,rfl,?_⟩
  show out=_
  have hall:∀x,Via (g.map mk) (λy=>has m y=true) v x→(x:Int)∈q:=λx hx=>by
   induction hx with
   |me=>exact hqv
   |step _ h1 h2 ih=>exact(hcl _ _ ih h1).1 h2
  refine hoi.ext (Bu _) (λy=>⟨λhy=> ?_,λhy=> ?_⟩)
  ·obtain⟨u,w,rfl,h1,h2,h3,h4,h5⟩:=hom y hy
   refine(AN hb.2.1).2 ((hb.2.2 w).2 ⟨⟨u,?_,h5⟩,h2,h3⟩)
   obtain⟨u',e,_,h6⟩:=hqm _ h4
   obtain rfl:u=u':=by omega
   exact h6
  ·obtain⟨w,_,hw,rfl⟩:=mem_elems.1 hy
   obtain⟨⟨x,h1,h2⟩,h3,h4⟩:=(hb.2.2 w).1 hw
   exact(hcl x w (hall x h1) h2).2 h3 h4
noncomputable def wv (F:LI)(rec:Int→Int)(m v:Int):Int:=if((Am (bh F m v)).length:Int)<rec (ior .u32 m (ishl .u32 1 v)) then rec (ior .u32 m (ishl .u32 1 v)) else((Am (bh F m v)).length:Int)
noncomputable def wd (F:LI)(n:Nat):Nat→Int→Int
 |0,_=>0
 |k+1,m=>(Am (rm n m)).foldl (λb v=>if wv F (wd F n k) m v<b then wv F (wd F n k) m v else b) 16
theorem CJ (f:Int→Int):∀(l:LI) (b:Int),(l.foldl (λb v=>if f v<b then f v else b) b≤b)∧(∀v∈l,l.foldl (λb v=>if f v<b then f v else b) b≤f v)∧(l.foldl (λb v=>if f v<b then f v else b) b=b∨∃v∈l,l.foldl (λb v=>if f v<b then f v else b) b=f v)
 |[],b=>by simp
 |x::l,b=>by
  obtain⟨h1,h2,h3⟩:=CJ f l (if f x<b then f x else b)
  rw[List.foldl_cons]
  have hc:(if f x<b then f x else b)≤b∧(if f x<b then f x else b)≤f x∧((if f x<b then f x else b)=b∨(if f x<b then f x else b)=f x):=by split<;>omega
  generalize (if f x<b then f x else b)=c at*
  refine⟨by omega,λv hv=> ?_,?_⟩
  ·rcases List.mem_cons.1 hv with rfl|hv
   ·omega
   ·exact h2 v hv
  ·rcases h3 with h3|⟨v,hv,h3⟩
   ·rcases hc.2.2 with h4|h4
    ·exact .inl (by omega)
    ·exact .inr ⟨x,by simp,by omega⟩
   ·exact .inr ⟨v,List.mem_cons_of_mem _ hv,h3⟩
theorem wd_le (F:LI)(n:Nat):∀k m,wd F n k m≤16
 |0,_=>by unfold wd;omega
 |k+1,m=>by unfold wd;exact(CJ (wv F (wd F n k) m) _ 16).1
theorem wv_ge (F:LI)(rec:Int→Int)(m v:Int):((Am (bh F m v)).length:Int)≤wv F rec m v∧rec (ior .u32 m (ishl .u32 1 v))≤wv F rec m v:=by
 unfold wv;split<;>omega
theorem wv_le {F:LI}{rec:Int→Int}{m v b:Int}:wv F rec m v≤b↔((Am (bh F m v)).length:Int)≤b∧rec (ior .u32 m (ishl .u32 1 v))≤b:=by
 unfold wv;split<;>omega
theorem wd_nonneg (F:LI)(n:Nat):∀k m,0≤wd F n k m
 |0,_=>by unfold wd;omega
 |k+1,m=>by
  unfold wd
  rcases(CJ (wv F (wd F n k) m) (Am (rm n m)) 16).2.2 with h|⟨v,_,h⟩
  ·rw[h];omega
  ·rw[h]
   have:=(wv_ge F (wd F n k) m v).1
   omega
theorem wv_len {F:LI}{n v:Nat}{m:Int}(hn:n≤16)(hF:FOk F n)(hm:VS m)(hv:v<n)(k:Nat):wv F (wd F n k) m (v:Int)≤16:=by
 rw[wv_le]
 have:=bh_len hn hF hm hv
 exact⟨by omega,wd_le _ _ _ _⟩
theorem mem_rm {n:Nat}{m:Int}(hn:n≤16)(hm:VS m){x:Int}:x∈Am (rm n m)↔∃v:Nat,x=v∧v<n∧has m v=false:=by
 rw[mem_elems]
 constructor
 ·rintro⟨v,_,h,rfl⟩
  rw[CU hn hm,Bool.and_eq_true,decide_eq_true_eq,Bool.not_eq_true'] at h
  exact⟨v,rfl,h⟩
 ·rintro⟨v,rfl,h1,h2⟩
  exact⟨v,by omega,by rw[CU hn hm,decide_eq_true h1,h2];rfl,rfl⟩
theorem GS.done {n:Nat}{m:Int}(hn:n≤16)(h:GS n m 0):m=full n:=by
 have hz:rm n m=0:=h.left.z
 refine h.vs.ext (Ci n) (λv _=> ?_)
 rw[BY hn]
 have:=CU hn h.vs v
 rw[hz,A4] at this
 cases hm:has m v with
 |true=>exact(decide_eq_true (h.lt v hm)).symm
 |false=>
  rw[hm] at this
  simp at this
  simp;exact this
theorem GS.undone {n k:Nat}{m:Int}(h:GS n m (k+1)):m≠full n:=by
 intro e
 have h2:=h.left.ne
 rw[e] at h2
 apply h2
 have:iandNot .u32 (full n) (full n)=0:=(VS.iandNot _ _).ext VS.zero (λv _=>by rw[Ba (Ci n) (Ci n),A4];cases has (full n) v<;>rfl)
 rw[this,CP]
theorem GS.le {n k:Nat}{m:Int}(h:GS n m k)(hn:n≤16):k≤n:=by
 have h1:=h.left.card
 rw[←Fd (n:=n) (by omega) (λv hv=>by
  have:=CU hn h.vs v
  unfold rm at this
  rw[this,Bool.and_eq_true] at hv
  exact of_decide_eq_true hv.1)] at h1
 unfold els at h1
 rw[List.length_map] at h1
 have:=List.length_filter_le (has (iandNot .u32 (full n) m)) (List.range n)
 simp at this;omega
theorem wWith_ok {F:LI}{n v:Nat}{m:Int}(hn:n≤16)(hF:FOk F n)(hm:VS m)(hv:v<n){rec:Int→Option Int}{r:Int→Int}(hr:rec (ior .u32 m (ishl .u32 1 (v:Int)))=some (r (ior .u32 m (ishl .u32 1 (v:Int))))):
  D.s0 rec F m (v:Int)=some (wv F r m (v:Int)):=by
 obtain⟨e,h1,_⟩:=DC hn hF hm hv
 unfold D.s0 wv
 rw[e,bs,size_eq h1,bs,CA,bs,hr,bs]
theorem wAfterR_ok {F:LI}{n:Nat}(hn:n≤16)(hF:FOk F n):∀(fuel k:Nat) (m:Int),GS n m k→k<fuel→D.n fuel F m=some (wd F n k m)
 |0,_,_,_,h=>absurd h (by omega)
 |fuel+1,k,m,hm,h=>by
  unfold D.n
  rw[EI,bs,hF.len]
  cases k with
  |zero=>
   rw[hm.done hn,beq_self_eq_true,cond_true];rfl
  |succ k=>
   rw[show (m==full n)=false by simpa using hm.undone,cond_false]
   have hrv:VS (rm n m):=VS.iandNot _ _
   have er:iandNot .u32 (full n) m=rm n m:=rfl
   rw[er,Eo _ hrv,bs]
   have:=BO (rm n m)
   refine(E3 (σ:=Int) (Am (rm n m)) (λs i=>(s,i)) (λb v=>if wv F (wd F n k) m v<b then wv F (wd F n k) m v else b) (λs=>s) (λ_=>True) 16 trivial (λs i hi _=> ?_) (λs _=> ?_)).1
   ·refine⟨?_,trivial⟩
    obtain⟨v,e,hv,hmv⟩:=(mem_rm hn hm.vs).1 (List.getElem_mem hi)
    unfold D.S0
    dsimp only
    rw[dlt hi,cond_true,Ax hi,bs,e,wWith_ok hn hF hm.vs hv (r:=wd F n k) (wAfterR_ok hn hF fuel k _ (hm.add hn hv hmv) (by omega)),bs,wq i]
   ·unfold D.S0
    dsimp only
    rw[A3,cond_false]
theorem EQ {F:LI}{n k:Nat}{m:Int}(hn:n≤16)(hF:FOk F n)(hm:GS n m (k+1)):∃v:Nat,v<n∧has m v=false∧wv F (wd F n k) m (v:Int)=wd F n (k+1) m:=by
 have h:=CJ (wv F (wd F n k) m) (Am (rm n m)) 16
 obtain⟨x,hx⟩:∃x,x∈Am (rm n m):=List.exists_mem_of_ne_nil _ hm.left.ne
 rcases h.2.2 with h3|⟨v,hv,h3⟩
 ·obtain⟨v,rfl,h4,h5⟩:=(mem_rm hn hm.vs).1 hx
  refine⟨v,h4,h5,?_⟩
  have h6:=wv_len hn hF hm.vs h4 k
  have h7:=h.2.1 _ hx
  unfold wd
  omega
 ·obtain⟨v,rfl,h4,h5⟩:=(mem_rm hn hm.vs).1 hv
  exact⟨v,h4,h5,by unfold wd;rw[h3]⟩
inductive Rpw (F:LI)(n k:Nat):Int→Int→Prop
 |refl {S:Int}:Rpw F n k S S
 |step {S S':Int} {v:Nat}:v<n→has S v=false→(Am (bh F S (v:Int))).length+1≤k→Rpw F n k (ior .u32 S (ishl .u32 1 (v:Int))) S'→Rpw F n k S S'
theorem Rpw.trans {F:LI}{n k:Nat}{S S' S2:Int}(h:Rpw F n k S S')(h':Rpw F n k S' S2):Rpw F n k S S2:=by
 induction h with
 |refl=>exact h'
 |step a b c _ ih=>exact .step a b c (ih h')
theorem Co {n:Nat}{K:Int}(hn:n≤16)(h:In n K):(Am K).length=Bw n λv=>has K v=true:=by
 have h1:(Am K)=((List.range n).filter (has K)).map Int.ofNat:=Inc.ext (Bu _) (by
  unfold Inc
  rw[List.pairwise_map]
  refine List.Pairwise.imp (fun{a b} h=> ?_) (List.Pairwise.filter _ List.pairwise_lt_range)
  show (a:Int)<(b:Int)
  omega) (λx=>by
  rw[mem_elems,List.mem_map]
  constructor
  ·rintro⟨v,_,hv,rfl⟩
   exact⟨v,List.mem_filter.2 ⟨List.mem_range.2 (h.2 v hv),hv⟩,rfl⟩
  ·rintro⟨v,hv,rfl⟩
   rw[List.mem_filter,List.mem_range] at hv
   exact⟨v,by omega,hv.2,rfl⟩)
 rw[h1,List.length_map]
 have:∀m,((List.range m).filter (has K)).length=AU (λv=>BD (has K v=true)) m:=by
  intro m
  induction m with
  |zero=>rfl
  |succ m ih=>
   rw[List.range_succ,List.filter_append,List.length_append,ih]
   simp only[AU]
   congr 1
   cases hk:has K m
   ·rw[BB (by simp),List.filter_cons,hk];rfl
   ·rw[A5 rfl,List.filter_cons,hk];rfl
 exact this n
section
variable {F : LI} {n k : Nat} (hn : n ≤ 16) (hF : FOk F n)
include hn hF
theorem Rpw.wd {S:Int}{j:Nat}(h:Rpw F n k S (full n))(hS:GS n S j)(hk:1≤k):wd F n j S≤(k:Int)-1:=by
 generalize hE:full n=E at h
 induction h generalizing j with
 |refl=>
  subst hE
  cases j with
  |zero=>unfold Sx.wd;omega
  |succ j=>exact absurd rfl hS.undone
 | @step S S' v hv hs hb _ ih=>
  subst hE
  cases j with
  |zero=>
   have:=hS.done hn
   subst this
   rw[BY hn,decide_eq_true hv] at hs
   cases hs
  |succ j=>
   have h1:=ih (hS.add hn hv hs) rfl
   have h2:=(CJ (wv F (Sx.wd F n j) S) (Am (rm n S)) 16).2.1 (v:Int) ((mem_rm hn hS.vs).2 ⟨v,rfl,hv,hs⟩)
   have h3:wv F (Sx.wd F n j) S (v:Int)≤(k:Int)-1:=wv_le.2 ⟨by omega,h1⟩
   unfold Sx.wd
   omega
theorem bh_cnt {S:Int}{v:Nat}(hS:VS S)(hv:v<n){q:Nat→Prop}(hq:Bw n q≤k)(h0:q v)(h:∀x w,Via F (λy=>has S y=true) v x→nb F x w=true→has S w=false→w≠v→q w):(Am (bh F S (v:Int))).length+1≤k:=by
 obtain⟨_,hvs,hb⟩:=DC hn hF hS hv
 have hin:In n (bh F S (v:Int)):=⟨hvs,λw hw=>bh_lt hn hF hS hv hw⟩
 have hno:¬has (bh F S (v:Int)) v=true:=λh'=>((hb v).1 h').2.2 rfl
 rw[Co hn hin]
 have h1:Bw n (λw=>has (bh F S (v:Int)) w=true∨w=v)=Bw n (λw=>has (bh F S (v:Int)) w=true)+1:=Dr hv (λi hi=>by
  by_cases hc:has (bh F S (v:Int)) i=true
  ·rw[A5 hc,A5 (.inl hc)]
  ·rw[BB hc,BB (λh'=>h'.elim hc hi)]) (by
  rw[BB hno,A5 (.inr rfl)])
 have h2:Bw n (λw=>has (bh F S (v:Int)) w=true∨w=v)≤Bw n q:=CB (λw _ hw=>by
  rcases hw with hw|rfl
  ·obtain⟨⟨x,hx,hxw⟩,h3,h4⟩:=(hb w).1 hw
   exact h x w hx hxw h3 h4
  ·exact h0)
 omega
theorem fillup {S:Int}(hS:In n S)(p:Nat→Prop)(H:∀S1,In n S1→(∀v,has S v=true→has S1 v=true)→(∀v,has S1 v=true→has S v=true∨p v)→∀v,v<n→p v→has S1 v=false→(Am (bh F S1 (v:Int))).length+1≤k):
  ∃S',Rpw F n k S S'∧In n S'∧∀v,has S' v=true↔has S v=true∨(v<n∧p v):=by
 have key:∀i,i≤n→∃S',Rpw F n k S S'∧In n S'∧∀v,has S' v=true↔has S v=true∨(v<i∧p v):=by
  intro i
  induction i with
  |zero=>exact λ_=>⟨S,.refl,hS,λv=>⟨.inl,λh=>h.elim id (λh=>absurd h.1 (Nat.not_lt_zero _))⟩⟩
  |succ i ih=>
   intro hi
   obtain⟨S1,r1,i1,h1⟩:=ih (by omega)
   by_cases hp:p i∧has S1 i=false
   ·have hb:=H S1 i1 (λv hv=>(h1 v).2 (.inl hv)) (λv hv=>((h1 v).1 hv).imp id (λh=>h.2)) i (by omega) hp.1 hp.2
    have ha:∀v,has (ior .u32 S1 (ishl .u32 1 (i:Int))) v=true↔has S1 v=true∨v=i:=λv=>by
     rw[Cc i1.1 (by omega),Bool.or_eq_true,decide_eq_true_eq]
    refine⟨_,r1.trans (.step (by omega) hp.2 hb .refl),⟨VS.ior _ _,λw hw=> ?_⟩,λv=> ?_⟩
    ·rcases(ha w).1 hw with h|rfl
     ·exact i1.2 w h
     ·omega
    ·rw[ha,h1]
     constructor
     ·rintro((h|h)|rfl)
      ·exact .inl h
      ·exact .inr ⟨by omega,h.2⟩
      ·exact .inr ⟨by omega,hp.1⟩
     ·rintro(h|⟨h,h'⟩)
      ·exact .inl (.inl h)
      ·by_cases e:v=i
       ·exact .inr e
       ·exact .inl (.inr ⟨by omega,h'⟩)
   ·refine⟨S1,r1,i1,λv=> ?_⟩
    rw[h1]
    constructor
    ·exact λh=>h.imp id (λh=>⟨by omega,h.2⟩)
    ·rintro(h|⟨h,h'⟩)
     ·exact .inl h
     ·by_cases e:v=i
      ·subst e
       have:has S1 v=true:=by
        cases hc:has S1 v
        ·exact absurd ⟨h',hc⟩ hp
        ·rfl
       exact(h1 v).1 this
      ·exact .inr ⟨by omega,h'⟩
 exact key n (Nat.le_refl _)
end
def InI (A:Nat→Nat→Prop)(n:Nat)(X:BitVec (n*n))(v:Nat):Prop:=v<n∧¬TI A n (~~~X) v
theorem Dn {n x w:Nat}(hx:x<n)(hw:w<n):x*n+w<n*n∧(x*n+w)/n=x∧(x*n+w)%n=w:=by
 have h0:0<n:=by omega
 refine⟨?_,?_,?_⟩
 ·have:(x+1)*n≤n*n:=Nat.mul_le_mul_right _ hx
  rw[Nat.succ_mul] at this
  omega
 ·rw[Nat.mul_comm,Nat.mul_add_div h0,Nat.div_eq_of_lt hw,Nat.add_zero]
 ·rw[Nat.mul_comm,Nat.mul_add_mod,Nat.mod_eq_of_lt hw]
theorem EdI.of {A:Nat→Nat→Prop}{n x w:Nat}(hx:x<n)(hw:w<n)(h:x=w∨A x w):EdI A n (x*n+w):=by
 obtain⟨h1,h2,h3⟩:=Dn hx hw
 refine⟨h1,?_⟩
 rw[h2,h3]
 exact h
theorem PartI.same {N:Nat}{m:List (BitVec N)}(h:PartI m){X Y:BitVec N}(hX:X∈m)(hY:Y∈m){e:Nat}(h1:X.getLsbD e=true)(h2:Y.getLsbD e=true):X=Y:=by
 obtain⟨i,hi,rfl⟩:=List.getElem_of_mem hX
 obtain⟨j,hj,rfl⟩:=List.getElem_of_mem hY
 rcases Nat.lt_trichotomy i j with c|c|c
 ·exact absurd ⟨h1,h2⟩ ((List.pairwise_iff_getElem.1 h.1) i j hi hj c e)
 ·subst c;rfl
 ·exact absurd ⟨h2,h1⟩ ((List.pairwise_iff_getElem.1 h.1) j i hj hi c e)
section
variable {A : Nat → Nat → Prop} {n k : Nat}
theorem InI.all {X:BitVec (n*n)}{v e:Nat}(h:InI A n X v)(he:EdI A n e)(hv:e/n=v∨e%n=v):X.getLsbD e=true:=by
 apply Classical.byContradiction
 intro hc
 exact h.2 (TI_not.2 ⟨e,he,hc,hv⟩)
theorem InI.mono {X Y:BitVec (n*n)}{v:Nat}(h:InI A n X v)(hs:Cy X Y):InI A n Y v:=
 ⟨h.1,λhT=>h.2 (hT.mono (λe he=>by
  rw[bit_not] at he ⊢
  exact⟨he.1,λh'=>he.2 (hs e h')⟩))⟩
theorem InI.off {X M:BitVec (n*n)}{v:Nat}(h:InI A n X v)(hd:DisI M X):¬TI A n M v:=by
 rintro⟨e,he,h1,h2⟩
 exact hd e ⟨h1,h.all he h2⟩
end
section
variable {F : LI} {n k : Nat} (hn : n ≤ 16) (hF : FOk F n)
include hn hF
theorem TrI.el_node {M:BitVec (n*n)}{ms:List (BitVec (n*n))}(hP:PartI (M::ms))(hc:Bw n (DelI (Ad F) n (M::ms))≤k){S:Int}(hS:In n S)(hSi:∀v,has S v=true→∃X∈M::ms,InI (Ad F) n X v)(hms:∀X∈ms,SmI (Ad F) n k X∨∀v,InI (Ad F) n X v→has S v=true):
  ∃S',Rpw F n k S S'∧In n S'∧∀v,has S' v=true↔has S v=true∨(v<n∧¬TI (Ad F) n M v):=by
 have hdM:=(List.pairwise_cons.1 hP.1).1
 have hloop:∀v,v<n→EdI (Ad F) n (v*n+v)∧((v*n+v)/n=v∨(v*n+v)%n=v):=λv hv=>⟨EdI.of hv hv (.inl rfl),.inl (Dn hv hv).2.1⟩
 have hvia:∀{S1:Int} {v x:Nat},v<n→Via F (λy=>has S1 y=true) v x→x<n:=λhv h=>h.lt hF hv
 obtain⟨S1,r1,i1,h1⟩:=fillup (k:=k) hn hF hS (λv=>∃X∈ms,InI (Ad F) n X v) (λS1 i1 hsub hle v hv ⟨X,hX,hXv⟩ hno=>by
  have hSm:SmI (Ad F) n k X:=by
   rcases hms X hX with h|h
   ·exact h
   ·have:=hsub v (h v hXv)
    rw[hno] at this;cases this
  have hin:∀x,Via F (λy=>has S1 y=true) v x→InI (Ad F) n X x:=λx hx=>by
   induction hx with
   |me=>exact hXv
   | @step x y h1 h2 h3 ih=>
    have hyn:=i1.2 y h3
    have hy:∃Y∈M::ms,InI (Ad F) n Y y:=by
     rcases hle y h3 with h|⟨Y,hY,h⟩
     ·exact hSi y h
     ·exact⟨Y,List.mem_cons_of_mem _ hY,h⟩
    obtain⟨Y,hY,hYy⟩:=hy
    obtain⟨e1,e2,e3⟩:=Dn ih.1 hyn
    have he:EdI (Ad F) n (x*n+y):=EdI.of ih.1 hyn (.inr h2)
    have:=hP.same (List.mem_cons_of_mem _ hX) hY (ih.all he (.inl e2)) (hYy.all he (.inr e3))
    rw[this]
    exact hYy
  obtain⟨hl1,hl2⟩:=hloop v hv
  refine bh_cnt hn hF i1.1 hv hSm ⟨_,hl1,hXv.all hl1 hl2,hl2⟩ (λx w hx hxw _ _=> ?_)
  have hx':=hin x hx
  have hwn:=hF.lt x w hx'.1 hxw
  obtain⟨e1,e2,e3⟩:=Dn hx'.1 hwn
  have he:EdI (Ad F) n (x*n+w):=EdI.of hx'.1 hwn (.inr hxw)
  exact⟨_,he,hx'.all he (.inl e2),.inr e3⟩)
 obtain⟨S2,r2,i2,h2⟩:=fillup (k:=k) hn hF i1 (λv=>¬TI (Ad F) n M v) (λS2 i2 hsub hle v hv hvM hno=>by
  have hoff:∀x,Via F (λy=>has S2 y=true) v x→¬TI (Ad F) n M x:=λx hx=>by
   induction hx with
   |me=>exact hvM
   | @step x y h3 h4 h5 ih=>
    have hxn:=hvia hv h3
    have hyn:=i2.2 y h5
    obtain⟨e1,e2,e3⟩:=Dn hxn hyn
    have he:EdI (Ad F) n (x*n+y):=EdI.of hxn hyn (.inr h4)
    rcases hle y h5 with h|h
    ·have hy:∃Y∈M::ms,InI (Ad F) n Y y:=by
      rcases(h1 y).1 h with h|⟨_,Y,hY,h⟩
      ·exact hSi y h
      ·exact⟨Y,List.mem_cons_of_mem _ hY,h⟩
     obtain⟨Y,hY,hYy⟩:=hy
     rcases List.mem_cons.1 hY with rfl|hY
     ·exact absurd ⟨_,he,hYy.all he (.inr e3),.inl e2⟩ ih
     ·exact hYy.off (hdM Y hY)
    ·exact h
  have hborder:∀u,u<n→has S2 u=false→¬TI (Ad F) n M u→DelI (Ad F) n (M::ms) u:=λu hu hu2 hM=>by
   obtain⟨hl1,hl2⟩:=hloop u hu
   obtain⟨X,hX,hXe⟩:=hP.2 _ hl1.1
   have hTX:TI (Ad F) n X u:=⟨_,hl1,hXe,hl2⟩
   refine⟨X,hX,hTX,?_⟩
   rcases List.mem_cons.1 hX with rfl|hX
   ·exact absurd hTX hM
   ·apply Classical.byContradiction
    intro hc
    have:=hsub u ((h1 u).2 (.inr ⟨hu,X,hX,hu,hc⟩))
    rw[hu2] at this;cases this
  refine bh_cnt hn hF i2.1 hv hc (hborder v hv hno hvM) (λx w hx hxw hw hwv=> ?_)
  have hxn:=hvia hv hx
  have hwn:=hF.lt x w hxn hxw
  by_cases hMw:TI (Ad F) n M w
  ·obtain⟨e1,e2,e3⟩:=Dn hxn hwn
   have he:EdI (Ad F) n (x*n+w):=EdI.of hxn hwn (.inr hxw)
   refine⟨M,List.mem_cons_self,hMw,TI_not.2 ⟨_,he,λh=>hoff x hx ⟨_,he,h,.inl e2⟩,.inr e3⟩⟩
  ·exact hborder w hwn hw hMw)
 refine⟨S2,r1.trans r2,i2,λv=> ?_⟩
 rw[h2,h1]
 constructor
 ·rintro((h|⟨h,X,hX,h'⟩)|h)
  ·exact .inl h
  ·exact .inr ⟨h,h'.off (hdM X hX)⟩
  ·exact .inr h
 ·rintro(h|h)
  ·exact .inl (.inl h)
  ·exact .inr h
theorem TrI.el {m:List (BitVec (n*n))}(h:TrI (Ad F) n k m):∀M ms,m.Perm (M::ms)→∀S,In n S→(∀v,has S v=true→∃X∈M::ms,InI (Ad F) n X v)→(∀X∈ms,SmI (Ad F) n k X∨∀v,InI (Ad F) n X v→has S v=true)→
  ∃S',Rpw F n k S S'∧In n S'∧∀v,has S' v=true↔has S v=true∨(v<n∧¬TI (Ad F) n M v):=by
 induction h with
 |node hP hc=>
  intro M ms hp S hS hSi hms
  exact TrI.el_node hn hF (hP.perm hp) (Nat.le_trans (CB (λv _ h=>h.perm hp.symm)) hc) hS hSi hms
 |perm _ hp ih=>exact λM ms hp'=>ih M ms (hp.trans hp')
 | @glue X a b t1 t2 ih1 ih2=>
  intro M ms hp S hS hSi hms
  have q1:=(List.pairwise_cons.1 t1.part.1).1
  have q2:=(List.pairwise_cons.1 t2.part.1).1
  have sa:∀Y∈a,Cy Y (~~~X):=λY hY e he=>bit_not.2 ⟨CH he,λh=>q1 Y hY e ⟨h,he⟩⟩
  have sb:∀Y∈b,Cy Y X:=λY hY e he=>by
   apply Classical.byContradiction
   intro hc
   exact q2 Y hY e ⟨bit_not.2 ⟨CH he,hc⟩,he⟩
  rcases List.mem_append.1 (hp.mem_iff.2 List.mem_cons_self) with hm|hm
  ·obtain⟨s,t,rfl⟩:=List.append_of_mem hm
   have pa:(s++M::t).Perm (M::(s++t)):=List.perm_middle
   have pm:((s++t)++b).Perm ms:=by
    have:(M::((s++t)++b)).Perm (M::ms):=((pa.append_right b).symm).trans hp
    exact this.cons_inv
   have hS2:∀v,has S v=true→(∃Y∈M::(s++t),InI (Ad F) n Y v)∨∃Y∈b,InI (Ad F) n Y v:=λv hv=>by
    obtain⟨Y,hY,h⟩:=hSi v hv
    rcases List.mem_append.1 (hp.mem_iff.2 hY) with h'|h'
    ·exact .inl ⟨Y,pa.mem_iff.1 h',h⟩
    ·exact .inr ⟨Y,h',h⟩
   obtain⟨S1,r1,i1,h1⟩:=ih2 (~~~X) b (List.Perm.refl _) S hS (λv hv=>by
    rcases hS2 v hv with⟨Y,hY,h⟩|⟨Y,hY,h⟩
    ·exact⟨_,List.mem_cons_self,h.mono (sa Y (pa.mem_iff.2 hY))⟩
    ·exact⟨Y,List.mem_cons_of_mem _ hY,h⟩) (λY hY=>hms Y (pm.mem_iff.1 (List.mem_append_right _ hY)))
   obtain⟨S2,r2,i2,h2⟩:=ih1 M (X::(s++t)) ((pa.cons X).trans (List.Perm.swap _ _ _)) S1 i1 (λv hv=>by
    rcases(h1 v).1 hv with h|h
    ·rcases hS2 v h with⟨Y,hY,h⟩|⟨Y,hY,h⟩
     ·rcases List.mem_cons.1 hY with rfl|hY
      ·exact⟨_,List.mem_cons_self,h⟩
      ·exact⟨Y,List.mem_cons_of_mem _ (List.mem_cons_of_mem _ hY),h⟩
     ·exact⟨X,List.mem_cons_of_mem _ List.mem_cons_self,h.mono (sb Y hY)⟩
    ·exact⟨X,List.mem_cons_of_mem _ List.mem_cons_self,h⟩) (λY hY=>by
    rcases List.mem_cons.1 hY with rfl|hY
    ·exact .inr (λv h=>(h1 v).2 (.inr h))
    ·exact(hms Y (pm.mem_iff.1 (List.mem_append_left _ hY))).imp id (λh v hv=>(h1 v).2 (.inl (h v hv))))
   refine⟨S2,r1.trans r2,i2,λv=> ?_⟩
   rw[h2,h1]
   constructor
   ·rintro((h|h)|h)
    ·exact .inl h
    ·exact .inr ⟨h.1,InI.off (X:=X) h (q1 M hm).symm⟩
    ·exact .inr h
   ·exact λh=>h.elim (λh=> .inl (.inl h)) .inr
  ·obtain⟨s,t,rfl⟩:=List.append_of_mem hm
   have pb:(s++M::t).Perm (M::(s++t)):=List.perm_middle
   have pm:(a++(s++t)).Perm ms:=by
    have h1:(a++(s++M::t)).Perm (M::(a++(s++t))):=(pb.append_left a).trans List.perm_middle
    exact(h1.symm.trans hp).cons_inv
   have hS2:∀v,has S v=true→(∃Y∈a,InI (Ad F) n Y v)∨∃Y∈M::(s++t),InI (Ad F) n Y v:=λv hv=>by
    obtain⟨Y,hY,h⟩:=hSi v hv
    rcases List.mem_append.1 (hp.mem_iff.2 hY) with h'|h'
    ·exact .inl ⟨Y,h',h⟩
    ·exact .inr ⟨Y,pb.mem_iff.1 h',h⟩
   have hnX:∀v,(v<n∧¬TI (Ad F) n X v)↔InI (Ad F) n (~~~X) v:=λv=>by
    unfold InI
    rw[Fm]
   obtain⟨S1,r1,i1,h1⟩:=ih1 X a (List.Perm.refl _) S hS (λv hv=>by
    rcases hS2 v hv with⟨Y,hY,h⟩|⟨Y,hY,h⟩
    ·exact⟨Y,List.mem_cons_of_mem _ hY,h⟩
    ·exact⟨_,List.mem_cons_self,h.mono (sb Y (pb.mem_iff.2 hY))⟩) (λY hY=>hms Y (pm.mem_iff.1 (List.mem_append_left _ hY)))
   obtain⟨S2,r2,i2,h2⟩:=ih2 M (~~~X::(s++t)) ((pb.cons (~~~X)).trans (List.Perm.swap _ _ _)) S1 i1 (λv hv=>by
    rcases(h1 v).1 hv with h|h
    ·rcases hS2 v h with⟨Y,hY,h⟩|⟨Y,hY,h⟩
     ·exact⟨~~~X,List.mem_cons_of_mem _ List.mem_cons_self,h.mono (sa Y hY)⟩
     ·rcases List.mem_cons.1 hY with rfl|hY
      ·exact⟨_,List.mem_cons_self,h⟩
      ·exact⟨Y,List.mem_cons_of_mem _ (List.mem_cons_of_mem _ hY),h⟩
    ·exact⟨~~~X,List.mem_cons_of_mem _ List.mem_cons_self,(hnX v).1 h⟩) (λY hY=>by
    rcases List.mem_cons.1 hY with rfl|hY
    ·exact .inr (λv h=>(h1 v).2 (.inr ((hnX v).2 h)))
    ·exact(hms Y (pm.mem_iff.1 (List.mem_append_right _ hY))).imp id (λh v hv=>(h1 v).2 (.inl (h v hv))))
   refine⟨S2,r1.trans r2,i2,λv=> ?_⟩
   rw[h2,h1]
   constructor
   ·rintro((h|h)|h)
    ·exact .inl h
    ·exact .inr ⟨h.1,InI.off ((hnX v).1 h) (q2 M hm).symm⟩
    ·exact .inr h
   ·exact λh=>h.elim (λh=> .inl (.inl h)) .inr
theorem wd_small (h1:1≤n){m:List (BitVec (n*n))}(h:TrI (Ad F) n k m)(hs:∀X∈m,SmI (Ad F) n k X):1≤k∧wd F n n 0≤(k:Int)-1:=by
 have hz:EdI (Ad F) n (0*n+0):=EdI.of h1 h1 (.inl rfl)
 have hk:1≤k:=by
  obtain⟨X,hX,he⟩:=h.part.2 _ hz.1
  have h2:=hs X hX
  have h3:TI (Ad F) n X 0:=⟨_,hz,he,.inl (Dn h1 h1).2.1⟩
  have h4:=sumN_one (f:=λv=>BD (TI (Ad F) n X v)) h1
  rw[A5 h3] at h4
  exact Nat.le_trans h4 h2
 refine⟨hk,?_⟩
 obtain⟨M,hM,_⟩:=h.part.2 _ hz.1
 obtain⟨s,t,rfl⟩:=List.append_of_mem hM
 have h0:In n 0:=⟨VS.zero,λw hw=>by rw[A4] at hw;cases hw⟩
 obtain⟨S1,r1,i1,e1⟩:=h.el hn hF M (s++t) List.perm_middle 0 h0 (λv hv=>by rw[A4] at hv;cases hv) (λX hX=> .inl (hs X (by
  rcases List.mem_append.1 hX with h|h
  ·exact List.mem_append_left _ h
  ·exact List.mem_append_right _ (List.mem_cons_of_mem _ h))))
 obtain⟨S2,r2,i2,e2⟩:=fillup (k:=k) hn hF i1 (λv=>TI (Ad F) n M v) (λS2 i2 hsub hle v hv hvM hno=>by
  refine bh_cnt hn hF i2.1 hv (hs M hM) hvM (λx w hx hxw hw _=> ?_)
  have hwn:=hF.lt x w (hx.lt hF hv) hxw
  apply Classical.byContradiction
  intro hc
  have:=hsub w ((e1 w).2 (.inr ⟨hwn,hc⟩))
  rw[hw] at this;cases this)
 have hfull:S2=full n:=i2.1.ext (Ci n) (λv _=>by
  rw[BY hn,Bool.eq_iff_iff,decide_eq_true_eq,e2,e1,A4]
  constructor
  ·rintro((h|h)|h)
   ·cases h
   ·exact h.1
   ·exact h.1
  ·intro hv
   by_cases hT:TI (Ad F) n M v
   ·exact .inr ⟨hv,hT⟩
   ·exact .inl (.inr ⟨hv,hT⟩))
 rw[hfull] at r2
 exact(r1.trans r2).wd hn hF (GS.zero hn) hk
end
end Go.Sx

namespace Go.Sx
theorem exists_nat (p:Nat→Prop):∀N:Nat,∃m,m<2^N∧∀e,m.testBit e=true↔e<N∧p e
 |0=>⟨0,by simp,λe=>by simp⟩
 |N+1=>by
  obtain⟨m,hm,h⟩:=exists_nat p N
  by_cases hp:p N
  ·refine⟨m|||2^N,Nat.or_lt_two_pow (Nat.lt_of_lt_of_le hm (Nat.pow_le_pow_right (by omega) (by omega))) (Nat.pow_lt_pow_right (by omega) (by omega)),λe=> ?_⟩
   rw[Nat.testBit_or,Nat.testBit_two_pow,Bool.or_eq_true,decide_eq_true_eq,h]
   constructor
   ·rintro(h|rfl)
    ·exact⟨by omega,h.2⟩
    ·exact⟨by omega,hp⟩
   ·rintro⟨h1,h2⟩
    by_cases c:e=N
    ·exact .inr c.symm
    ·exact .inl ⟨by omega,h2⟩
  ·refine⟨m,Nat.lt_of_lt_of_le hm (Nat.pow_le_pow_right (by omega) (by omega)),λe=> ?_⟩
   rw[h]
   constructor
   ·exact λh=>⟨by omega,h.2⟩
   ·rintro⟨h1,h2⟩
    by_cases c:e=N
    ·subst c;exact absurd h2 hp
    ·exact⟨by omega,h2⟩
theorem Ef (N:Nat)(p:Nat→Prop):∃X:BitVec N,∀e,X.getLsbD e=true↔e<N∧p e:=by
 obtain⟨m,_,h⟩:=exists_nat p N
 refine⟨BitVec.ofNat N m,λe=> ?_⟩
 rw[BitVec.getLsbD_ofNat,Bool.and_eq_true,decide_eq_true_eq,h]
 exact⟨λh=>h.2,λh=>⟨h.1,h⟩⟩
def Tch (F:LI)(s t:Int):Prop:=∃x y,El s x∧El t y∧(x=y∨nb F x y=true)
structure IsPart (F:LI)(W:Nat→Prop)(C:Int):Prop where
 vs:VS C
 ne:∃v,El C v
 sub:∀x,El C x→W x
 cn:∀x y,El C x→(El C y↔Cn (Ad F) W x y)
theorem IsPart.mem {F:LI}{W:Nat→Prop}{C:Int}{l:LI}(h:IsPart F W C)(hP:Parts F W l):C∈l:=by
 obtain⟨v,hv⟩:=h.ne
 obtain⟨s,hs,h1⟩:=hP.all v (h.sub v hv)
 have:C=s:=h.vs.ext (hP.vs s hs) (λx _=>Bool.eq_iff_iff.2 ((h.cn v x hv).trans (hP.cn s hs v x h1).symm))
 rw[this]
 exact hs
section
variable {F : LI} {n k : Nat} (hn : n ≤ 16) (hF : FOk F n)
include hn hF
theorem part_big (B:BitVec (n*n)→Prop)(hB:∀m,TrI (Ad F) n k m→∃X∈m,B X)(hS:∀X,B X→¬SmI (Ad F) n k X){X:Int}(hX:In n X)(hk:(Am X).length≤k):
  ∃C,IsPart F (El (rm n X)) C∧∃Y,B Y∧∀e,Y.getLsbD e=true→EdI (Ad F) n e∧(El C (e/n)∨El C (e%n)):=by
 have hW:∀x,El (rm n X) x↔x<n∧has X x=false:=λx=>by
  unfold El
  rw[CU hn hX.1,Bool.and_eq_true,decide_eq_true_eq,Bool.not_eq_true']
 have hIn:In n (rm n X):=⟨VS.iandNot _ _,λw hw=>((hW w).1 hw).1⟩
 obtain⟨l,_,hP,_⟩:=partsOf_ok hn hF hIn
 obtain⟨E,hE⟩:∃E:Int→BitVec (n*n),∀C e,(E C).getLsbD e=true↔EdI (Ad F) n e∧(El C (e/n)∨El C (e%n)):=by
  refine⟨λC=>Classical.choose (Ef (n*n) λe=>EdI (Ad F) n e∧(El C (e/n)∨El C (e%n))),λC e=> ?_⟩
  rw[Classical.choose_spec (Ef (n*n) λe=>EdI (Ad F) n e∧(El C (e/n)∨El C (e%n))) e]
  exact⟨λh=>h.2,λh=>⟨h.1.1,h⟩⟩
 obtain⟨R,hR⟩:=Ef (n*n) λe=>∀C∈l,¬(E C).getLsbD e=true
 have hends:∀e,e<n*n→e/n<n∧e%n<n:=λe he=>by
  have h0:0<n:=by
   apply Nat.pos_of_ne_zero
   intro h;subst h;simp at he
  exact⟨Nat.div_lt_of_lt_mul he,Nat.mod_lt _ h0⟩
 have hstep:∀C∈l,∀x y,El C x→El (rm n X) y→nb F x y=true→El C y:=λC hC x y hx hy h=>(hP.cn C hC x y hx).2 (Cn.refl.step h hy)
 have hdis:∀C∈l,∀D∈l,(∀x,¬(El C x∧El D x))→DisI (E C) (E D):=λC hC D hD hd e hh=>by
  obtain⟨h1,h2⟩:=hh
  rw[hE] at h1 h2
  obtain⟨he,h1⟩:=h1
  obtain⟨_,h2⟩:=h2
  have hen:=hends e he.1
  have hsy:e/n=e%n∨(nb F (e/n) (e%n)=true∧nb F (e%n) (e/n)=true):=he.2.imp id (λh=>⟨h,hF.sym _ _ hen.1 h⟩)
  rcases h1 with h1|h1<;>rcases h2 with h2|h2
  ·exact hd _ ⟨h1,h2⟩
  ·rcases hsy with c|c
   ·rw[←c] at h2;exact hd _ ⟨h1,h2⟩
   ·exact hd _ ⟨hstep C hC _ _ h1 (hP.sub D hD _ h2) c.1,h2⟩
  ·rcases hsy with c|c
   ·rw[←c] at h1;exact hd _ ⟨h1,h2⟩
   ·exact hd _ ⟨hstep C hC _ _ h1 (hP.sub D hD _ h2) c.2,h2⟩
  ·exact hd _ ⟨h1,h2⟩
 have hPart:PartI (R::l.map E):=by
  refine⟨?_,λe he=> ?_⟩
  ·rw[List.pairwise_cons]
   refine⟨λY hY e hh=> ?_,?_⟩
   ·obtain⟨C,hC,rfl⟩:=List.mem_map.1 hY
    exact((hR e).1 hh.1).2 C hC hh.2
   ·rw[List.pairwise_map]
    exact List.Pairwise.imp_of_mem (fun{C D} hC hD hd=>hdis C hC D hD hd) hP.dis
  ·by_cases hc:∃C∈l,(E C).getLsbD e=true
   ·obtain⟨C,hC,h⟩:=hc
    exact⟨_,List.mem_cons_of_mem _ (List.mem_map.2 ⟨C,hC,rfl⟩),h⟩
   ·exact⟨R,List.mem_cons_self,(hR e).2 ⟨he,λC hC h=>hc ⟨C,hC,h⟩⟩⟩
 have hat:∀v e,EdI (Ad F) n e→(e/n=v∨e%n=v)→has X v=false→∃C∈l,∀f,EdI (Ad F) n f→(f/n=v∨f%n=v)→(E C).getLsbD f=true:=λv e he hev hv=>by
  have hvn:v<n:=by
   have:=hends e he.1
   rcases hev with h|h<;>omega
  obtain⟨C,hC,h⟩:=hP.all v ((hW v).2 ⟨hvn,hv⟩)
  refine⟨C,hC,λf hf hfv=>(hE C f).2 ⟨hf,?_⟩⟩
  rcases hfv with c|c
  ·left;rw[c];exact h
  ·right;rw[c];exact h
 have hdel:∀v,DelI (Ad F) n (R::l.map E) v→has X v=true:=λv ⟨Y,hY,⟨e,he,h1,h2⟩,hn'⟩=>by
  obtain⟨f,hf,h3,h4⟩:=TI_not.1 hn'
  cases hv:has X v
  ·obtain⟨C,hC,h⟩:=hat v e he h2 hv
   have:=hPart.same hY (List.mem_cons_of_mem _ (List.mem_map.2 ⟨C,hC,rfl⟩)) h1 (h e he h2)
   rw[this] at h3
   exact absurd (h f hf h4) h3
  ·rfl
 have hXc:=Co hn hX
 have hnode:TrI (Ad F) n k (R::l.map E):= .node hPart (by
  have:=CB (n:=n) (λv _ h=>hdel v h)
  omega)
 obtain⟨Y,hY,hBY⟩:=hB _ hnode
 rcases List.mem_cons.1 hY with rfl|hY
 ·refine absurd ?_ (hS _ hBY)
  unfold SmI
  have:Bw n (TI (Ad F) n Y)≤Bw n (λv=>has X v=true):=CB (λv _ ⟨e,he,h1,h2⟩=>by
   cases hv:has X v
   ·obtain⟨C,hC,h⟩:=hat v e he h2 hv
    exact absurd (h e he h2) (((hR e).1 h1).2 C hC)
   ·rfl)
  omega
 ·obtain⟨C,hC,rfl⟩:=List.mem_map.1 hY
  exact⟨C,⟨hP.vs C hC,hP.ne C hC,hP.sub C hC,hP.cn C hC⟩,E C,hBY,λe h=>(hE C e).1 h⟩
theorem haven (h1:1≤n)(hw:(k:Int)≤wd F n n 0):∃f:Int→Int,(∀X,In n X→(Am X).length≤k→IsPart F (El (rm n X)) (f X))∧∀X Y,In n X→(Am X).length≤k→In n Y→(Am Y).length≤k→Tch F (f X) (f Y):=by
 obtain⟨B,b1,b2,b3⟩:=brambleI (A:=Ad F) (n:=n) (k:=k) (λm hm=>by
  apply Classical.byContradiction
  intro hc
  have:=wd_small hn hF h1 hm (λX hX=>by
   apply Classical.byContradiction
   intro h
   exact hc ⟨X,hX,h⟩)
  omega)
 have key:∀X,∃C,In n X→(Am X).length≤k→IsPart F (El (rm n X)) C∧∃Y,B Y∧∀e,Y.getLsbD e=true→EdI (Ad F) n e∧(El C (e/n)∨El C (e%n)):=λX=>by
  by_cases h:In n X∧(Am X).length≤k
  ·obtain⟨C,hC⟩:=part_big hn hF B b1 b2 h.1 h.2
   exact⟨C,λ_ _=>hC⟩
  ·exact⟨0,λh1 h2=>absurd ⟨h1,h2⟩ h⟩
 refine⟨λX=>Classical.choose (key X),λX h2 h3=>(Classical.choose_spec (key X) h2 h3).1,λX Y h2 h3 h4 h5=> ?_⟩
 obtain⟨_,Z,hZ,hZe⟩:=Classical.choose_spec (key X) h2 h3
 obtain⟨_,W,hW,hWe⟩:=Classical.choose_spec (key Y) h4 h5
 have:∃e,Z.getLsbD e=true∧W.getLsbD e=true:=by
  apply Classical.byContradiction
  intro hc
  exact b3 Z W hZ hW (λe he=>hc ⟨e,he⟩)
 obtain⟨e,e1,e2⟩:=this
 obtain⟨he,c1⟩:=hZe e e1
 obtain⟨_,c2⟩:=hWe e e2
 have hen:e/n<n∧e%n<n:=⟨Nat.div_lt_of_lt_mul he.1,Nat.mod_lt _ (by omega)⟩
 have hsy:e%n=e/n∨nb F (e%n) (e/n)=true:=he.2.imp (λh=>h.symm) (λh=>hF.sym _ _ hen.1 h)
 rcases c1 with c1|c1<;>rcases c2 with c2|c2
 ·exact⟨_,_,c1,c2,.inl rfl⟩
 ·exact⟨_,_,c1,c2,he.2⟩
 ·exact⟨_,_,c1,c2,hsy⟩
 ·exact⟨_,_,c1,c2,.inl rfl⟩
theorem cover_ex {w:Nat}(B:Int→Prop)(hIn:∀s,B s→In n s)(hne:∀s,B s→∃x,El s x)(hcn:∀s,B s→Joint (Ad F) (El s))(htc:∀s t,B s→B t→Tch F s t):
  ∀(j:Nat) (S:Int),GS n S j→(∀s,B s→∃x,El s x∧has S x=false)→wd F n j S≤(w:Int)→∃K,In n K∧(Am K).length≤w+1∧∀s,B s→∃x,El K x∧El s x:=by
 intro j
 induction j with
 |zero=>
  intro S hS hout _
  have hd:=hS.done hn
  refine⟨0,⟨VS.zero,λw hw=>by rw[A4] at hw;cases hw⟩,by rw[CP];simp,λs hs=> ?_⟩
  obtain⟨x,hx,hx2⟩:=hout s hs
  have:=(hIn s hs).2 x hx
  rw[hd,BY hn,decide_eq_true this] at hx2
  cases hx2
 |succ j ih=>
  intro S hS hout hw
  obtain⟨v,hv,hSv,he⟩:=EQ hn hF hS
  rw[←he] at hw
  obtain⟨w1,w2⟩:=wv_le.1 hw
  have hadd:∀x,has (ior .u32 S (ishl .u32 1 (v:Int))) x=true↔has S x=true∨x=v:=λx=>by
   rw[Cc hS.vs (by omega),Bool.or_eq_true,decide_eq_true_eq]
  by_cases hall:∀s,B s→∃x,El s x∧has (ior .u32 S (ishl .u32 1 (v:Int))) x=false
  ·exact ih _ (hS.add hn hv hSv) hall w2
  ·obtain⟨s0,hs0⟩:=Classical.not_forall.1 hall
   obtain⟨hB0,hno⟩:=Classical.not_imp.1 hs0
   have hin0:∀x,El s0 x→has S x=true∨x=v:=λx hx=>by
    rw[←hadd]
    cases hc:has (ior .u32 S (ishl .u32 1 (v:Int))) x
    ·exact absurd ⟨x,hx,hc⟩ hno
    ·rfl
   have hv0:El s0 v:=by
    obtain⟨x,hx,hx2⟩:=hout s0 hB0
    rcases hin0 x hx with h|rfl
    ·rw[hx2] at h;cases h
    ·exact hx
   obtain⟨_,bvs,hbh⟩:=DC hn hF hS.vs hv
   have hK:∀x,has (ior .u32 (bh F S (v:Int)) (ishl .u32 1 (v:Int))) x=true↔has (bh F S (v:Int)) x=true∨x=v:=λx=>by
    rw[Cc bvs (by omega),Bool.or_eq_true,decide_eq_true_eq]
   have hKin:In n (ior .u32 (bh F S (v:Int)) (ishl .u32 1 (v:Int))):=⟨VS.ior _ _,λx hx=>by
    rcases(hK x).1 hx with h|rfl
    ·exact bh_lt hn hF hS.vs hv h
    ·exact hv⟩
   refine⟨_,hKin,?_,λs hs=> ?_⟩
   ·rw[Co hn hKin]
    rw[Co hn ⟨bvs,λx hx=>bh_lt hn hF hS.vs hv hx⟩] at w1
    have h1:Bw n (λx=>has (ior .u32 (bh F S (v:Int)) (ishl .u32 1 (v:Int))) x=true)≤AU (λx=>BD (has (bh F S (v:Int)) x=true)+if x=v then 1 else 0) n:=Da (λx _=>by
     by_cases hc:has (bh F S (v:Int)) x=true
     ·rw[A5 ((hK x).2 (.inl hc)),A5 hc];omega
     ·by_cases hxv:x=v
      ·rw[if_pos hxv,A5 ((hK x).2 (.inr hxv))];omega
      ·rw[BB (λh=>((hK x).1 h).elim hc hxv)];omega)
    rw[C6] at h1
    have h2:AU (λx=>if x=v then 1 else 0) n=1:=by
     have:=Dr (f:=λ_=>0) (f':=λx=>if x=v then 1 else 0) (d:=1) hv (λi hi=>by rw[if_neg hi]) (by rw[if_pos rfl])
     rw[Cp] at this
     omega
    have w3:((AU (λx=>BD (has (bh F S (v:Int)) x=true)) n:Nat):Int)≤(w:Int):=w1
    have h3:AU (λx=>BD (has (ior .u32 (bh F S (v:Int)) (ishl .u32 1 (v:Int))) x=true)) n≤AU (λx=>BD (has (bh F S (v:Int)) x=true)) n+AU (λx=>if x=v then 1 else 0) n:=h1
    show AU (λx=>BD (has (ior .u32 (bh F S (v:Int)) (ishl .u32 1 (v:Int))) x=true)) n≤w+1
    omega
   ·have hvia0:∀x,El s0 x→Via F (λy=>has S y=true) v x:=λx hx=>
     hcn s0 hB0 v x hv0 hx (λx=>Via F (λy=>has S y=true) v x) .me (λa b h1 h2 h3=>by
      rcases hin0 b h3 with h|rfl
      ·exact .step h1 h2 h
      ·exact .me)
    have hgo:∀a b,Via F (λy=>has S y=true) v a→nb F a b=true→El (ior .u32 (bh F S (v:Int)) (ishl .u32 1 (v:Int))) b∨Via F (λy=>has S y=true) v b:=λa b h1 h2=>by
     by_cases hbv:b=v
     ·exact .inl ((hK b).2 (.inr hbv))
     ·cases hb:has S b
      ·exact .inl ((hK b).2 (.inl ((hbh b).2 ⟨⟨a,h1,h2⟩,hb,hbv⟩)))
      ·exact .inr (.step h1 h2 hb)
    obtain⟨x,y,hx,hy,hxy⟩:=htc s0 s hB0 hs
    obtain⟨z,hz,hz2⟩:=hout s hs
    have hy2:(∃u,El (ior .u32 (bh F S (v:Int)) (ishl .u32 1 (v:Int))) u∧El s u)∨Via F (λy=>has S y=true) v y:=by
     rcases hxy with rfl|h
     ·exact .inr (hvia0 x hx)
     ·rcases hgo x y (hvia0 x hx) h with h|h
      ·exact .inl ⟨y,h,hy⟩
      ·exact .inr h
    have hz3:=hcn s hs y z hy hz (λu=>(∃u,El (ior .u32 (bh F S (v:Int)) (ishl .u32 1 (v:Int))) u∧El s u)∨Via F (λy=>has S y=true) v u) hy2 (λa b h1 h2 h3=>by
     rcases h1 with h1|h1
     ·exact .inl h1
     ·rcases hgo a b h1 h2 with h|h
      ·exact .inl ⟨b,h,h3⟩
      ·exact .inr h)
    rcases hz3 with h|h
    ·exact h
    ·cases h with
     |me=>exact⟨_,(hK _).2 (.inr rfl),hz⟩
     |step _ _ h=>rw[hz2] at h;cases h
end
end Go.Sx

namespace Go.Sx
theorem set_at {d:LI}{u v:Nat}{x:Int}(hu:u<d.length):(d.set u x).getD v (-1)=if v=u then x else d.getD v (-1):=by
 by_cases e:v=u
 ·subst e
  rw[if_pos rfl,Ar (by rw[List.length_set];omega),List.getElem_set_self]
 ·rw[if_neg e,List.getD_eq_getElem?_getD,List.getElem?_set_ne (λh=>e h.symm),←List.getD_eq_getElem?_getD]
structure Bq (g:LL)(L d q:LI)(i:Nat):Prop where
 inq:∀v,v<g.length→0≤d.getD v (-1)→(v:Int)∈q
 cl:∀j,j<i→∀c:Nat,q[j]? =some (c:Int)→∀w:Nat,adj g c w→(w:Int)∈L→0≤d.getD w (-1)
theorem Bq.add {g:LL}{L d q:LI}{i:Nat}(h:Bq g L d q i)(hi:i≤q.length)(hdl:d.length=g.length){u:Nat}{x:Int}(hu:u<g.length)(hx:0≤x):Bq g L (d.set u x) (q++[(u:Int)]) i:=by
 refine⟨λv hv hd=> ?_,λj hj c hc w ha hw=> ?_⟩
 ·rw[set_at (by omega)] at hd
  rw[List.mem_append,List.mem_singleton]
  by_cases e:v=u
  ·exact .inr (by rw[e])
  ·rw[if_neg e] at hd
   exact .inl (h.inq v hv hd)
 ·rw[List.getElem?_append_left (by omega)] at hc
  rw[set_at (by omega)]
  have:=h.cl j hj c hc w ha hw
  split<;>omega
section
variable {g : LL} (hg : GOk g)
include hg
theorem l3From_full {v0:Nat}(hv:v0<g.length){L:LI}(hL:Sh L)(hm:(v0:Int)∈L):∃d,D.d0 g (v0:Int) L=some d∧(d.length=g.length∧∀u,u<g.length→(0≤d.getD u (-1)↔Cn (adj g) (λx=>(x:Int)∈L) v0 u)):=by
 have h16:=hg.n16
 have hsz:D.b g=some (g.length:Int):=rfl
 unfold D.d0
 have e1:=C8 (β:=LI) (k:=λl:LI=>some l) (step:=fun(s_54:LI×Int)=>match s_54 with|(l_57,x_62)=>(D.b g).bind λy_89=>cond (decide (x_62<y_89)) ((AC l_57 ([(-1)]:LI)).bind λl_101=>some (.inl (l_101,(IntKind.i64.wrap (x_62+1))))) (some (.inr l_57))) (s0:=(([]:LI),0)) (λi=>(List.replicate i (-1),(i:Int))) g.length (List.replicate g.length (-1)) (by simp) (λi hi=>by
  dsimp only
  rw[hsz,bs,dlt hi,cond_true,AQ (by simp;omega),bs,wi (by omega),List.replicate_succ']) (by
  dsimp only
  rw[hsz,bs,A3,cond_false])
 rw[Option.bind_fun_some] at e1
 rw[e1,bs,Cj _ _ hL,decide_eq_true hm,bs,Bool.not_true,cond_false,Ax (show v0<(List.replicate g.length (-1:Int)).length by rw[List.length_replicate];exact hv),bs]
 have hrep:∀v,(List.replicate g.length (-1:Int)).getD v (-1)= -1:=λv=>by
  rw[List.getD_eq_getElem?_getD,List.getElem?_replicate]
  split<;>rfl
 have hat:∀v,((List.replicate g.length (-1:Int)).set v0 0).getD v (-1)=if v=v0 then 0 else-1:=λv=>by
  rw[set_at (by rw[List.length_replicate];exact hv),hrep]
 refine AB (λs:LI×LI×Int=>Bf g (λx=>(x:Int)∈L) v0 s.1 s.2.1∧∃i:Nat,s.2.2=(i:Int)∧i≤s.2.1.length∧Bq g L s.1 s.2.1 i) (λs=>g.length-s.2.2.toNat)
  (λd:LI=>d.length=g.length∧∀u,u<g.length→(0≤d.getD u (-1)↔Cn (adj g) (λx=>(x:Int)∈L) v0 u)) ?_ ⟨⟨by simp,List.pairwise_singleton _ _,λx hx=> ?_,λv _=> ?_,λv _ hd=> ?_,?_⟩,0,rfl,Nat.zero_le _,⟨λv _ hd=> ?_,λj hj=>absurd hj (Nat.not_lt_zero _)⟩⟩ (λr hr=>⟨r,rfl,hr⟩)
 ·rintro⟨d,q,_⟩ ⟨hB,i,rfl,hi,hQ⟩
  dsimp only at hB hi hQ ⊢
  have hql:=hB.ql
  by_cases hil:i<q.length
  ·obtain⟨c,ec,hcn,hcd⟩:=hB.me _ (List.getElem_mem hil)
   have hrl:=hg.row_len hcn
   rw[dlt hil,cond_true,Ax hil,ec,bs,Cd hcn,bs]
   refine AB (λs:LI×LI×Int=>Bf g (λx=>(x:Int)∈L) v0 s.1 s.2.1∧s.2.1[i]? =some (c:Int)∧0≤s.1.getD c (-1)∧Bq g L s.1 s.2.1 i∧∃k:Nat,s.2.2=(k:Int)∧k≤(row g c).length∧∀w:Nat,(w:Int)∈(row g c).take k→(w:Int)∈L→0≤s.1.getD w (-1)) (λs=>(row g c).length-s.2.2.toNat)
    (λs:LI×LI=>Bf g (λx=>(x:Int)∈L) v0 s.1 s.2∧i<s.2.length∧Bq g L s.1 s.2 (i+1)) ?_ ⟨hB,by dsimp only;rw[List.getElem?_eq_getElem hil,ec],hcd,hQ,0,rfl,Nat.zero_le _,λw hw=>by simp at hw⟩ ?_
   ·rintro⟨d,q,_⟩ ⟨hB,hqi,hcd,hQ,k,rfl,hk,hdone⟩
    dsimp only at hB hqi hcd hQ hk hdone ⊢
    have hql:=hB.ql
    have hdl:=hB.dl
    obtain⟨hiq,eiq⟩:=List.getElem?_eq_some_iff.1 hqi
    by_cases hkl:k<(row g c).length
    ·obtain⟨u,eu,hun,_⟩:=hg.mem hcn (List.getElem_mem hkl)
     have hau:adj g c u:=by
      have:=List.getElem_mem hkl
      rw[eu] at this
      exact this
     have htake:∀w:Nat,(w:Int)∈(row g c).take (k+1)→(w:Int)∈(row g c).take k∨w=u:=λw hw=>by
      rw[List.take_succ_eq_append_getElem hkl,eu,List.mem_append,List.mem_singleton] at hw
      exact hw.imp id (λh=>by omega)
     rw[dlt hkl,cond_true,Ax hkl,eu,bs,Ax (show u<d.length by omega),bs,←Ar (show u<d.length by omega) (-1),wi (by omega)]
     by_cases hud:d.getD u (-1)<0
     ·rw[decide_eq_true hud,cond_true,bs,Cj _ _ hL,bs]
      by_cases hS:(u:Int)∈L
      ·have hcb:=hB.bd c hcn
       have hadd:=hB.add hcn hun hcd hud hau hS
       rw[decide_eq_true hS,bs,cond_true,bs,Ax hiq,eiq,bs,Ax (show c<d.length by omega),bs,←Ar (show c<d.length by omega) (-1),Ax (show u<d.length by omega),bs,bs,AQ (by simp;omega),bs,w64 (by omega) (by omega),Int.toNat_natCast]
       refine⟨_,rfl,⟨hadd,?_,?_,hQ.add (by omega) hdl hun (by omega),k+1,rfl,hkl,λw hw hwL=> ?_⟩,by dsimp only;omega⟩
       ·dsimp only
        rw[List.getElem?_append_left hiq,hqi]
       ·dsimp only
        rw[set_at (by omega)]
        split<;>omega
       ·dsimp only
        rw[set_at (by omega)]
        by_cases e:w=u
        ·rw[if_pos e];omega
        ·rw[if_neg e]
         rcases htake w hw with h|h
         ·exact hdone w h hwL
         ·exact absurd h e
      ·rw[decide_eq_false hS,bs,cond_false]
       refine⟨_,rfl,⟨hB,hqi,hcd,hQ,k+1,rfl,hkl,λw hw hwL=> ?_⟩,by dsimp only;omega⟩
       rcases htake w hw with h|rfl
       ·exact hdone w h hwL
       ·exact absurd hwL hS
     ·rw[decide_eq_false hud,cond_false,bs,cond_false]
      refine⟨_,rfl,⟨hB,hqi,hcd,hQ,k+1,rfl,hkl,λw hw hwL=> ?_⟩,by dsimp only;omega⟩
      rcases htake w hw with h|rfl
      ·exact hdone w h hwL
      ·dsimp only;omega
    ·obtain rfl:k=(row g c).length:=by omega
     rw[A3,cond_false]
     rw[List.take_length] at hdone
     refine⟨_,rfl,hB,hiq,hQ.inq,λj hj c' hc' w ha hw=> ?_⟩
     by_cases e:j=i
     ·subst e
      rw[hqi] at hc'
      have:(c:Int)=(c':Int):=Option.some.inj hc'
      obtain rfl:c=c':=by omega
      exact hdone w ha hw
     ·exact hQ.cl j (by omega) c' hc' w ha hw
   ·rintro⟨d,q⟩ ⟨hB,hiq,hQ⟩
    dsimp only at hB hiq hQ ⊢
    have:=hB.ql
    rw[wi (by omega)]
    exact⟨_,rfl,⟨hB,i+1,rfl,hiq,hQ⟩,by dsimp only;omega⟩
  ·obtain rfl:i=q.length:=by omega
   rw[A3,cond_false]
   refine⟨_,rfl,hB.dl,λu hu=>⟨hB.rc u hu,λhc=> ?_⟩⟩
   refine(hc (λx=>x<g.length∧0≤d.getD x (-1)) ⟨hv,hB.v0⟩ (λa b ha hab hb=>⟨hg.lt ha.1 hab,?_⟩)).2
   obtain⟨j,hj,ej⟩:=List.getElem_of_mem (hQ.inq a ha.1 ha.2)
   exact hQ.cl j hj a (by rw[List.getElem?_eq_getElem hj,ej]) b hab hb
 ·dsimp only at hx ⊢
  rw[List.mem_singleton] at hx
  exact⟨v0,hx,hv,by rw[Int.toNat_natCast,hat,if_pos rfl];omega⟩
 ·dsimp only
  rw[Int.toNat_natCast,hat]
  split<;>simp
 ·dsimp only at hd
  rw[Int.toNat_natCast,hat] at hd
  by_cases e:v=v0
  ·subst e;exact Cn.refl
  ·rw[if_neg e] at hd;omega
 ·dsimp only
  rw[Int.toNat_natCast,hat,if_pos rfl]
  omega
 ·dsimp only at hd ⊢
  rw[Int.toNat_natCast,hat] at hd
  by_cases e:v=v0
  ·rw[e,List.mem_singleton]
  ·rw[if_neg e] at hd;omega
theorem l3Part_full {v0:Nat}(hv:v0<g.length){L:LI}(hL:Sh L)(hm:(v0:Int)∈L):∃P,D.k g (v0:Int) L=some P∧(Inc P∧P.length≤g.length∧∀x,x∈P↔∃v:Nat,x=(v:Int)∧v<g.length∧Cn (adj g) (λx=>(x:Int)∈L) v0 v):=by
 have h16:=hg.n16
 obtain⟨d,ed,hdl,hd⟩:=l3From_full hg hv hL hm
 unfold D.k
 rw[ed,bs]
 refine AB (λs:LI×Int=>∃i:Nat,s.2=(i:Int)∧i≤d.length∧s.1.length≤i∧Inc s.1∧∀x,x∈s.1↔∃v:Nat,x=(v:Int)∧v<i∧Cn (adj g) (λx=>(x:Int)∈L) v0 v) (λs=>d.length-s.2.toNat)
  (λP:LI=>Inc P∧P.length≤g.length∧∀x,x∈P↔∃v:Nat,x=(v:Int)∧v<g.length∧Cn (adj g) (λx=>(x:Int)∈L) v0 v) ?_ ⟨0,rfl,Nat.zero_le _,Nat.le_refl _,List.Pairwise.nil,λx=>⟨λh=>(by cases h),fun⟨v,_,h,_⟩=>by omega⟩⟩ (λr hr=>⟨r,rfl,hr⟩)
 rintro⟨P,_⟩ ⟨i,rfl,hi,hPl,hPi,hP⟩
 dsimp only at hPl hPi hP ⊢
 by_cases hil:i<d.length
 ·rw[dlt hil,cond_true,Ax hil,bs,←Ar hil (-1),wi (by omega)]
  by_cases hdi:0≤d.getD i (-1)
  ·have hci:=(hd i (by omega)).1 hdi
   rw[decide_eq_true hdi,cond_true,AQ (by simp;omega),bs]
   refine⟨_,rfl,⟨i+1,rfl,hil,by simp;omega,?_,λx=> ?_⟩,by dsimp only;omega⟩
   ·dsimp only
    unfold Inc
    rw[List.pairwise_append]
    refine⟨hPi,List.pairwise_singleton _ _,λa ha b hb=> ?_⟩
    obtain⟨v,rfl,hv,_⟩:=(hP a).1 ha
    rw[List.mem_singleton] at hb
    omega
   ·dsimp only
    rw[List.mem_append,List.mem_singleton,hP]
    constructor
    ·rintro(⟨v,e,h1,h2⟩|rfl)
     ·exact⟨v,e,by omega,h2⟩
     ·exact⟨i,rfl,by omega,hci⟩
    ·rintro⟨v,rfl,h1,h2⟩
     by_cases e:v=i
     ·exact .inr (by rw[e])
     ·exact .inl ⟨v,rfl,by omega,h2⟩
  ·have hci:¬Cn (adj g) (λx=>(x:Int)∈L) v0 i:=λh=>hdi ((hd i (by omega)).2 h)
   rw[decide_eq_false hdi,cond_false]
   refine⟨_,rfl,⟨i+1,rfl,hil,by dsimp only;omega,hPi,λx=> ?_⟩,by dsimp only;omega⟩
   dsimp only
   rw[hP]
   constructor
   ·rintro⟨v,e,h1,h2⟩
    exact⟨v,e,by omega,h2⟩
   ·rintro⟨v,rfl,h1,h2⟩
    by_cases e:v=i
    ·subst e;exact absurd h2 hci
    ·exact⟨v,rfl,by omega,h2⟩
 ·obtain rfl:i=d.length:=by omega
  rw[A3,cond_false]
  exact⟨_,rfl,hPi,by omega,λx=>by rw[hP,hdl]⟩
theorem cn_adj {S:Nat→Prop}{x y:Nat}(hx:x<g.length)(hS:∀v,S v→v<g.length):Cn (adj g) S x y↔Cn (Ad (g.map mk)) S x y:=by
 constructor
 ·intro h
  exact(h (λy=>y<g.length∧Cn (Ad (g.map mk)) S x y) ⟨hx,Cn.refl⟩ (λa b ⟨h1,h2⟩ hab hb=>⟨hS b hb,h2.step ((Dz hg h1).2 hab) hb⟩)).2
 ·intro h
  exact(h (λy=>y<g.length∧Cn (adj g) S x y) ⟨hx,Cn.refl⟩ (λa b ⟨h1,h2⟩ hab hb=>⟨hS b hb,h2.step ((Dz hg h1).1 hab) hb⟩)).2
def CZ (g:LL)(s:Int):Prop:=In g.length s∧(∃v,El s v)∧Joint (Ad (g.map mk)) (El s)
theorem Fi {s:Int}(hs:In g.length s):∃b,D.E0 (g.map mk) s=some b∧(b=true↔CZ g s):=by
 have h16:=hg.n16
 have hF:=FOk.of hg
 unfold D.E0
 by_cases h0:s=0
 ·have:(s !=0)=false:=by simp[h0]
  rw[this,cond_false]
  refine⟨false,rfl,⟨λh=>(by cases h),λh=> ?_⟩⟩
  obtain⟨v,hv⟩:=h.2.1
  rw[h0] at hv
  unfold El at hv
  rw[A4] at hv;cases hv
 ·have:(s !=0)=true:=by simpa using h0
  rw[this,cond_true]
  obtain⟨k,hk32,ek,hk,_,_⟩:=least_eq hs.1 h0
  obtain⟨S,eS,hR,hSn⟩:=reach_ok h16 hF.net (hs.2 k hk) hs.1
  rw[ek,bs,eS,bs]
  refine⟨_,rfl,?_⟩
  rw[beq_iff_eq]
  constructor
  ·intro e
   refine⟨hs,⟨k,hk⟩,λx y hx hy=> ?_⟩
   have hx':=(DW h16 hF hR x).1 (by rw[e];exact hx)
   have hy':=(DW h16 hF hR y).1 (by rw[e];exact hy)
   exact(cn_sym h16 hF (λx hx=>hs.2 x hx) hk hx').trans hy'
  ·intro h
   refine hR.vs.ext hs.1 (λx _=>Bool.eq_iff_iff.2 ⟨λhx=>((DW h16 hF hR x).1 hx).mem hk,λhx=>(DW h16 hF hR x).2 (h.2.2 k x hk hx)⟩)
theorem Dq {s:LI}(hsh:Sh s):∃b,D.f0 g s=some b∧D.z0 g s=some b∧(b=true↔∃t,s=Am t∧CZ g t):=by
 have h16:=hg.n16
 unfold D.f0 D.z0
 rw[DD g s hg.sh2 hsh,spec_SetOk_eq g s hg.sh2 hsh,Dm hg,bs,bs,Bool.true_and]
 by_cases hset:CD s g.length=true
 ·obtain⟨hinc,hrng⟩:=(C7 s g.length).1 hset
  have hrng':∀x∈s,0≤x∧x<g.length:=hrng
  have hin:In g.length (mk s):=⟨VS.mk _,λv hv=>by
   rw[En (λx hx=>by have:=hrng' x hx;omega),decide_eq_true_eq] at hv
   have:=hrng' _ hv
   omega⟩
  have hel:Am (mk s)=s:=elems_mk h16 hinc hrng'
  have hhas:∀v:Nat,El (mk s) v↔(v:Int)∈s:=λv=>by
   unfold El
   rw[En (λx hx=>by have:=hrng' x hx;omega),decide_eq_true_eq]
  obtain⟨b,eb,hb⟩:=Fi hg hin
  rw[hset,cond_true,cond_true,Db g hg,bs,CG s hsh (λx hx=>(hrng' x hx).1),bs,eb]
  refine⟨b,rfl,?_,?_⟩
  ·unfold D.n1
   by_cases hl:0<s.length
   ·have hs0:=List.getElem_mem hl
    obtain⟨v,ev⟩:∃v:Nat,s[0]=(v:Int):=⟨s[0].toNat,by have:=hrng' _ hs0;omega⟩
    have hvn:v<g.length:=by have:=hrng' _ hs0;omega
    have hvm:(v:Int)∈s:=by rw[←ev];exact hs0
    obtain⟨P,eP,hPi,hPl,hP⟩:=l3Part_full hg hvn hsh hvm
    have i0:idx s 0=some (v:Int):=by
     rw[show (0:Int)=((0:Nat):Int) from rfl,Ax hl,ev]
    rw[decide_eq_true (show (0:Int)<(s.length:Int) by omega),cond_true,i0,bs,eP,bs]
    simp only[bs]
    congr 1
    have hSn:∀x:Nat,(x:Int)∈s→x<g.length:=λx hx=>by have:=hrng' _ hx;omega
    have hsub:∀x∈P,x∈s:=λx hx=>by
     obtain⟨u,rfl,_,hc⟩:=(hP x).1 hx
     exact hc.mem hvm
    have hW:(P.length:Int)==(s.length:Int)↔CZ g (mk s):=by
     rw[beq_iff_eq]
     constructor
     ·intro e
      have hall:∀x∈s,x∈P:=λx hx=>by
       apply Classical.byContradiction
       intro hc
       have:=Bi (l:=x::P) (m:=s) (List.nodup_cons.2 ⟨hc,hPi.nodup⟩) (λz hz=>by
        rcases List.mem_cons.1 hz with rfl|hz
        ·exact hx
        ·exact hsub z hz)
       simp at this
       omega
      refine⟨hin,⟨v,(hhas v).2 hvm⟩,λx y hx hy=> ?_⟩
      have key:∀x,El (mk s) x→Cn (Ad (g.map mk)) (El (mk s)) v x:=λx hx=>by
       obtain⟨u,e,hu,hc⟩:=(hP _).1 (hall _ ((hhas x).1 hx))
       obtain rfl:x=u:=by omega
       have:=(cn_adj hg hvn hSn).1 hc
       exact this.mono (λw hw=>(hhas w).2 hw)
      exact(cn_sym h16 (FOk.of hg) (λx hx=>hin.2 x hx) ((hhas v).2 hvm) (key x hx)).trans (key y hy)
     ·intro hw
      have hall:∀x∈s,x∈P:=λx hx=>by
       obtain⟨u,eu⟩:∃u:Nat,x=(u:Int):=⟨x.toNat,by have:=hrng' _ hx;omega⟩
       subst eu
       refine(hP _).2 ⟨u,rfl,hSn u hx,(cn_adj hg hvn hSn).2 ?_⟩
       exact(hw.2.2 v u ((hhas v).2 hvm) ((hhas u).2 hx)).mono (λw hw=>(hhas w).1 hw)
      have h1:=Bi hPi.nodup hsub
      have h2:=Bi hinc.nodup hall
      omega
    cases hbb:b with
    |true=>exact hW.2 (hb.1 hbb)
    |false=>
     cases hc:((P.length:Int)==(s.length:Int)) with
     |false=>rfl
     |true=>
      have:=hb.2 (hW.1 hc)
      rw[hbb] at this;cases this
   ·have hs0:s=[]:=List.length_eq_zero_iff.1 (by omega)
    rw[decide_eq_false (show¬(0:Int)<(s.length:Int) by omega),cond_false,bs,bs]
    congr 1
    cases hbb:b with
    |false=>rfl
    |true=>
     obtain⟨x,hx⟩:=(hb.1 hbb).2.1
     have:=(hhas x).1 hx
     rw[hs0] at this;cases this
  ·rw[hb]
   constructor
   ·exact λh=>⟨mk s,hel.symm,h⟩
   ·rintro⟨t,rfl,h⟩
    rw[BS h.1.1]
    exact h
 ·have:CD s g.length=false:=by simpa using hset
  rw[this,cond_false,cond_false]
  refine⟨false,rfl,rfl,⟨λh=>(by cases h),?_⟩⟩
  rintro⟨t,rfl,h⟩
  exact absurd (Ey h.1) hset
end
end Go.Sx

namespace Go.Sx
theorem Tch.symm {F:LI}{n:Nat}(hF:FOk F n){s t:Int}(hs:In n s)(h:Tch F s t):Tch F t s:=by
 obtain⟨x,y,hx,hy,h⟩:=h
 exact⟨y,x,hy,hx,h.imp (λe=>e.symm) (λh=>hF.sym x y (hs.2 x hx) h)⟩
section
variable {g : LL} (hg : GOk g)
include hg
theorem DJ {s t:Int}(hs:In g.length s)(ht:In g.length t):∃b,D.I (g.map mk) s t=some b∧(b=true↔Tch (g.map mk) s t):=by
 have h16:=hg.n16
 have hF:=FOk.of hg
 have hand:∀a b:Int,VS a→VS b→((iand .u32 a b !=0)=true↔∃x,has a x=true∧has b x=true):=λa b ha hb=>by
  rw[bne_iff_ne]
  constructor
  ·intro h
   apply Classical.byContradiction
   intro hc
   refine h ((VS.iand _ _).eq_zero.2 (λv _=> ?_))
   cases h':has (iand .u32 a b) v
   ·rfl
   ·rw[Dp ha hb,Bool.and_eq_true] at h'
    exact absurd ⟨v,h'⟩ hc
  ·rintro⟨x,h1,h2⟩ e
   have:has (iand .u32 a b) x=true:=by rw[Dp ha hb,h1,h2];rfl
   rw[e,A4] at this;cases this
 unfold D.I
 by_cases h0:(iand .u32 s t !=0)=true
 ·rw[h0,cond_true]
  obtain⟨x,h1,h2⟩:=(hand s t hs.1 ht.1).1 h0
  exact⟨true,rfl,⟨λ_=>⟨x,x,h1,h2,.inl rfl⟩,λ_=>rfl⟩⟩
 ·have h0':(iand .u32 s t !=0)=false:=by simpa using h0
  have hel:=BO s
  rw[h0',cond_false,Eo s hs.1,bs]
  refine⟨_,EP (Am s).length (λi=>iand .u32 ((g.map mk).getD ((Am s).getD i 0).toNat 0) t !=0) true (λi hi=> ?_) ?_ rfl rfl,?_⟩
  ·obtain⟨v,_,hv,ev⟩:=mem_elems.1 (List.getElem_mem hi)
   have hvn:=hs.2 v hv
   have hi':v<(g.map mk).length:=by rw[List.length_map];exact hvn
   rw[dlt hi,cond_true,Ax hi,bs,ev,Ax hi',bs,Ar hi,ev,Int.toNat_natCast,Ar hi',wi (by omega)]
   cases (iand .u32 (g.map mk)[v] t !=0)<;>rfl
  ·rw[A3,cond_false]
  ·rw[List.any_eq_true]
   constructor
   ·rintro⟨i,hi,hb⟩
    have hi:=List.mem_range.1 hi
    obtain⟨v,_,hv,ev⟩:=mem_elems.1 (List.getElem_mem hi)
    rw[Ar hi,ev,Int.toNat_natCast] at hb
    obtain⟨x,h1,h2⟩:=(hand _ t (hF.vs v (hs.2 v hv)) ht.1).1 hb
    exact⟨v,x,hv,h2,.inr h1⟩
   ·rintro⟨x,y,hx,hy,h⟩
    rcases h with rfl|h
    ·exact absurd ((hand s t hs.1 ht.1).2 ⟨x,hx,hy⟩) h0
    ·obtain⟨i,hi,ei⟩:=List.getElem_of_mem ((AN hs.1).2 hx)
     refine⟨i,List.mem_range.2 hi,?_⟩
     rw[Ar hi,ei,Int.toNat_natCast]
     exact(hand _ t (hF.vs x (hs.2 x hx)) ht.1).2 ⟨y,h,hy⟩
theorem Fj {a b:LI}(ha:∀x∈a,∃v:Nat,x=(v:Int)∧v<g.length)(hb:∀x∈b,∃v:Nat,x=(v:Int)∧v<g.length)(hla:a.length≤16)(hlb:b.length≤16):
  ∃r,D.X g a b=some r∧(r=true↔∃v:Nat,(v:Int)∈a∧((v:Int)∈b∨∃u:Nat,(u:Int)∈b∧adj g u v)):=by
 have h16:=hg.n16
 have hbz:b=iz (b.map Int.toNat):=by
  unfold iz
  rw[List.map_map]
  conv=>lhs;rw[←List.map_id b]
  refine List.map_congr_left (λx hx=> ?_)
  obtain⟨v,rfl,_⟩:=hb x hx
  rfl
 have hnear:∀v:Nat,∃c:Int,D.c0 g b (v:Int)=some c∧(0<c↔∃u:Nat,(u:Int)∈b∧adj g u v):=λv=>by
  have h1:=l8Near_ok hg (P:=b.map Int.toNat) (λx hx=>by
   obtain⟨z,hz,rfl⟩:=List.mem_map.1 hx
   obtain⟨w,rfl,hw⟩:=hb z hz
   simpa using hw) (by simpa using hlb) (v:Int)
  rw[←hbz] at h1
  refine⟨_,h1,?_⟩
  rw[show (0:Int)=((0:Nat):Int) from rfl,Int.ofNat_lt,List.countP_pos_iff]
  constructor
  ·rintro⟨u,hu,hd⟩
   obtain⟨z,hz,rfl⟩:=List.mem_map.1 hu
   obtain⟨w,rfl,hw⟩:=hb z hz
   rw[decide_eq_true_eq] at hd
   exact⟨w,hz,hd⟩
  ·rintro⟨u,hu,hd⟩
   exact⟨u,List.mem_map.2 ⟨(u:Int),hu,rfl⟩,decide_eq_true (show (v:Int)∈row g u from hd)⟩
 have hsh:Sh b:=by unfold Sh;omega
 unfold D.X
 have hstep:∀i,i<a.length→∃c:Bool,(D.e b (a.getD i 0)).bind (λy_128=>(cond y_128 (some true) ((D.c0 g b (a.getD i 0)).bind λy_150=>some (decide ((0:Int)<y_150)))))=some c∧(c=true↔∃v:Nat,a.getD i 0=(v:Int)∧((v:Int)∈b∨∃u:Nat,(u:Int)∈b∧adj g u v)):=λi hi=>by
  obtain⟨v,ev,hv⟩:=ha _ (List.getElem_mem hi)
  rw[Ar hi,ev,Cj _ _ hsh,bs]
  by_cases hm:(v:Int)∈b
  ·rw[decide_eq_true hm,cond_true]
   exact⟨true,rfl,⟨λ_=>⟨v,rfl,.inl hm⟩,λ_=>rfl⟩⟩
  ·obtain⟨c,ec,hc⟩:=hnear v
   rw[decide_eq_false hm,cond_false,ec,bs]
   refine⟨_,rfl,?_⟩
   rw[decide_eq_true_eq,hc]
   constructor
   ·exact λh=>⟨v,rfl,.inr h⟩
   ·rintro⟨w,e,h⟩
    obtain rfl:v=w:=by omega
    exact h.resolve_left hm
 have hch:∃c:Nat→Bool,∀i,i<a.length→(D.e b (a.getD i 0)).bind (λy_128=>(cond y_128 (some true) ((D.c0 g b (a.getD i 0)).bind λy_150=>some (decide ((0:Int)<y_150)))))=some (c i)∧(c i=true↔∃v:Nat,a.getD i 0=(v:Int)∧((v:Int)∈b∨∃u:Nat,(u:Int)∈b∧adj g u v)):=
  ⟨λi=>by classical exact if h:i<a.length then Classical.choose (hstep i h) else false,λi hi=>by
   simp only[dif_pos hi]
   exact Classical.choose_spec (hstep i hi)⟩
 obtain⟨c,hc⟩:=hch
 refine⟨_,EP a.length c true (λi hi=> ?_) ?_ rfl rfl,?_⟩
 ·obtain⟨h1,_⟩:=hc i hi
  rw[Ar hi] at h1
  rw[dlt hi,cond_true,Ax hi,bs,wi (by omega)]
  cases hh:D.e b a[i] with
  |none=>rw[hh] at h1;cases h1
  |some hb1=>
   rw[hh,bs] at h1
   rw[bs,bs,h1,bs]
   cases c i<;>rfl
 ·rw[A3,cond_false]
 ·rw[List.any_eq_true]
  constructor
  ·rintro⟨i,hi,h⟩
   have hi:=List.mem_range.1 hi
   obtain⟨v,ev,hv⟩:=(hc i hi).2.1 h
   rw[Ar hi] at ev
   exact⟨v,by rw[←ev];exact List.getElem_mem hi,hv⟩
  ·rintro⟨v,hv,h⟩
   obtain⟨i,hi,ei⟩:=List.getElem_of_mem hv
   exact⟨i,List.mem_range.2 hi,(hc i hi).2.2 ⟨v,by rw[Ar hi,ei],h⟩⟩
theorem l11Touch_elems {s t:Int}(hs:In g.length s)(ht:In g.length t):∃r,D.X g (Am s) (Am t)=some r∧(r=true↔Tch (g.map mk) s t):=by
 have h16:=hg.n16
 have hr:∀{s:Int},In g.length s→∀x∈Am s,∃v:Nat,x=(v:Int)∧v<g.length:=λhs x hx=>by
  obtain⟨v,_,hv,rfl⟩:=mem_elems.1 hx
  exact⟨v,rfl,hs.2 v hv⟩
 have hl:∀{s:Int},In g.length s→(Am s).length≤16:=fun{s} hs=>by
  have:=Bi (l:=Am s) (m:=(List.range g.length).map Int.ofNat) (Bu _).nodup (λx hx=>by
   obtain⟨v,rfl,hv⟩:=hr hs x hx
   exact List.mem_map.2 ⟨v,List.mem_range.2 hv,rfl⟩)
  simp at this
  omega
 obtain⟨r,er,h⟩:=Fj hg (hr hs) (hr ht) (hl hs) (hl ht)
 refine⟨r,er,?_⟩
 rw[h]
 constructor
 ·rintro⟨v,hv,h⟩
  have hv:=(AN hs.1).1 hv
  rcases h with h|⟨u,hu,ha⟩
  ·exact⟨v,v,hv,(AN ht.1).1 h,.inl rfl⟩
  ·have hu:=(AN ht.1).1 hu
   exact⟨v,u,hv,hu,.inr ((Dz hg (hs.2 v hv)).2 (adj_sym hg _ _ ha))⟩
 ·rintro⟨x,y,hx,hy,h⟩
  refine⟨x,(AN hs.1).2 hx,?_⟩
  rcases h with rfl|h
  ·exact .inl ((AN ht.1).2 hy)
  ·exact .inr ⟨y,(AN ht.1).2 hy,adj_sym hg _ _ ((Dz hg (hs.2 x hx)).1 h)⟩
def okB (g:LL)(S:LL)(k:Nat):Prop:=∃t,S.getD k []=Am t∧CZ g t∧∀j,j<k→Tch (g.map mk) (mk (S.getD j [])) t
theorem Ff {S:LL}(hsh:∀s∈S,Sh s):∃b,D.p g S=some b∧(b=true↔S.length≤80∧∀k,k<S.length→okB g S k):=by
 have h16:=hg.n16
 have hF:=FOk.of hg
 unfold D.p
 rw[Ca g hg.sh2,Dm hg,bs,Bool.not_true,Bool.false_or]
 by_cases h80:(80:Int)<(S.length:Int)
 ·rw[decide_eq_true h80,cond_true]
  exact⟨false,rfl,⟨λh=>(by cases h),λh=>by omega⟩⟩
 ·rw[decide_eq_false h80,cond_false,Db g hg,bs]
  refine AB (λx:Int=>∃i:Nat,x=(i:Int)∧i≤S.length∧∀k,k<i→okB g S k) (λx=>S.length-x.toNat)
   (λr:Unit ⊕ Bool=>(r= .inl ()∧∀k,k<S.length→okB g S k)∨(r= .inr false∧¬∀k,k<S.length→okB g S k)) ?_ ⟨0,rfl,Nat.zero_le _,λk h=>absurd h (Nat.not_lt_zero _)⟩ ?_
  ·rintro _ ⟨i,rfl,hi,hok⟩
   by_cases hil:i<S.length
   ·have hmem:=List.getElem_mem hil
    obtain⟨b,eb,_,hb⟩:=Dq hg (hsh _ hmem)
    rw[dlt hil,cond_true,Ax hil,bs,eb,bs]
    cases hbb:b with
    |false=>
     rw[Bool.not_false,cond_true]
     refine⟨_,rfl,.inr ⟨rfl,λhall=> ?_⟩⟩
     obtain⟨t,et,hw,_⟩:=hall i hil
     rw[Ar hil] at et
     have:=hb.2 ⟨t,et,hw⟩
     rw[hbb] at this;cases this
    |true=>
     obtain⟨t,et,hw⟩:=hb.1 hbb
     rw[Bool.not_true,cond_false,DO (by omega),bs]
     have hmk:mk S[i]=t:=by rw[et,BS hw.1.1]
     have hlen:(S.take i).length=i:=by rw[List.length_take];omega
     refine AB (λx:Int=>∃k:Nat,x=(k:Int)∧k≤i∧∀j,j<k→Tch (g.map mk) (mk (S.getD j [])) t) (λx=>i-x.toNat)
      (λr:Unit ⊕ Bool=>(r= .inl ()∧∀j,j<i→Tch (g.map mk) (mk (S.getD j [])) t)∨(r= .inr false∧¬∀j,j<i→Tch (g.map mk) (mk (S.getD j [])) t)) ?_ ⟨0,rfl,Nat.zero_le _,λk h=>absurd h (Nat.not_lt_zero _)⟩ ?_
     ·rintro _ ⟨k,rfl,hk,hT⟩
      by_cases hki:k<i
      ·have hkl:k<(S.take i).length:=by omega
       have hkS:k<S.length:=by omega
       obtain⟨u,eu,hu,_⟩:=hok k hki
       have eu':S[k]=Am u:=by rw[Ar hkS] at eu;exact eu
       have hmk2:mk S[k]=u:=by rw[eu',BS hu.1.1]
       obtain⟨c,ec,hc⟩:=DJ hg hw.1 hu.1
       have hc':c=true↔Tch (g.map mk) (mk (S.getD k [])) t:=by
        rw[hc,Ar hkS,hmk2]
        exact⟨λh=>h.symm hF hw.1,λh=>h.symm hF hu.1⟩
       rw[dlt hkl,cond_true,Ax hkl,bs,List.getElem_take,CG _ (hsh _ hmem) (λx hx=>by rw[et] at hx;obtain⟨v,_,_,rfl⟩:=mem_elems.1 hx;omega),bs,CG _ (hsh _ (List.getElem_mem hkS)) (λx hx=>by rw[eu'] at hx;obtain⟨v,_,_,rfl⟩:=mem_elems.1 hx;omega),bs,hmk,hmk2,ec,bs,wi (by omega)]
       cases hcc:c with
       |true=>
        rw[Bool.not_true,cond_false]
        refine⟨_,rfl,⟨k+1,rfl,hki,λj hj=> ?_⟩,by dsimp only;omega⟩
        by_cases e:j=k
        ·subst e;exact hc'.1 hcc
        ·exact hT j (by omega)
       |false=>
        rw[Bool.not_false,cond_true]
        refine⟨_,rfl,.inr ⟨rfl,λhall=> ?_⟩⟩
        have:=hc'.2 (hall k hki)
        rw[hcc] at this;cases this
      ·obtain rfl:k=i:=by omega
       rw[decide_eq_false (by omega),cond_false]
       exact⟨_,rfl,.inl ⟨rfl,hT⟩⟩
     ·rintro r (⟨rfl,h⟩|⟨rfl,h⟩)
      ·dsimp only
       rw[wi (by omega)]
       refine⟨_,rfl,⟨i+1,rfl,hil,λk hk=> ?_⟩,by dsimp only;omega⟩
       by_cases e:k=i
       ·subst e
        exact⟨t,by rw[Ar hil];exact et,hw,h⟩
       ·exact hok k (by omega)
      ·dsimp only
       refine⟨_,rfl,.inr ⟨rfl,λhall=> ?_⟩⟩
       obtain⟨u,eu,hwu,hu⟩:=hall i hil
       rw[Ar hil,et] at eu
       have:t=u:=by rw[←BS hw.1.1,eu];exact BS hwu.1.1
       rw[this] at h
       exact h hu
   ·obtain rfl:i=S.length:=by omega
    rw[A3,cond_false]
    exact⟨_,rfl,.inl ⟨rfl,hok⟩⟩
  ·rintro r (⟨rfl,h⟩|⟨rfl,h⟩)
   ·exact⟨_,rfl,⟨λ_=>⟨by omega,h⟩,λ_=>rfl⟩⟩
   ·exact⟨_,rfl,⟨λhh=>(by cases hh),λhh=>absurd hh.2 h⟩⟩
theorem Fh {S:LL}(hsh:∀s∈S,Sh s):∃b,D.K g S=some b∧(b=true↔S.length≤80∧∀k,k<S.length→okB g S k):=by
 have h16:=hg.n16
 have hF:=FOk.of hg
 unfold D.K
 rw[Cb g hg.sh2,Dm hg,bs,Bool.not_true,Bool.false_or]
 by_cases h80:(80:Int)<(S.length:Int)
 ·rw[decide_eq_true h80,cond_true]
  exact⟨false,rfl,⟨λh=>(by cases h),λh=>by omega⟩⟩
 ·rw[decide_eq_false h80,cond_false]
  refine AB (λx:Int=>∃i:Nat,x=(i:Int)∧i≤S.length∧∀k,k<i→okB g S k) (λx=>S.length-x.toNat)
   (λr:Unit ⊕ Bool=>(r= .inl ()∧∀k,k<S.length→okB g S k)∨(r= .inr false∧¬∀k,k<S.length→okB g S k)) ?_ ⟨0,rfl,Nat.zero_le _,λk h=>absurd h (Nat.not_lt_zero _)⟩ ?_
  ·rintro _ ⟨i,rfl,hi,hok⟩
   by_cases hil:i<S.length
   ·have hmem:=List.getElem_mem hil
    obtain⟨b,_,eb,hb⟩:=Dq hg (hsh _ hmem)
    rw[dlt hil,cond_true,Ax hil,bs,eb,bs]
    cases hbb:b with
    |false=>
     rw[Bool.not_false,cond_true]
     refine⟨_,rfl,.inr ⟨rfl,λhall=> ?_⟩⟩
     obtain⟨t,et,hw,_⟩:=hall i hil
     rw[Ar hil] at et
     have:=hb.2 ⟨t,et,hw⟩
     rw[hbb] at this;cases this
    |true=>
     obtain⟨t,et,hw⟩:=hb.1 hbb
     rw[Bool.not_true,cond_false]
     have hmk:mk S[i]=t:=by rw[et,BS hw.1.1]
     refine AB (λx:Int=>∃k:Nat,x=(k:Int)∧k≤i∧∀j,j<k→Tch (g.map mk) (mk (S.getD j [])) t) (λx=>i-x.toNat)
      (λr:Unit ⊕ Bool=>(r= .inl ()∧∀j,j<i→Tch (g.map mk) (mk (S.getD j [])) t)∨(r= .inr false∧¬∀j,j<i→Tch (g.map mk) (mk (S.getD j [])) t)) ?_ ⟨0,rfl,Nat.zero_le _,λk h=>absurd h (Nat.not_lt_zero _)⟩ ?_
     ·rintro _ ⟨k,rfl,hk,hT⟩
      by_cases hki:k<i
      ·have hkS:k<S.length:=by omega
       obtain⟨u,eu,hu,_⟩:=hok k hki
       have eu':S[k]=Am u:=by rw[Ar hkS] at eu;exact eu
       have hmk2:mk S[k]=u:=by rw[eu',BS hu.1.1]
       obtain⟨c,ec,hc⟩:=l11Touch_elems hg hu.1 hw.1
       have hc':c=true↔Tch (g.map mk) (mk (S.getD k [])) t:=by rw[hc,Ar hkS,hmk2]
       rw[dlt hki,cond_true,Ax hkS,bs,bs,eu',et,ec,bs,wi (by omega)]
       cases hcc:c with
       |true=>
        rw[Bool.not_true,cond_false]
        refine⟨_,rfl,⟨k+1,rfl,hki,λj hj=> ?_⟩,by dsimp only;omega⟩
        by_cases e:j=k
        ·subst e;exact hc'.1 hcc
        ·exact hT j (by omega)
       |false=>
        rw[Bool.not_false,cond_true]
        refine⟨_,rfl,.inr ⟨rfl,λhall=> ?_⟩⟩
        have:=hc'.2 (hall k hki)
        rw[hcc] at this;cases this
      ·obtain rfl:k=i:=by omega
       rw[A3,cond_false]
       exact⟨_,rfl,.inl ⟨rfl,hT⟩⟩
     ·rintro r (⟨rfl,h⟩|⟨rfl,h⟩)
      ·dsimp only
       rw[wi (by omega)]
       refine⟨_,rfl,⟨i+1,rfl,hil,λk hk=> ?_⟩,by dsimp only;omega⟩
       by_cases e:k=i
       ·subst e
        exact⟨t,by rw[Ar hil];exact et,hw,h⟩
       ·exact hok k (by omega)
      ·dsimp only
       refine⟨_,rfl,.inr ⟨rfl,λhall=> ?_⟩⟩
       obtain⟨u,eu,hwu,hu⟩:=hall i hil
       rw[Ar hil,et] at eu
       have:t=u:=by rw[←BS hw.1.1,eu];exact BS hwu.1.1
       rw[this] at h
       exact h hu
   ·obtain rfl:i=S.length:=by omega
    rw[A3,cond_false]
    exact⟨_,rfl,.inl ⟨rfl,hok⟩⟩
  ·rintro r (⟨rfl,h⟩|⟨rfl,h⟩)
   ·exact⟨_,rfl,⟨λ_=>⟨by omega,h⟩,λ_=>rfl⟩⟩
   ·exact⟨_,rfl,⟨λhh=>(by cases hh),λhh=>absurd hh.2 h⟩⟩
def Brm (g:LL)(T:LI):Prop:=(∀t∈T,CZ g t)∧∀s∈T,∀t∈T,Tch (g.map mk) s t
theorem okB_iff {S:LL}:(∀k,k<S.length→okB g S k)↔∃T,S=T.map Am∧Brm g T:=by
 have hF:=FOk.of hg
 constructor
 ·intro h
  have hm:∀k (hk:k<S.length),S[k]=Am (mk S[k])∧CZ g (mk S[k])∧∀j,j<k→Tch (g.map mk) (mk (S.getD j [])) (mk S[k]):=λk hk=>by
   obtain⟨t,et,hw,hT⟩:=h k hk
   rw[Ar hk] at et
   have:mk S[k]=t:=by rw[et,BS hw.1.1]
   rw[this]
   exact⟨et,hw,hT⟩
  refine⟨S.map mk,?_,λt ht=> ?_,λs hs t ht=> ?_⟩
  ·rw[List.map_map]
   refine List.ext_getElem (by simp) (λk h1 h2=> ?_)
   simp only[List.getElem_map,Function.comp]
   exact(hm k h1).1
  ·obtain⟨x,hx,rfl⟩:=List.mem_map.1 ht
   obtain⟨k,hk,rfl⟩:=List.getElem_of_mem hx
   exact(hm k hk).2.1
  ·obtain⟨x,hx,rfl⟩:=List.mem_map.1 hs
   obtain⟨y,hy,rfl⟩:=List.mem_map.1 ht
   obtain⟨i,hi,rfl⟩:=List.getElem_of_mem hx
   obtain⟨j,hj,rfl⟩:=List.getElem_of_mem hy
   rcases Nat.lt_trichotomy i j with c|c|c
   ·have:=(hm j hj).2.2 i c
    rw[Ar hi] at this
    exact this
   ·subst c
    obtain⟨v,hv⟩:=(hm i hi).2.1.2.1
    exact⟨v,v,hv,hv,.inl rfl⟩
   ·have:=(hm i hi).2.2 j c
    rw[Ar hj] at this
    exact this.symm hF (hm j hj).2.1.1
 ·rintro⟨T,rfl,h1,h2⟩ k hk
  have hk':k<T.length:=by simpa using hk
  refine⟨T[k],by rw[Ar hk,List.getElem_map],h1 _ (List.getElem_mem hk'),λj hj=> ?_⟩
  have hj':j<T.length:=by omega
  rw[Ar (by simpa using hj'),List.getElem_map,BS (h1 _ (List.getElem_mem hj')).1.1]
  exact h2 _ (List.getElem_mem hj') _ (List.getElem_mem hk')
theorem Ei {S:LL}(hsh:∀s∈S,Sh s):∃b,D.p g S=some b∧D.K g S=some b∧(b=true↔S.length≤80∧∃T,S=T.map Am∧Brm g T):=by
 obtain⟨b,eb,hb⟩:=Ff hg hsh
 obtain⟨c,ec,hc⟩:=Fh hg hsh
 have:b=c:=Bool.eq_iff_iff.2 (hb.trans hc.symm)
 subst this
 refine⟨b,eb,ec,?_⟩
 rw[hb,okB_iff hg]
end
end Go.Sx

namespace Go.Sx
theorem Pick.inn {n a k:Nat}{c t:Int}(hn:n≤16)(h:Pick n a k c t):In n c→In n t:=by
 induction h with
 |done=>exact λh=>h
 |more h1 h2 _ ih=>
  intro hc
  refine ih ⟨VS.ior _ _,λw hw=> ?_⟩
  rw[BV hc.1 (VS.ishl _ _),Bv (by omega),Bool.or_eq_true,decide_eq_true_eq] at hw
  rcases hw with hw|rfl
  ·exact hc.2 w hw
  ·exact h2
section
variable {g : LL} (hg : GOk g)
include hg
theorem rest_in (t:Int)(ht:VS t):In g.length (iandNot .u32 (full g.length) t)∧∀x,has (iandNot .u32 (full g.length) t) x=true↔x<g.length∧has t x=false:=by
 have h16:=hg.n16
 have h:∀x,has (iandNot .u32 (full g.length) t) x=true↔x<g.length∧has t x=false:=λx=>by
  rw[Ba (Ci _) ht,BY h16,Bool.and_eq_true,decide_eq_true_eq,Bool.not_eq_true']
 exact⟨⟨VS.iandNot _ _,λw hw=>((h w).1 hw).1⟩,h⟩
end
end Go.Sx

namespace Go.Sx
theorem cntP_add {n:Nat}{c:Int}{v:Nat}(hn:n≤16)(hc:VS c)(hv:v<n)(h:has c v=false):Bw n (λu=>has (ior .u32 c (ishl .u32 1 (v:Int))) u=true)=Bw n (λu=>has c u=true)+1:=
 Dr (f:=λu=>BD (has c u=true)) (f':=λu=>BD (has (ior .u32 c (ishl .u32 1 (v:Int))) u=true)) (d:=1) hv (λi hi=>by
  show BD (has (ior .u32 c (ishl .u32 1 (v:Int))) i=true)=BD (has c i=true)
  rw[Cc hc (by omega),decide_eq_false hi,Bool.or_false]) (by
  show BD (has (ior .u32 c (ishl .u32 1 (v:Int))) v=true)=BD (has c v=true)+1
  rw[A5 (by rw[Cc hc (by omega),decide_eq_true rfl,Bool.or_true]),BB (by rw[h];simp)])
theorem Pick.size {n a k:Nat}{c t:Int}(hn:n≤16)(h:Pick n a k c t):In n c→(∀v,has c v=true→v<a)→Bw n (λu=>has t u=true)=Bw n (λu=>has c u=true)+k:=by
 induction h with
 |done=>exact λ_ _=>rfl
 | @more a k v c t h1 h2 _ ih=>
  intro hc hca
  have hno:has c v=false:=by
   cases h:has c v
   ·rfl
   ·have:=hca v h;omega
  rw[ih ⟨VS.ior _ _,λw hw=> ?_⟩ (λw hw=> ?_),cntP_add hn hc.1 h2 hno]
  ·omega
  ·rw[Cc hc.1 (by omega),Bool.or_eq_true,decide_eq_true_eq] at hw
   rcases hw with hw|rfl
   ·exact hc.2 w hw
   ·exact h2
  ·rw[Cc hc.1 (by omega),Bool.or_eq_true,decide_eq_true_eq] at hw
   rcases hw with hw|rfl
   ·have:=hca w hw;omega
   ·omega
theorem pick_of {n:Nat}(hn:n≤16):∀(k a:Nat) (c t:Int),In n t→In n c→(∀v,has c v=true→has t v=true)→(∀v,has t v=true→has c v=false→a≤v)→(∀v,has c v=true→v<a)→Bw n (λu=>has t u=true)=Bw n (λu=>has c u=true)+k→Pick n a k c t:=by
 intro k
 induction k with
 |zero=>
  intro a c t ht hc hsub _ _ hcnt
  have:c=t:=hc.1.ext ht.1 (λv _=>Bool.eq_iff_iff.2 ⟨hsub v,λhv=>by
   cases hcv:has c v
   ·have:=sumN_lt (f:=λu=>BD (has c u=true)) (g:=λu=>BD (has t u=true)) (i:=v) (m:=n) (λj _=>E8 (hsub j)) (ht.2 v hv) (by
     show BD (has c v=true)<BD (has t v=true)
     rw[A5 hv,BB (by rw[hcv];simp)]
     exact Nat.one_pos)
    have h2:AU (λu=>BD (has t u=true)) n=AU (λu=>BD (has c u=true)) n+0:=hcnt
    omega
   ·rfl⟩)
  rw[this]
  exact .done
 |succ k ih=>
  intro a c t ht hc hsub hge hlt hcnt
  have hex:∃v,has t v=true∧has c v=false:=by
   apply Classical.byContradiction
   intro hno
   have:Bw n (λu=>has t u=true)≤Bw n (λu=>has c u=true):=CB (λv _ hv=>by
    cases hcv:has c v
    ·exact absurd ⟨v,hv,hcv⟩ hno
    ·rfl)
   omega
  obtain⟨v,⟨hv,hcv⟩,hmin⟩:=DN (P:=λv=>has t v=true∧has c v=false) id hex
  have hvn:=ht.2 v hv
  have hadd:∀u,has (ior .u32 c (ishl .u32 1 (v:Int))) u=true↔has c u=true∨u=v:=λu=>by
   rw[Cc hc.1 (by omega),Bool.or_eq_true,decide_eq_true_eq]
  refine .more (hge v hv hcv) hvn (ih (v+1) _ t ht ⟨VS.ior _ _,λw hw=> ?_⟩ (λw hw=> ?_) (λw hw hcw=> ?_) (λw hw=> ?_) ?_)
  ·rcases(hadd w).1 hw with h|rfl
   ·exact hc.2 w h
   ·exact hvn
  ·rcases(hadd w).1 hw with h|rfl
   ·exact hsub w h
   ·exact hv
  ·have h1:has c w=false:=by
    cases h:has c w
    ·rfl
    ·rw[(hadd w).2 (.inl h)] at hcw;cases hcw
   have h2:=hmin w ⟨hw,h1⟩
   have h3:w≠v:=λe=>by rw[(hadd w).2 (.inr e)] at hcw;cases hcw
   have h2':v≤w:=h2
   omega
  ·rcases(hadd w).1 hw with h|rfl
   ·have:=hlt w h
    have:=hge v hv hcv
    omega
   ·omega
  ·rw[cntP_add hn hc.1 hvn hcv];omega
theorem Eu {n:Nat}:In n 0:=⟨VS.zero,λw hw=>by rw[A4] at hw;cases hw⟩
theorem pick_iff {n k:Nat}{t:Int}(hn:n≤16):Pick n 0 k 0 t↔In n t∧(Am t).length=k:=by
 have h0:Bw n (λu=>has 0 u=true)=0:=cntP_none (λv _ h=>by rw[A4] at h;cases h)
 constructor
 ·intro h
  have hin:=h.inn hn Eu
  refine⟨hin,?_⟩
  rw[Co hn hin,h.size hn Eu (λv hv=>by rw[A4] at hv;cases hv),h0,Nat.zero_add]
 ·rintro⟨hin,hl⟩
  rw[Co hn hin] at hl
  exact pick_of hn k 0 0 t hin Eu (λv hv=>by rw[A4] at hv;cases hv) (λv _ _=>Nat.zero_le _) (λv hv=>by rw[A4] at hv;cases hv) (by rw[h0,hl,Nat.zero_add])
theorem indexG {α:Type}(d0:α){xs:List α}{c:α→Option Bool}(hl:xs.length≤1000000)(hc:∀x∈xs,∃b,c x=some b):
  ∃z:Int,(Aq (σ:=Int) (ρ:=(Unit) ⊕ (Int)) (fun(x_40:Int)=>cond (decide (x_40<(xs.length:Int))) ((idx xs x_40).bind λe_60=>(c e_60).bind λy_66=>cond y_66 (some (.inr (.inr x_40))) (some (.inl (IntKind.i64.wrap (x_40+1))))) (some (.inr (.inl ())))) 0).bind (λzz=>match zz with| .inl _=>(some (-1))| .inr z=>(some z))=some z∧(0≤z↔∃x∈xs,c x=some true):=by
 refine AB (λx:Int=>∃i:Nat,x=(i:Int)∧i≤xs.length∧∀k,k<i→c (xs.getD k d0)=some false) (λx=>xs.length-x.toNat)
  (λr:Unit ⊕ Int=>(r= .inl ()∧∀k,k<xs.length→c (xs.getD k d0)=some false)∨∃k:Nat,r= .inr (k:Int)∧k<xs.length∧c (xs.getD k d0)=some true) ?_ ⟨0,rfl,Nat.zero_le _,λk h=>absurd h (Nat.not_lt_zero _)⟩ ?_
 ·rintro _ ⟨i,rfl,hi,hf⟩
  by_cases hil:i<xs.length
  ·obtain⟨b,eb⟩:=hc _ (List.getElem_mem hil)
   rw[dlt hil,cond_true,Ax hil,bs,eb,bs,wi (by omega)]
   cases b with
   |true=>exact⟨_,rfl,.inr ⟨i,rfl,hil,by rw[Ar hil];exact eb⟩⟩
   |false=>
    refine⟨_,rfl,⟨i+1,rfl,hil,λk hk=> ?_⟩,by dsimp only;omega⟩
    by_cases e:k=i
    ·subst e;rw[Ar hil];exact eb
    ·exact hf k (by omega)
  ·obtain rfl:i=xs.length:=by omega
   rw[A3,cond_false]
   exact⟨_,rfl,.inl ⟨rfl,hf⟩⟩
 ·rintro r (⟨rfl,h⟩|⟨k,rfl,hk,h⟩)
  ·refine⟨_,rfl,⟨λh'=>absurd h' (by omega),?_⟩⟩
   rintro⟨x,hx,hcx⟩
   obtain⟨k,hk,rfl⟩:=List.getElem_of_mem hx
   have:=h k hk
   rw[Ar hk,hcx] at this
   cases this
  ·rw[Ar hk] at h
   exact⟨_,rfl,⟨λ_=>⟨_,List.getElem_mem hk,h⟩,λ_=>by omega⟩⟩
theorem indexF {xs:LI}{c:Int→Option Bool}(hl:xs.length≤1000000)(hc:∀x∈xs,∃b,c x=some b):
  ∃z:Int,(Aq (σ:=Int) (ρ:=(Unit) ⊕ (Int)) (fun(x_40:Int)=>cond (decide (x_40<(xs.length:Int))) ((idx xs x_40).bind λe_60=>(c e_60).bind λy_66=>cond y_66 (some (.inr (.inr x_40))) (some (.inl (IntKind.i64.wrap (x_40+1))))) (some (.inr (.inl ())))) 0).bind (λzz=>match zz with| .inl _=>(some (-1))| .inr z=>(some z))=some z∧(0≤z↔∃x∈xs,c x=some true):=indexG 0 hl hc
def DL (S:LI)(c:Int):Prop:=∀s∈S,∃x,El c x∧El s x
theorem coverOf_1_ok {S:LI}{c:Int}(hS:∀s∈S,VS s)(hl:S.length≤1000)(hc:VS c):∃b,D.l c S=some b∧(b=true↔DL S c):=by
 have hiff:∀s,VS s→((iand .u32 c s==0)=true↔¬∃x,El c x∧El s x):=λs hs=>by
  rw[beq_iff_eq,(VS.iand _ _).eq_zero]
  constructor
  ·rintro h ⟨x,h1,h2⟩
   have hx:x<32:=by
    apply Classical.byContradiction
    intro hh
    unfold El at h1
    rw[DS hc (by omega)] at h1;cases h1
   have:=h x hx
   rw[Dp hc hs,h1,h2] at this;cases this
  ·intro h v _
   cases hv:has (iand .u32 c s) v
   ·rfl
   ·rw[Dp hc hs,Bool.and_eq_true] at hv
    exact absurd ⟨v,hv⟩ h
 obtain⟨z,ez,hz⟩:=indexF (xs:=S) (c:=λe=>D.t0 e c) (by omega) (λx _=>⟨_,rfl⟩)
 have e1:D.o1 S c=some z:=ez
 unfold D.l D.l1
 rw[e1]
 refine⟨_,rfl,?_⟩
 rw[Bool.not_eq_true',decide_eq_false_iff_not]
 unfold DL
 rw[hz]
 constructor
 ·intro h s hs
  apply Classical.byContradiction
  intro hno
  refine h ⟨s,hs,?_⟩
  unfold D.t0
  rw[(hiff s (hS s hs)).2 hno]
 ·rintro h ⟨s,hs,e⟩
  unfold D.t0 at e
  exact(hiff s (hS s hs)).1 (Option.some.inj e) (h s hs)
theorem coverOf_ok {n:Nat}{S:LI}(hn:n≤16)(hS:∀s∈S,In n s)(hne:∀s∈S,∃x,El s x)(hl:S.length≤1000):
  ∃t,D.c (n:Int) S=some t∧(In n t∧DL S t∧∀K,In n K→DL S K→(Am t).length≤(Am K).length):=by
 have h33:=EB
 obtain⟨F,hF⟩:∃F:Int→Bool,∀c,VS c→D.l c S=some (F c)∧(F c=true↔DL S c):=by
  refine⟨λc=>(D.l c S).getD false,λc hc=> ?_⟩
  obtain⟨b,e,h⟩:=coverOf_1_ok (λs hs=>(hS s hs).1) hl hc
  have e2:(D.l c S).getD false=b:=by rw[e];rfl
  dsimp only
  rw[e2]
  exact⟨e,h⟩
 have hf:∀c s,VS c→(∀v,has c v=true→v<n)→D.r1 S c s=some (F c,c):=λc s hc _=>by
  unfold D.r1
  rw[(hF c hc).1];rfl
 unfold D.c
 refine AB (λs:Int×Int=>∃k:Nat,s.2=(k:Int)∧k≤n+1∧∀K,In n K→DL S K→k≤(Am K).length) (λs=>n+1-s.2.toNat)
  (λr:Int×Bool=>In n r.1∧DL S r.1∧∀K,In n K→DL S K→(Am r.1).length≤(Am K).length) ?_ ⟨0,rfl,Nat.zero_le _,λ_ _ _=>Nat.zero_le _⟩ (λr hr=>⟨_,rfl,hr⟩)
 rintro⟨c,_⟩ ⟨k,rfl,hk,hmin⟩
 unfold D.x1
 dsimp only
 by_cases hkl:k≤n
 ·obtain⟨r,e,h1,h2⟩:=chR_ok hn F hf k Bo 0 0 c (by omega) (by omega) VS.zero (λv hv=>by rw[A4] at hv;cases hv) (by omega)
  rw[decide_eq_true (show (k:Int)≤(n:Int) by omega),cond_true]
  refine bind_eq e ?_
  cases hb:r.1
  ·rw[cond_false,wi (by omega)]
   refine⟨_,rfl,⟨k+1,rfl,by omega,λK hK hM=> ?_⟩,by dsimp only;omega⟩
   have h3:=hmin K hK hM
   have h4:(Am K).length≠k:=λe=>by
    have:=h1.2 ⟨K,(pick_iff hn).2 ⟨hK,e⟩,(hF K hK.1).2.2 hM⟩
    rw[hb] at this;cases this
   omega
  ·rw[cond_true]
   obtain⟨hp,hFt⟩:=h2 hb
   obtain⟨hin,hlen⟩:=(pick_iff hn).1 hp
   refine⟨_,rfl,hin,(hF _ hin.1).2.1 hFt,λK hK hM=> ?_⟩
   dsimp only
   rw[hlen]
   exact hmin K hK hM
 ·exfalso
  have hfull:In n (full n):=⟨Ci n,λw hw=>by rw[BY hn,decide_eq_true_eq] at hw;exact hw⟩
  have:=hmin (full n) hfull (λs hs=>by
   obtain⟨x,hx⟩:=hne s hs
   exact⟨x,by unfold El;rw[BY hn];exact decide_eq_true ((hS s hs).2 x hx),hx⟩)
  have h2:=Bi (l:=Am (full n)) (m:=(List.range n).map Int.ofNat) (Bu _).nodup (λx hx=>by
   obtain⟨v,_,hv,rfl⟩:=mem_elems.1 hx
   exact List.mem_map.2 ⟨v,List.mem_range.2 (hfull.2 v hv),rfl⟩)
  simp at h2
  omega
theorem toNat_div {m:Int}(hm:VS m)(v:Nat):m.toNat/2^v=2*(m.toNat/2^(v+1))+bit (has m v):=by
 have h1:m.toNat/2^(v+1)=m.toNat/2^v/2:=by rw[Nat.pow_succ,Nat.div_div_eq_div_mul]
 have h2:bit (has m v)=m.toNat/2^v%2:=by
  unfold has bit
  rw[Nat.testBit_eq_decide_div_mod_eq]
  have:=Nat.mod_lt (m.toNat/2^v) (show 2>0 by omega)
  by_cases hc:m.toNat/2^v%2=1
  ·simp[hc]
  ·simp[hc];omega
 omega
theorem toNat_lt {n:Nat}{m:Int}(h:∀v,has m v=true→v<n):m.toNat<2^n:=by
 refine Nat.lt_pow_two_of_testBit _ (λi hi=> ?_)
 cases hc:m.toNat.testBit i with
 |false=>rfl
 |true=>have:=h i hc;omega
theorem code_ok {n:Nat}{m:Int}(hn:n≤10)(hm:VS m)(h:∀v,has m v=true→v<n):D.C0 (mks n m)=some m:=by
 have hlt:=toNat_lt h
 have hp:2^n≤2^10:=Nat.pow_le_pow_right (by omega) hn
 have hle:∀v,m.toNat/2^v≤m.toNat:=λv=>Nat.div_le_self _ _
 have h10:(2:Nat)^10=1024:=rfl
 unfold D.C0
 rw[mks_len]
 refine(C8 (λj=>(((m.toNat/2^(n-j):Nat):Int),(n:Int)-1-(j:Int))) n m ?_ (λj hj=> ?_) ?_).trans rfl
 ·rw[Nat.sub_zero,Nat.div_eq_of_lt hlt,w64 (by omega) (by omega)]
  simp
 ·obtain⟨v,hv⟩:∃v,v=n-(j+1):=⟨_,rfl⟩
  have e1:(n:Int)-1-(j:Int)=(v:Int):=by omega
  have e2:n-j=v+1:=by omega
  have d0:decide ((0:Int)≤(v:Int))=true:=by simp
  dsimp only
  rw[e1,d0,cond_true,E7 (show v<n by omega),bs,e2,←hv]
  have ef:D.A (has m v)=some ((bit (has m v):Nat):Int):=by
   unfold D.A bit;cases has m v<;>rfl
  have h1:=toNat_div hm v
  have h2:=hle v
  have h3:bit (has m v)≤1:=by unfold bit;split<;>omega
  rw[ef,bs,w64 (x:=2*_) (by omega) (by omega),w64 (by omega) (by omega),w64 (by omega) (by omega),h1]
  congr 3
  omega
 ·have d0:decide ((0:Int)≤(n:Int)-1-(n:Int))=false:=by simp;omega
  dsimp only
  rw[d0,cond_false,Nat.sub_self,Nat.pow_zero,Nat.div_one]
  congr 2
  have:=hm.1
  omega
structure TOk (F:LI)(n:Nat)(T:LI):Prop where
 len:T.length=2^n
 ok:∀m k,GS n m k→T.getD m.toNat (-1)= -1∨T.getD m.toNat (-1)=wd F n k m
theorem GS.tlt {n k:Nat}{m:Int}(h:GS n m k):m.toNat<2^n:=toNat_lt h.lt
theorem GS.card {n k k':Nat}{m:Int}(h:GS n m k)(h':GS n m k'):k=k':=by rw[←h.left.card,h'.left.card]
theorem TOk.set {F:LI}{n k:Nat}{T:LI}{m:Int}(h:TOk F n T)(hm:GS n m k):TOk F n (T.set m.toNat (wd F n k m)):=by
 refine⟨by rw[List.length_set,h.len],λm' k' hm'=> ?_⟩
 have hl:=hm'.tlt
 rw[←h.len] at hl
 rw[List.getD_eq_getElem?_getD,List.getElem?_set]
 by_cases he:m.toNat=m'.toNat
 ·have e:m=m':=by have:=hm.vs.1;have:=hm'.vs.1;omega
  subst e
  rw[if_pos rfl,if_pos hl]
  obtain rfl:=hm.card hm'
  exact .inr rfl
 ·rw[if_neg he,←List.getD_eq_getElem?_getD]
  exact h.ok m' k' hm'
theorem Table_ok {g:LL}(hn:g.length≤10)(F:LI):∃T,D.P0 g=some T∧TOk F g.length T:=by
 have hp:∀j,j≤10→2^j≤1024:=λj hj=>(Nat.pow_le_pow_right (by omega) hj:2^j≤2^10)
 have hpn:=hp _ hn
 refine⟨List.replicate (2^g.length) (-1),?_,by simp,λm k hm=> .inl ?_⟩
 ·unfold D.P0 D.b
  refine(C8 (λj=>(((2^j:Nat):Int),(j:Int))) g.length ((2^g.length:Nat):Int) rfl (λj hj=> ?_) ?_).trans ?_
  ·have h1:=hp j (by omega)
   have h2:=hp (j+1) (by omega)
   rw[Nat.pow_succ] at h2
   dsimp only
   rw[bs,dlt hj,cond_true,w64 (x:=_*2) (by omega) (by omega),wq j,Nat.pow_succ]
   congr 3
  ·dsimp only
   rw[bs,A3,cond_false]
  ·dsimp only
   rw[makeD_ok (by omega) (by omega),bs]
   refine(C8 (λj=>(List.replicate j (-1)++List.replicate (2^g.length-j) (0:Int),(j:Int))) (2^g.length) (List.replicate (2^g.length) (-1)) (by simp) (λj hj=> ?_) ?_).trans rfl
   ·dsimp only
    rw[dlt hj,cond_true,Ax (show j<_ by simp;omega),bs,wq j]
    congr 3
    rw[Int.toNat_natCast]
    obtain⟨d,hd⟩:∃d,2^g.length-j=d+1:=⟨2^g.length-j-1,by omega⟩
    rw[hd,show 2^g.length-(j+1)=d by omega,List.set_append_right _ _ (by simp),List.length_replicate,Nat.sub_self,List.replicate_succ,List.set_cons_zero,List.replicate_succ',List.append_assoc];rfl
   ·dsimp only
    rw[A3,cond_false];simp
 ·have hl:=hm.tlt
  simp[List.getD_eq_getElem?_getD,hl]
def mst (f:Int→Int)(b v:Int):Int:=if b<0∨f v<b then f v else b
theorem mst_run (f:Int→Int):∀(l:LI) (b:Int),0≤b→(∀v∈l,0≤f v)→l.foldl (mst f) b=l.foldl (λb v=>if f v<b then f v else b) b
 |[],_,_,_=>rfl
 |x::l,b,hb,hl=>by
  rw[List.foldl_cons,List.foldl_cons]
  have hx:=hl x (by simp)
  have e:mst f b x=if f x<b then f x else b:=by
   unfold mst
   by_cases hc:f x<b
   ·rw[if_pos (.inr hc),if_pos hc]
   ·rw[if_neg (by omega),if_neg hc]
  rw[e]
  exact mst_run f l _ (by split<;>omega) (λv hv=>hl v (List.mem_cons_of_mem _ hv))
theorem mst_all (f:Int→Int)(l:LI)(hne:l≠[])(hl:∀v∈l,0≤f v∧f v≤16):l.foldl (mst f) (-1)=l.foldl (λb v=>if f v<b then f v else b) 16:=by
 cases l with
 |nil=>exact absurd rfl hne
 |cons x l=>
  rw[List.foldl_cons,List.foldl_cons]
  have hx:=hl x (by simp)
  have e1:mst f (-1) x=f x:=by unfold mst;rw[if_pos (.inl (by omega))]
  have e2:(if f x<16 then f x else 16)=f x:=by split<;>omega
  rw[e1,e2]
  exact mst_run f l _ hx.1 (λv hv=>(hl v (List.mem_cons_of_mem _ hv)).1)
theorem FromR_ok {g:LL}(hg:GOk g)(hn:g.length≤10):∀(fuel k:Nat) (m:Int) (T:LI),GS g.length m k→k<fuel→TOk (g.map mk) g.length T→
  ∃T',D.m0 fuel g (mks g.length m) T=some (wd (g.map mk) g.length k m,mks g.length m,T')∧TOk (g.map mk) g.length T'
 |0,_,_,_,_,h,_=>absurd h (by omega)
 |fuel+1,k,m,T,hm,h,hT=>by
  have h16:=hg.n16
  have hF:=FOk.of hg
  have hlt:=hm.tlt
  have hm0:=hm.vs.1
  have hi:m.toNat<T.length:=by rw[hT.len];exact hlt
  have ec:((m.toNat:Nat):Int)=m:=by omega
  have hix:idx T m=some (T.getD m.toNat (-1)):=by
   rw[←ec,Ax hi,Int.toNat_natCast,Ar hi]
  unfold D.m0
  rw[code_ok hn hm.vs hm.lt,bs,hix,bs]
  by_cases h0:0≤T.getD m.toNat (-1)
  ·have e:T.getD m.toNat (-1)=wd (g.map mk) g.length k m:=by
    rcases hT.ok m k hm with h|h
    ·omega
    ·exact h
   rw[decide_eq_true h0,cond_true,bs,e]
   exact⟨T,rfl,hT⟩
  ·rw[decide_eq_false h0,cond_false]
   have hk2:∀k',k=k'+1→∀v:Nat,v<g.length→0≤wv (g.map mk) (wd (g.map mk) g.length k') m (v:Int)∧wv (g.map mk) (wd (g.map mk) g.length k') m (v:Int)≤16:=λk' _ v hv=>by
    have:=(wv_ge (g.map mk) (wd (g.map mk) g.length k') m (v:Int)).1
    exact⟨by omega,wv_len h16 hF hm.vs hv k'⟩
   refine opt_ex ?_
   refine AB (λs=>∃i:Nat,s.2.2.2=(i:Int)∧i≤g.length∧TOk (g.map mk) g.length s.1∧s.2.1=mks g.length m∧s.2.2.1=(els (rm g.length m) i).foldl (mst (wv (g.map mk) (wd (g.map mk) g.length (k-1)) m)) (-1)) (λs=>g.length-s.2.2.2.toNat)
    (λr=>TOk (g.map mk) g.length r.1∧r.2.1=mks g.length m∧r.2.2=(Am (rm g.length m)).foldl (mst (wv (g.map mk) (wd (g.map mk) g.length (k-1)) m)) (-1)) ?_ ⟨0,rfl,by omega,hT,rfl,rfl⟩ ?_
   ·rintro⟨T1,_,b,_⟩ ⟨i,rfl,hin,hT1,rfl,hb⟩
    dsimp only at hT1 hb ⊢
    unfold D.b
    rw[bs]
    by_cases hi2:i<g.length
    ·rw[dlt hi2,cond_true,E7 hi2,bs]
     cases hmi:has m i with
     |true=>
      rw[cond_true,wq i]
      refine⟨_,rfl,⟨i+1,rfl,by omega,hT1,rfl,?_⟩,by dsimp only;omega⟩
      dsimp only
      rw[els_succ,CU h16 hm.vs,hmi,Bool.not_true,Bool.and_false,if_neg (by simp)]
      exact hb
     |false=>
      obtain⟨k',rfl⟩:∃k',k=k'+1:=by
       cases k with
       |zero=>
        have:=hm.done h16
        have h3:=BY h16 i
        rw[←this,hmi,decide_eq_true hi2] at h3
        cases h3
       |succ k=>exact⟨k,rfl⟩
      rw[cond_false,spec_behind_ok hg hm.vs hi2,bs,bs,Int.toNat_natCast,mks_set h16 hm.vs hi2]
      obtain⟨T2,e2,hT2⟩:=FromR_ok hg hn fuel k' _ T1 (hm.add h16 hi2 hmi) (by omega) hT1
      rw[e2,bs,l1Max_eq,bs,E7 hi2,bs]
      dsimp only
      have emx:max ((Am (bh (g.map mk) m (i:Int))).length:Int) (wd (g.map mk) g.length k' (ior .u32 m (ishl .u32 1 (i:Int))))=wv (g.map mk) (wd (g.map mk) g.length k') m (i:Int):=by
       unfold wv
       rw[Int.max_def]
       split<;>split<;>omega
      have ese:els (rm g.length m) (i+1)=els (rm g.length m) i++[(i:Int)]:=by
       rw[els_succ,CU h16 hm.vs,hmi,decide_eq_true hi2];rfl
      rw[emx,mks_unset h16 hm.vs hi2 hmi,wq i]
      simp only[Nat.add_sub_cancel] at hb
      by_cases hc:b<0∨wv (g.map mk) (wd (g.map mk) g.length k') m (i:Int)<b
      ·have hd:(decide (b<0)||decide (wv (g.map mk) (wd (g.map mk) g.length k') m (i:Int)<b))=true:=by simpa using hc
       rw[hd,cond_true]
       refine⟨_,rfl,⟨i+1,rfl,by omega,hT2,rfl,?_⟩,by dsimp only;omega⟩
       dsimp only
       rw[Nat.add_sub_cancel,ese,List.foldl_append,←hb,List.foldl_cons,List.foldl_nil]
       unfold mst
       rw[if_pos hc]
      ·have hd:(decide (b<0)||decide (wv (g.map mk) (wd (g.map mk) g.length k') m (i:Int)<b))=false:=by simpa using hc
       rw[hd,cond_false]
       refine⟨_,rfl,⟨i+1,rfl,by omega,hT2,rfl,?_⟩,by dsimp only;omega⟩
       dsimp only
       rw[Nat.add_sub_cancel,ese,List.foldl_append,←hb,List.foldl_cons,List.foldl_nil]
       unfold mst
       rw[if_neg hc]
    ·obtain rfl:i=g.length:=by omega
     rw[A3,cond_false]
     refine⟨_,rfl,hT1,rfl,?_⟩
     dsimp only
     rw[hb,Fd (by omega) (λv hv=>by
      rw[CU h16 hm.vs,Bool.and_eq_true] at hv
      exact of_decide_eq_true hv.1)]
   ·rintro⟨T1,_,b⟩ ⟨hT1,rfl,hb⟩
    dsimp only at hT1 hb ⊢
    have hi1:m.toNat<T1.length:=by rw[hT1.len];exact hlt
    have hi2:m.toNat<(T1.set m.toNat (max b 0)).length:=by rw[List.length_set];exact hi1
    have er:max b 0=wd (g.map mk) g.length k m:=by
     cases k with
     |zero=>
      have hz:rm g.length m=0:=hm.left.z
      rw[hz,CP,List.foldl_nil] at hb
      rw[hb];rfl
     |succ k=>
      have e:b=wd (g.map mk) g.length (k+1) m:=by
       rw[hb,Nat.add_sub_cancel]
       unfold wd
       refine mst_all _ _ hm.left.ne (λv hv=> ?_)
       obtain⟨u,rfl,hu,_⟩:=(mem_rm h16 hm.vs).1 hv
       exact hk2 k rfl u hu
      have:=wd_nonneg (g.map mk) g.length (k+1) m
      omega
    have ex:∀{X:LI} (hX:m.toNat<X.length),idx X m=some (X[m.toNat]):=fun{X} hX=>by
     have:=Ax hX
     rwa [ec] at this
    rw[l1Max_eq,bs,ex hi1,bs,ex hi2,bs,List.getElem_set_self,er]
    exact⟨_,rfl,_,rfl,hT1.set hm⟩
theorem TB.sh {g B K:LL}(hg:GOk g)(h:TB g B K):Sh2 B∧Sh2 K:=by
 have h16:=hg.n16;have:=h.n16;have:=h.many
 refine⟨⟨by unfold Sh;omega,λb hb=>by have:=(h.sets b hb).length_le (by omega);unfold Sh;omega⟩,⟨by unfold Sh;omega,λl hl=> ?_⟩⟩
 obtain⟨a,b,rfl,_⟩:=h.lks l hl
 simp[Sh]
section
variable {g B K : LL} (hg : GOk g) (h : TB g B K)
include hg h
end
end Go.Sx

namespace Go.Sx
noncomputable def bo (F:LI)(n:Nat)(most:Int):Nat→Int→LI
 |0,_=>[]
 |k+1,m=>match(Am (rm n m)).find? (λv=>decide (wv F (wd F n k) m v≤most)) with
  |some v=>v::bo F n most k (ior .u32 m (ishl .u32 1 v))
  |none=>[]
theorem From_ok {g:LL}(hg:GOk g)(hn:g.length≤10){k:Nat}{m:Int}{T:LI}(hm:GS g.length m k)(hT:TOk (g.map mk) g.length T):
  ∃T',D.x g (mks g.length m) T=some (wd (g.map mk) g.length k m,mks g.length m,T')∧TOk (g.map mk) g.length T':=by
 have hrf:=EB
 have:=hm.le hg.n16
 exact FromR_ok hg hn Bo k m T hm (by omega) hT
theorem spec_wide_eq {g:LL}(h:Sh2 g):D.V0 g=some (gB g&&decide (g.length≤10)):=by
 unfold D.V0 D.b
 rw[Cb g h,bs]
 have e:decide ((g.length:Int)≤10)=decide (g.length≤10):=by rw[decide_eq_decide];omega
 cases gB g
 ·rfl
 ·rw[cond_true,bs,bs,e];rfl
section
variable {g : LL} {o F L : LI} (hg : GOk g) (ho : OOk g o) (hF : Fill g o F L)
include hg ho hF
end
end Go.Sx

namespace Go.Sx
theorem DG {g:LL}(hg:GOk g)(hn:g.length≤10):D.o0 g=some (wd (g.map mk) g.length g.length 0):=by
 unfold D.o0 D.k1
 rw[spec_wide_eq hg.sh2,(gB_iff g).2 hg,decide_eq_true hn,Bool.true_and,bs,Bool.not_true,cond_false]
 unfold D.b1 D.b
 rw[bs,l1Set_eq [] _ (by simp[Sh]) (by omega) (by omega),bs]
 have e:CD [] (g.length:Int)=true:=by simp[CD]
 rw[e,Bool.not_true,bs,cond_false,bs,makeD_ok (by omega) (by omega),bs]
 obtain⟨T,eT,hT⟩:=Table_ok hn (g.map mk)
 obtain⟨T1,e1,hT1⟩:=From_ok hg hn (GS.zero hg.n16) hT
 rw[Bk (r:=List.replicate g.length false) (by rfl),bs,bs,eT,bs,mks_zero,e1];rfl
def pcN :Nat→Nat→Nat
 |_,0=>1
 |0,_+1=>0
 |d+1,k+1=>pcN d k+pcN d (k+1)
theorem pc0 (d:Nat):pcN d 0=1:=by cases d<;>rfl
theorem pc7 :∀n,n<8→∀w,w<17→pcN n w≤35:=by decide
theorem chR_acc {α:Type}{f:Int→List α→Option (Bool×List α)}{n:Nat}(hn:n≤16)(p:Int→α)(hf:∀c s,In n c→s.length<900→f c s=some (false,s++[p c])):
  ∀(k fuel a:Nat) (c:Int) (s:List α),k<fuel→k≤16→In n c→a≤n+1→s.length+pcN (n-a) k≤900→∃Ls:LI,D.m f fuel (n:Int) (a:Int) (k:Int) c s=some (false,s++Ls.map p)∧(∀t,t∈Ls↔Pick n a k c t)∧Ls.length≤pcN (n-a) k:=by
 intro k
 induction k with
 |zero=>
  intro fuel a c s hk _ hc _ hb
  obtain⟨m,rfl⟩:∃m,fuel=m+1:=⟨fuel-1,by omega⟩
  rw[pc0] at hb
  refine⟨[c],?_,λt=> ?_,by rw[pc0];simp⟩
  ·unfold D.m
   simp only[Int.natCast_zero,beq_self_eq_true,cond_true]
   exact hf c s hc (by omega)
  ·rw[List.mem_singleton]
   exact⟨λe=>by rw[e];exact .done,λh=>by cases h;rfl⟩
 |succ k ih=>
  intro fuel a c s hk hk16 hc ha hb
  obtain⟨m,rfl⟩:∃m,fuel=m+1:=⟨fuel-1,by omega⟩
  unfold D.m
  have h0:(((k+1:Nat):Int)==0)=false:=by rw[beq_eq_false_iff_ne];omega
  rw[h0,cond_false]
  have key:∀(d a:Nat) (s:List α),a+d=n+1→s.length+pcN (n-a) (k+1)≤900→∃Ls:LI,Aq (D.B (D.m f m) (n:Int) ((k+1:Nat):Int) c) (s,(a:Int))=some (false,s++Ls.map p)∧(∀t,t∈Ls↔Pick n a (k+1) c t)∧Ls.length≤pcN (n-a) (k+1):=by
   intro d
   induction d with
   |zero=>
    intro a s hd hb
    refine⟨[],Bk ?_,λt=>⟨λh=>(by cases h),λh=> ?_⟩,Nat.zero_le _⟩
    ·unfold D.B
     have:decide (IntKind.i64.wrap ((a:Int)+((k+1:Nat):Int))≤(n:Int))=false:=by rw[w64 (by omega) (by omega)];simp;omega
     simp only[this,cond_false,List.map_nil,List.append_nil]
    ·have:=h.le
     omega
   |succ d ihd=>
    intro a s hd hb
    by_cases hle:a+(k+1)≤n
    ·have hdec:decide (IntKind.i64.wrap ((a:Int)+((k+1:Nat):Int))≤(n:Int))=true:=by rw[w64 (by omega) (by omega)];simp;omega
     have hc':In n (ior .u32 c (ishl .u32 1 (a:Int))):=⟨VS.ior _ _,λv hv=>by
      rw[Cc hc.1 (by omega),Bool.or_eq_true,decide_eq_true_eq] at hv
      rcases hv with hv|rfl
      ·exact hc.2 v hv
      ·omega⟩
     have hpc:pcN (n-a) (k+1)=pcN (n-(a+1)) k+pcN (n-(a+1)) (k+1):=by
      rw[show n-a=(n-(a+1))+1 by omega];rfl
     obtain⟨L1,e,m1,l1⟩:=ih m (a+1) _ s (by omega) (by omega) hc' (by omega) (by omega)
     have ek:IntKind.i64.wrap (((k+1:Nat):Int)-1)=(k:Int):=by rw[w64 (by omega) (by omega)];omega
     have hst:D.B (D.m f m) (n:Int) ((k+1:Nat):Int) c (s,(a:Int))=some (.inl (s++L1.map p,((a+1:Nat):Int))):=by
      unfold D.B
      simp only[hdec,cond_true,CA,bs,wq a,ek,e,cond_false]
     obtain⟨L2,e2,m2,l2⟩:=ihd (a+1) (s++L1.map p) (by omega) (by rw[List.length_append,List.length_map];omega)
     refine⟨L1++L2,by rw[B2 hst,e2,List.map_append,List.append_assoc],λt=> ?_,by rw[List.length_append];omega⟩
     rw[List.mem_append,m1,m2]
     constructor
     ·rintro(h|h)
      ·exact .more (Nat.le_refl _) (by omega) h
      ·cases h with
       |more p1 p2 p3=>exact .more (by omega) p2 p3
     ·intro h
      cases h with
      | @more _ _ v _ _ p1 p2 p3=>
       by_cases hva:v=a
       ·subst hva;exact .inl p3
       ·exact .inr (.more (by omega) p2 p3)
    ·refine⟨[],Bk ?_,λt=>⟨λh=>(by cases h),λh=> ?_⟩,Nat.zero_le _⟩
     ·unfold D.B
      have:decide (IntKind.i64.wrap ((a:Int)+((k+1:Nat):Int))≤(n:Int))=false:=by rw[w64 (by omega) (by omega)];simp;omega
      simp only[this,cond_false,List.map_nil,List.append_nil]
     ·have:=h.le
      omega
  exact key (n+1-a) a s (by omega) hb
structure Ext (C:LL)(F ch r:LI):Prop where
 len:r.length=C.length
 pre:∃e,r=ch++e
 mem:∀i,ch.length≤i→i<C.length→r.getD i 0∈C.getD i []
 tch:∀i j,ch.length≤i→i<C.length→j<i→Tch F (r.getD i 0) (r.getD j 0)
theorem getD_app {a b:LI}{j:Nat}(h:j<a.length):(a++b).getD j 0=a.getD j 0:=by
 rw[List.getD_eq_getElem?_getD,List.getElem?_append_left h,←List.getD_eq_getElem?_getD]
theorem getD_mid {a b:LI}{x:Int}:(a++x::b).getD a.length 0=x:=by
 rw[List.getD_eq_getElem?_getD,List.getElem?_append_right (Nat.le_refl _),Nat.sub_self];rfl
theorem clone_eq (x:LI)(h:x.length≤100000):D.u0 x=some x:=by
 unfold D.u0
 rw[AQ (by simp;omega)];rfl
section
variable {g : LL} (hg : GOk g)
include hg
theorem cpHas_ok {ch:LI}{s:Int}(hs:In g.length s)(hch:∀t∈ch,In g.length t)(hl:ch.length≤1000):∃b,D.x0 ch (g.map mk) s=some b∧(b=true↔∃t∈ch,¬Tch (g.map mk) s t):=by
 have h1:∀t∈ch,∃b,D.h0 t (g.map mk) s=some b∧(b=true↔¬Tch (g.map mk) s t):=λt ht=>by
  obtain⟨b,e,h⟩:=DJ hg hs (hch t ht)
  unfold D.h0
  rw[e]
  refine⟨!b,rfl,?_⟩
  rw[←h,Bool.not_eq_true',Bool.not_eq_true]
 obtain⟨z,ez,hz⟩:=indexF (xs:=ch) (c:=λe=>D.h0 e (g.map mk) s) (by omega) (λx hx=>by
  obtain⟨b,e,_⟩:=h1 x hx
  exact⟨b,e⟩)
 have e1:D.q1 ch (g.map mk) s=some z:=ez
 unfold D.x0
 rw[e1]
 refine⟨_,rfl,?_⟩
 rw[decide_eq_true_eq,hz]
 constructor
 ·rintro⟨t,ht,e⟩
  obtain⟨b,eb,hb⟩:=h1 t ht
  have e:D.h0 t (g.map mk) s=some true:=e
  rw[eb] at e
  exact⟨t,ht,hb.1 (Option.some.inj e)⟩
 ·rintro⟨t,ht,h⟩
  obtain⟨b,eb,hb⟩:=h1 t ht
  exact⟨t,ht,by rw[hb.2 h] at eb;exact eb⟩
theorem choosePart_ok {C:LL}(hC:∀l∈C,l.length≤16∧∀s∈l,In g.length s)(hl:C.length≤900)(h0:0<C.length):∀(d fuel:Nat) (ch:LI),ch.length+d=C.length→d<fuel→(∀s∈ch,In g.length s)→
  ∃r,D.U fuel (g.map mk) C ch=some r∧((r=[]∧∀r',¬Ext C (g.map mk) ch r')∨(r≠[]∧Ext C (g.map mk) ch r)):=by
 intro d
 induction d with
 |zero=>
  intro fuel ch hd hf hch
  obtain⟨m,rfl⟩:∃m,fuel=m+1:=⟨fuel-1,by omega⟩
  unfold D.U
  have:((ch.length:Int)==(C.length:Int))=true:=by rw[beq_iff_eq];omega
  rw[this,cond_true]
  have hne:ch≠[]:=λe=>by rw[e] at hd;simp at hd;omega
  have hnE:nonE ch=some ():=by
   cases ch with
   |nil=>exact absurd rfl hne
   |cons _ _=>rfl
  rw[hnE]
  exact⟨ch,rfl,.inr ⟨hne,by omega,⟨[],by simp⟩,λi h1 h2=>by omega,λi j h1 h2=>by omega⟩⟩
 |succ d ih=>
  intro fuel ch hd hf hch
  obtain⟨m,rfl⟩:∃m,fuel=m+1:=⟨fuel-1,by omega⟩
  have hcl:ch.length<C.length:=by omega
  have hlC:=hC _ (List.getElem_mem hcl)
  unfold D.U
  have:((ch.length:Int)==(C.length:Int))=false:=by rw[beq_eq_false_iff_ne];omega
  rw[this,cond_false,Ax hcl,bs]
  refine AB (λx:Int=>∃i:Nat,x=(i:Int)∧i≤C[ch.length].length∧∀i',i'<i→∀r',Ext C (g.map mk) ch r'→r'.getD ch.length 0≠C[ch.length].getD i' 0) (λx=>C[ch.length].length-x.toNat)
   (λr:Unit ⊕ LI=>(r= .inl ()∧∀r',¬Ext C (g.map mk) ch r')∨∃z,r= .inr z∧z≠[]∧Ext C (g.map mk) ch z) ?_ ⟨0,rfl,Nat.zero_le _,λi h=>absurd h (Nat.not_lt_zero _)⟩ ?_
  ·rintro _ ⟨i,rfl,hi,hno⟩
   by_cases hil:i<C[ch.length].length
   ·have hs:=hlC.2 _ (List.getElem_mem hil)
    obtain⟨b,eb,hb⟩:=cpHas_ok hg hs hch (by omega)
    rw[dlt hil,cond_true,Ax hil,bs,eb,bs,wi (by omega)]
    have hnext:(∀r',Ext C (g.map mk) ch r'→r'.getD ch.length 0≠C[ch.length][i])→∀i',i'<i+1→∀r',Ext C (g.map mk) ch r'→r'.getD ch.length 0≠C[ch.length].getD i' 0:=λh i' hi' r' hr'=>by
     by_cases e:i'=i
     ·subst e
      rw[Ar hil]
      exact h r' hr'
     ·exact hno i' (by omega) r' hr'
    cases hbb:b with
    |true=>
     rw[cond_true]
     obtain⟨t,ht,hnt⟩:=hb.1 hbb
     refine⟨_,rfl,⟨i+1,rfl,hil,hnext (λr' hr' e=> ?_)⟩,by dsimp only;omega⟩
     obtain⟨j,hj,rfl⟩:=List.getElem_of_mem ht
     have h1:=hr'.tch ch.length j (Nat.le_refl _) hcl hj
     obtain⟨ee,rfl⟩:=hr'.pre
     rw[e,getD_app hj,Ar hj] at h1
     exact hnt h1
    |false=>
     rw[cond_false,clone_eq _ (by omega),bs,AQ (by simp;omega),bs]
     have hall:∀t∈ch,Tch (g.map mk) C[ch.length][i] t:=λt ht=>by
      apply Classical.byContradiction
      intro hn
      have:=hb.2 ⟨t,ht,hn⟩
      rw[hbb] at this;cases this
     obtain⟨r,er,hr⟩:=ih m (ch++[C[ch.length][i]]) (by simp;omega) (by omega) (λs hs'=>by
      rcases List.mem_append.1 hs' with h|h
      ·exact hch s h
      ·rw[List.mem_singleton] at h;subst h;exact hs)
     rw[er]
     simp only[bs]
     have hlen':(ch++[C[ch.length][i]]).length=ch.length+1:=by simp
     rcases hr with⟨rfl,hno'⟩|⟨hne,hE⟩
     ·rw[List.isEmpty_nil,Bool.not_true,cond_false]
      refine⟨_,rfl,⟨i+1,rfl,hil,hnext (λr' hr' e=>hno' r' ?_)⟩,by dsimp only;omega⟩
      obtain⟨ee,rfl⟩:=hr'.pre
      have hel:=hr'.len
      cases ee with
      |nil=>simp at hel;omega
      |cons x ee=>
       rw[getD_mid] at e
       subst e
       exact⟨hel,⟨ee,by simp⟩,λi2 h1 h2=>hr'.mem i2 (by omega) h2,λi2 j2 h1 h2 h3=>hr'.tch i2 j2 (by omega) h2 h3⟩
     ·have hemp:r.isEmpty=false:=by
       cases r with
       |nil=>exact absurd rfl hne
       |cons _ _=>rfl
      rw[hemp,Bool.not_false,cond_true]
      refine⟨_,rfl,.inr ⟨r,rfl,hne,?_⟩⟩
      obtain⟨ee,hee⟩:=hE.pre
      have hr0:r.getD ch.length 0=C[ch.length][i]:=by
       rw[hee,List.append_assoc,List.singleton_append,getD_mid]
      refine⟨hE.len,⟨C[ch.length][i]::ee,by rw[hee];simp⟩,λi2 h1 h2=> ?_,λi2 j2 h1 h2 h3=> ?_⟩
      ·by_cases e:i2=ch.length
       ·subst e
        rw[hr0,Ar hcl]
        exact List.getElem_mem hil
       ·exact hE.mem i2 (by omega) h2
      ·by_cases e:i2=ch.length
       ·subst e
        rw[hr0,hee,List.append_assoc,getD_app h3,Ar h3]
        exact hall _ (List.getElem_mem h3)
       ·exact hE.tch i2 j2 (by omega) h2 h3
   ·obtain rfl:i=C[ch.length].length:=by omega
    rw[A3,cond_false]
    refine⟨_,rfl,.inl ⟨rfl,λr' hr'=> ?_⟩⟩
    have h1:=hr'.mem ch.length (Nat.le_refl _) hcl
    rw[Ar hcl] at h1
    obtain⟨i',hi',e⟩:=List.getElem_of_mem h1
    refine hno i' hi' r' hr' ?_
    rw[Ar hi',e]
  ·rintro r (⟨rfl,h⟩|⟨z,rfl,hz,hE⟩)
   ·exact⟨_,rfl,.inl ⟨rfl,h⟩⟩
   ·exact⟨_,rfl,.inr ⟨hz,hE⟩⟩
end
end Go.Sx

namespace Go.Sx
section
variable {F : LI} {n : Nat} (hn : n ≤ 16) (hF : FOk F n)
include hn hF
theorem wd_n :∀(k:Nat) (m:Int),GS n m k→wd F n k m≤(n:Int)
 |0,_,_=>by unfold wd;omega
 |k+1,m,h=>by
  obtain⟨v,hv,hm,e⟩:=EQ hn hF h
  rw[←e,wv_le]
  have:=bh_len hn hF h.vs hv
  exact⟨by omega,wd_n k _ (h.add hn hv hm)⟩
omit hF in
theorem set_grow :∀(d:Nat) (K:Int) (w:Nat),In n K→(Am K).length+d=w→w≤n→∃X,In n X∧(Am X).length=w∧∀v,has K v=true→has X v=true
 |0,K,w,hK,hl,_=>⟨K,hK,by omega,λ_ h=>h⟩
 |d+1,K,w,hK,hl,hw=>by
  have hex:∃v,v<n∧has K v=false:=by
   apply Classical.byContradiction
   intro hc
   have h1:Bw n (λ_=>True)≤Bw n (λv=>has K v=true):=CB (λv hv _=>by
    cases h:has K v
    ·exact absurd ⟨v,hv,h⟩ hc
    ·rfl)
   have h2:Bw n (λ_=>True)=n:=by
    unfold Bw
    have:∀m,AU (λ_=>BD True) m=m:=λm=>by
     induction m with
     |zero=>rfl
     |succ m ih=>simp only[AU];rw[ih,A5 trivial]
    exact this n
   rw[Co hn hK] at hl
   omega
  obtain⟨v,hv,hKv⟩:=hex
  have hadd:∀u,has (ior .u32 K (ishl .u32 1 (v:Int))) u=true↔has K u=true∨u=v:=λu=>by
   rw[Cc hK.1 (by omega),Bool.or_eq_true,decide_eq_true_eq]
  have hK':In n (ior .u32 K (ishl .u32 1 (v:Int))):=⟨VS.ior _ _,λu hu=>by
   rcases(hadd u).1 hu with h|rfl
   ·exact hK.2 u h
   ·exact hv⟩
  obtain⟨X,hX,hXl,hXs⟩:=set_grow d _ w hK' (by
   rw[Co hn hK',cntP_add hn hK.1 hv hKv,←Co hn hK];omega) hw
  exact⟨X,hX,hXl,λu hu=>hXs u ((hadd u).2 (.inl hu))⟩
end
section
variable {g : LL} (hg : GOk g)
include hg
theorem contains_vs {xs:LI}(x:Int)(hl:xs.length≤1000):D.I0 xs x=some (decide (x∈xs)):=by
 obtain⟨z,ez,hz⟩:=indexF (xs:=xs) (c:=λe=>some (x==e)) (by omega) (λy _=>⟨_,rfl⟩)
 have e1:D.j1 xs x=some z:=ez
 unfold D.I0
 rw[e1,bs]
 congr 1
 rw[Bool.eq_iff_iff,decide_eq_true_eq,decide_eq_true_eq,hz]
 constructor
 ·rintro⟨y,hy,e⟩
  have e:(x==y)=true:=Option.some.inj e
  rw[beq_iff_eq] at e
  rw[e];exact hy
 ·exact λh=>⟨x,h,by rw[beq_self_eq_true]⟩
theorem isSmall_ok (h8:g.length≤8):D.M0 g=some true:=by
 unfold D.M0
 rw[Ca g hg.sh2,Dm hg,bs,decide_eq_true (show (g.length:Int)≤8 by omega)]
 rfl
noncomputable def twN (g:LL):Nat:=(wd (g.map mk) g.length g.length 0).toNat
theorem tw_eq :((twN g:Nat):Int)=wd (g.map mk) g.length g.length 0:=by
 have:=wd_nonneg (g.map mk) g.length g.length 0
 unfold twN
 omega
theorem tw_le :twN g≤g.length:=by
 have h1:=wd_n hg.n16 (FOk.of hg) g.length 0 (GS.zero hg.n16)
 have h2:=tw_eq hg
 omega
theorem part_whole {W:Int}(hW:In g.length W){l:LI}(hP:Parts (g.map mk) (El W) l){s:Int}(hs:s∈l):CZ g s:=by
 refine⟨⟨hP.vs s hs,λw hw=>hW.2 w (hP.sub s hs w hw)⟩,hP.ne s hs,λx y hx hy=> ?_⟩
 have hc:=(hP.cn s hs x y hx).1 hy
 exact(hc (λz=>El s z∧Cn (Ad (g.map mk)) (El s) x z) ⟨hx,Cn.refl⟩ (λa b ⟨h1,h2⟩ hab hb=>by
  have hsb:El s b:=(hP.cn s hs a b h1).2 (Cn.refl.step hab hb)
  exact⟨hsb,h2.step hab hsb⟩)).2
theorem BestBramble_ok (h7:g.length≤7):∃o:LI,D.z g=some (o.map Am)∧(o.length≤35∧o≠[]∧Brm g o∧∀X,In g.length X→(Am X).length=twN g→∃s∈o,∀x,El s x→¬El X x):=by
 have h16:=hg.n16
 have hn1:=hg.n1
 have hF:=FOk.of hg
 have h33:=EB
 have hrb:=Dy
 have htw:=tw_eq hg
 have htl:=tw_le hg
 obtain⟨p,hp⟩:∃p:Int→LI,∀c,In g.length c→D.L (g.map mk) (rm g.length c)=some (p c)∧Parts (g.map mk) (El (rm g.length c)) (p c)∧(p c).length≤16:=by
  refine⟨λc=>(D.L (g.map mk) (rm g.length c)).getD [],λc hc=> ?_⟩
  obtain⟨l,e,hP,hl⟩:=partsOf_ok h16 hF (rest_in hg c hc.1).1
  have e:D.L (g.map mk) (rm g.length c)=some l:=e
  have e2:(D.L (g.map mk) (rm g.length c)).getD []=l:=by rw[e];rfl
  dsimp only
  rw[e2]
  exact⟨e,hP,hl⟩
 have hf:∀(c:Int) (s:LL),In g.length c→s.length<900→D.B1 (g.map mk) c s=some (false,s++[p c]):=λc s hc hs=>by
  unfold D.B1 D.m1
  rw[EI,List.length_map,bs,show iandNot .u32 (full g.length) c=rm g.length c from rfl,(hp c hc).1,bs,AQ (by simp;omega),bs]
 have hpc:=pc7 g.length (by omega) (twN g) (by omega)
 obtain⟨Ls,eL,mL,lL⟩:=chR_acc h16 p hf (twN g) Bo 0 0 [] (by omega) (by omega) Eu (by omega) (by rw[Nat.sub_zero];simp;omega)
 rw[Nat.sub_zero] at lL
 rw[List.nil_append] at eL
 have hLs:∀t,t∈Ls↔In g.length t∧(Am t).length=twN g:=λt=>by rw[mL,pick_iff h16]
 have hC:∀l∈Ls.map p,l.length≤16∧∀s∈l,In g.length s:=λl hl=>by
  obtain⟨t,ht,rfl⟩:=List.mem_map.1 hl
  have hin:=((hLs t).1 ht).1
  exact⟨(hp t hin).2.2,λs hs=>(part_whole hg (rest_in hg t hin.1).1 (hp t hin).2.1 hs).1⟩
 have hne:0<Ls.length:=by
  obtain⟨X,hX,hXl,_⟩:=set_grow h16 (twN g) 0 (twN g) Eu (by rw[CP];simp) htl
  exact List.length_pos_of_mem ((hLs X).2 ⟨hX,hXl⟩)
 obtain⟨r,er,hr⟩:=choosePart_ok hg hC (by rw[List.length_map];omega) (by rw[List.length_map];exact hne) (Ls.map p).length Bo [] (by simp) (by rw[List.length_map];omega) (λs hs=>by cases hs)
 have er:D.f (g.map mk) (Ls.map p) []=some r:=er
 obtain⟨f,hf1,hf2⟩:=haven (k:=twN g) h16 hF hn1 (by omega)
 have hr:r≠[]∧Ext (Ls.map p) (g.map mk) [] r:=by
  rcases hr with⟨_,h⟩|h
  ·refine absurd ?_ (h (Ls.map f))
   have hat:∀i,i<Ls.length→(Ls.map f).getD i 0=f (Ls.getD i 0)∧In g.length (Ls.getD i 0)∧(Am (Ls.getD i 0)).length=twN g:=λi hi=>by
    have:=(hLs _).1 (List.getElem_mem hi)
    rw[Ar (by rw[List.length_map];exact hi),List.getElem_map,Ar hi]
    exact⟨rfl,this⟩
   refine⟨by simp,⟨Ls.map f,rfl⟩,λi _ hi=> ?_,λi j _ hi hj=> ?_⟩
   ·rw[List.length_map] at hi
    obtain⟨e,h1,h2⟩:=hat i hi
    rw[e,Ar (by rw[List.length_map];exact hi),List.getElem_map,←Ar hi 0]
    exact(hf1 _ h1 (by omega)).mem (hp _ h1).2.1
   ·rw[List.length_map] at hi
    obtain⟨e,h1,h2⟩:=hat i hi
    obtain⟨e',h1',h2'⟩:=hat j (by omega)
    rw[e,e']
    exact hf2 _ _ h1 (by omega) h1' (by omega)
  ·exact h
 obtain⟨hrne,hE⟩:=hr
 have hrl:=hE.len
 rw[List.length_map] at hrl
 have hri:∀i (hi:i<r.length),∃X,In g.length X∧(Am X).length=twN g∧X=Ls.getD i 0∧r[i]∈p X:=λi hi=>by
  have h1:=hE.mem i (Nat.zero_le _) (by rw[List.length_map];omega)
  rw[Ar hi,Ar (by rw[List.length_map];omega),List.getElem_map] at h1
  obtain⟨h2,h3⟩:=(hLs _).1 (List.getElem_mem (show i<Ls.length by omega))
  exact⟨_,h2,h3,(Ar (by omega) 0).symm,h1⟩
 have hrw:∀s∈r,CZ g s:=λs hs=>by
  obtain⟨i,hi,rfl⟩:=List.getElem_of_mem hs
  obtain⟨X,hX,_,_,hm⟩:=hri i hi
  exact part_whole hg (rest_in hg X hX.1).1 (hp X hX).2.1 hm
 unfold D.z
 rw[isSmall_ok hg (by omega),bs,Bool.not_true,cond_false,Db g hg,bs,wAfterR_ok h16 hF Bo g.length 0 (GS.zero h16) (by omega),bs,List.length_map,←htw]
 refine opt_ex (f:=λo:LI=>o.map Am) (Q:=λo:LI=>o.length≤35∧o≠[]∧Brm g o∧∀X,In g.length X→(Am X).length=twN g→∃s∈o,∀x,El s x→¬El X x) ?_
 refine bind_eq eL ?_
 refine bind_eq er ?_
 refine AB (λq:LI×Int=>∃i:Nat,q.2=(i:Int)∧i≤r.length∧q.1.length≤i∧∀x,x∈q.1↔x∈r.take i) (λq=>r.length-q.2.toNat)
  (λo:LI=>o.length≤r.length∧∀x,x∈o↔x∈r) ?_ ⟨0,rfl,Nat.zero_le _,Nat.le_refl _,λx=>by simp⟩ ?_
 ·rintro⟨acc,_⟩ ⟨i,rfl,hi,hal,ha⟩
  unfold D.C1
  dsimp only at hal ha ⊢
  by_cases hil:i<r.length
  ·rw[dlt hil,cond_true,Ax hil,bs,contains_vs hg _ (by omega),bs,wi (by omega)]
   have htake:∀x,x∈r.take (i+1)↔x∈r.take i∨x=r[i]:=λx=>by
    rw[List.take_succ_eq_append_getElem hil,List.mem_append,List.mem_singleton]
   by_cases hm:r[i]∈acc
   ·rw[decide_eq_true hm,Bool.not_true,cond_false]
    refine⟨_,rfl,⟨i+1,rfl,hil,by dsimp only;omega,λx=> ?_⟩,by dsimp only;omega⟩
    dsimp only
    rw[htake,←ha]
    constructor
    ·exact .inl
    ·rintro(h|rfl)
     ·exact h
     ·exact hm
   ·rw[decide_eq_false hm,Bool.not_false,cond_true,AQ (by simp;omega),bs]
    refine⟨_,rfl,⟨i+1,rfl,hil,by simp;omega,λx=> ?_⟩,by dsimp only;omega⟩
    dsimp only
    rw[htake,List.mem_append,List.mem_singleton,ha]
  ·obtain rfl:i=r.length:=by omega
   rw[A3,cond_false]
   rw[List.take_length] at ha
   exact⟨_,rfl,hal,ha⟩
 ·rintro o ⟨hol,ho⟩
  rw[results_eq o (by unfold Sh;omega) (λs hs=>(hrw s ((ho s).1 hs)).1.1),bs]
  refine⟨_,rfl,?_⟩
  refine⟨o,rfl,by omega,λe=> ?_,⟨λt ht=>hrw t ((ho t).1 ht),λs hs t ht=> ?_⟩,λX hX hXl=> ?_⟩
  ·obtain⟨x,hx⟩:=List.exists_mem_of_ne_nil _ hrne
   have:=(ho x).2 hx
   rw[e] at this;cases this
  ·obtain⟨i,hi,rfl⟩:=List.getElem_of_mem ((ho s).1 hs)
   obtain⟨j,hj,rfl⟩:=List.getElem_of_mem ((ho t).1 ht)
   have hti:∀i j (hi:i<r.length) (hj:j<r.length),j<i→Tch (g.map mk) r[i] r[j]:=λi j hi hj h=>by
    have:=hE.tch i j (Nat.zero_le _) (by rw[List.length_map];omega) h
    rw[Ar hi,Ar hj] at this
    exact this
   rcases Nat.lt_trichotomy i j with c|c|c
   ·exact(hti j i hj hi c).symm hF (hrw _ (List.getElem_mem hj)).1
   ·subst c
    obtain⟨v,hv⟩:=(hrw _ (List.getElem_mem hi)).2.1
    exact⟨v,v,hv,hv,.inl rfl⟩
   ·exact hti i j hi hj c
  ·obtain⟨i,hi,ei⟩:=List.getElem_of_mem ((hLs X).2 ⟨hX,hXl⟩)
   have hi':i<r.length:=by omega
   obtain⟨Y,hY,_,eY,hm⟩:=hri i hi'
   rw[Ar hi,ei] at eY
   subst eY
   refine⟨r[i],(ho _).2 (List.getElem_mem hi'),λx hx hxX=> ?_⟩
   have h1:=(hp Y hY).2.1.sub _ hm x hx
   unfold El at h1 hxX
   rw[CU h16 hY.1,hxX] at h1
   simp at h1
theorem order_ok {T:LI}(hB:Brm g T)(hl:T.length≤1000):∃t,D.c (g.length:Int) T=some t∧(In g.length t∧(Am t).length≤twN g+1∧DL T t):=by
 have h16:=hg.n16
 have hF:=FOk.of hg
 obtain⟨t,e,h1,h2,h3⟩:=coverOf_ok h16 (λs hs=>(hB.1 s hs).1) (λs hs=>(hB.1 s hs).2.1) hl
 refine⟨t,e,h1,?_,h2⟩
 obtain⟨K,hK,hKl,hM⟩:=cover_ex (w:=twN g) h16 hF (λs=>s∈T) (λs hs=>(hB.1 s hs).1) (λs hs=>(hB.1 s hs).2.1) (λs hs=>(hB.1 s hs).2.2) (λs t hs ht=>hB.2 s hs t ht) g.length 0 (GS.zero h16) (λs hs=>by
  obtain⟨x,hx⟩:=(hB.1 s hs).2.1
  exact⟨x,hx,A4 x⟩) (by rw[tw_eq hg];exact Int.le_refl _)
 exact Nat.le_trans (h3 K hK hM) hKl
theorem best_order {o:LI}(hB:Brm g o)(hl:o.length≤1000)(hX:∀X,In g.length X→(Am X).length=twN g→∃s∈o,∀x,El s x→¬El X x):∃t,D.c (g.length:Int) o=some t∧(In g.length t∧(Am t).length=twN g+1):=by
 have h16:=hg.n16
 obtain⟨t,e,h1,h2,h3⟩:=order_ok hg hB hl
 refine⟨t,e,h1,?_⟩
 apply Classical.byContradiction
 intro hne
 obtain⟨X,hXi,hXl,hXs⟩:=set_grow h16 (twN g-(Am t).length) t (twN g) h1 (by omega) (tw_le hg)
 obtain⟨s,hs,hno⟩:=hX X hXi hXl
 obtain⟨x,hx,hxs⟩:=h3 s hs
 exact hno x hxs (hXs x hx)
end
end Go.Sx

namespace Go.Sx
def Fine (n:Nat)(P:LI):Prop:=P.length≤16∧∀x∈P,∃v:Nat,x=(v:Int)∧v<n
section
variable {g : LL} (hg : GOk g)
include hg
theorem l3Parts_sz {L:LI}(hl16:L.length≤16)(hLn:∀x∈L,∃v:Nat,x=(v:Int)∧v<g.length):∃out,D.w0 g L=some out∧(out.length≤16∧∀P∈out,Fine g.length P):=by
 have h16:=hg.n16
 have hL:Sh L:=by unfold Sh;omega
 unfold D.w0
 refine AB (λs:LL×LI×Int=>∃i:Nat,s.2.2=(i:Int)∧i≤L.length∧s.1.length≤i∧s.2.1.length≤16*i∧∀P∈s.1,Fine g.length P) (λs=>L.length-s.2.2.toNat)
  (λout:LL=>out.length≤16∧∀P∈out,Fine g.length P) ?_ ⟨0,rfl,Nat.zero_le _,Nat.le_refl _,Nat.le_refl _,λP hP=>(by cases hP)⟩ (λr hr=>⟨r,rfl,hr⟩)
 rintro⟨out,sn,_⟩ ⟨i,rfl,hi,hol,hsl,hP⟩
 dsimp only at hol hsl hP ⊢
 by_cases hil:i<L.length
 ·obtain⟨v,ev,hvn⟩:=hLn _ (List.getElem_mem hil)
  have hvL:(v:Int)∈L:=by rw[←ev];exact List.getElem_mem hil
  rw[dlt hil,cond_true,Ax hil,ev,bs,Cj _ _ (by unfold Sh;omega),bs,wi (by omega)]
  by_cases hs:(v:Int)∈sn
  ·rw[decide_eq_true hs,Bool.not_true,cond_false]
   exact⟨_,rfl,⟨i+1,rfl,hil,by dsimp only;omega,by dsimp only;omega,hP⟩,by dsimp only;omega⟩
  ·obtain⟨P,eP,h1,h2,h3⟩:=l3Part_ok hg hvn hL hvL
   rw[decide_eq_false hs,Bool.not_false,cond_true,bs,eP,bs,AQ (by simp;omega),bs,AQ (by omega),bs]
   refine⟨_,rfl,⟨i+1,rfl,hil,by simp;omega,by dsimp only;rw[List.length_append];omega,λQ hQ=> ?_⟩,by dsimp only;omega⟩
   dsimp only at hQ
   rcases List.mem_append.1 hQ with hQ|hQ
   ·exact hP Q hQ
   ·rw[List.mem_singleton] at hQ
    subst hQ
    exact⟨by omega,λx hx=>by
     obtain⟨w,e,hw,_⟩:=h3 x hx
     exact⟨w,e,hw⟩⟩
 ·obtain rfl:i=L.length:=by omega
  rw[A3,cond_false]
  exact⟨_,rfl,by omega,hP⟩
theorem l11Pick_ok {C:List LL}(hC:∀l∈C,l.length≤16∧∀P∈l,Fine g.length P)(hl:C.length≤100000000):∀(d fuel:Nat) (ch:LL),ch.length+d=C.length→d<fuel→(∀P∈ch,Fine g.length P)→
  ∃r,D.V fuel g C ch=some r∧(r.length≤C.length∧∀P∈r,Fine g.length P):=by
 intro d
 induction d with
 |zero=>
  intro fuel ch hd hf hch
  obtain⟨m,rfl⟩:∃m,fuel=m+1:=⟨fuel-1,by omega⟩
  unfold D.V
  have:((ch.length:Int)==(C.length:Int))=true:=by rw[beq_iff_eq];omega
  rw[this,cond_true]
  exact⟨ch,rfl,by omega,hch⟩
 |succ d ih=>
  intro fuel ch hd hf hch
  obtain⟨m,rfl⟩:∃m,fuel=m+1:=⟨fuel-1,by omega⟩
  have hcl:ch.length<C.length:=by omega
  have hlC:=hC _ (List.getElem_mem hcl)
  unfold D.V
  have:((ch.length:Int)==(C.length:Int))=false:=by rw[beq_eq_false_iff_ne];omega
  rw[this,cond_false]
  refine AB (λx:Int=>∃i:Nat,x=(i:Int)∧i≤C[ch.length].length) (λx=>C[ch.length].length-x.toNat)
   (λr:Unit ⊕ LL=>r= .inl ()∨∃z,r= .inr z∧z.length≤C.length∧∀P∈z,Fine g.length P) ?_ ⟨0,rfl,Nat.zero_le _⟩ ?_
  ·rintro _ ⟨i,rfl,hi⟩
   rw[Ax hcl,bs]
   by_cases hil:i<C[ch.length].length
   ·have hs:=hlC.2 _ (List.getElem_mem hil)
    rw[dlt hil,cond_true,bs,Ax hil,bs,wi (by omega)]
    refine AB (λq:Bool×Int=>∃k:Nat,q.2=(k:Int)∧k≤ch.length) (λq=>ch.length-q.2.toNat) (λ_:Bool=>True) ?_ ⟨0,rfl,Nat.zero_le _⟩ ?_
    ·rintro⟨b,_⟩ ⟨k,rfl,hk⟩
     dsimp only
     by_cases hkl:k<ch.length
     ·rw[dlt hkl,Bool.true_and]
      cases b with
      |true=>
       have hk':=hch _ (List.getElem_mem hkl)
       obtain⟨r,er,_⟩:=Fj hg hk'.2 hs.2 hk'.1 hs.1
       rw[cond_true,Ax hkl,bs,er,bs,wi (by omega)]
       exact⟨_,rfl,⟨k+1,rfl,hkl⟩,by dsimp only;omega⟩
      |false=>
       rw[cond_false]
       exact⟨_,rfl,trivial⟩
     ·obtain rfl:k=ch.length:=by omega
      rw[A3,Bool.false_and,cond_false]
      exact⟨_,rfl,trivial⟩
    ·rintro b _
     cases b with
     |false=>
      rw[cond_false]
      exact⟨_,rfl,⟨i+1,rfl,hil⟩,by dsimp only;omega⟩
     |true=>
      obtain⟨r,er,hrl,hr⟩:=ih m (ch++[C[ch.length][i]]) (by simp;omega) (by omega) (λP hP=>by
       rcases List.mem_append.1 hP with h|h
       ·exact hch P h
       ·rw[List.mem_singleton] at h;subst h;exact hs)
      rw[cond_true,AQ (by simp;omega),bs,List.nil_append,AQ (by simp;omega),bs,er]
      simp only[bs]
      by_cases h0:(0:Int)<(r.length:Int)
      ·rw[decide_eq_true h0,cond_true]
       exact⟨_,rfl,.inr ⟨r,rfl,hrl,hr⟩⟩
      ·rw[decide_eq_false h0,cond_false]
       exact⟨_,rfl,⟨i+1,rfl,hil⟩,by dsimp only;omega⟩
   ·obtain rfl:i=C[ch.length].length:=by omega
    rw[A3,cond_false]
    exact⟨_,rfl,.inl rfl⟩
  ·rintro r (rfl|⟨z,rfl,h1,h2⟩)
   ·exact⟨_,rfl,Nat.zero_le _,λP hP=>(by cases hP)⟩
   ·exact⟨_,rfl,h1,h2⟩
end
theorem l11Sets_ok {n w:Nat}(hn:n≤8)(hw:w≤8):∃l,D.a1 (n:Int) (w:Int)=some l∧(l.length≤16777216∧∀x∈l,x.length≤8):=by
 have h88:(8:Nat)^8=16777216:=by decide
 unfold D.a1
 refine AB (λs:LL×Int=>∃i:Nat,s.2=(i:Int)∧i≤w∧s.1.length≤8^i∧∀x∈s.1,x.length=i∧∀e∈x,0≤e∧e<(n:Int)) (λs=>w-s.2.toNat)
  (λl:LL=>l.length≤16777216∧∀x∈l,x.length≤8) ?_ ⟨0,rfl,Nat.zero_le _,by simp,λx hx=> ?_⟩ (λr hr=>⟨r,rfl,hr⟩)
 ·rintro⟨l,_⟩ ⟨i,rfl,hi,hl,hx⟩
  dsimp only at hl hx ⊢
  have hp8:(8:Nat)^i≤8^8:=Nat.pow_le_pow_right (by omega) (by omega)
  by_cases hiw:i<w
  ·have hp7:(8:Nat)^(i+1)≤8^8:=Nat.pow_le_pow_right (by omega) (by omega)
   rw[Nat.pow_succ] at hp7
   rw[decide_eq_true (show (i:Int)<(w:Int) by omega),cond_true]
   refine AB (λs:LL×Int=>∃j:Nat,s.2=(j:Int)∧j≤l.length∧s.1.length≤8*j∧∀x∈s.1,x.length=i+1∧∀e∈x,0≤e∧e<(n:Int)) (λs=>l.length-s.2.toNat)
    (λm:LL=>m.length≤8*l.length∧∀x∈m,x.length=i+1∧∀e∈x,0≤e∧e<(n:Int)) ?_ ⟨0,rfl,Nat.zero_le _,Nat.le_refl _,λx hx=>(by cases hx)⟩ ?_
   ·rintro⟨mo,_⟩ ⟨j,rfl,hj,hml,hm⟩
    dsimp only at hml hm ⊢
    by_cases hjl:j<l.length
    ·have hxj:=hx _ (List.getElem_mem hjl)
     rw[dlt hjl,cond_true,Ax hjl,bs]
     refine B5 (λf:Int=>0≤f) ?_ ?_
     ·by_cases h0:(0:Int)<(l[j].length:Int)
      ·have hlast:l[j].length-1<l[j].length:=by omega
       have he:=hxj.2 _ (List.getElem_mem hlast)
       have ew:IntKind.i64.wrap ((l[j].length:Int)-1)=((l[j].length-1:Nat):Int):=by rw[w64 (by omega) (by omega)];omega
       rw[decide_eq_true h0,cond_true,bs,bs,ew,Ax hlast,bs,w64 (by omega) (by omega)]
       exact⟨_,rfl,by omega⟩
      ·rw[decide_eq_false h0,cond_false]
       exact⟨_,rfl,Int.le_refl _⟩
     ·intro f hf
      refine AB (λs:LL×Int=>f≤s.2∧(s.2≤n∨s.2=f)∧s.1.length+(n-s.2.toNat)≤mo.length+(n-f.toNat)∧∀x∈s.1,x.length=i+1∧∀e∈x,0≤e∧e<(n:Int)) (λs=>n-s.2.toNat)
       (λm:LL=>m.length≤mo.length+8∧∀x∈m,x.length=i+1∧∀e∈x,0≤e∧e<(n:Int)) ?_ ⟨Int.le_refl _,.inr rfl,Nat.le_refl _,hm⟩ ?_
      ·rintro⟨m2,v⟩ ⟨hfv,hvn,hml2,hm2⟩
       dsimp only at hfv hvn hml2 hm2 ⊢
       by_cases hv:v<(n:Int)
       ·rw[decide_eq_true hv,cond_true,bs,ET _ (by unfold Sh;omega),bs,AQ (by simp;omega),bs,AQ (by simp;omega),bs,w64 (by omega) (by omega)]
        refine⟨_,rfl,⟨by dsimp only;omega,.inl (by dsimp only;omega),by simp;omega,λx hx'=> ?_⟩,by dsimp only;omega⟩
        dsimp only at hx'
        rcases List.mem_append.1 hx' with h|h
        ·exact hm2 x h
        ·rw[List.mem_singleton] at h
         subst h
         refine⟨by rw[List.length_append,hxj.1];rfl,λe he=> ?_⟩
         rcases List.mem_append.1 he with h|h
         ·exact hxj.2 e h
         ·rw[List.mem_singleton] at h;omega
       ·rw[decide_eq_false hv,cond_false]
        exact⟨_,rfl,by omega,hm2⟩
      ·rintro m2 ⟨h1,h2⟩
       rw[wi (by omega)]
       exact⟨_,rfl,⟨j+1,rfl,hjl,by dsimp only;omega,h2⟩,by dsimp only;omega⟩
    ·obtain rfl:j=l.length:=by omega
     rw[A3,cond_false]
     exact⟨_,rfl,hml,hm⟩
   ·rintro m ⟨h1,h2⟩
    rw[wi (by omega)]
    exact⟨_,rfl,⟨i+1,rfl,hiw,by dsimp only;rw[Nat.pow_succ];omega,h2⟩,by dsimp only;omega⟩
  ·rw[decide_eq_false (show¬(i:Int)<(w:Int) by omega),cond_false]
   exact⟨_,rfl,by omega,λx hxx=>by have:=(hx x hxx).1;omega⟩
 ·dsimp only at hx
  rw[List.mem_singleton] at hx
  subst hx
  exact⟨rfl,λe he=>by cases he⟩
theorem EM {g:LL}(hs:Sh2 g):∃S,D.O0 g=some S∧(S.length≤16777216∧∀x∈S,x.length≤18):=by
 have hsz:D.b g=some (g.length:Int):=rfl
 unfold D.O0 D.c1
 rw[Cb g hs,bs]
 cases hgb:gB g with
 |false=>
  simp only[cond_false,bs,Bool.not_false,cond_true]
  exact⟨_,rfl,Nat.zero_le _,λx hx=>(by cases hx)⟩
 |true=>
  have hg:=(gB_iff g).1 hgb
  have h16:=hg.n16
  simp only[cond_true,hsz,bs]
  by_cases h8:(g.length:Int)≤8
  ·have hrb:=Dy
   obtain⟨L,eL,hLl,hLx⟩:=l11Sets_ok (n:=g.length) (w:=twN g) (by omega) (by have:=tw_le hg;omega)
   rw[decide_eq_true h8,Bool.not_true,cond_false,DG hg (by omega),bs,←tw_eq hg,eL,bs]
   refine AB (λs:List LL×Int=>∃i:Nat,s.2=(i:Int)∧i≤L.length∧s.1.length=i∧∀l∈s.1,l.length≤16∧∀P∈l,Fine g.length P) (λs=>L.length-s.2.toNat)
    (λC:List LL=>C.length≤16777216∧∀l∈C,l.length≤16∧∀P∈l,Fine g.length P) ?_ ⟨0,rfl,Nat.zero_le _,rfl,λl hl=>(by cases hl)⟩ ?_
   ·rintro⟨C,_⟩ ⟨i,rfl,hi,hCl,hC⟩
    dsimp only at hCl hC ⊢
    by_cases hil:i<L.length
    ·rw[dlt hil,cond_true]
     refine AB (λs:LI×Int=>∃v:Nat,s.2=(v:Int)∧v≤g.length∧s.1.length≤v∧∀x∈s.1,∃u:Nat,x=(u:Int)∧u<g.length) (λs=>g.length-s.2.toNat)
      (λR:LI=>R.length≤16∧∀x∈R,∃u:Nat,x=(u:Int)∧u<g.length) ?_ ⟨0,rfl,Nat.zero_le _,Nat.le_refl _,λx hx=>(by cases hx)⟩ ?_
     ·rintro⟨R,_⟩ ⟨v,rfl,hv,hRl,hR⟩
      dsimp only at hRl hR ⊢
      by_cases hvl:v<g.length
      ·rw[dlt hvl,cond_true,Ax hil,bs,Cj _ _ (by have:=hLx _ (List.getElem_mem hil);unfold Sh;omega),bs,wi (by omega)]
       by_cases hm:(v:Int)∈L[i]
       ·rw[decide_eq_true hm,Bool.not_true,cond_false]
        exact⟨_,rfl,⟨v+1,rfl,hvl,by dsimp only;omega,hR⟩,by dsimp only;omega⟩
       ·rw[decide_eq_false hm,Bool.not_false,cond_true,AQ (by simp;omega),bs]
        refine⟨_,rfl,⟨v+1,rfl,hvl,by simp;omega,λx hx=> ?_⟩,by dsimp only;omega⟩
        dsimp only at hx
        rcases List.mem_append.1 hx with h|h
        ·exact hR x h
        ·rw[List.mem_singleton] at h
         exact⟨v,h,hvl⟩
      ·obtain rfl:v=g.length:=by omega
       rw[A3,cond_false]
       exact⟨_,rfl,by omega,hR⟩
     ·rintro R ⟨hRl,hR⟩
      obtain⟨out,eo,ho1,ho2⟩:=l3Parts_sz hg hRl hR
      rw[eo,bs,AQ (by simp;omega),bs,wi (by omega)]
      refine⟨_,rfl,⟨i+1,rfl,hil,by simp;omega,λl hl=> ?_⟩,by dsimp only;omega⟩
      dsimp only at hl
      rcases List.mem_append.1 hl with h|h
      ·exact hC l h
      ·rw[List.mem_singleton] at h;subst h;exact⟨ho1,ho2⟩
    ·obtain rfl:i=L.length:=by omega
     rw[A3,cond_false]
     exact⟨_,rfl,by omega,hC⟩
   ·rintro C ⟨hCl,hC⟩
    obtain⟨r,er,hrl,hr⟩:=l11Pick_ok hg hC (by omega) C.length Bo [] (by simp) (by omega) (λP hP=>(by cases hP))
    have er:D.s g C []=some r:=er
    rw[er,bs]
    refine AB (λs:LL×Int=>∃i:Nat,s.2=(i:Int)∧i≤r.length∧s.1.length≤i∧∀P∈s.1,Fine g.length P) (λs=>r.length-s.2.toNat)
     (λS:LL=>S.length≤16777216∧∀x∈S,x.length≤18) ?_ ⟨0,rfl,Nat.zero_le _,Nat.le_refl _,λP hP=>(by cases hP)⟩ (λr hr=>⟨r,rfl,hr⟩)
    rintro⟨S,_⟩ ⟨i,rfl,hi,hSl,hS⟩
    dsimp only at hSl hS ⊢
    by_cases hil:i<r.length
    ·have hri:=hr _ (List.getElem_mem hil)
     rw[dlt hil,cond_true]
     refine AB (λq:Bool×Int=>∃k:Nat,q.2=(k:Int)∧k≤S.length) (λq=>S.length-q.2.toNat) (λ_:Bool=>True) ?_ ⟨0,rfl,Nat.zero_le _⟩ ?_
     ·rintro⟨b,_⟩ ⟨k,rfl,hk⟩
      dsimp only
      by_cases hkl:k<S.length
      ·rw[dlt hkl,cond_true,wi (by omega)]
       cases b with
       |true=>
        rw[cond_true,bs]
        exact⟨_,rfl,⟨k+1,rfl,hkl⟩,by dsimp only;omega⟩
       |false=>
        rw[cond_false,Ax hkl,bs,Ax hil,bs,l1Same_eq _ _ (by have:=(hS _ (List.getElem_mem hkl)).1;unfold Sh;omega),bs,bs]
        exact⟨_,rfl,⟨k+1,rfl,hkl⟩,by dsimp only;omega⟩
      ·obtain rfl:k=S.length:=by omega
       rw[A3,cond_false]
       exact⟨_,rfl,trivial⟩
     ·rintro b _
      rw[wi (by omega)]
      cases b with
      |true=>
       rw[Bool.not_true,cond_false]
       exact⟨_,rfl,⟨i+1,rfl,hil,by dsimp only;omega,hS⟩,by dsimp only;omega⟩
      |false=>
       rw[Bool.not_false,cond_true,Ax hil,bs,ET _ (by have:=hri.1;unfold Sh;omega),bs,AQ (by simp;omega),bs]
       refine⟨_,rfl,⟨i+1,rfl,hil,by simp;omega,λP hP=> ?_⟩,by dsimp only;omega⟩
       dsimp only at hP
       rcases List.mem_append.1 hP with h|h
       ·exact hS P h
       ·rw[List.mem_singleton] at h;subst h;exact hri
    ·obtain rfl:i=r.length:=by omega
     rw[A3,cond_false]
     exact⟨_,rfl,by omega,λx hx=>by have:=(hS x hx).1;omega⟩
  ·rw[decide_eq_false h8,Bool.not_false,cond_true]
   exact⟨_,rfl,Nat.zero_le _,λx hx=>(by cases hx)⟩
def Drs (S:LL):Prop:=S.length≤16777216∧∀x∈S,x.length≤18
theorem l11Draw_dw {b:LI}{i:Int}(h:DK b i)(z:Int):∃y,D.Y0 b i z=some y∧(Few y.1∧Drs y.2.1):=by
 unfold D.Y0
 obtain⟨⟨g,b1,i1,z1⟩,e1,hg,rfl,k1⟩:=DrawAny_dw h z
 dsimp only at hg k1
 rw[e1,bs]
 obtain⟨S0,eS,hS0⟩:=EM hg.sh2
 dsimp only
 rw[eS,bs]
 obtain⟨⟨c1,b2,i2,z2⟩,e2,_,rfl,k2⟩:=De k1 z1 3
 dsimp only at k2
 rw[e2,bs]
 refine B5 (λq:LL×LI×Int×Int=>Drs q.1∧q.2.1=b2∧DK b2 q.2.2.1) ?_ ?_
 ·dsimp only
  cases c1 with
  |false=>
   rw[cond_false]
   exact⟨_,rfl,hS0,rfl,k2⟩
  |true=>
   rw[cond_true]
   obtain⟨⟨m,b3,i3,z3⟩,e3,hm,rfl,k3⟩:=BT k2 z2 4 (by omega)
   dsimp only at hm k3
   rw[e3,bs]
   refine AB (λs:LL×Int×LI×Int×Int=>Drs s.1∧s.1.length≤100∧0≤s.2.1∧s.2.1≤4∧(s.1.length:Int)+s.2.1≤4∧s.2.2.1=b3∧DK b3 s.2.2.2.1) (λs=>s.2.1.toNat)
    (λq:LL×LI×Int×Int=>Drs q.1∧q.2.1=b3∧DK b3 q.2.2.1) ?_ ⟨⟨Nat.zero_le _,λx hx=>(by cases hx)⟩,Nat.zero_le _,hm.1,by dsimp only;omega,by simp;omega,rfl,k3⟩ (λr hr=>⟨_,rfl,hr⟩)
   rintro⟨S,x,bb,ii,zz⟩ ⟨hS,hSl,hx0,hx4,hsum,rfl,kk⟩
   dsimp only at hS hSl hx0 hx4 hsum kk ⊢
   by_cases hx:0<x
   ·obtain⟨⟨o,b4,i4,z4⟩,e4,ho,rfl,k4⟩:=DrawSet_dw kk zz hg
    dsimp only at ho k4
    rw[decide_eq_true hx,cond_true,e4,bs,AQ (by simp;omega),bs,w64 (by omega) (by omega)]
    refine⟨_,rfl,⟨⟨by simp;omega,λy hy=> ?_⟩,by simp;omega,by dsimp only;omega,by dsimp only;omega,by simp;omega,rfl,k4⟩,by dsimp only;omega⟩
    dsimp only at hy
    rcases List.mem_append.1 hy with h|h
    ·exact hS.2 y h
    ·rw[List.mem_singleton] at h;subst h;exact ho
   ·rw[decide_eq_false hx,cond_false]
    exact⟨_,rfl,hS,rfl,kk⟩
 ·rintro⟨S,b3,i3,z3⟩ ⟨hS,rfl,k3⟩
  dsimp only at hS k3 ⊢
  obtain⟨⟨c2,b4,i4,z4⟩,e4,_,rfl,k4⟩:=De k3 z3 4
  dsimp only at k4
  rw[e4,bs]
  refine B5 (λq:LL×LI×Int×Int=>Drs q.1∧q.2.1=b4∧DK b4 q.2.2.1) ?_ ?_
  ·dsimp only
   cases hc:(c2&&decide ((0:Int)<(S.length:Int))) with
   |false=>
    rw[cond_false]
    exact⟨_,rfl,hS,rfl,k4⟩
   |true=>
    rw[Bool.and_eq_true,decide_eq_true_eq] at hc
    obtain⟨⟨r,b5,i5,z5⟩,e5,hr,rfl,k5⟩:=BT k4 z4 (S.length:Int) hc.2
    dsimp only at hr k5
    obtain⟨rn,rfl⟩:∃rn:Nat,r=(rn:Int):=⟨r.toNat,by omega⟩
    rw[cond_true,e5,bs,DO (by omega),bs]
    exact⟨_,rfl,⟨by rw[List.length_take];have:=hS.1;omega,λy hy=>hS.2 y (List.mem_of_mem_take hy)⟩,rfl,k5⟩
  ·rintro⟨S,b5,i5,z5⟩ ⟨hS,rfl,k5⟩
   dsimp only at hS k5 ⊢
   obtain⟨⟨c3,b6,i6,z6⟩,e6,_,rfl,k6⟩:=De k5 z5 15
   dsimp only at k6
   rw[e6,bs]
   dsimp only
   cases c3 with
   |false=>
    rw[cond_false]
    exact⟨_,rfl,hg,hS⟩
   |true=>
    rw[cond_true]
    refine AB (λs:LL×LI×Int×Int=>Drs s.1∧s.2.1=b6∧DK b6 s.2.2.1) (λs=>100-s.1.length)
     (λq:LL×LI×Int×Int=>Drs q.1) ?_ ⟨hS,rfl,k6⟩ (λr hr=>⟨_,rfl,hg,hr⟩)
    rintro⟨S,bb,ii,zz⟩ ⟨hS,rfl,kk⟩
    dsimp only at hS kk ⊢
    obtain⟨⟨m,b7,i7,z7⟩,e7,hm,rfl,k7⟩:=BT kk zz 2 (by omega)
    dsimp only at hm k7
    rw[e7,bs,w64 (by omega) (by omega)]
    by_cases hlt:(S.length:Int)<80+m
    ·rw[decide_eq_true hlt,cond_true,AQ (by simp;omega),bs]
     refine⟨_,rfl,⟨⟨by simp;omega,λy hy=> ?_⟩,rfl,k7⟩,by simp;omega⟩
     dsimp only at hy
     rcases List.mem_append.1 hy with h|h
     ·exact hS.2 y h
     ·rw[List.mem_singleton] at h;subst h;simp
    ·rw[decide_eq_false hlt,cond_false]
     exact⟨_,rfl,hS⟩
theorem Fx (code:LI)(h:∀x∈code,0≤x∧x≤255)(hl:code.length≤4096):∃y,D.X0 code=some y∧(Few y.1∧Drs y.2):=by
 unfold D.X0
 obtain⟨z,e1,k1⟩:=new_ok code h hl
 rw[e1,bs]
 obtain⟨y,ey,hy⟩:=l11Draw_dw k1 z
 dsimp only
 rw[ey,bs]
 exact⟨_,rfl,hy⟩
end Go.Sx

namespace Go.Sx
section
variable {g : LL} (hg : GOk g)
include hg
theorem bagMasks_any {S:LL}(hS:∀s∈S,Sh s∧∀x∈s,0≤x)(hl:S.length≤1000000):D.T S=some (S.map mk):=by
 unfold D.T
 refine(Ds S (λs i=>(s,i)) mk (by omega) (λs i hi _=> ?_) (λs=> ?_)).trans rfl
 ·have hb:=hS _ (List.getElem_mem hi)
  simp only[dlt hi,cond_true,Ax hi,bs,CG _ hb.1 hb.2,wq i]
 ·simp only[A3,cond_false]
theorem Fk {T:LI}(hT:∀t∈T,CZ g t)(hl:T.length≤100000):D.T (T.map Am)=some T:=by
 rw[bagMasks_any hg (λs hs=>by
  obtain⟨t,ht,rfl⟩:=List.mem_map.1 hs
  refine⟨by have:=BO t;unfold Sh;omega,λx hx=> ?_⟩
  obtain⟨v,_,_,rfl⟩:=mem_elems.1 hx
  omega) (by rw[List.length_map];omega),List.map_map]
 congr 1
 conv=>rhs;rw[←List.map_id T]
 exact List.map_congr_left (λt ht=>BS (hT t ht).1.1)
theorem brm_sh {T:LI}:∀s∈T.map Am,Sh s:=λs hs=>by
 obtain⟨t,_,rfl⟩:=List.mem_map.1 hs
 have:=BO t
 unfold Sh;omega
theorem brm_ok {T:LI}(hB:Brm g T)(hl:T.length≤80):D.p g (T.map Am)=some true∧D.K g (T.map Am)=some true:=by
 obtain⟨b,e1,e2,h⟩:=Ei hg (S:=T.map Am) (brm_sh hg)
 have:b=true:=h.2 ⟨by rw[List.length_map];exact hl,T,rfl,hB⟩
 rw[e1,e2,this]
 exact⟨rfl,rfl⟩
theorem order_eq {T:LI}{t:Int}(hB:Brm g T)(hl:T.length≤80)(ht:In g.length t)(e:D.c (g.length:Int) T=some t):D.N g (T.map Am)=some ((Am t).length:Int):=by
 unfold D.N
 rw[(brm_ok hg hB hl).1,bs,Bool.not_true,cond_false,Fk hg hB.1 (by omega),bs,e,bs,size_eq ht.1,bs]
theorem refutes_eq {T:LI}{t:Int}(hB:Brm g T)(hl:T.length≤80)(ht:In g.length t)(e:D.c (g.length:Int) T=some t)(k:Int):D.n0 g (T.map Am) k=some (decide (k<((Am t).length:Int)-1)):=by
 have:=BO t
 unfold D.n0
 rw[(brm_ok hg hB hl).1,bs,cond_true,order_eq hg hB hl ht e,bs,bs,w64 (by omega) (by omega)]
theorem touchesAll_ok {T:LI}{t:Int}(hB:Brm g T)(hl:T.length≤80)(ht:t∈T):D.o g (T.map Am) (Am t)=some true:=by
 have hw:=hB.1 t ht
 obtain⟨b,eb,_,hb⟩:=Dq hg (s:=Am t) (by have:=BO t;unfold Sh;omega)
 have:b=true:=hb.2 ⟨t,rfl,hw⟩
 subst this
 have hm:∀u,VS u→D.g (Am u)=some u:=λu hu=>by
  rw[CG _ (by have:=BO u;unfold Sh;omega) (λx hx=>by obtain⟨v,_,_,rfl⟩:=mem_elems.1 hx;omega),BS hu]
 have h1:∀u∈T,D.k0 (Am u) (g.map mk) (Am t)=some false:=λu hu=>by
  obtain⟨c,ec,hc⟩:=DJ hg (hB.1 u hu).1 hw.1
  unfold D.k0
  rw[hm u (hB.1 u hu).1.1,bs,hm t hw.1.1,bs,ec,bs,hc.2 (hB.2 u hu t ht)]
  rfl
 obtain⟨z,ez,hz⟩:=indexG ([]:LI) (xs:=T.map Am) (c:=λe=>D.k0 e (g.map mk) (Am t)) (by rw[List.length_map];omega) (λx hx=>by
  obtain⟨u,hu,rfl⟩:=List.mem_map.1 hx
  exact⟨false,h1 u hu⟩)
 have e1:D.p1 (T.map Am) (g.map mk) (Am t)=some z:=ez
 unfold D.o D.g1
 rw[(brm_ok hg hB hl).1,bs,Bool.not_true,cond_false,eb,bs,bs,Bool.not_true,cond_false,Db g hg,bs,e1,bs,bs]
 have:¬(0:Int)≤z:=λh=>by
  obtain⟨x,hx,e⟩:=hz.1 h
  obtain⟨u,hu,rfl⟩:=List.mem_map.1 hx
  have e:D.k0 (Am u) (g.map mk) (Am t)=some true:=e
  rw[h1 u hu] at e
  cases e
 rw[decide_eq_false this]
 rfl
theorem touchIn_ok {s t:Int}(hs:CZ g s)(ht:CZ g t)(h:Tch (g.map mk) s t):D.r0 g (Am s) (Am t)=some true:=by
 have hsh:∀u:Int,Sh (Am u):=λu=>by have:=BO u;unfold Sh;omega
 have hm:∀u,VS u→D.g (Am u)=some u:=λu hu=>by
  rw[CG _ (hsh u) (λx hx=>by obtain⟨v,_,_,rfl⟩:=mem_elems.1 hx;omega),BS hu]
 obtain⟨c,ec,hc⟩:=DJ hg hs.1 ht.1
 unfold D.r0
 rw[DD g _ hg.sh2 (hsh s),DD g _ hg.sh2 (hsh t),Dm hg,Ey hs.1,Ey ht.1]
 simp only[Bool.and_self,bs,cond_true]
 rw[Db g hg,bs,hm s hs.1.1,bs,hm t ht.1.1,bs,ec,bs,hc.2 h]
 rfl
end
theorem FnBramble_true (code:LI)(hb:∀x∈code,0≤x∧x≤255):D.f1 code=some true:=by
 unfold D.f1 D.d1
 simp only[bs]
 by_cases hl:(4096:Int)<code.length
 ·simp only[hl,decide_true,cond_true]
 ·simp only[hl,decide_false,cond_false]
  obtain⟨⟨g,S⟩,e1,hgf,hSl,hS⟩:=Fx code hb (by omega)
  dsimp only at hgf hSl hS
  have hSsh:∀s∈S,Sh s:=λs hs=>by have:=hS s hs;unfold Sh;omega
  rw[e1,bs]
  dsimp only
  by_cases hgb:gB g=true
  ·have hg:=(gB_iff g).1 hgb
   obtain⟨b,ei,es,hbi⟩:=Ei hg hSsh
   rw[ei,bs,es,bs,bne_self_eq_false,cond_false,Cb g hg.sh2,hgb,bs,Bool.not_true,Bool.false_or]
   by_cases h7:(7:Int)<(g.length:Int)
   ·rw[decide_eq_true h7,cond_true]
   ·obtain⟨o,eo,hol,hone,hB,hX⟩:=BestBramble_ok hg (by omega)
    obtain⟨t,et,ht,htl⟩:=best_order hg hB (by omega) hX
    have htw:=tw_eq hg
    have h16:=hg.n16
    have hwl:=tw_le hg
    have hcov:D.J0 g (o.map Am)=some (Am t):=by
     unfold D.J0
     rw[(brm_ok hg hB (by omega)).1,bs,Bool.not_true,cond_false,Fk hg hB.1 (by omega),bs,et,bs,EE _ ht.1,bs]
    rw[decide_eq_false h7,cond_false,DG hg (by omega),bs,←htw,eo,bs,hcov,bs,(brm_ok hg hB (by omega)).2,bs,Bool.not_true,cond_false,order_eq hg hB (by omega) ht et,bs,bs,htl,w64 (by omega) (by omega)]
    have hne:(((twN g+1:Nat):Int) !=((twN g:Nat):Int)+1)=false:=by simp
    rw[hne,Bool.false_or,cond_false,refutes_eq hg hB (by omega) ht et,bs,bs,htl,w64 (by omega) (by omega),decide_eq_true (by omega),Bool.not_true,cond_false,refutes_eq hg hB (by omega) ht et,bs,bs,htl,decide_eq_false (by omega),cond_false]
    have h0:0<o.length:=List.length_pos_iff.2 hone
    have hoh:CZ g o[0]:=hB.1 _ (List.getElem_mem h0)
    have hloop:∀k:(Unit ⊕ Bool)→Option Bool,(Aq (σ:=Int) (ρ:=(Unit) ⊕ (Bool)) (fun(x_275:Int)=>cond (decide (x_275<((o.map Am).length:Int))) ((idx (o.map Am) x_275).bind λe_327=>(D.o g (o.map Am) e_327).bind λy_333=>(cond (!y_333) (some true) ((idx (o.map Am) x_275).bind λe_355=>(idx (o.map Am) 0).bind λe_361=>(D.r0 g e_355 e_361).bind λy_367=>some (!y_367))).bind λb_353=>cond b_353 (some (.inr (.inr false))) (some (.inl (IntKind.i64.wrap (x_275+1))))) (some (.inr (.inl ())))) 0).bind k=k (.inl ()):=λk=>by
     refine C8 (λi=>(i:Int)) (o.map Am).length (Sum.inl ()) rfl (λi hi=> ?_) ?_
     ·have hi':i<o.length:=by simpa using hi
      have i0:idx (o.map Am) 0=some (Am o[0]):=by
       rw[show (0:Int)=((0:Nat):Int) from rfl,Ax (by rw[List.length_map];exact h0),List.getElem_map]
      have hoi:=hB.1 _ (List.getElem_mem hi')
      rw[dlt hi,cond_true,Ax hi,bs,List.getElem_map,touchesAll_ok hg hB (by omega) (List.getElem_mem hi'),bs,Bool.not_true,cond_false,bs,i0,bs,touchIn_ok hg hoi hoh (hB.2 _ (List.getElem_mem hi') _ (List.getElem_mem h0)),bs,bs,Bool.not_true,cond_false,wi (by omega)]
     ·rw[A3,cond_false]
    refine(hloop _).trans ?_
    dsimp only
    cases hbb:b with
    |false=>rfl
    |true=>
     obtain⟨h80,T,rfl,hBT⟩:=hbi.1 hbb
     rw[List.length_map] at h80
     obtain⟨t2,et2,ht2,htl2,_⟩:=order_ok hg hBT (by omega)
     rw[Bool.not_true,cond_false,order_eq hg hBT h80 ht2 et2,bs,bs,decide_eq_true (by omega)]
  ·have hgb:gB g=false:=by simpa using hgb
   unfold D.p D.K
   rw[Ca g hgf.sh2,Cb g hgf.sh2,hgb]
   rfl
end Go.Sx
