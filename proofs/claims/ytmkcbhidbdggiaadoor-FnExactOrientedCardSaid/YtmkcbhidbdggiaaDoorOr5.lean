/- Parts. -/
import Derived.Test.YtmkcbhidbdggiaaDoorOr4
set_option linter.unusedVariables false
set_option linter.unusedSimpArgs false
set_option linter.unusedSectionVars false
namespace Go.Sx
theorem Lk.symm {links:LL}{x y:Int}(h:Lk links x y):Lk links y x:=Or.elim h (λh=>Or.inr h) (λh=>Or.inl h)
theorem conn_iff {links:LL}{sel:LI}:Conn links sel↔∀T:Int→Prop,(∃x∈sel,T x)→(∀x y,x∈sel→y∈sel→T x→Lk links x y→T y)→∀x∈sel,T x:=by
 constructor
 ·intro h T ⟨x0,hx0,hT⟩ hs
  classical
  have hall:∀U:Int→Prop,(∀x,sel.head? =some x→U x)→(∀x y,x∈sel→y∈sel→U x→Lk links x y→U y)→∀x∈sel,U x:=λU h1 h2 x hx=>by
   have:=h (sel.filter λz=>decide (U z)) ⟨λz hz=>(List.mem_filter.1 hz).1,λz hz=>List.mem_filter.2 ⟨List.mem_of_mem_head? hz,decide_eq_true (h1 z hz)⟩,λa ha b hb hl=>by
    have ha:=List.mem_filter.1 ha
    exact List.mem_filter.2 ⟨hb,decide_eq_true (h2 a b ha.1 hb (of_decide_eq_true ha.2) hl)⟩⟩ x hx
   exact of_decide_eq_true (List.mem_filter.1 this).2
  cases hsel:sel with
  |nil=>intro x hx;simp at hx
  |cons z t=>
   rw[←hsel]
   have hz:T z:=by
    apply Classical.byContradiction
    intro hc
    have:=hall (λx=>¬T x) (λx hx=>by rw[hsel] at hx;simp at hx;rw[←hx];exact hc) (λa b ha hb hna hl hTb=>hna (hs b a hb ha hTb hl.symm)) x0 hx0
    exact this hT
   exact hall T (λx hx=>by rw[hsel] at hx;simp at hx;rw[←hx];exact hz) hs
 ·intro h m hm x hx
  cases hsel:sel with
  |nil=>rw[hsel] at hx;simp at hx
  |cons z t=>
   exact h (λz=>z∈m) ⟨z,by rw[hsel];simp,hm.first z (by rw[hsel];rfl)⟩ (λa b _ hb ha hl=>hm.step a ha b hb hl) x hx
theorem conn_map {K K':LL}{sel sel':LI}(φ:Int→Int)(h:Conn K sel)(h1:∀x∈sel,φ x∈sel')(h2:∀y∈sel',∃x∈sel,φ x=y)(h3:∀x y,x∈sel→y∈sel→Lk K x y→φ x=φ y∨Lk K' (φ x) (φ y)):Conn K' sel':=by
 rw[conn_iff] at h ⊢
 intro T ⟨y0,hy0,hT⟩ hs y hy
 obtain⟨x0,hx0,rfl⟩:=h2 y0 hy0
 obtain⟨x,hx,rfl⟩:=h2 y hy
 refine h (λz=>T (φ z)) ⟨x0,hx0,hT⟩ (λa b ha hb hTa hl=> ?_) x hx
 rcases h3 a b ha hb hl with e|e
 ·rw[←e];exact hTa
 ·exact hs _ _ (h1 a ha) (h1 b hb) hTa e
theorem Ep {α:Type}{p q:α→Bool}:∀{l:List α},(∀x∈l,p x=true→q x=true)→(∃x∈l,q x=true∧p x=false)→l.countP p+1≤l.countP q
 |[],_,h=>by obtain⟨x,hx,_⟩:=h;simp at hx
 |a::l,h1,h2=>by
  have hm:l.countP p≤l.countP q:=List.countP_mono_left λx hx=>h1 x (List.mem_cons_of_mem _ hx)
  obtain⟨x,hx,hq,hp⟩:=h2
  rw[List.countP_cons,List.countP_cons]
  rcases List.mem_cons.1 hx with rfl|hx
  ·rw[hq,hp];simp;omega
  ·have:=Ep (λx hx=>h1 x (List.mem_cons_of_mem _ hx)) ⟨x,hx,hq,hp⟩
   have h3:=h1 a (List.mem_cons_self ..)
   cases hpa:p a
   ·cases q a<;>simp<;>omega
   ·rw[h3 hpa];simp;omega
theorem conn_many {links:LL}{sel:LI}(hn:sel.Nodup)(h:Conn links sel):sel.length≤links.length+1:=by
 rw[conn_iff] at h
 have key:∀k,k+1≤sel.length→∃T:LI,T.Nodup∧(∀x∈T,x∈sel)∧T.length=k+1∧k≤links.countP (λl=>decide (l.getD 0 0∈T)&&decide (l.getD 1 0∈T)):=by
  intro k
  induction k with
  |zero=>
   intro hk
   have hs:0<sel.length:=by omega
   exact⟨[sel[0]],by simp,λx hx=>by simp at hx;rw[hx];exact List.getElem_mem hs,rfl,by omega⟩
  |succ k ih=>
   intro hk
   obtain⟨T,hT1,hT2,hT3,hT4⟩:=ih (by omega)
   have hex:∃x y,x∈T∧y∈sel∧y∉T∧Lk links x y:=by
    apply Classical.byContradiction
    intro hc
    have hall:=h (λz=>z∈T) ⟨T[0]'(by omega),hT2 _ (List.getElem_mem _),List.getElem_mem _⟩ (λx y _ hy hx hl=>by
     apply Classical.byContradiction
     intro hy2
     exact hc ⟨x,y,hx,hy,hy2,hl⟩)
    have:=Cc hn hall
    omega
   obtain⟨x,y,hx,hy,hyT,hl⟩:=hex
   refine⟨y::T,List.nodup_cons.2 ⟨hyT,hT1⟩,λz hz=> ?_,by simp[hT3],?_⟩
   ·rcases List.mem_cons.1 hz with rfl|hz
    ·exact hy
    ·exact hT2 z hz
   ·refine Nat.le_trans (Nat.succ_le_succ hT4) (Ep (λl _ hl=> ?_) ?_)
    ·simp only[Bool.and_eq_true,decide_eq_true_eq] at hl ⊢
     exact⟨List.mem_cons_of_mem _ hl.1,List.mem_cons_of_mem _ hl.2⟩
    ·rcases hl with hl|hl
     ·exact⟨[x,y],hl,by simp[hx],by simp[hyT]⟩
     ·exact⟨[y,x],hl,by simp[hx],by simp[hyT]⟩
 cases hs:sel.length with
 |zero=>omega
 |succ k=>
  obtain⟨T,_,_,_,h4⟩:=key k (by omega)
  have:= @List.countP_le_length _ (λl=>decide (l.getD 0 0∈T)&&decide (l.getD 1 0∈T)) links
  omega
theorem conn_perm {K K':LL}{sel:LI}(h:Conn K sel)(hp:∀x y,Lk K x y→Lk K' x y):Conn K' sel:=
 conn_map id h (λx hx=>hx) (λy hy=>⟨y,hy,rfl⟩) (λx y _ _ hl=> .inr (hp x y hl))
theorem TB.perm {g B K K':LL}(h:TB g B K)(p:K'.Perm K):TB g B K':=by
 have hl:∀x y,Lk K x y→Lk K' x y:=λx y hl=>Or.elim hl (λh=>Or.inl (p.mem_iff.2 h)) (λh=>Or.inr (p.mem_iff.2 h))
 exact⟨h.n1,h.n16,by rw[p.length_eq];exact h.many,λl hl'=>h.lks l (p.mem_iff.1 hl'),h.sets,conn_perm h.tree hl,h.edges,h.some,λv hv=>conn_perm (h.conn v hv) hl⟩
def phi (g k:Nat)(x:Nat):Nat:=if g<(if x=g then k else x) then(if x=g then k else x)-1 else(if x=g then k else x)
theorem EB (g k x:Nat):ren (g:Int) (k:Int) (x:Int)=((phi g k x:Nat):Int):=by
 unfold ren phi
 by_cases h:x=g
 ·simp only[h,if_true]
  by_cases h2:g<k
  ·rw[if_pos (by omega),if_pos h2];omega
  ·rw[if_neg (by omega),if_neg h2]
 ·rw[if_neg (show¬(x:Int)=g by omega),if_neg h]
  by_cases h2:g<x
  ·rw[if_pos (by omega),if_pos h2];omega
  ·rw[if_neg (by omega),if_neg h2]
theorem phi_lt {n g k x:Nat}(hg:g<n)(hk:k<n)(hgk:g≠k)(hx:x<n):phi g k x<n-1:=by
 unfold phi
 by_cases h:x=g
 ·simp only[h,if_true]
  by_cases h2:g<k
  ·rw[if_pos h2];omega
  ·rw[if_neg h2];omega
 ·simp only[h,if_false]
  by_cases h2:g<x
  ·rw[if_pos h2];omega
  ·rw[if_neg h2];omega
theorem phi_gk {g k:Nat}(hgk:g≠k):phi g k g=phi g k k:=by
 unfold phi;simp[hgk.symm]
theorem phi_ex {n g k y:Nat}(hg:g<n)(hy:y<n-1):∃x,x<n∧x≠g∧phi g k x=y:=by
 by_cases h:y<g
 ·exact⟨y,by omega,by omega,by unfold phi;rw[if_neg (show¬y=g by omega),if_neg (by omega)]⟩
 ·exact⟨y+1,by omega,by omega,by unfold phi;rw[if_neg (show¬y+1=g by omega),if_pos (by omega)];omega⟩
theorem Ez {M:LI}{g k x:Nat}(hg:g<M.length)(hx:x<M.length)(hxg:x≠g):(M.eraseIdx g).getD (phi g k x) 0=M.getD x 0:=by
 unfold phi
 rw[if_neg hxg,List.getD_eq_getElem?_getD,List.getD_eq_getElem?_getD,List.getElem?_eraseIdx]
 by_cases h:g<x
 ·rw[if_pos h,if_neg (by omega)];congr 2;omega
 ·rw[if_neg h,if_pos (by omega)]
theorem prt_has {s t:Int}(hs:VS s)(ht:VS t)(h:prt s t=true){v:Nat}(hv:has s v=true):has t v=true:=by
 unfold prt at h
 rw[beq_iff_eq] at h
 have:=congrArg (λz=>has z v) h
 rw[Bj hs ht,BR,hv] at this
 simpa using this
section
variable {G : LL} {M : LI} {K : LL} (h : TS M K) (hT : TB G (M.map AF) K) {g k : Nat} (hg : g < M.length) (hk : k < M.length) (hgk : g ≠ k)
include h hT hg hk hgk
theorem lnk_of {a b:Nat}(ha:a<M.length)(hb:b<M.length)(hl:Lk K (a:Int) (b:Int)):phi g k a=phi g k b∨Lk ((Co g k K).mergeSort DN) ((phi g k a:Nat):Int) ((phi g k b:Nat):Int):=by
 by_cases he:phi g k a=phi g k b
 ·exact .inl he
 ·right
  have hm:∀l,lnk (g:Int) (k:Int) l=some (BX ((phi g k a:Nat):Int) ((phi g k b:Nat):Int))→l∈K→Lk ((Co g k K).mergeSort DN) ((phi g k a:Nat):Int) ((phi g k b:Nat):Int):=λl e hl=>by
   have hin:BX ((phi g k a:Nat):Int) ((phi g k b:Nat):Int)∈(Co g k K).mergeSort DN:=(CK _).mem_iff.2 (List.mem_filterMap.2 ⟨l,hl,e⟩)
   unfold BX at hin
   rcases Nat.lt_or_ge (phi g k a) (phi g k b) with c|c
   ·rw[Int.min_eq_left (by omega),Int.max_eq_right (by omega)] at hin;exact .inl hin
   ·rw[Int.min_eq_right (by omega),Int.max_eq_left (by omega)] at hin;exact .inr hin
  rcases hl with hl|hl
  ·refine hm _ ?_ hl
   unfold lnk
   simp only[List.getD_cons_zero,List.getD_cons_succ,EB]
   rw[if_neg (by omega)]
  ·refine hm _ ?_ hl
   unfold lnk
   simp only[List.getD_cons_zero,List.getD_cons_succ,EB]
   rw[if_neg (by omega)]
   unfold BX
   rw[Int.min_comm,Int.max_comm]
theorem merge_TB (hsub:∀v,has (M.getD g 0) v=true→has (M.getD k 0) v=true)(hl:Lk K (g:Int) (k:Int)):TB G ((M.eraseIdx g).map AF) ((Co g k K).mergeSort DN):=by
 have hml:(M.eraseIdx g).length=M.length-1:=by rw[List.length_eraseIdx,if_pos hg]
 have hTS:=h.merge hg hk hgk
 have hM:M.length=K.length+1:=by have:=hT.many;simpa using this.symm
 have hmem:∀i (hi:i<M.length) (v:Nat),(v:Int)∈(M.map AF).getD i []↔has (M.getD i 0) v=true:=λi hi v=>by
  rw[AD (by simpa using hi),List.getElem_map,AD hi,Cj (h.vs _ (List.getElem_mem hi))]
 have hmem':∀i (hi:i<M.length-1) (v:Nat),(v:Int)∈((M.eraseIdx g).map AF).getD i []↔has ((M.eraseIdx g).getD i 0) v=true:=λi hi v=>by
  rw[AD (by simp;omega),List.getElem_map,AD (by omega),Cj (hTS.vs _ (List.getElem_mem _))]
 have hphi:∀x v,x<M.length→has (M.getD x 0) v=true→has ((M.eraseIdx g).getD (phi g k x) 0) v=true:=λx v hx hv=>by
  by_cases hxg:x=g
  ·subst hxg
   rw[phi_gk hgk,Ez hg hk hgk.symm];exact hsub v hv
  ·rw[Ez hg hx hxg];exact hv
 have hwith:∀(v:Nat) (x:Int),x∈withV (M.map AF) (v:Int)↔∃b:Nat,x=b∧b<M.length∧has (M.getD b 0) v=true:=λv x=>by
  rw[mem_withV,List.length_map]
  constructor
  ·rintro⟨b,h1,h2,h3⟩;exact⟨b,h1,h2,(hmem b h2 v).1 h3⟩
  ·rintro⟨b,h1,h2,h3⟩;exact⟨b,h1,h2,(hmem b h2 v).2 h3⟩
 have hwith':∀(v:Nat) (x:Int),x∈withV ((M.eraseIdx g).map AF) (v:Int)↔∃b:Nat,x=b∧b<M.length-1∧has ((M.eraseIdx g).getD b 0) v=true:=λv x=>by
  rw[mem_withV,List.length_map,hml]
  constructor
  ·rintro⟨b,h1,h2,h3⟩;exact⟨b,h1,h2,(hmem' b h2 v).1 h3⟩
  ·rintro⟨b,h1,h2,h3⟩;exact⟨b,h1,h2,(hmem' b h2 v).2 h3⟩
 have htree:Conn ((Co g k K).mergeSort DN) ((List.range ((M.eraseIdx g).map AF).length).map Int.ofNat):=by
  have ht:=hT.tree
  rw[List.length_map] at ht ⊢
  rw[hml]
  refine conn_map (λx=>((phi g k x.toNat:Nat):Int)) ht (λx hx=> ?_) (λy hy=> ?_) (λx y hx hy hxy=> ?_)
  ·obtain⟨i,hi,rfl⟩:=List.mem_map.1 hx
   exact List.mem_map.2 ⟨_,List.mem_range.2 (phi_lt hg hk hgk (List.mem_range.1 hi)),rfl⟩
  ·obtain⟨j,hj,rfl⟩:=List.mem_map.1 hy
   obtain⟨x,hx,_,e⟩:=phi_ex (k:=k) hg (List.mem_range.1 hj)
   exact⟨(x:Int),List.mem_map.2 ⟨x,List.mem_range.2 hx,rfl⟩,by rw[Int.toNat_natCast,e];rfl⟩
  ·obtain⟨i,hi,rfl⟩:=List.mem_map.1 hx
   obtain⟨j,hj,rfl⟩:=List.mem_map.1 hy
   rcases lnk_of h hT hg hk hgk (List.mem_range.1 hi) (List.mem_range.1 hj) hxy with e|e
   ·left;show ((phi g k i:Nat):Int)=((phi g k j:Nat):Int);rw[e]
   ·right;exact e
 refine⟨by rw[List.length_map,hml];omega,by rw[List.length_map];exact hTS.n16,?_,by rw[List.length_map];exact hTS.lk,λb hb=> ?_,htree,λu v hu ha=> ?_,λv hv=> ?_,λv hv=> ?_⟩
 ·rw[List.length_map,hml]
  have hnd:((List.range ((M.eraseIdx g).map AF).length).map Int.ofNat).Nodup:=by
   unfold List.Nodup
   rw[List.pairwise_map]
   exact List.Pairwise.imp (fun{a b} h e=>by have:(a:Int)=(b:Int):=e;omega) List.pairwise_lt_range
  have h1:=conn_many hnd htree
  rw[List.length_map,List.length_range,List.length_map,hml] at h1
  have h2:(Co g k K).length+1≤K.length:=by
   have hle:∀L:LL,(∃l∈L,lnk (g:Int) (k:Int) l=none)→(L.filterMap (lnk (g:Int) (k:Int))).length+1≤L.length:=by
    intro L
    induction L with
    |nil=>rintro⟨l,hl,_⟩;simp at hl
    |cons a L ih=>
     rintro⟨l,hl,e⟩
     rcases List.mem_cons.1 hl with rfl|hl
     ·rw[List.filterMap_cons_none e]
      have:=List.length_filterMap_le (lnk (g:Int) (k:Int)) L
      simp only[List.length_cons];omega
     ·have:=ih ⟨l,hl,e⟩
      cases ha:lnk (g:Int) (k:Int) a with
      |none=>rw[List.filterMap_cons_none ha];simp only[List.length_cons];omega
      |some r=>rw[List.filterMap_cons_some ha];simp only[List.length_cons];omega
   refine hle K ?_
   rcases hl with hl|hl
   ·exact⟨_,hl,by unfold lnk;simp only[List.getD_cons_zero,List.getD_cons_succ,EB];rw[if_pos (by rw[phi_gk hgk])]⟩
   ·exact⟨_,hl,by unfold lnk;simp only[List.getD_cons_zero,List.getD_cons_succ,EB];rw[if_pos (by rw[phi_gk hgk])]⟩
  have h3:=(CK (Co g k K)).length_eq
  rw[h3] at h1 ⊢
  omega
 ·obtain⟨s,hs,rfl⟩:=List.mem_map.1 hb
  exact hT.sets _ (List.mem_map.2 ⟨s,List.mem_of_mem_eraseIdx hs,rfl⟩)
 ·obtain⟨b,hb,hub,hvb⟩:=hT.edges u v hu ha
  obtain⟨i,hi,rfl⟩:=List.getElem_of_mem hb
  have hi':i<M.length:=by simpa using hi
  rw[←AD hi [],hmem i hi'] at hub hvb
  have hp:=phi_lt hg hk hgk hi'
  refine⟨((M.eraseIdx g).map AF).getD (phi g k i) [],?_,(hmem' _ hp u).2 (hphi i u hi' hub),(hmem' _ hp v).2 (hphi i v hi' hvb)⟩
  rw[AD (by simp;omega)]
  exact List.getElem_mem _
 ·obtain⟨x,hx⟩:=List.exists_mem_of_ne_nil _ (hT.some v hv)
  obtain⟨b,rfl,hb,hvb⟩:=(hwith v x).1 hx
  intro hc
  have:=(hwith' v _).2 ⟨_,rfl,phi_lt hg hk hgk hb,hphi b v hb hvb⟩
  rw[hc] at this
  simp at this
 ·refine conn_map (λx=>((phi g k x.toNat:Nat):Int)) (hT.conn v hv) (λx hx=> ?_) (λy hy=> ?_) (λx y hx hy hxy=> ?_)
  ·obtain⟨b,rfl,hb,hvb⟩:=(hwith v x).1 hx
   exact(hwith' v _).2 ⟨_,rfl,phi_lt hg hk hgk hb,hphi b v hb hvb⟩
  ·obtain⟨b,rfl,hb,hvb⟩:=(hwith' v y).1 hy
   obtain⟨x,hx,hxg,e⟩:=phi_ex (k:=k) hg hb
   refine⟨(x:Int),(hwith v _).2 ⟨x,rfl,hx,?_⟩,by rw[Int.toNat_natCast,e]⟩
   rw[←e,Ez hg hx hxg] at hvb
   exact hvb
  ·obtain⟨a,rfl,ha,_⟩:=(hwith v x).1 hx
   obtain⟨b,rfl,hb,_⟩:=(hwith v y).1 hy
   rcases lnk_of h hT hg hk hgk ha hb hxy with e|e
   ·left;rw[Int.toNat_natCast,Int.toNat_natCast,e]
   ·right;exact e
end
structure Kept (G:LL)(M0:LI)(M:LI)(K:LL):Prop where
 tb:TB G (M.map AF) K
 len:M.length≤M0.length
 old:∀s∈M,s∈M0
 sup:∀s∈M0,∃t∈M,∀v,has s v=true→has t v=true
theorem spare_link {M:LI}{K:LL}(h:TS M K){g k:Nat}(e:CT M K=some (g,k)):Lk K (g:Int) (k:Int)∧prt (M.getD g 0) (M.getD k 0)=true:=by
 obtain⟨i,hi,e2⟩:=List.exists_of_findSome?_eq_some e
 have hi':=List.mem_range.1 hi
 rw[AD hi'] at e2
 obtain⟨a,b,el,hab,hb⟩:=h.lk _ (List.getElem_mem hi')
 have hm:=List.getElem_mem hi'
 rw[el] at e2 hm
 unfold spareM at e2
 simp only[List.getD_cons_zero,List.getD_cons_succ,Int.toNat_natCast] at e2
 split at e2
 ·rename_i h1;cases e2;exact⟨.inr hm,h1⟩
 ·split at e2
  ·rename_i h1;cases e2;exact⟨.inl hm,h1⟩
  ·cases e2
theorem Kept.step {G:LL}{M0 M:LI}{K:LL}(hM:Kept G M0 M K)(h:TS M K){g k:Nat}(e:CT M K=some (g,k)):Kept G M0 (M.eraseIdx g) ((Co g k K).mergeSort DN):=by
 obtain⟨hg,hk,hgk⟩:=spare_in h e
 obtain⟨hl,hp⟩:=spare_link h e
 have hvs:∀i,i<M.length→VS (M.getD i 0):=λi hi=>by rw[AD hi];exact h.vs _ (List.getElem_mem hi)
 have hsub:∀v,has (M.getD g 0) v=true→has (M.getD k 0) v=true:=λv hv=>prt_has (hvs g hg) (hvs k hk) hp hv
 refine⟨merge_TB h hM.tb hg hk hgk hsub hl,?_,λs hs=>hM.old s (List.mem_of_mem_eraseIdx hs),λs hs=> ?_⟩
 ·have:=hM.len
  rw[List.length_eraseIdx,if_pos hg];omega
 ·obtain⟨t,ht,hst⟩:=hM.sup s hs
  obtain⟨i,hi,rfl⟩:=List.getElem_of_mem ht
  have hml:(M.eraseIdx g).length=M.length-1:=by rw[List.length_eraseIdx,if_pos hg]
  have hin:∀x,x<M.length→x≠g→M.getD x 0∈M.eraseIdx g:=λx hx hxg=>by
   rw[←Ez (k:=k) hg hx hxg,AD (by rw[hml];exact phi_lt hg hk hgk hx)]
   exact List.getElem_mem _
  by_cases hig:i=g
  ·subst hig
   exact⟨_,hin k hk hgk.symm,λv hv=>hsub v (by rw[AD hi];exact hst v hv)⟩
  ·refine⟨_,hin i hi hig,λv hv=>by rw[AD hi];exact hst v hv⟩
end Go.Sx

namespace Go.Sx
def Ca (F:LI)(a b:Nat):LI:=(F.modify a (λe=>iandNot .u32 e (ishl .u32 1 (b:Int)))).modify b (λe=>iandNot .u32 e (ishl .u32 1 (a:Int)))
def hdF (H:LI)(a b:Nat):LI:=H.modify a (λe=>ior .u32 e (ishl .u32 1 (b:Int)))
theorem Di (l:LI)(i j:Nat)(f:Int→Int)(hi:i<l.length):(l.modify i f).getD j 0=if j=i then f (l.getD j 0) else l.getD j 0:=by
 rw[List.getD_eq_getElem?_getD,List.getElem?_modify,List.getD_eq_getElem?_getD]
 by_cases h:j=i
 ·subst h
  rw[List.getElem?_eq_getElem hi];simp
 ·have:¬i=j:=λe=>h e.symm
  rw[if_neg h]
  cases l[j]? <;>simp[this]
theorem Ds (l:LI)(i:Nat)(f:Int→Int):(l.modify i f).length=l.length:=by simp
theorem En (F:LI){a b u:Nat}(ha:a<F.length)(hb:b<F.length)(hab:a≠b):(Ca F a b).getD u 0=if u=b then iandNot .u32 (F.getD u 0) (ishl .u32 1 (a:Int)) else if u=a then iandNot .u32 (F.getD u 0) (ishl .u32 1 (b:Int)) else F.getD u 0:=by
 unfold Ca
 rw[Di _ _ _ _ (by simpa using hb),Di _ _ _ _ ha]
 by_cases h:u=b
 ·subst h
  rw[if_pos rfl,if_pos rfl,if_neg (λe=>hab e.symm)]
 ·rw[if_neg h,if_neg h]
theorem nb_cut {F:LI}{n:Nat}(hF:FOk F n)(h16:n≤16){a b:Nat}(ha:a<n)(hb:b<n)(hab:a≠b){u w:Nat}(hu:u<n):nb (Ca F a b) u w=(nb F u w&& !decide (u=a∧w=b)&& !decide (u=b∧w=a)):=by
 have hl:=hF.len
 unfold nb
 rw[En F (by omega) (by omega) hab]
 by_cases h:u=b
 ·subst h
  rw[if_pos rfl,Bj (hF.vs u hu) (VS.ishl _ _),Bs (by omega)]
  have:¬(u=a∧w=u):=λh=>hab h.1.symm
  simp[this]
 ·rw[if_neg h]
  by_cases h':u=a
  ·subst h'
   rw[if_pos rfl,Bj (hF.vs u hu) (VS.ishl _ _),Bs (by omega)]
   simp[h]
  ·rw[if_neg h'];simp[h,h']
theorem FOk.cut {F:LI}{n:Nat}(hF:FOk F n)(h16:n≤16){a b:Nat}(ha:a<n)(hb:b<n)(hab:a≠b):FOk (Ca F a b) n:=by
 have hl:=hF.len
 have hn:∀{u w},u<n→nb (Ca F a b) u w=true→nb F u w=true∧¬(u=a∧w=b)∧¬(u=b∧w=a):=fun{u w} hu h=>by
  rw[nb_cut hF h16 ha hb hab hu,Bool.and_eq_true,Bool.and_eq_true] at h
  simp only[Bool.not_eq_true',decide_eq_false_iff_not] at h
  exact⟨h.1.1,h.1.2,h.2⟩
 refine⟨by unfold Ca;rw[Ds,Ds,hl],λu hu=> ?_,λu w hu h=>hF.lt u w hu (hn hu h).1,λu hu=> ?_,λu w hu h=> ?_⟩
 ·rw[En F (by omega) (by omega) hab]
  split
  ·exact VS.iandNot _ _
  ·split
   ·exact VS.iandNot _ _
   ·exact hF.vs u hu
 ·cases h:nb (Ca F a b) u u
  ·rfl
  ·have:=(hn hu h).1
   rw[hF.irr u hu] at this;cases this
 ·obtain⟨h1,h2,h3⟩:=hn hu h
  have hw:=hF.lt u w hu h1
  rw[nb_cut hF h16 ha hb hab hw,hF.sym u w hu h1]
  have e1:¬(w=a∧u=b):=λe=>h3 ⟨e.2,e.1⟩
  have e2:¬(w=b∧u=a):=λe=>h2 ⟨e.2,e.1⟩
  simp only[decide_eq_false e1,decide_eq_false e2];rfl
theorem into_el {s:Int}(hs:VS s){b:Nat}(hb:b<32):into (AF s) (b:Int)=AF (ior .u32 s (ishl .u32 1 (b:Int))):=by
 refine Inc.ext ((BZ s).into _) (BZ _) (λz=> ?_)
 rw[mem_into,mem_elems,mem_elems]
 constructor
 ·rintro(rfl|⟨w,h1,h2,rfl⟩)
  ·exact⟨b,hb,by rw[BV hs (VS.ishl _ _),Bs hb];simp,rfl⟩
  ·exact⟨w,h1,by rw[BV hs (VS.ishl _ _),h2];simp,rfl⟩
 ·rintro⟨w,h1,h2,rfl⟩
  rw[BV hs (VS.ishl _ _),Bs hb,Bool.or_eq_true] at h2
  rcases h2 with h2|h2
  ·exact .inr ⟨w,h1,h2,rfl⟩
  ·left;have:=of_decide_eq_true h2;rw[this]
theorem Du (F:LI):(grow F).length=F.length:=by simp[grow]
theorem CX {F:LI}{i:Nat}(h:i<(grow F).length):(grow F)[i]=AF (F.getD i 0):=by
 have:=DZ F i
 unfold row at this
 rw[AD h] at this
 exact this
theorem l19Cut_eq {F:LI}{n:Nat}(hF:FOk F n)(h16:n≤16){a b:Nat}(ha:a<n)(hb:b<n)(hab:a≠b):D.R (grow F) (a:Int) (b:Int)=some (grow (Ca F a b)):=by
 have hl:=hF.len
 have hgl:(grow F).length=n:=by rw[Du,hl]
 have hcl:(Ca F a b).length=n:=(hF.cut h16 ha hb hab).len
 have hgc:(grow (Ca F a b)).length=n:=by rw[Du,hcl]
 unfold D.R
 refine(CZ (λi=>((i:Int),(grow (Ca F a b)).take i)) (grow F).length (grow (Ca F a b)) (by simp) (λi hi=> ?_) ?_).trans rfl
 ·have hin:i<n:=by omega
  have hvs:=hF.vs i hin
  have hel:=B8 (F.getD i 0)
  simp only[dlt hi,cond_true,AB hi,bs,CX hi,wq i]
  rw[List.take_succ_eq_append_getElem (l:=grow (Ca F a b)) (by omega),CX,En F (by omega) (by omega) hab]
  have hcp:∀s:Int,D.p (AF s)=some (AF s):=λs=>l1Copy_eq _ (elems_sh s)
  have hap:∀x:LI,AS ((grow (Ca F a b)).take i) [x]=some ((grow (Ca F a b)).take i++[x]):=λx=>Br (by rw[List.length_take,List.length_singleton];omega)
  by_cases h1:i=a
  ·subst h1
   have e1:((i:Int)==(i:Int))=true:=by simp
   have e2:((i:Int)==(b:Int))=false:=by rw[beq_eq_false_iff_ne];omega
   simp only[e1,e2,cond_true,cond_false,l19Less_eq hvs (show b<32 by omega),bs,hcp,hap,if_neg hab,if_true]
  ·have e1:((i:Int)==(a:Int))=false:=by rw[beq_eq_false_iff_ne];omega
   by_cases h2:i=b
   ·subst h2
    have e2:((i:Int)==(i:Int))=true:=by simp
    simp only[e1,e2,cond_true,cond_false,l19Less_eq hvs (show a<32 by omega),bs,hcp,hap,if_true]
   ·have e2:((i:Int)==(b:Int))=false:=by rw[beq_eq_false_iff_ne];omega
    simp only[e1,e2,cond_false,bs,hcp,hap,if_neg h1,if_neg h2]
 ·simp only[Bd,cond_false]
  rw[hgl,←hgc,List.take_length]
structure Oks (n:Nat)(s:LI×LI):Prop where
 f:FOk s.1 n
 l:s.2.length=n
 v:∀u,u<n→VS (s.2.getD u 0)
theorem Oks.step {n:Nat}{s:LI×LI}(h:Oks n s)(h16:n≤16){a b:Nat}(ha:a<n)(hb:b<n)(hab:a≠b):Oks n (Ca s.1 a b,hdF s.2 a b):=by
 have hl:=h.l
 refine⟨h.f.cut h16 ha hb hab,by unfold hdF;rw[Ds];exact h.l,λu hu=> ?_⟩
 show VS ((hdF s.2 a b).getD u 0)
 unfold hdF
 rw[Di _ _ _ _ (by omega)]
 split
 ·exact VS.ior _ _
 ·exact h.v u hu
theorem Oks.impl {n:Nat}{s:LI×LI}(h:Oks n s){a b:Nat}(ha:a<n)(hb:b<n):D.t s (ap a b)=some (Ca s.1 a b,hdF s.2 a b):=by
 have hl:=h.l;have hl':=h.f.len
 rw[Ei (x:=ap a b) (o1:=ishl .u32 1 (a:Int)) (o2:=ishl .u32 1 (b:Int)) (CI a) (CI b) ⟨_,AB (show a<s.2.length by omega)⟩ ⟨_,AB (show a<s.1.length by omega)⟩ ⟨_,AB (show b<s.1.length by omega)⟩]
 rfl
theorem Oks.spec {n:Nat}{s:LI×LI}(h:Oks n s)(h16:n≤16){a b:Nat}(ha:a<n)(hb:b<n)(hab:a≠b):
  idx (grow s.2) (a:Int)=some (AF (s.2.getD a 0))∧D.J (AF (s.2.getD a 0)) (b:Int)=some (AF (ior .u32 (s.2.getD a 0) (ishl .u32 1 (b:Int))))∧(grow s.2).set a (AF (ior .u32 (s.2.getD a 0) (ishl .u32 1 (b:Int))))=grow (hdF s.2 a b):=by
 have hl:=h.l
 have hgl:(grow s.2).length=n:=by rw[Du];exact hl
 refine⟨?_,?_,?_⟩
 ·rw[AB (show a<(grow s.2).length by omega),CX]
 ·have:=B8 (s.2.getD a 0)
  rw[l1Into_eq _ _ (BZ _) (by omega),into_el (h.v a ha) (by omega)]
 ·have hgl':(grow (hdF s.2 a b)).length=n:=by rw[Du];unfold hdF;rw[Ds];exact hl
  refine List.ext_getElem (by rw[List.length_set];omega) (λi h1 h2=> ?_)
  rw[List.getElem_set,CX h2]
  unfold hdF
  rw[Di _ _ _ _ (by omega)]
  by_cases hi:a=i
  ·subst hi;rw[if_pos rfl,if_pos rfl]
  ·rw[if_neg hi,if_neg (λe=>hi e.symm),CX]
def tap (x:LI):Int×Int:=(x.getD 0 0,x.getD 1 0)
theorem tap_pr (a b:Nat):tap (pr a b)=ap a b:=rfl
abbrev SpO :=LL×Int×LL
noncomputable def spCl (C:LL):SpO→Option (SpO ⊕ ((LL×LL) ⊕ (LL×Bool))):=(fun(s_5499:LL×Int×LL)=>match s_5499 with|(l_5502,x_5505,l_5506)=>cond (decide (x_5505<(C.length:Int))) ((idx C x_5505).bind λe_5588=>(idx e_5588 0).bind λe_5594=>(idx C x_5505).bind λe_5600=>(idx e_5600 1).bind λe_5606=>(D.z C e_5606 e_5594).bind λy_5612=>cond y_5612 (some (.inr (.inr (([]:LL),false)))) ((idx l_5502 e_5594).bind λe_5624=>(D.J e_5624 e_5606).bind λy_5630=>(idx l_5502 e_5594).bind λe_5639=>(D.R l_5506 e_5594 e_5606).bind λy_5645=>some (.inl ((l_5502.set (Int.toNat e_5594) y_5630),(IntKind.i64.wrap (x_5505+1)),y_5645)))) (some (.inr (.inl (l_5502,l_5506)))))
def Opp (C D:LL):Prop:=∃a b:Nat,pr a b∈D∧pr b a∈C
theorem spCl_ok {n:Nat}(h16:n≤16){C:LL}(hC:∀x∈C,∃a b:Nat,x=pr a b∧a<n∧b<n∧a≠b)(hCl:C.length≤256):∀(k j:Nat) (s:LI×LI),j+k=C.length→Oks n s→
  (¬Opp C (C.drop j)→∃s',D.o ((C.drop j).map tap) s=some s'∧Al (spCl C) (grow s.2,(j:Int),grow s.1)=some (.inl (grow s'.2,grow s'.1))∧Oks n s'∧(∀u w,u<n→nb s'.1 u w=true→nb s.1 u w=true)∧∀a b:Nat,pr a b∈C.drop j→nb s'.1 a b=false)∧
  (Opp C (C.drop j)→Al (spCl C) (grow s.2,(j:Int),grow s.1)=some (.inr (([]:LL),false))):=by
 intro k
 induction k with
 |zero=>
  intro j s hj hs
  obtain rfl:j=C.length:=by omega
  rw[List.drop_length]
  refine⟨λ_=>⟨s,rfl,?_,hs,λ_ _ _ h=>h,λa b h=>(by cases h)⟩,fun⟨a,b,h,_⟩=>(by cases h)⟩
  refine AW ?_
  simp only[spCl,Bd,cond_false]
 |succ k ih=>
  intro j s hj hs
  have hjl:j<C.length:=by omega
  obtain⟨a,b,e,ha,hb,hab⟩:=hC _ (List.getElem_mem hjl)
  have i0:idx (pr a b) 0=some (a:Int):=rfl
  have i1:idx (pr a b) 1=some (b:Int):=rfl
  obtain⟨r,er,hr⟩:=l19Has_eq (L:=C) (λs hs=>by obtain⟨a,b,e,_⟩:=hC s hs;exact⟨a,b,e⟩) (by omega) b a
  have hd:C.drop j=pr a b::C.drop (j+1):=by rw[List.drop_eq_getElem_cons hjl,e]
  rw[hd]
  cases r
  ·have hno:pr b a∉C:=λh=>by have:=hr.2 h;cases this
   obtain⟨q1,q2,q3⟩:=hs.spec h16 ha hb hab
   have hst:spCl C (grow s.2,(j:Int),grow s.1)=some (.inl (grow (hdF s.2 a b),((j+1:Nat):Int),grow (Ca s.1 a b))):=by
    simp only[spCl,dlt hjl,cond_true,AB hjl,e,i0,i1,bs,er,cond_false,q1,q2,l19Cut_eq hs.f h16 ha hb hab,Int.toNat_natCast,q3,wq j]
   obtain⟨g1,g2⟩:=ih (j+1) (Ca s.1 a b,hdF s.2 a b) (by omega) (hs.step h16 ha hb hab)
   rw[Bf hst]
   refine⟨λhn=> ?_,fun⟨c,d,h1,h2⟩=>g2 ?_⟩
   ·obtain⟨s',k1,k2,k3,k4,k5⟩:=g1 (fun⟨c,d,h1,h2⟩=>hn ⟨c,d,List.mem_cons_of_mem _ h1,h2⟩)
    have hcut:∀u w,u<n→nb s'.1 u w=true→nb s.1 u w=true∧¬(u=a∧w=b):=λu w hu h=>by
     have:=k4 u w hu h
     dsimp only at this
     rw[nb_cut hs.f h16 ha hb hab hu,Bool.and_eq_true,Bool.and_eq_true] at this
     exact⟨this.1.1,by have:=this.1.2;simp only[Bool.not_eq_true',decide_eq_false_iff_not] at this;exact this⟩
    refine⟨s',?_,k2,k3,λu w hu h=>(hcut u w hu h).1,λc d h=> ?_⟩
    ·rw[List.map_cons,tap_pr]
     unfold D.o
     rw[hs.impl ha hb,bs,k1]
    ·rcases List.mem_cons.1 h with h|h
     ·obtain⟨rfl,rfl⟩:=Dl h
      cases hh:nb s'.1 c d
      ·rfl
      ·exact absurd ⟨rfl,rfl⟩ (hcut c d ha hh).2
     ·exact k5 c d h
   ·rcases List.mem_cons.1 h1 with h|h
    ·obtain⟨rfl,rfl⟩:=Dl h
     exact absurd h2 hno
    ·exact⟨c,d,h,h2⟩
  ·have hyes:pr b a∈C:=hr.1 rfl
   refine⟨λhn=>absurd ⟨a,b,by simp,hyes⟩ hn,λ_=>AW ?_⟩
   simp only[spCl,dlt hjl,cond_true,AB hjl,e,i0,i1,bs,er]
theorem idx_elems0 {s:Int}(h:VS s)(h0:s≠0):∃k:Nat,D.v s=some (k:Int)∧idx (AF s) 0=some (k:Int)∧has s k=true∧0<(AF s).length:=by
 obtain⟨k,h1,h2,h3,h4,h5⟩:=least_eq h h0
 have e:=EH h1 h3 h4 h5
 exact⟨k,h2,by rw[e];rfl,h3,by rw[e];simp⟩
theorem keyBoth_iff {M:ArM}:D.j0 M=true↔∃a b:Int,(a,b)∈M.map (·.1)∧(b,a)∈M.map (·.1):=by
 unfold D.j0
 rw[List.any_eq_true]
 constructor
 ·rintro⟨kv,h1,h2⟩
  exact⟨kv.1.1,kv.1.2,List.mem_map.2 ⟨kv,h1,rfl⟩,mpGet_some.1 h2⟩
 ·rintro⟨a,b,h1,h2⟩
  obtain⟨kv,h3,h4⟩:=List.mem_map.1 h1
  refine⟨kv,h3,mpGet_some.2 ?_⟩
  rw[h4];exact h2
noncomputable def spIn (u:Int):LL×LL→Option (LL×LL ⊕ (LL×LL ⊕ (LL×Bool))):=(fun(s_4955:LL×LL)=>match s_4955 with|(l_4958,l_4961)=>(idx l_4961 u).bind λe_5316=>cond (decide ((0:Int)<(e_5316.length:Int))) ((idx l_4961 u).bind λe_5323=>(idx e_5323 0).bind λe_5329=>(D.X l_4961 u e_5329).bind λy_5338=>(Al (spCl y_5338) (l_4958,0,l_4961)).bind λzz=>match zz with| .inl (l_5580,l_5583)=>(some (.inl (l_5580,l_5583)))| .inr z=>(some (.inr (.inr z)))) (some (.inr (.inl (l_4958,l_4961)))))
theorem cls_perm {g:LL}{u v:Nat}{C:LL}{M:ArM}(h1:C.Nodup)(h2:Prs C)(h3:∀c d:Nat,pr c d∈C↔Kl (adj g) u v c d)(k1:(M.map (·.1)).Nodup)(k2:∀x∈M.map (·.1),∃c d:Nat,x=ap c d)(k3:∀c d:Nat,ap c d∈M.map (·.1)↔Kl (adj g) u v c d):(C.map tap).Perm (M.map (·.1)):=by
 refine(List.perm_ext_iff_of_nodup ?_ k1).2 (λx=> ?_)
 ·unfold List.Nodup
  rw[List.pairwise_map]
  refine List.Pairwise.imp_of_mem (fun{x y} hx hy hne he=>hne ?_) h1
  obtain⟨a,b,rfl⟩:=h2 x hx
  obtain⟨c,d,rfl⟩:=h2 y hy
  rw[tap_pr,tap_pr] at he
  obtain⟨rfl,rfl⟩:=ap_inj he
  rfl
 ·constructor
  ·intro h
   obtain⟨y,hy,rfl⟩:=List.mem_map.1 h
   obtain⟨a,b,rfl⟩:=h2 y hy
   rw[tap_pr]
   exact(k3 a b).2 ((h3 a b).1 hy)
  ·intro h
   obtain⟨a,b,rfl⟩:=k2 x h
   exact List.mem_map.2 ⟨pr a b,(h3 a b).2 ((k3 a b).1 h),rfl⟩
theorem round_ok {n:Nat}(h1:1≤n)(h16:n≤16){u:Nat}(hu:u<n):∀(m:Nat) (s:LI×LI),Oks n s→(List.range n).countP (nb s.1 u)≤m→
  (∃s',Al (D.K (u:Int)) s=some (some s')∧Al (spIn (u:Int)) (grow s.2,grow s.1)=some (.inl (grow s'.2,grow s'.1))∧Oks n s')∨
  (Al (D.K (u:Int)) s=some none∧Al (spIn (u:Int)) (grow s.2,grow s.1)=some (.inr (([]:LL),false))):=by
 intro m
 induction m with
 |zero=>
  intro s hs hm
  refine .inl ⟨s,?_,?_,hs⟩
  all_goals
   have hz:s.1.getD u 0=0:=by
    apply Classical.byContradiction
    intro h0
    obtain⟨k,_,_,hk,_⟩:=idx_elems0 (hs.f.vs u hu) h0
    have hkn:=hs.f.lt u k hu hk
    have:0<(List.range n).countP (nb s.1 u):=List.countP_pos_iff.2 ⟨k,List.mem_range.2 hkn,hk⟩
    omega
   have hl:=hs.f.len
  ·refine AW ?_
   unfold D.K
   rw[AB (show u<s.1.length by omega),bs,←AD (by omega) 0,hz];rfl
  ·refine AW ?_
   unfold spIn
   dsimp only
   rw[AB (show u<(grow s.1).length by rw[Du];omega),bs,CX,hz,C7];rfl
 |succ m ih=>
  intro s hs hm
  have hl:=hs.f.len
  have hgl:(grow s.1).length=n:=by rw[Du];exact hl
  have iF:idx s.1 (u:Int)=some (s.1.getD u 0):=by rw[AB (show u<s.1.length by omega),AD (by omega) 0]
  have iG:idx (grow s.1) (u:Int)=some (AF (s.1.getD u 0)):=by rw[AB (show u<(grow s.1).length by omega),CX]
  by_cases hz:s.1.getD u 0=0
  ·refine .inl ⟨s,AW ?_,AW ?_,hs⟩
   ·unfold D.K
    rw[iF,bs,hz];rfl
   ·unfold spIn
    dsimp only
    rw[iG,bs,hz,C7];rfl
  ·obtain⟨v,hv1,hv2,hv3,hv4⟩:=idx_elems0 (hs.f.vs u hu) hz
   have hvn:=hs.f.lt u v hu hv3
   have hg:=GOk.grow hs.f h1 h16
   have hgm:=grow_mk hs.f
   have huv:adj (grow s.1) u v:=(D7 hs.f hu).2 hv3
   obtain⟨M,eM,k1,k2,k3⟩:=forcedFrom_ok hg huv
   rw[hgm] at eM
   obtain⟨C,eC,hCl,c1,c2,c3⟩:=l13Class_ok hg huv
   have hC:∀x∈C,∃a b:Nat,x=pr a b∧a<n∧b<n∧a≠b:=λx hx=>by
    obtain⟨a,b,rfl⟩:=c2 x hx
    have he:=((c3 a b).1 hx).edge huv
    have ha:=CA hg he
    have hb:=hg.lt ha he
    exact⟨a,b,rfl,by omega,by omega,λe=>hg.irr a ha (by rw[←e] at he;exact he)⟩
   have hperm:=cls_perm c1 c2 c3 k1 k2 k3
   obtain⟨g1,g2⟩:=spCl_ok h16 hC hCl C.length 0 s (by omega) hs
   rw[List.drop_zero] at g1 g2
   have hz':(s.1.getD u 0 !=0)=true:=by simpa using hz
   have hd:decide ((0:Int)<((AF (s.1.getD u 0)).length:Int))=true:=decide_eq_true (by omega)
   have hopp:D.j0 M=true↔Opp C C:=by
    rw[keyBoth_iff]
    constructor
    ·rintro⟨a,b,h1,h2⟩
     obtain⟨c,d,e⟩:=k2 _ h1
     obtain⟨rfl,rfl⟩:a=(c:Int)∧b=(d:Int):=⟨congrArg Prod.fst e,congrArg Prod.snd e⟩
     exact⟨c,d,(c3 c d).2 ((k3 c d).1 h1),(c3 d c).2 ((k3 d c).1 h2)⟩
    ·rintro⟨a,b,h1,h2⟩
     exact⟨a,b,(k3 a b).2 ((c3 a b).1 h1),(k3 b a).2 ((c3 b a).1 h2)⟩
   by_cases ho:Opp C C
   ·refine .inr ⟨AW ?_,AW ?_⟩
    ·unfold D.K
     rw[iF,bs,hz',cond_true,hv1,bs,show D.N s.1 ((u:Int),(v:Int))=some M from eM,bs,hopp.2 ho,cond_true]
    ·unfold spIn
     dsimp only
     rw[iG,bs,hd,cond_true,bs,hv2,bs,eC,bs,show Al (spCl C) (grow s.2,0,grow s.1)=_ from g2 ho,bs]
   ·have hkb:D.j0 M=false:=by
     cases h:D.j0 M
     ·rfl
     ·exact absurd (hopp.1 h) ho
    obtain⟨s',f1,f2,f3,f4,f5⟩:=g1 ho
    have st1:D.K (u:Int) s=some (.inl s'):=by
     unfold D.K
     rw[iF,bs,hz',cond_true,hv1,bs,show D.N s.1 ((u:Int),(v:Int))=some M from eM,bs,hkb,cond_false,EO hperm s s' f1,bs]
    have st2:spIn (u:Int) (grow s.2,grow s.1)=some (.inl (grow s'.2,grow s'.1)):=by
     unfold spIn
     dsimp only
     rw[iG,bs,hd,cond_true,bs,hv2,bs,eC,bs,show Al (spCl C) (grow s.2,0,grow s.1)=_ from f2,bs]
    rw[Bf st1,Bf st2]
    refine ih s' f3 ?_
    have hin:pr u v∈C:=(c3 u v).2 Kl.refl
    have hlt:=Ep (p:=nb s'.1 u) (q:=nb s.1 u) (l:=List.range n) (λw _ h=>f4 u w hu h) ⟨v,List.mem_range.2 hvn,hv3,f5 u v hin⟩
    omega
noncomputable def spOut (n:Int):LL×Int×LL→Option ((LL×Int×LL) ⊕ (LL ⊕ (LL×Bool))):=(fun(s_2839:LL×Int×LL)=>match s_2839 with|(l_2842,x_2845,l_2846)=>cond (decide (x_2845<n)) ((Al (spIn x_2845) (l_2842,l_2846)).bind λzz=>match zz with| .inl (l_5309,l_5312)=>(some (.inl (l_5309,(IntKind.i64.wrap (x_2845+1)),l_5312)))| .inr z=>(some (.inr (.inr z)))) (some (.inr (.inl l_2842))))
theorem rounds_ok {n:Nat}(h1:1≤n)(h16:n≤16):∀(k u:Nat) (s:LI×LI),u+k=n→Oks n s→
  (∃s',Al (D.O (n:Int)) (s,(u:Int))=some (some s'.2)∧Al (spOut (n:Int)) (grow s.2,(u:Int),grow s.1)=some (.inl (grow s'.2))∧Oks n s')∨
  (Al (D.O (n:Int)) (s,(u:Int))=some none∧Al (spOut (n:Int)) (grow s.2,(u:Int),grow s.1)=some (.inr (([]:LL),false))):=by
 intro k
 induction k with
 |zero=>
  intro u s hu hs
  obtain rfl:u=n:=by omega
  refine .inl ⟨s,AW ?_,AW ?_,hs⟩
  ·unfold D.O
   simp only[Bd,cond_false]
  ·unfold spOut
   simp only[Bd,cond_false]
 |succ k ih=>
  intro u s hu hs
  have hun:u<n:=by omega
  rcases round_ok h1 h16 hun _ s hs (Nat.le_refl _) with⟨s',e1,e2,h⟩|⟨e1,e2⟩
  ·have st1:D.O (n:Int) (s,(u:Int))=some (.inl (s',((u+1:Nat):Int))):=by
    unfold D.O
    dsimp only
    rw[dlt hun,cond_true,e1,bs]
    unfold D.f1
    rw[wi (by omega)]
   have st2:spOut (n:Int) (grow s.2,(u:Int),grow s.1)=some (.inl (grow s'.2,((u+1:Nat):Int),grow s'.1)):=by
    unfold spOut
    dsimp only
    rw[dlt hun,cond_true,e2,bs,wi (by omega)]
   rw[Bf st1,Bf st2]
   exact ih (u+1) s' (by omega) h
  ·refine .inr ⟨AW ?_,AW ?_⟩
   ·unfold D.O
    dsimp only
    rw[dlt hun,cond_true,e1,bs];rfl
   ·unfold spOut
    dsimp only
    rw[dlt hun,cond_true,e2,bs]
section
variable {g : LL} (hg : GOk g)
include hg
theorem Oriented_both :∃r:LI×Bool,D.y g=some (r.1.map AF,r.2)∧D.s g=some (r.1.map AF,r.2)∧r.1.length≤16:=by
 have h16:=hg.n16
 have hn1:=hg.n1
 have h0:Oks g.length (g.map mk,List.replicate g.length 0):=⟨FOk.of hg,by simp,λu hu=>by
  rw[AD (by simpa using hu)]
  simp
  exact VS.zero⟩
 have hgr:grow (g.map mk)=g:=by
  unfold grow
  rw[List.map_map]
  refine(List.map_congr_left (λr hr=> ?_)).trans (List.map_id g)
  obtain⟨i,hi,rfl⟩:=List.getElem_of_mem hr
  have h2:=hg.rows i hi
  have e:row g i=g[i]:=AD hi _
  rw[e] at h2
  exact elems_mk h16 h2.1 h2.2
 have hr0:grow (List.replicate g.length (0:Int))=List.replicate g.length []:=by
  unfold grow;rw[List.map_replicate,C7]
 have R:=rounds_ok hn1 h16 g.length 0 _ (by omega) h0
 dsimp only at R
 rw[hgr,hr0,show ((0:Nat):Int)=0 from rfl] at R
 have hcl:D.Q (g.map mk)=some (g.map mk):=by
  unfold D.Q
  rw[Br (by simp;omega)];rfl
 have hspec:D.y g=(Al (spOut (g.length:Int)) (List.replicate g.length [],0,g)).bind λzz=>match zz with| .inl l_4253=>(some (l_4253,true))| .inr z=>(some z):=by
  unfold D.y
  rw[DM g hg.sh2,Ey hg,bs,Bool.not_true,cond_false,makeD_nil _ (by omega),bs]
  rfl
 have himpl:D.s g=((Al (D.O (g.length:Int)) ((g.map mk,List.replicate g.length 0),0)).bind D.Q0).bind λy_25=>cond (y_25.isEmpty) (some (([]:LL),false)) ((D.a0 y_25).bind λy_44=>some (y_44,true)):=by
  unfold D.s
  rw[Cm g hg.sh2,Ey hg,bs,Bool.not_true,cond_false,netsOf_eq g hg,bs]
  unfold D.r0
  rw[hcl,bs,List.length_map,D2 (by omega) (by omega),bs]
 rcases R with⟨s',e1,e2,h⟩|⟨e1,e2⟩
 ·have hl:=h.l
  refine⟨(s'.2,true),by rw[hspec,e2];rfl,?_,by show s'.2.length≤16;omega⟩
  have hne:s'.2≠[]:=by intro e;rw[e] at hl;simp at hl;omega
  rw[himpl,e1,bs]
  have hnE:nonE s'.2=some ():=by
   cases hs:s'.2 with
   |nil=>exact absurd hs hne
   |cons a l=>rfl
  have hiE:s'.2.isEmpty=false:=by
   cases hs:s'.2 with
   |nil=>exact absurd hs hne
   |cons a l=>rfl
  unfold D.Q0
  dsimp only
  rw[hnE,bs,bs,hiE,cond_false,results_eq s'.2 (by unfold Sh;omega) (λx hx=>by
   obtain⟨i,hi,rfl⟩:=List.getElem_of_mem hx
   have:=h.v i (by omega)
   rwa [AD hi] at this),bs]
 ·refine⟨([],false),by rw[hspec,e2];rfl,?_,by simp⟩
  rw[himpl,e1];rfl
end
theorem Oriented_all (g:LL)(h:Sh2 g):∃(L:LL) (b:Bool),D.y g=some (L,b)∧D.s g=some (L,b)∧Sh2 L∧tot L≤4294967296:=by
 by_cases hg:GOk g
 ·obtain⟨r,e1,e2,hl⟩:=Oriented_both hg
  have ht:=tot_elems r.1
  exact⟨_,_,e1,e2,Sh2.of_tot (by unfold Sh;rw[List.length_map];omega) (by omega),by omega⟩
 ·have hb:gB g=false:=by
   cases hc:gB g
   ·rfl
   ·exact absurd ((gB_iff g).1 hc) hg
  refine⟨[],false,?_,?_,⟨by simp[Sh],by simp⟩,by simp[tot]⟩
  ·unfold D.y
   rw[DM g h,hb];rfl
  ·unfold D.s
   rw[Cm g h,hb];rfl
theorem D8 (g:LL)(hx:(g.length:Int)≤9223372036854775807)(hx2:∀x∈g,(x.length:Int)≤9223372036854775807):D.E0 g=some true:=by
 unfold D.E0
 obtain⟨y,e,hy⟩:=szGraph_eq g 1048576 hx hx2 (by omega) (by omega)
 rw[e,bs]
 rcases hy with hy|⟨hy,hy0⟩
 ·simp only[hy,decide_true,cond_true]
 ·have hd:decide (y<0)=false:=by simp;omega
  have htn:=BS g
  have h1:Sh2 g:=Sh2.of_tot (by unfold Sh;omega) (by omega)
  obtain⟨L,b,e1,e2,h2,h3⟩:=Oriented_all g h1
  have n1:=BS L
  have d1:decide (1+tot g<0)=false:=by simp;omega
  have d2:decide (1+tot L<0)=false:=by simp;omega
  simp only[hd,cond_false,toGraph_eq g h1,e1,e2,bs,eqSS_eq L L h2,decide_true,Bool.not_true,eqGraph_eq g g h1,markGraph_eq g 1 h1 (by omega) (by omega),d1,bne_self_eq_false,Bool.or_self,markSS_eq L 1 h2 (by omega) (by omega),heldSS_eq L 1 h2 (by omega) (by omega),d2]
end Go.Sx
