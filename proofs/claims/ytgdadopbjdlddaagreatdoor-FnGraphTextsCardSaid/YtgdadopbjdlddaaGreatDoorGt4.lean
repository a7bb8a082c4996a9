/- Parts. -/
import Derived.Test.YtgdadopbjdlddaaGreatDoorGt3
set_option linter.unusedVariables false
set_option linter.unusedSimpArgs false
set_option linter.unusedSectionVars false
namespace Go.Sx
open Go
theorem bitW {s:Int}(h:VS s){v:Nat}(hv:v<32):iand .u32 (Ce .u32 s (v:Int)) 1=if has s v=true then 1 else 0:=by
 have h1:=bitAt_eq h hv
 rw[shr_eq s v h hv] at h1 ⊢
 have hs:s.toNat>>>v<4294967296:=by
  obtain⟨m,rfl,hm⟩:=h.nat
  rw[Nat.shiftRight_eq_div_pow]
  exact Nat.lt_of_le_of_lt (Nat.div_le_self _ _) hm
 rw[show (1:Int)=((1:Nat):Int) from rfl,DC hs (show (1:Nat)<4294967296 by omega)] at h1 ⊢
 have h2:s.toNat>>>v&&&1≤1:=Nat.and_le_right
 cases hh:has s v with
 |true=>rw[hh] at h1;rw[if_pos rfl];exact beq_iff_eq.1 h1
 |false=>
  rw[hh] at h1;rw[if_neg (by simp)]
  have h3:=beq_eq_false_iff_ne.1 h1
  omega
def lnx (g:LL)(v:Nat):List UInt8:=(List.range g.length).map λu:Nat=>if(u:Int)∈row g v then 49 else 48
def rtx (g:LL):List UInt8:=(List.range g.length).flatMap λv=>lnx g v++[10]
theorem D7 (g:LL):∀k,((List.range k).flatMap λv=>lnx g v++[10]).length=k*(g.length+1)
 |0=>by simp
 |k+1=>by
  rw[List.range_succ,List.flatMap_append,List.length_append,D7 g k]
  simp[lnx,Nat.succ_mul]
theorem rtx_len {g:LL}(hg:GOk g):(rtx g).length≤272:=by
 have h16:=hg.n16
 unfold rtx
 rw[D7]
 exact Nat.le_trans (Nat.mul_le_mul h16 (show g.length+1≤17 by omega)) (by omega)
theorem rows_le {g:LL}(hg:GOk g){k:Nat}(hk:k≤g.length):((List.range k).flatMap λv=>lnx g v++[10]).length≤272:=by
 have h16:=hg.n16
 rw[D7]
 exact Nat.le_trans (Nat.mul_le_mul (show k≤16 by omega) (show g.length+1≤17 by omega)) (by omega)
theorem CB {g:LL}(hs:Sh2 g):D.y g=some (if gB g=true then tx (rtx g) else tx []):=by
 have e0:(⟨#[]⟩:ByteArray)=tx []:=rfl
 unfold D.y D.g
 by_cases hb:gB g=true
 ·have hg:=(Ci g).1 hb
  have h16:=hg.n16
  rw[if_pos hb,e0]
  refine(BZ (λv=>(tx ((List.range v).flatMap λv=>lnx g v++[10]),(v:Int))) g.length (tx (rtx g)) (by simp) (λv hv=> ?_) ?_).trans rfl
  ·have hl:=rows_le hg (Nat.le_of_lt hv)
   simp only[bs,dlt hv,cT,B2 g hs,hb]
   generalize hT:((List.range v).flatMap λv=>lnx g v++[10])=T at hl
   have ln:(lnx g v).length≤16:=by simp[lnx];exact h16
   refine(BZ (λu=>(tx (T++(List.range u).map λu:Nat=>if(u:Int)∈row g v then 49 else 48),(u:Int))) g.length (tx (T++lnx g v)) (by simp) (λu hu=> ?_) ?_).trans ?_
   ·simp only[dlt hu,cT,l1Edge_eq g hg hv,bs,D.y0,wq u]
    rw[List.range_succ,List.map_append,←List.append_assoc]
    by_cases hm:(u:Int)∈row g v
    ·simp only[hm,decide_true,cT,bs]
     rw[show (1:Int)=((1:Nat):Int) from rfl,CU (show 1<17 by omega),bs,CC (show 1<10 by omega),BY (by simp;omega),bs]
     simp[hm]
    ·simp only[hm,decide_false,cF,bs]
     rw[show (0:Int)=((0:Nat):Int) from rfl,CU (show 0<17 by omega),bs,CC (show 0<10 by omega),BY (by simp;omega),bs]
     simp[hm]
   ·simp only[Bb,cF];rfl
   ·rw[show (⟨#[10]⟩:ByteArray)=tx [10] from rfl,BY (by simp;omega),bs,wq v,List.range_succ,List.flatMap_append,hT]
    simp
  ·simp only[bs,Bb,cF];rfl
 ·rw[if_neg hb,e0]
  rw[Bool.not_eq_true] at hb
  rw[Bp (r:=tx [])]
  ·rfl
  ·simp only[bs,B2 g hs,hb]
   cases decide ((0:Int)<(g.length:Int))<;>rfl
theorem C6 {g:LL}(hg:GOk g):D.Q g=some (tx (rtx g)):=by
 have h16:=hg.n16
 unfold D.Q
 have hsb:∀T:List UInt8,sBy (tx T)=T.map λb=>(b.toNat:Int):=λT=>rfl
 rw[netsOf_eq g hg,bs]
 have hlen:(g.map mk).length=g.length:=by simp
 refine(BZ (λv=>(sBy (tx ((List.range v).flatMap λv=>lnx g v++[10])),(v:Int))) g.length (sBy (tx (rtx g))) (by simp[sBy]) (λv hv=> ?_) ?_).trans ?_
 ·have hl:=rows_le hg (Nat.le_of_lt hv)
  have hd:decide ((v:Int)<((g.map mk).length:Int))=true:=by rw[hlen];exact dlt hv
  have hi:idx (g.map mk) (v:Int)=some (mk (row g v)):=by
   rw[AS (by rw[hlen];exact hv)];simp[C8 hv]
  simp only[hd,cT,hi,bs]
  generalize hT:((List.range v).flatMap λv=>lnx g v++[10])=T at hl
  have ln:(lnx g v).length≤16:=by simp[lnx];exact h16
  refine(BZ (λu=>(sBy (tx (T++(List.range u).map λu:Nat=>if(u:Int)∈row g v then 49 else 48)),(u:Int))) g.length (sBy (tx (T++lnx g v))) (by simp) (λu hu=> ?_) ?_).trans ?_
  ·have hn:decide ((u:Int)<0)=false:=decide_eq_false (by omega)
   have hr:∀x∈row g v,0≤x∧x<32:=λx hx=>by have:=(hg.rows v hv).2 x hx;omega
   have hbit:iand .u32 (Ce .u32 (mk (row g v)) (u:Int)) 1=if(u:Int)∈row g v then 1 else 0:=by
    rw[bitW (VS.mk _) (by omega),has_mk hr];simp
   simp only[dlt hu,cT,hn,cF,hbit,wq u]
   rw[List.range_succ,List.map_append,←List.append_assoc]
   by_cases hm:(u:Int)∈row g v
   ·rw[if_pos hm,AW (by rw[hsb];simp;omega),bs]
    simp[hsb,hm];decide
   ·rw[if_neg hm,AW (by rw[hsb];simp;omega),bs]
    simp[hsb,hm];decide
  ·simp only[Bb,cF];rfl
  ·rw[AW (by rw[hsb];simp;omega),bs,wq v,List.range_succ,List.flatMap_append,hT]
   simp[hsb]
 ·simp only[hlen,Bb,cF];rfl
 ·refine congrArg some (Eg ?_)
  show ((sBy (tx (rtx g))).map λn=>UInt8.ofNat n.toNat)=_
  rw[hsb,List.map_map]
  refine(List.map_congr_left λb _=> ?_).trans (List.map_id _)
  simp
theorem C2 {g:LL}(hs:Sh2 g):D.J g=some (if gB g=true then tx (rtx g) else tx []):=by
 unfold D.J
 rw[Cg g hs,bs]
 cases hb:gB g
 ·rfl
 ·rw[Bool.not_true,cF,C6 ((Ci g).1 hb),if_pos rfl];rfl
theorem CX {g:LL}(hs:Sh2 g):D.M g=some (if gB g=true then tx (txg g) else tx []):=by
 unfold D.M
 rw[Cg g hs,bs]
 cases hb:gB g
 ·rfl
 ·rw[Bool.not_true,cF,Cw ((Ci g).1 hb),if_pos rfl];rfl
theorem CR {g:LL}(hs:Sh2 g):D.r g=some (if gB g=true then tx (txg g) else tx []):=by
 cases hb:gB g
 ·unfold D.r
  rw[B2 g hs,hb];rfl
 ·rw[if_pos rfl];exact Cs ((Ci g).1 hb)
def BP (x:List UInt8)(k:Nat):LI:=((List.range k).filter λi=>x.getD i 0==49).map Int.ofNat
theorem onesOf_len (x:List UInt8)(k:Nat):(BP x k).length≤k:=by
 unfold BP
 rw[List.length_map]
 exact Nat.le_trans (List.length_filter_le _ _) (by simp)
theorem onesOf_succ (x:List UInt8)(k:Nat):BP x (k+1)=if x.getD k 0==49 then BP x k++[(k:Int)] else BP x k:=by
 unfold BP
 rw[List.range_succ,List.filter_append,List.map_append]
 by_cases h:(x.getD k 0==49)=true
 ·rw[if_pos h,List.filter_cons,if_pos h];rfl
 ·rw[if_neg h,List.filter_cons,if_neg h];simp
def Bv (w:List (List UInt8)):LL:=w.map λx=>BP x x.length
def trw (s:List UInt8):LL×Bool:=
 if s.length≤800∧gB (Bv (spl 10 s).dropLast)=true∧rtx (Bv (spl 10 s).dropLast)=s then(Bv (spl 10 s).dropLast,true) else([],false)
theorem at49 {x:List UInt8}{i:Nat}(h:i<x.length):(((x[i]).toNat:Int)==49)=(x.getD i 0==49):=by
 rw[Ba h,Bool.eq_iff_iff,beq_iff_eq,beq_iff_eq]
 constructor
 ·intro e;exact UInt8.toNat_inj.1 (by show x[i].toNat=49;omega)
 ·intro e;rw[e];rfl
theorem line_loop {x:ByteArray}(hx:(byt x).length≤1048576){β:Type}{k:LI→Option β}{step:LI×Int→Option ((LI×Int) ⊕ LI)}
  (h1:∀l (i:Nat),i<(byt x).length→step (l,(i:Int))=(Bn x (i:Int)).bind λe=>cond (e==49) ((AC l ([(i:Int)]:LI)).bind λl_482=>some (.inl (l_482,(IntKind.i64.wrap ((i:Int)+1))))) (some (.inl (l,(IntKind.i64.wrap ((i:Int)+1))))))
  (h2:∀l,step (l,((byt x).length:Int))=some (.inr l)):(Ay step ([],0)).bind k=k (BP (byt x) (byt x).length):=by
 refine BZ (λi=>(BP (byt x) i,(i:Int))) (byt x).length _ rfl (λi hi=> ?_) (h2 _)
 have hl:=onesOf_len (byt x) i
 rw[h1 _ i hi,Cj hi,bs,at49 hi,onesOf_succ,wq i]
 cases (byt x).getD i 0==49
 ·rfl
 ·rw[cT,AW (by simp;omega)];rfl
theorem rows_sh {w:List (List UInt8)}(h:w.length≤1048577)(hw:∀x∈w,x.length≤1048576):Sh2 (Bv w):=by
 refine⟨by unfold Sh Bv;rw[List.length_map];omega,λr hr=> ?_⟩
 obtain⟨x,hx,rfl⟩:=List.mem_map.1 hr
 have:=onesOf_len x x.length
 have:=hw x hx
 unfold Sh;omega
theorem DG {α:Type}{w:List α}{x:α}(h:x∈w.dropLast):x∈w:=(List.dropLast_sublist w).subset h
theorem trw_no {s:List UInt8}(h:¬s.length≤800):trw s=([],false):=if_neg (λhh=>h hh.1)
theorem Eu {s:ByteArray}(hs:(byt s).length≤1048576):D.q0 s=some (trw (byt s)):=by
 unfold D.q0
 rw[A8]
 by_cases h8:(800:Int)<((byt s).length:Int)
 ·rw[decide_eq_true h8,trw_no (by omega)];rfl
 rw[decide_eq_false h8,cF,show (10:Int)=((10:UInt8).toNat:Int) from rfl,CH hs,bs]
 have hne:=spl_ne 10 (byt s)
 have hln:=Dt 10 (byt s)
 have hpt:=C9 10 (byt s)
 have htr:trw (byt s)=if gB (Bv (spl 10 (byt s)).dropLast)=true∧rtx (Bv (spl 10 (byt s)).dropLast)=byt s then(Bv (spl 10 (byt s)).dropLast,true) else([],false):=by
  unfold trw
  by_cases hc:gB (Bv (spl 10 (byt s)).dropLast)=true∧rtx (Bv (spl 10 (byt s)).dropLast)=byt s
  ·rw[if_pos hc,if_pos ⟨by omega,hc⟩]
  ·rw[if_neg hc,if_neg (λh=>hc h.2)]
 rw[htr]
 generalize spl 10 (byt s)=w at hne hln hpt
 have hw1:1≤w.length:=List.length_pos_iff.2 hne
 have hdl:w.dropLast.length=w.length-1:=List.length_dropLast
 have hsub:IntKind.i64.wrap (((w.map tx).length:Int)-1)=((w.dropLast.length:Nat):Int):=by
  rw[List.length_map,w64 (by omega) (by omega),hdl];omega
 rw[hsub]
 have hrow:∀(v:Nat) (hv:v<w.dropLast.length),idx (w.map tx) (v:Int)=some (tx w.dropLast[v]):=λv hv=>by
  rw[AS (by rw[List.length_map];omega)]
  simp
 refine(Db (w.dropLast) (λs i=>(i,s)) (λx=>BP x x.length) (by omega) (λt i hi _=> ?_) (λt=> ?_)).trans ?_
 ·simp only[dlt hi,cT]
  have hb:(byt (tx w.dropLast[i])).length≤1048576:=by
   have:=hpt _ (DG (List.getElem_mem hi));rw[Bf];omega
  refine(line_loop hb (λl k hk=> ?_) (λl=> ?_)).trans ?_
  ·simp only[hrow i hi,bs,A8,dlt hk,cT]
  ·simp only[hrow i hi,bs,A8,Bb,cF]
  ·rw[Bf,wq i]
 ·simp only[Bb,cF]
 ·have hsh:Sh2 (Bv w.dropLast):=rows_sh (by omega) (λx hx=>by have:=hpt x (DG hx);omega)
  rw[show (w.dropLast.map λx=>BP x x.length)=Bv w.dropLast from rfl]
  rw[B2 _ hsh,bs]
  cases hb:gB (Bv w.dropLast)
  ·rw[if_neg (λh=>by cases h.1)];rfl
  ·rw[Bool.not_true,cF,CB hsh,if_pos hb,bs,bs,BN,Bf]
   by_cases he:rtx (Bv w.dropLast)=byt s
   ·rw[decide_eq_true he,if_pos ⟨rfl,he⟩];rfl
   ·rw[decide_eq_false he,if_neg (λh=>he h.2)];rfl
theorem C5 {s:ByteArray}(hs:(byt s).length≤1048576):D.L s=some (trw (byt s)):=by
 unfold D.L
 rw[show (⟨#[10]⟩:ByteArray)=tx [10] from rfl,CA hs,bs,A8]
 have hne:=spl_ne 10 (byt s)
 have hln:=Dt 10 (byt s)
 have hpt:=C9 10 (byt s)
 by_cases h8:(800:Int)<((byt s).length:Int)
 ·rw[decide_eq_true h8,trw_no (by omega)];rfl
 have htr:trw (byt s)=if gB (Bv (spl 10 (byt s)).dropLast)=true∧rtx (Bv (spl 10 (byt s)).dropLast)=byt s then(Bv (spl 10 (byt s)).dropLast,true) else([],false):=by
  unfold trw
  by_cases hc:gB (Bv (spl 10 (byt s)).dropLast)=true∧rtx (Bv (spl 10 (byt s)).dropLast)=byt s
  ·rw[if_pos hc,if_pos ⟨by omega,hc⟩]
  ·rw[if_neg hc,if_neg (λh=>hc h.2)]
 rw[decide_eq_false h8,Bool.false_or,htr]
 generalize spl 10 (byt s)=w at hne hln hpt
 have hw1:1≤w.length:=List.length_pos_iff.2 hne
 have hdl:w.dropLast.length=w.length-1:=List.length_dropLast
 have hsub:IntKind.i64.wrap (((w.map tx).length:Int)-1)=((w.dropLast.length:Nat):Int):=by
  rw[List.length_map,w64 (by omega) (by omega),hdl];omega
 rw[hsub]
 by_cases hc:((decide (((w.dropLast.length:Nat):Int)<1))||(decide ((16:Int)<((w.dropLast.length:Nat):Int))))=true
 ·rw[hc,cT,if_neg]
  intro h
  have hg:=(Ci _).1 h.1
  have n1:=hg.n1
  have n16:=hg.n16
  unfold Bv at n1 n16
  rw[List.length_map] at n1 n16
  simp at hc;omega
 rw[Bool.not_eq_true] at hc
 have hsl:Bh (w.map tx) 0 ((w.dropLast.length:Nat):Int)=some (w.dropLast.map tx):=by
  rw[sliceD_pre (by rw[List.length_map];omega),←List.map_take,hdl,←List.dropLast_eq_take]
 rw[hc,cF,hsl,bs]
 have hrow:∀(v:Nat) (hv:v<w.dropLast.length),idx (w.dropLast.map tx) (v:Int)=some (tx w.dropLast[v]):=λv hv=>by
  rw[AS (by rw[List.length_map];omega)]
  simp
 have hml:(w.dropLast.map tx).length=w.dropLast.length:=List.length_map _
 refine(Db (w.dropLast) (λs i=>(i,s)) (λx=>BP x x.length) (by omega) (λt i hi _=> ?_) (λt=> ?_)).trans ?_
 ·simp only[hml,dlt hi,cT,hrow i hi,bs]
  have hb:(byt (tx w.dropLast[i])).length≤1048576:=by
   have:=hpt _ (DG (List.getElem_mem hi));rw[Bf];omega
  refine(line_loop hb (λl k hk=> ?_) (λl=> ?_)).trans ?_
  ·simp only[A8,dlt hk,cT]
  ·simp only[A8,Bb,cF]
  ·rw[Bf,wq i]
 ·simp only[hml,Bb,cF]
 ·have hsh:Sh2 (Bv w.dropLast):=rows_sh (by omega) (λx hx=>by have:=hpt x (DG hx);omega)
  rw[show (w.dropLast.map λx=>BP x x.length)=Bv w.dropLast from rfl]
  rw[Cg _ hsh,bs]
  cases hb:gB (Bv w.dropLast)
  ·rw[if_neg (λh=>by cases h.1)];rfl
  ·rw[Bool.not_true,cF,C6 ((Ci _).1 hb),bs,bs,BN,Bf]
   by_cases he:rtx (Bv w.dropLast)=byt s
   ·rw[decide_eq_true he,if_pos ⟨rfl,he⟩];rfl
   ·rw[decide_eq_false he,if_neg (λh=>he h.2)];rfl
theorem spl_lines :∀{L:List (List UInt8)},(∀x∈L,(10:UInt8)∉x)→spl 10 (L.flatMap λx=>x++[10])=L++[[]]
 |[],_=>rfl
 |x::L,h=>by
  rw[List.flatMap_cons,List.append_assoc,List.singleton_append,Dr (h x (by simp)),spl_lines (λz hz=>h z (by simp[hz]))]
  rfl
theorem ones_lnx {g:LL}(hg:GOk g){v:Nat}(hv:v<g.length):BP (lnx g v) (lnx g v).length=row g v:=by
 have hl:(lnx g v).length=g.length:=by simp[lnx]
 have hat:∀u:Nat,u<g.length→((lnx g v).getD u 0==49)=decide ((u:Int)∈row g v):=λu hu=>by
  rw[Ba (by rw[hl];exact hu)]
  simp only[lnx,List.getElem_map,List.getElem_range]
  by_cases hm:(u:Int)∈row g v
  ·simp[hm]
  ·simp[hm]
 refine Inc.ext ?_ (hg.rows v hv).1 (λx=> ?_)
 ·unfold BP Inc
  rw[List.pairwise_map]
  exact(List.pairwise_lt_range.filter _).imp fun{a b} h=>by show (a:Int)<(b:Int);omega
 ·unfold BP
  rw[List.mem_map]
  constructor
  ·rintro⟨u,hu,rfl⟩
   obtain⟨h1,h2⟩:=List.mem_filter.1 hu
   rw[List.mem_range,hl] at h1
   rw[hat u h1] at h2
   exact of_decide_eq_true h2
  ·intro hx
   obtain⟨u,rfl,hu,ha⟩:=hg.mem hv hx
   exact⟨u,List.mem_filter.2 ⟨List.mem_range.2 (by rw[hl];exact hu),by rw[hat u hu];exact decide_eq_true hx⟩,rfl⟩
theorem trw_rtx {g:LL}(hg:GOk g):trw (rtx g)=(g,true):=by
 have hL:rtx g=((List.range g.length).map (lnx g)).flatMap λx=>x++[10]:=by
  rw[rtx,List.flatMap_map]
 have hno:∀x∈(List.range g.length).map (lnx g),(10:UInt8)∉x:=by
  intro x hx hm
  obtain⟨v,_,rfl⟩:=List.mem_map.1 hx
  obtain⟨u,_,e⟩:=List.mem_map.1 hm
  split at e
  ·exact absurd e (by decide)
  ·exact absurd e (by decide)
 have hd:(spl 10 (rtx g)).dropLast=(List.range g.length).map (lnx g):=by
  rw[hL,spl_lines hno,List.dropLast_concat]
 have hr:Bv (spl 10 (rtx g)).dropLast=g:=by
  rw[hd]
  unfold Bv
  rw[List.map_map]
  apply List.ext_getElem
  ·simp
  ·intro v h1 h2
   simp only[List.getElem_map,List.getElem_range,Function.comp]
   rw[ones_lnx hg h2,C8 h2]
 unfold trw
 have:=rtx_len hg
 rw[hr,if_pos ⟨by omega,Eb hg,rfl⟩]
end Go.Sx

namespace Go.Sx
open Go
theorem sOf_len (l:LI):(byt (sOf l)).length=l.length:=by
 show ((l.map λn=>UInt8.ofNat n.toNat).toArray.toList).length=_
 simp
theorem sBy_byt (s:ByteArray):(sBy s).length=(byt s).length:=by unfold sBy;rw[List.length_map]
theorem De {xs:LI}{i j:Int}(h0:0≤i)(h1:i≤j)(h2:j≤xs.length):∃ys,Bh xs i j=some ys∧ys.length=(j-i).toNat:=by
 unfold Bh
 rw[if_pos ⟨h0,h1,h2⟩]
 exact⟨_,rfl,by simp;omega⟩
theorem strAt_ex {s:ByteArray}{i:Int}(h0:0≤i)(h1:i<(byt s).length):∃y,Bn s i=some y:=by
 obtain⟨k,rfl⟩:∃k:Nat,i=k:=⟨i.toNat,by omega⟩
 exact⟨_,Cj (by omega)⟩
theorem Bend_dw {b:LI}{i:Int}(h:DK b i)(z:Int){s x:ByteArray}(hs:(byt s).length≤1000000)(hx:1≤(byt x).length)(hx2:(byt x).length≤1000):
  Dw b (λr:ByteArray=>(byt r).length≤1000010) (D.T b i z s x):=by
 unfold D.T bytesD
 rw[if_pos (by rw[A8];omega),bs,A8]
 refine(Bu h z 3 (by omega)).then λn i1 z1 hn hk=> ?_
 dsimp only at hn ⊢
 refine BT (λt=>t.1.length+(t.2.1).toNat≤1000010∧0≤t.2.1∧t.2.1≤2∧t.2.2.1=b∧DK b t.2.2.2.1) (λt=>t.2.1.toNat) (λr=>r.1.length≤1000010∧r.2.1=b∧DK b r.2.2.1) ?_ ⟨by dsimp only;rw[sBy_byt];omega,by dsimp only;omega,by dsimp only;omega,rfl,hk⟩ (λr hr=> ?_)
 ·rintro⟨l,m,b',i',z'⟩ ⟨h1,h2,h3,rfl,hk'⟩
  dsimp only at h1 h2 h3 hk' ⊢
  by_cases hc:((decide ((0:Int)<m))&&(decide ((0:Int)<(l.length:Int))))=true
  ·rw[hc,cT]
   simp only[Bool.and_eq_true,decide_eq_true_eq] at hc
   refine(Bu hk' z' (l.length:Int) hc.2).then λk i2 z2 hkk hk2=> ?_
   dsimp only at hkk ⊢
   refine(Bu hk2 z2 4 (by omega)).then λc i3 z3 hcc hk3=> ?_
   dsimp only at hcc ⊢
   have hm1:IntKind.i64.wrap (m-1)=m-1:=w64 (by omega) (by omega)
   rw[hm1]
   have fin:∀(l':LI) (i4 z4:Int),l'.length≤l.length+1→DK b' i4→∃y,(some (.inl (l',m-1,b',i4,z4)):Option ((LI×Int×LI×Int×Int) ⊕ (LI×LI×Int×Int)))=some y∧Stp (λt:LI×Int×LI×Int×Int=>t.1.length+(t.2.1).toNat≤1000010∧0≤t.2.1∧t.2.1≤2∧t.2.2.1=b'∧DK b' t.2.2.2.1) (λt=>t.2.1.toNat) (λr:LI×LI×Int×Int=>r.1.length≤1000010∧r.2.1=b'∧DK b' r.2.2.1) (l,m,b',i',z') y:=
    λl' i4 z4 hl' hk4=>⟨_,rfl,⟨by dsimp only;omega,by dsimp only;omega,by dsimp only;omega,rfl,hk4⟩,by dsimp only;omega⟩
   cases c==0
   ·rw[cF]
    cases c==1
    ·rw[cF]
     obtain⟨a1,e1,n1⟩:=De (xs:=l) (i:=0) (j:=k) (by omega) hkk.1 (by omega)
     cases c==2
     ·rw[cF]
      cases c==3
      ·rw[cF]
       exact fin l _ _ (by omega) hk3
      ·rw[cT]
       obtain⟨a2,e2,n2⟩:=De (xs:=l) (i:=k) (j:=(l.length:Int)) hkk.1 (by omega) (by omega)
       rw[e1,bs,e2,bs,AW (by simp;omega),bs,List.nil_append]
       obtain⟨⟨q,b4,i4,z4⟩,e4,hq,rfl,hk4⟩:=Bu hk3 z3 ((byt x).length:Int) (by omega)
       dsimp only at hq hk4
       obtain⟨y,ey⟩:=strAt_ex (s:=x) hq.1 hq.2
       rw[e4,bs]
       dsimp only
       rw[ey,bs,AW (by simp;omega),bs,AW (by simp;omega),bs,bs]
       exact fin _ _ _ (by simp;omega) hk4
     ·rw[cT]
      obtain⟨a2,e2,n2⟩:=De (xs:=l) (i:=k+1) (j:=(l.length:Int)) (by omega) (by omega) (by omega)
      rw[e1,bs,w64 (x:=k+1) (by omega) (by omega),e2,bs,AW (by simp;omega),bs,List.nil_append,AW (by omega),bs,bs]
      exact fin _ _ _ (by simp;omega) hk3
    ·rw[cT]
     obtain⟨a1,e1,n1⟩:=De (xs:=l) (i:=0) (j:=k) (by omega) hkk.1 (by omega)
     rw[e1,bs]
     exact fin _ _ _ (by omega) hk3
   ·rw[cT]
    refine(Bu hk3 z3 ((byt x).length:Int) (by omega)).then λq i4 z4 hq hk4=> ?_
    dsimp only at hq ⊢
    obtain⟨y,ey⟩:=strAt_ex (s:=x) hq.1 hq.2
    rw[ey,bs,Dx hkk.1 hkk.2,bs]
    exact fin _ _ _ (by simp) hk4
  ·rw[Bool.not_eq_true] at hc
   rw[hc,cF]
   exact⟨_,rfl,by dsimp only;omega,rfl,hk'⟩
 ·obtain⟨l,b',i',z'⟩:=r
  obtain⟨h1,rfl,hk'⟩:=hr
  dsimp only at h1 hk' ⊢
  exact⟨_,rfl,by rw[sOf_len];exact h1,rfl,hk'⟩
theorem Ew (code:LI)(h:∀x∈code,0≤x∧x≤255)(hl:code.length≤4096):∃y,D.j0 code=some y∧Few y:=by
 unfold D.j0
 obtain⟨z,e,hk⟩:=new_ok code h hl
 rw[e,bs]
 exact(DL hk z).then λg i1 z1 hg hk=>⟨_,rfl,hg⟩
theorem ite_len {b:Bool}{x:List UInt8}{n:Nat}(h:b=true→x.length≤n):(byt (if b=true then tx x else tx [])).length≤n:=by
 cases b
 ·simp
 ·exact h rfl
theorem Et (code:LI)(h:∀x∈code,0≤x∧x≤255)(hl:code.length≤4096):∃y,D.v0 code=some y∧(byt y).length≤1048576:=by
 unfold D.v0
 obtain⟨z,e,hk⟩:=new_ok code h hl
 rw[e,bs]
 refine(DL hk z).then λg i1 z1 hg hk=> ?_
 dsimp only
 have hlen:(byt (if gB g=true then tx (txg g) else tx [])).length≤723:=ite_len λhb=>txg_len ((Ci g).1 hb)
 rw[CR hg.sh2,bs]
 refine(Do hk z1 2).then λt i2 z2 _ hk=> ?_
 dsimp only
 cases t
 ·rw[cF]
  exact(Bend_dw hk z2 (by omega) (by simp) (by simp)).then λr i3 z3 hr hk=>⟨_,rfl,by dsimp only;omega⟩
 ·exact⟨_,rfl,by omega⟩
theorem EA (code:LI)(h:∀x∈code,0≤x∧x≤255)(hl:code.length≤4096):∃y,D.f0 code=some y∧(byt y).length≤1048576:=by
 unfold D.f0
 obtain⟨z,e,hk⟩:=new_ok code h hl
 rw[e,bs]
 refine(DL hk z).then λg i1 z1 hg hk=> ?_
 dsimp only
 have hlen:(byt (if gB g=true then tx (rtx g) else tx [])).length≤272:=ite_len λhb=>rtx_len ((Ci g).1 hb)
 rw[CB hg.sh2,bs]
 refine(Do hk z1 2).then λt i2 z2 _ hk=> ?_
 dsimp only
 cases t
 ·rw[cF]
  exact(Bend_dw hk z2 (by omega) (by simp) (by simp)).then λr i3 z3 hr hk=>⟨_,rfl,by dsimp only;omega⟩
 ·exact⟨_,rfl,by omega⟩
theorem trw_ok {s:List UInt8}:trw s=([],false)∨∃g,trw s=(g,true)∧gB g=true∧rtx g=s:=by
 unfold trw
 split
 ·rename_i h;exact .inr ⟨_,rfl,h.2.1,h.2.2⟩
 ·exact .inl rfl
theorem Ek (code:LI)(hb:∀x∈code,0≤x∧x≤255):D.C0 code=some true:=by
 unfold D.C0 D.A0
 simp only[bs]
 by_cases hl:(4096:Int)<code.length
 ·simp only[hl,decide_true,cT]
 simp only[hl,decide_false,cF]
 obtain⟨g,e1,hF⟩:=Ew code hb (by omega)
 obtain⟨t,e2,ht⟩:=Et code hb (by omega)
 obtain⟨u,e3,hu⟩:=EA code hb (by omega)
 have hsh:=hF.sh2
 obtain⟨r,t1,t2,t3⟩:=TextGraph_both ht
 simp only[e1,e2,e3,bs,CX hsh,CR hsh,C2 hsh,CB hsh,BN,decide_true,Bool.not_true,cF,t1,t2,C5 hu,Eu hu,beq_self_eq_true,cT,Bool.and_true]
 have k1:(cond (!r.2) (some true) ((D.M r.1).bind λy=>some (decide (byt y=byt t))))=some true:=by
  rcases t3 with rfl|⟨x,rfl,hx,ex⟩
  ·rfl
  ·have hxs:=hx.sh2
   simp[CX hxs,Eb hx,ex]
 have k2:(cond (!(trw (byt u)).2) (some true) ((D.J (trw (byt u)).1).bind λy=>some (decide (byt y=byt u))))=some true:=by
  rcases trw_ok (s:=byt u) with h|⟨x,h,hx,ex⟩
  ·rw[h];rfl
  ·have hxs:=((Ci x).1 hx).sh2
   rw[h]
   simp[C2 hxs,hx,ex]
 simp only[k1,bs,cT,k2]
 cases hg:gB g
 ·simp
 ·have hgo:=(Ci g).1 hg
  have hn:(byt (tx (txg g)))≠byt ⟨#[]⟩:=by
   show txg g≠[]
   simp[txg]
  have hr:D.L (tx (rtx g))=some (g,true):=by
   rw[C5 (by rw[Bf];have:=rtx_len hgo;omega),Bf,trw_rtx hgo]
  simp[hn,CS hgo,hr,SameGraph_self hgo]
end Go.Sx
