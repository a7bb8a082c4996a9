/- Parts of the proof: Zg, Zh, Zi. -/
import Derived.Test.YtkffjeaefgfnnaaGreatDoorWi6
set_option linter.unusedVariables false
set_option linter.unusedSimpArgs false
set_option linter.unusedSectionVars false
namespace Go.Sx
noncomputable def ow (F:List Int):Int→List Int→Int
 |_,[]=>0
 |m,v::r=>max ((Al (bh F m v)).length:Int) (ow F (ior .u32 m (ishl .u32 1 v)) r)
theorem Fm (F:List Int):∀(r:List Int) (m:Int),0≤ow F m r
 |[],_=>by unfold ow;omega
 |v::r,m=>by unfold ow;omega
theorem wd_le_ow {F:List Int}{n:Nat}(hn:n≤16)(hF:FOk F n):∀(k:Nat) (m:Int) (r:List Int),GS n m k→r.length=k→r.Nodup→(∀x∈r,∃v:Nat,x=v∧v<n∧has m v=false)→wd F n k m≤ow F m r
 |0,m,r,_,_,_,_=>by unfold wd;exact Fm F r m
 |k+1,m,[],_,h,_,_=>by simp at h
 |k+1,m,x::r,hm,hl,hnd,hr=>by
  obtain⟨v,rfl,hv,hmv⟩:=hr x (by simp)
  rw[List.nodup_cons] at hnd
  have ih:=wd_le_ow hn hF k (ior .u32 m (ishl .u32 1 (v:Int))) r (hm.add hn hv hmv) (by simpa using hl) hnd.2 (fun y hy=>by
   obtain⟨u,rfl,hu,hmu⟩:=hr y (List.mem_cons_of_mem _ hy)
   refine⟨u,rfl,hu,?_⟩
   rw[Du hm.vs (by omega),hmu]
   have:u≠v:=fun e=>hnd.1 (by rw[←e];exact hy)
   simp[this])
  have h1:wd F n (k+1) m≤wv F (wd F n k) m (v:Int):=by
   unfold wd
   exact(CJ (wv F (wd F n k) m) _ 16).2.1 _ ((CW hn hm.vs).2 ⟨v,rfl,hv,hmv⟩)
  have h2:wv F (wd F n k) m (v:Int)≤ow F m ((v:Int)::r):=by
   rw[wv_le];unfold ow;omega
  omega
theorem ow_bo {F:List Int}{n:Nat}{most:Int}(hn:n≤16)(hF:FOk F n)(h0:0≤most):∀(k:Nat) (m:Int),GS n m k→wd F n k m≤most→ow F m (bo F n most k m)≤most
 |0,m,_,_=>by rw[bo];exact h0
 |k+1,m,hm,hw=>by
  obtain⟨v,_,hv,hmv,hwv,hg,hw',e⟩:=EM hn hF hm hw
  rw[e]
  unfold ow
  have h1:=ow_bo hn hF h0 k _ hg hw'
  have h2:=(wv_le.1 hwv).1
  omega
theorem best_ow {g:List (List Int)}(hg:GOk g):ow (g.map mk) 0 (bo (g.map mk) g.length (wd (g.map mk) g.length g.length 0) g.length 0)=wd (g.map mk) g.length g.length 0:=by
 have h16:=hg.n16
 have hF:=FOk.of hg
 obtain⟨h1,h2,h3⟩:=bo_ok h16 hF g.length 0 (GS.zero h16) (Int.le_refl _)
 have:=wd_le_ow h16 hF g.length 0 _ (GS.zero h16) h1 h2 h3
 have:=ow_bo h16 hF (Fq _ _ _ _) g.length 0 (GS.zero h16) (Int.le_refl _)
 omega
theorem order_ow {g:List (List Int)}(hg:GOk g){o:List Int}(ho:OOk g o):wd (g.map mk) g.length g.length 0≤ow (g.map mk) 0 o:=
 wd_le_ow hg.n16 (FOk.of hg) g.length 0 o (GS.zero hg.n16) ho.len ho.nd (fun x hx=>by
  have:=ho.rng x hx
  exact⟨x.toNat,by omega,by omega,BQ _⟩)
section
variable {g : List (List Int)} {o F L : List Int} (hg : GOk g) (ho : OOk g o) (hF : Fill g o F L)
include hg ho hF
theorem later_bh {j:Nat}(hj:j<o.length):L.getD o[j].toNat 0=bh (g.map mk) (mk (o.take j)) o[j]:=by
 have h16:=hg.n16
 have hr:=ho.rng _ (List.getElem_mem hj)
 obtain⟨v,hv⟩:∃v:Nat,o[j]=(v:Int):=⟨o[j].toNat,by omega⟩
 have hvn:v<g.length:=by omega
 rw[hv,Int.toNat_natCast]
 obtain⟨_,h1,h2⟩:=EE h16 (FOk.of hg) (VS.mk (o.take j)) hvn
 refine(hF.vsL v hvn).ext h1 (fun w _=> ?_)
 rw[Bool.eq_iff_iff]
 show nb L v w=true↔_
 rw[hF.latb j v (by rw[List.getElem?_eq_getElem hj,hv]) w,h2 w]
 have e:(fun x=>has (mk (o.take j)) x=true)=(fun x:Nat=>(x:Int)∈o.take j):=by
  funext x;rw[has_take hg ho j x];simp
 rw[e,has_take hg ho j w,List.take_succ_eq_append_getElem hj,hv]
 simp only[List.mem_append,List.mem_singleton,not_or,decide_eq_false_iff_not]
 constructor
 ·rintro⟨⟨h3,h4⟩,h5⟩
  exact⟨h5,h3,fun e=>h4 (by rw[e])⟩
 ·rintro⟨h5,h3,h4⟩
  exact⟨⟨h3,fun e=>h4 (by omega)⟩,h5⟩
theorem ow_iff (b:Int)(hb:0≤b):∀d i,i+d=o.length→(ow (g.map mk) (mk (o.take i)) (o.drop i)≤b↔∀j,i≤j→∀h:j<o.length,((Al (L.getD o[j].toNat 0)).length:Int)≤b)
 |0,i,hi=>by
  obtain rfl:i=o.length:=by omega
  rw[List.drop_length]
  unfold ow
  exact⟨fun _ j h1 h2=>by omega,fun _=>hb⟩
 |d+1,i,hi=>by
  have hil:i<o.length:=by omega
  have ih:=ow_iff b hb d (i+1) (by omega)
  rw[List.drop_eq_getElem_cons hil]
  unfold ow
  rw[mk_take hil,←later_bh hg ho hF hil]
  constructor
  ·intro h j h1 h2
   by_cases he:i=j
   ·subst he;omega
   ·exact(ih.1 (by omega)) j (by omega) h2
  ·intro h
   have h1:=h i (Nat.le_refl _) hil
   have h2:=ih.2 (fun j h1 h2=>h j (by omega) h2)
   omega
theorem ow_bound {b:Int}(hb:0≤b):ow (g.map mk) 0 o≤b↔∀v,v<g.length→((Al (L.getD v 0)).length:Int)≤b:=by
 have h:=ow_iff hg ho hF b hb o.length 0 (by omega)
 rw[List.take_zero,List.drop_zero] at h
 have e0:mk ([]:List Int)=0:=rfl
 rw[e0] at h
 rw[h]
 constructor
 ·intro h v hv
  obtain⟨i,hi,e⟩:=C8 ho hv
  obtain⟨hi',e'⟩:=List.getElem?_eq_some_iff.1 e
  have:=h i (by omega) hi'
  rwa [e',Int.toNat_natCast] at this
 ·intro h j _ hj
  have:=ho.rng _ (List.getElem_mem hj)
  exact h _ (by omega)
end
theorem Fx (f:Int→Int):∀(l:List Int) (b c:Int),(l.foldl (fun s x=>if s<f x then f x else s) b≤c↔b≤c∧∀x∈l,f x≤c)
 |[],b,c=>by simp
 |x::l,b,c=>by
  rw[List.foldl_cons,Fx f l]
  simp only[List.mem_cons,forall_eq_or_imp]
  rw[←and_assoc]
  refine and_congr_left (fun _=> ?_)
  split<;>omega
theorem maxsz_le {L:List Int}{c:Int}(hc:0≤c):DO L≤c↔∀v,v<L.length→((Al (L.getD v 0)).length:Int)≤c:=by
 unfold DO
 rw[Fx (fun x=>((Al x).length:Int))]
 constructor
 ·rintro⟨_,h⟩ v hv
  have:=h _ (List.getElem_mem hv)
  rwa [←Ay hv 0] at this
 ·intro h
  refine⟨hc,fun x hx=> ?_⟩
  obtain⟨i,hi,rfl⟩:=List.getElem_of_mem hx
  have:=h i hi
  rwa [Ay hi] at this
theorem maxsz_ow {g:List (List Int)}{o F L:List Int}(hg:GOk g)(ho:OOk g o)(hF:Fill g o F L):DO L=ow (g.map mk) 0 o:=by
 have h1:=Fm (g.map mk) o 0
 have h2:=Fs L
 have a:=(ow_bound hg ho hF h2).2 (fun v hv=>(maxsz_le h2).1 (Int.le_refl _) v (by rw[hF.lenL];exact hv))
 have b:=(maxsz_le h1).2 (fun v hv=>(ow_bound hg ho hF h1).1 (Int.le_refl _) v (by rw[←hF.lenL];exact hv))
 omega
theorem DV {g:List (List Int)}{o F L:List Int}(hg:GOk g)(ho:OOk g o)(hF:Fill g o F L):D.b0 g o=some (ow (g.map mk) 0 o):=by
 have h16:=hg.n16;have hl:=hF.lenL
 unfold D.b0
 rw[EI g o hg.sh2 (ho.sh hg),ES hg,(ordB_iff g o).2 ho,Option.bind_some,Bool.and_self,Bool.not_true,cond_false,l7Later_eq hg ho hF,Option.bind_some,←maxsz_ow hg ho hF]
 have hll:(L.map Al).length=L.length:=by simp
 refine(D9 L (fun s i=>(s,i)) (fun s x=>if s<((Al x).length:Int) then((Al x).length:Int) else s) (fun s=>s) (fun _=>True) 0 trivial (fun s i hi _=>⟨?_,trivial⟩) (fun s _=> ?_)).trans rfl
 ·have hi':i<(L.map Al).length:=by rw[hll];exact hi
  dsimp only
  rw[dlt hi',cond_true,Au hi',Option.bind_some,Eu,Option.bind_some,List.getElem_map,wi (show i<4611686018427387904 by omega),Int.max_def]
  congr 3
  split<;>split<;>omega
 ·dsimp only
  rw[hll,A4,cond_false]
open Classical in
theorem best_bags {g:List (List Int)}{o:List Int}(hg:GOk g)(ho:OOk g o):∃A K B' K':List (List Int),D.u1 g o=some (A,K,true)∧D.M (g.map mk) o=some (A,K)∧D.H1 g A K=some (B',K',true)∧D.i0 A K=some (B',K')∧
  TB g B' K'∧Sh2 B'∧Sh2 K'∧tot B'≤4294967296∧tot K'≤4294967296∧∃M',B'=M'.map Al∧Kept g (A.map mk) M' K':=by
 obtain⟨F,L,hF⟩:=fill_ex hg ho
 have hT:=DecompBy_TB hg ho hF
 have e1:=Et hg ho hF
 have e2:=F2 hg ho hF
 unfold D.K1 at e2
 rw[Dg hg ho,Option.bind_some,Bool.not_true,cond_false,C5 g hg,Option.bind_some,FG o (ho.sh hg),Option.bind_some,Option.bind_eq_some_iff] at e2
 obtain⟨y,e2,e3⟩:=e2
 generalize (List.range o.length).map (By o L)=A at*
 generalize (List.range (o.length-1)).map (Co o L)=K at*
 have ey:y=(A,K):=by
  obtain⟨y1,y2⟩:=y
  have:=Option.some.inj e3
  simp only[Prod.mk.injEq] at this ⊢
  exact⟨this.1,this.2.1⟩
 subst ey
 obtain⟨s2,s3⟩:=hT.sh hg
 obtain⟨B',K',f1,f2,f3,k1,k2,k3,k4,M',h1,h2,h3,h4⟩:=tidied_both hg hT
 have t1:=tot_le (xs:=B') (n:=32) (fun x hx=>by have:=k2 x hx;omega)
 have t2:=tot_le (xs:=K') (n:=2) (fun x hx=>by have:=k4 x hx;omega)
 have hTB:TB g B' K':=by rw[h1];exact h4.tb
 refine⟨A,K,B',K',e1,e2,?_,f2,hTB,(hTB.sh hg).1,(hTB.sh hg).2,by omega,by omega,M',h1,h4⟩
 unfold D.H1
 rw[Ew hg s2 s3,decide_eq_true hT,Option.bind_some,Bool.not_true,cond_false,f1,Option.bind_some,f3];rfl
end Go.Sx

namespace Go.Sx
theorem CK {g:List (List Int)}(h:Sh2 g):D.t g=some (gB g&&decide (g.length≤10)):=by
 unfold D.t
 rw[DE g h,Option.bind_some]
 have e:decide ((g.length:Int)≤10)=decide (g.length≤10):=by rw[decide_eq_decide];omega
 rw[e]
theorem BestDecomp_ok {g:List (List Int)}(hg:GOk g)(hn:g.length≤10):∃A K B' K':List (List Int),D.Z1 g=some (B',K',true)∧D.m0 g=some (B',K',true)∧
  D.u1 g (bo (g.map mk) g.length (wd (g.map mk) g.length g.length 0) g.length 0)=some (A,K,true)∧TB g B' K'∧Sh2 B'∧Sh2 K'∧tot B'≤4294967296∧tot K'≤4294967296∧∃M',B'=M'.map Al∧Kept g (A.map mk) M' K':=by
 obtain⟨A,K,B',K',e1,e2,e3,e4,h⟩:=best_bags hg (bo_order hg)
 refine⟨A,K,B',K',?_,?_,e1,h⟩
 ·unfold D.Z1
  rw[Ez hg.sh2,(CU g).2 hg,decide_eq_true hn,Bool.true_and,Option.bind_some,Bool.not_true,cond_false,D5 hg hn hg.sh2,Option.bind_some,e1,Option.bind_some]
  dsimp only
  rw[Option.bind_some,e3];rfl
 ·unfold D.m0
  rw[CK hg.sh2,(CU g).2 hg,decide_eq_true hn,Bool.true_and,Option.bind_some,Bool.not_true,cond_false,C5 g hg,Option.bind_some,Fy hg.n16 (FOk.of hg),Option.bind_some,e2,Option.bind_some]
  dsimp only
  rw[e4];rfl
end Go.Sx

namespace Go.Sx
theorem into_len_new {xs:List Int}{n:Int}(h:n∉xs):(into xs n).length=xs.length+1:=by
 unfold into
 rw[if_neg h,List.length_append,List.length_cons]
 have:=congrArg List.length (List.takeWhile_append_dropWhile (p:=fun x=>decide (x<n)) (l:=xs))
 rw[List.length_append] at this
 omega
def wB (B:List (List Int)):Int:=B.foldl (fun s b=>if s<(b.length:Int)-1 then(b.length:Int)-1 else s) (-1)
theorem DZ {α:Type}(f:α→Int):∀(l:List α) (b c:Int),(l.foldl (fun s x=>if s<f x then f x else s) b≤c↔b≤c∧∀x∈l,f x≤c)
 |[],b,c=>by simp
 |x::l,b,c=>by
  rw[List.foldl_cons,DZ f l]
  simp only[List.mem_cons,forall_eq_or_imp]
  rw[←and_assoc]
  refine and_congr_left (fun _=> ?_)
  split<;>omega
theorem wB_le {B:List (List Int)}{c:Int}(hc: -1≤c):wB B≤c↔∀b∈B,(b.length:Int)-1≤c:=by
 unfold wB
 rw[DZ (fun b:List Int=>(b.length:Int)-1)]
 exact⟨fun h=>h.2,fun h=>⟨hc,h⟩⟩
theorem wB_ge (B:List (List Int)): -1≤wB B:=by
 have h:=(DZ (fun b:List Int=>(b.length:Int)-1) B (-1) (wB B)).1 (Int.le_refl _)
 exact h.1
theorem Ga {B:List (List Int)}(K:List (List Int))(h:B.length≤16)(hb:∀b∈B,b.length≤4294967296):D.F0 B K=some (wB B):=by
 unfold D.F0
 have hc:decide ((B.length:Int)≤16)=true:=by simp;omega
 refine(D9 B (fun s i=>(s,i)) (fun s b=>if s<(b.length:Int)-1 then(b.length:Int)-1 else s) (fun s=>s) (fun _=>True) (-1) trivial (fun s i hi _=>⟨?_,trivial⟩) (fun s _=> ?_)).trans rfl
 ·have hbl:=hb _ (List.getElem_mem hi)
  dsimp only
  rw[dlt hi,hc,Bool.and_self,cond_true,Au hi,Option.bind_some,Eu,Option.bind_some,w64 (by omega) (by omega),wi (show i<4611686018427387904 by omega),Int.max_def]
  congr 3
  split<;>split<;>omega
 ·dsimp only
  rw[A4,Bool.false_and,cond_false]
theorem wB_order {g:List (List Int)}{o F L:List Int}(hg:GOk g)(ho:OOk g o)(hF:Fill g o F L):wB ((List.range o.length).map (By o L))=ow (g.map mk) 0 o:=by
 have h16:=hg.n16;have hl:=ho.len;have hn1:=hg.n1
 have hlen:∀i (hi:i<o.length),((By o L i).length:Int)-1=((Al (L.getD o[i].toNat 0)).length:Int):=fun i hi=>by
  have hr:=ho.rng _ (List.getElem_mem hi)
  obtain⟨v,hv⟩:∃v:Nat,o[i]=(v:Int):=⟨o[i].toNat,by omega⟩
  have hni:(v:Int)∉Al (L.getD v 0):=fun hc=>by
   rw[AZ (hF.vsL v (by omega))] at hc
   have:=((hF.latb i v (by rw[List.getElem?_eq_getElem hi,hv]) v).1 hc).1
   rw[List.take_succ_eq_append_getElem hi,hv] at this
   simp at this
  unfold By
  rw[Ay hi,hv,Int.toNat_natCast,into_len_new hni];omega
 have hle:∀c,0≤c→(wB ((List.range o.length).map (By o L))≤c↔ow (g.map mk) 0 o≤c):=fun c hc=>by
  rw[wB_le (by omega),ow_bound hg ho hF hc]
  constructor
  ·intro h v hv
   obtain⟨i,hi,e⟩:=C8 ho hv
   obtain⟨hi',e'⟩:=List.getElem?_eq_some_iff.1 e
   have h1:=h _ (List.mem_map.2 ⟨i,List.mem_range.2 hi',rfl⟩)
   rw[hlen i hi',e',Int.toNat_natCast] at h1
   exact h1
  ·intro h b hb
   obtain⟨i,hi,rfl⟩:=List.mem_map.1 hb
   have hi:=List.mem_range.1 hi
   have hr:=ho.rng _ (List.getElem_mem hi)
   rw[hlen i hi]
   exact h _ (by omega)
 have h0:=Fm (g.map mk) o 0
 have h1:=(hle _ h0).2 (Int.le_refl _)
 have h2:0≤wB ((List.range o.length).map (By o L)):=by
  have:=(wB_le (B:=(List.range o.length).map (By o L)) (wB_ge _)).1 (Int.le_refl _) _ (List.mem_map.2 ⟨0,List.mem_range.2 (by omega),rfl⟩)
  rw[hlen 0 (by omega)] at this
  omega
 have h3:=(hle _ h2).1 (Int.le_refl _)
 omega
theorem elems_sub_len {s t:Int}(hs:VS s)(ht:VS t)(h:∀v,has s v=true→has t v=true):(Al s).length≤(Al t).length:=by
 refine B4 ((Bv s).imp (fun h=>by omega)) (fun x hx=> ?_)
 obtain⟨v,hv,h1,rfl⟩:=mem_elems.1 hx
 exact(AZ ht).2 (h v h1)
theorem wB_kept {G:List (List Int)}{M0 M:List Int}{K:List (List Int)}(h:Kept G M0 M K)(v0:∀s∈M0,VS s):wB (M.map Al)=wB (M0.map Al):=by
 have a:wB (M.map Al)≤wB (M0.map Al):=(wB_le (wB_ge _)).2 (fun b hb=>by
  obtain⟨s,hs,rfl⟩:=List.mem_map.1 hb
  exact(wB_le (B:=M0.map Al) (wB_ge _)).1 (Int.le_refl _) _ (List.mem_map.2 ⟨s,h.old s hs,rfl⟩))
 have b:wB (M0.map Al)≤wB (M.map Al):=(wB_le (wB_ge _)).2 (fun b hb=>by
  obtain⟨s,hs,rfl⟩:=List.mem_map.1 hb
  obtain⟨t,ht,hst⟩:=h.sup s hs
  have:=(wB_le (B:=M.map Al) (wB_ge _)).1 (Int.le_refl _) _ (List.mem_map.2 ⟨t,ht,rfl⟩)
  have:=elems_sub_len (v0 s hs) (v0 t (h.old t ht)) hst
  omega)
 omega
theorem D6 {g:List (List Int)}(hg:GOk g)(hn:g.length≤10):D.S g=some (wd (g.map mk) g.length g.length 0):=by
 have hrf:=DA
 unfold D.S
 rw[CK hg.sh2,(CU g).2 hg,decide_eq_true hn,Bool.true_and,Option.bind_some,Bool.not_true,cond_false,C5 g hg,Option.bind_some,Dd hg.n16 (FOk.of hg) Bs g.length 0 (GS.zero hg.n16) (by omega)]
 rfl
theorem FN {g:List (List Int)}(hg:GOk g)(hn:g.length≤10):D.n0 g=some (wd (g.map mk) g.length g.length 0):=by
 unfold D.n0 D.V0
 rw[Ez hg.sh2,(CU g).2 hg,decide_eq_true hn,Bool.true_and,Option.bind_some,Bool.not_true,cond_false]
 unfold D.n1 D.a
 rw[Option.bind_some,Es [] _ (by simp[Sh]) (by omega) (by omega),Option.bind_some]
 have e:Cr [] (g.length:Int)=true:=by simp[Cr]
 rw[e,Bool.not_true,Option.bind_some,cond_false,Option.bind_some,CE (by omega) (by omega),Option.bind_some]
 obtain⟨T,eT,hT⟩:=Table_ok hn (g.map mk)
 obtain⟨T1,e1,hT1⟩:=From_ok hg hn (GS.zero hg.n16) hT
 rw[Be (r:=List.replicate g.length false) (by rfl),Option.bind_some,Option.bind_some,eT,Option.bind_some,mks_zero,e1];rfl
theorem EQ {g:List (List Int)}(hg:GOk g)(hn:g.length≤10)(k:Int):D.J g k=some (decide (wd (g.map mk) g.length g.length 0≤k)):=by
 unfold D.J
 rw[CK hg.sh2,(CU g).2 hg,decide_eq_true hn,Bool.true_and,Option.bind_some,cond_true,D6 hg hn];rfl
theorem BestOrder_ok {g:List (List Int)}(hg:GOk g)(hn:g.length≤10):D.G0 g=some (bo (g.map mk) g.length (wd (g.map mk) g.length g.length 0) g.length 0):=by
 unfold D.G0
 rw[CK hg.sh2,(CU g).2 hg,decide_eq_true hn,Bool.true_and,Option.bind_some,Bool.not_true,cond_false,C5 g hg,Option.bind_some,Fy hg.n16 (FOk.of hg),Option.bind_some,wide_eq _ ((bo_order hg).sh hg)];rfl
noncomputable def tf (F:List Int)(n:Nat):Nat→Int
 |0=>0
 |i+1=>if wv F (wd F n (n-1)) 0 (i:Int)=wd F n n 0 then ior .u32 (tf F n i) (ishl .u32 1 (i:Int)) else tf F n i
theorem tf_vs (F:List Int)(n:Nat):∀i,VS (tf F n i)
 |0=>VS.zero
 |i+1=>by unfold tf;split;exact VS.ior _ _;exact tf_vs F n i
theorem has_tf (F:List Int)(n:Nat):∀i,i≤16→∀v,has (tf F n i) v=true↔v<i∧wv F (wd F n (n-1)) 0 (v:Int)=wd F n n 0
 |0,_,v=>by simp[tf,BQ]
 |i+1,hi,v=>by
  have ih:=has_tf F n i (by omega) v
  unfold tf
  by_cases hc:wv F (wd F n (n-1)) 0 (i:Int)=wd F n n 0
  ·rw[if_pos hc,Du (tf_vs F n i) (by omega),Bool.or_eq_true,ih,decide_eq_true_eq]
   constructor
   ·rintro(⟨h1,h2⟩|rfl)
    ·exact⟨by omega,h2⟩
    ·exact⟨by omega,hc⟩
   ·rintro⟨h1,h2⟩
    by_cases e:v=i
    ·exact .inr e
    ·exact .inl ⟨by omega,h2⟩
  ·rw[if_neg hc,ih]
   constructor
   ·rintro⟨h1,h2⟩;exact⟨by omega,h2⟩
   ·rintro⟨h1,h2⟩
    refine⟨?_,h2⟩
    by_cases e:v=i
    ·subst e;exact absurd h2 hc
    ·omega
theorem Thinnest_ok {g:List (List Int)}(hg:GOk g)(hn:g.length≤10):D.z0 g=some (Al (tf (g.map mk) g.length g.length)):=by
 have hrf:=DA
 have h16:=hg.n16;have hn1:=hg.n1
 have hF:=FOk.of hg
 unfold D.z0
 rw[CK hg.sh2,(CU g).2 hg,decide_eq_true hn,Bool.true_and,Option.bind_some,Bool.not_true,cond_false,C5 g hg,Option.bind_some]
 obtain⟨n,hk⟩:∃n,g.length=n+1:=⟨g.length-1,by omega⟩
 refine(Bx (fun i=>(tf (g.map mk) g.length i,(i:Int))) g.length (tf (g.map mk) g.length g.length) rfl (fun i hi=> ?_) ?_).trans (DD _ (tf_vs _ _ _))
 ·unfold D.z1
  dsimp only
  rw[hF.len,dlt hi,cond_true]
  have e1:D.A (D.h Bs (g.map mk)) (g.map mk) 0 (i:Int)=some (wv (g.map mk) (wd (g.map mk) g.length (g.length-1)) 0 (i:Int)):=by
   refine wWith_ok h16 hF VS.zero hi (r:=wd (g.map mk) g.length (g.length-1)) (Dd h16 hF Bs _ _ ?_ (by omega))
   have:=GS.zero h16
   rw[hk] at this
   have:=this.add (by omega) (v:=i) (by omega) (BQ _)
   rw[hk];exact this
  rw[e1,Option.bind_some,Dd h16 hF Bs g.length 0 (GS.zero h16) (by omega),Option.bind_some]
  show _=some (Sum.inl (tf _ _ (i+1),_))
  rw[tf]
  by_cases hc:wv (g.map mk) (wd (g.map mk) g.length (g.length-1)) 0 (i:Int)=wd (g.map mk) g.length g.length 0
  ·rw[if_pos hc,beq_iff_eq.2 hc,cond_true,BH,Option.bind_some,wi (show i<4611686018427387904 by omega)]
  ·rw[if_neg hc,beq_eq_false_iff_ne.2 hc,cond_false,wi (show i<4611686018427387904 by omega)]
 ·unfold D.z1
  dsimp only
  rw[hF.len,A4,cond_false]
theorem first_same {g:List (List Int)}(hg:GOk g)(hn:g.length≤10):∃v r1 r2,Al (tf (g.map mk) g.length g.length)=v::r1∧bo (g.map mk) g.length (wd (g.map mk) g.length g.length 0) g.length 0=v::r2:=by
 have h16:=hg.n16;have hn1:=hg.n1
 have hF:=FOk.of hg
 obtain⟨n,hk⟩:∃n,g.length=n+1:=⟨g.length-1,by omega⟩
 generalize hm:wd (g.map mk) g.length g.length 0=most
 have hmem:∀v,has (tf (g.map mk) g.length g.length) v=true↔v<g.length∧wv (g.map mk) (wd (g.map mk) g.length n) 0 (v:Int)≤most:=fun v=>by
  rw[has_tf _ _ _ h16,hm,hk,Nat.add_sub_cancel,←hk]
  constructor
  ·rintro⟨h1,h2⟩;exact⟨h1,by omega⟩
  ·rintro⟨h1,h2⟩
   refine⟨h1,?_⟩
   have:=(CJ (wv (g.map mk) (wd (g.map mk) g.length n) 0) (Al (rm g.length 0)) 16).2.1 (v:Int) ((CW h16 VS.zero).2 ⟨v,rfl,h1,BQ _⟩)
   have e:wd (g.map mk) g.length (n+1) 0=most:=by rw[←hk];exact hm
   unfold wd at e
   omega
 have hgs:GS g.length 0 (n+1):=by have:=GS.zero h16;rw[hk] at this ⊢;exact this
 obtain⟨v,hf,hv,hmv,hwv,_,_,e⟩:=EM h16 hF hgs (most:=most) (by rw[←hm,←hk];exact Int.le_refl _)
 rw[hk] at e
 rw[show bo (g.map mk) g.length most g.length 0=bo (g.map mk) (n+1) most (n+1) 0 by rw[hk],e]
 have hin:(v:Int)∈Al (tf (g.map mk) g.length g.length):=(AZ (tf_vs _ _ _)).2 ((hmem v).2 ⟨hv,hwv⟩)
 cases hE:Al (tf (g.map mk) g.length g.length) with
 |nil=>rw[hE] at hin;simp at hin
 |cons u r1=>
  refine⟨u,r1,bo (g.map mk) (n+1) most n (ior .u32 0 (ishl .u32 1 (v:Int))),rfl,?_⟩
  have hu:u∈Al (tf (g.map mk) g.length g.length):=by rw[hE];simp
  obtain⟨u',hu32,hu1,rfl⟩:=mem_elems.1 hu
  obtain⟨h1,h2⟩:=(hmem u').1 hu1
  have hle:u'≤v:=by
   have hi:=Bv (tf (g.map mk) g.length g.length)
   rw[hE] at hi hin
   rcases List.mem_cons.1 hin with hh|hh
   ·omega
   ·have:=(List.pairwise_cons.1 hi).1 _ hh;omega
  have hge:¬u'<v:=fun hlt=>by
   obtain⟨_,a1,b1,e1,e2⟩:=List.find?_eq_some_iff_append.1 hf
   have hi:=Bv (rm g.length 0)
   rw[e1] at hi
   have hmm:(u':Int)∈a1++(v:Int)::b1:=by
    rw[←e1];exact(CW h16 VS.zero).2 ⟨u',rfl,h1,BQ _⟩
   unfold Inc at hi
   rw[List.pairwise_append] at hi
   rcases List.mem_append.1 hmm with hh|hh
   ·have:=e2 _ hh
    simp at this
    omega
   ·rcases List.mem_cons.1 hh with hh|hh
    ·omega
    ·have:=(List.pairwise_cons.1 hi.2.1).1 _ hh
     omega
  have:u'=v:=by omega
  rw[this]
open Classical in
theorem FnWidth_true (code:List Int)(hb:∀x∈code,0≤x∧x≤255):D.o1 code=some true:=by
 unfold D.o1 D.U0
 simp only[Option.bind_some]
 by_cases hl:(4096:Int)<code.length
 ·simp only[hl,decide_true,cond_true]
 ·simp only[hl,decide_false,cond_false]
  obtain⟨z,e1,k1⟩:=roll_ok code 809 hb (by omega)
  simp only[e1,Option.bind_some]
  obtain⟨⟨g,b,i,z2⟩,e2,hg,hg7,rfl,k2⟩:=w5Graph_ok k1 z 7 (by omega) (by omega)
  dsimp only at hg hg7 k2
  rw[show (((7:Nat):Nat):Int)=7 from rfl] at e2
  simp only[e2,Option.bind_some]
  obtain⟨⟨o,b2,i2,z3⟩,e3,h1,h2,h3,rfl,k3⟩:=w5Order_ok k2 z2 g.length hg.n16
  dsimp only at h1 h2 h3 k3
  simp only[e3,Option.bind_some]
  have ho:OOk g o:=⟨h1,h2,h3⟩
  have h16:=hg.n16
  have h10:g.length≤10:=by omega
  obtain⟨F,L,hF⟩:=fill_ex hg ho
  have hbo:=bo_order hg
  obtain⟨Fb,Lb,hFb⟩:=fill_ex hg hbo
  obtain⟨A,K,B',K',f1,f2,f3,hTB,s1,s2,t1,t2,M',hM,hK⟩:=BestDecomp_ok hg h10
  have hbest:=best_ow hg
  have hle:=order_ow hg ho
  have hdeg:=deg_le hg hbo hFb
  rw[maxsz_ow hg hbo hFb,hbest] at hdeg
  have h0:=Fq (g.map mk) g.length g.length 0
  have h16':=wd_le (g.map mk) g.length g.length 0
  have hA:A=(List.range (bo (g.map mk) g.length (wd (g.map mk) g.length g.length 0) g.length 0).length).map (By (bo (g.map mk) g.length (wd (g.map mk) g.length g.length 0) g.length 0) Lb):=by
   rw[Et hg hbo hFb] at f3
   have:=Option.some.inj f3
   simp only[Prod.mk.injEq] at this
   exact this.1.symm
  have hAe:(A.map mk).map Al=A:=by
   rw[List.map_map,hA,List.map_map]
   refine List.map_congr_left (fun i hi=> ?_)
   have hi:=List.mem_range.1 hi
   have hr:=hbo.rng _ (List.getElem_mem hi)
   have hl:=hbo.len
   obtain⟨v,hv⟩:∃v:Nat,(bo (g.map mk) g.length (wd (g.map mk) g.length g.length 0) g.length 0)[i]=(v:Int):=⟨_,(Int.toNat_of_nonneg hr.1).symm⟩
   show Al (mk (By _ _ i))=By _ _ i
   rw[←Fw hg hbo hFb hi hv (by omega),mk_elems (VS.ior _ _)]
  have hW:wB B'=wd (g.map mk) g.length g.length 0:=by
   rw[hM,wB_kept hK (fun s hs=>by obtain⟨b,_,rfl⟩:=List.mem_map.1 hs;exact VS.mk _),hAe,hA,wB_order hg hbo hFb,hbest]
  have hB16:B'.length≤16:=by
   have:=hK.len
   rw[hM]
   have hl:=hbo.len
   have:A.length≤16:=by rw[hA];simp;omega
   simp at*;omega
  obtain⟨v,r1,r2,c1,c2⟩:=first_same hg h10
  have hlen:=hbo.len
  rw[D6 hg h10,Option.bind_some,BestOrder_ok hg h10,Option.bind_some,f2,Option.bind_some,FN hg h10,Option.bind_some,bne_self_eq_false,cond_false,
   D5 hg h10 hg.sh2,Option.bind_some,likeInts_self _ (hbo.sh hg),Option.bind_some,Bool.not_true,Option.bind_some,cond_false,DV hg hbo hFb,Option.bind_some,hbest,bne_self_eq_false,Option.bind_some]
  dsimp only
  rw[Bool.or_self,cond_false,Ew hg s1 s2,decide_eq_true hTB,Option.bind_some,Bool.not_true,Option.bind_some,cond_false,Ga K' hB16 (fun b hb=>s1.2 b hb),Option.bind_some,hW,bne_self_eq_false,Option.bind_some,cond_false,
   Thinnest_ok hg h10,Option.bind_some,DV hg ho hF,Option.bind_some,decide_eq_true hle,cond_true,FC hg,Option.bind_some,decide_eq_true hdeg,Option.bind_some,cond_true,EQ hg h10,Option.bind_some,decide_eq_true (Int.le_refl _),Option.bind_some,cond_true,
   EQ hg h10,Option.bind_some,w64 (by omega) (by omega)]
  have e9:decide (wd (g.map mk) g.length g.length 0≤wd (g.map mk) g.length g.length 0-1)=false:=by simp;omega
  rw[e9,Bool.not_false,Option.bind_some,c1,c2]
  have e10:decide ((0:Int)<(((v::r1).length:Nat):Int))=true:=by simp
  rw[e10,Bool.and_self,cond_true]
  simp[idx]
end Go.Sx
