/- Parts. -/
import Derived.Test.YtljcmdbpfeffcaaGreatDoorTa5
import Derived.KernelRfl
set_option linter.unusedVariables false
set_option linter.unusedSimpArgs false
set_option linter.unusedSectionVars false
namespace Go.Sx
structure OOk (g:LL)(o:LI):Prop where
 len:o.length=g.length
 rng:∀x∈o,0≤x∧x<g.length
 nd:o.Nodup
def oB (g:LL)(o:LI):Bool:=(List.range o.length).all λi=>(decide (0≤o.getD i 0)&&decide (o.getD i 0≤(g.length:Int)-1))&& !decide (o.getD i 0∈o.take i)
theorem mem_take_iff {α:Type}{l:List α}{i:Nat}{x:α}:x∈l.take i↔∃j,∃h:j<l.length,j<i∧l[j]=x:=by
 rw[List.mem_take_iff_getElem]
 constructor
 ·rintro⟨j,h,e⟩;exact⟨j,by omega,by omega,e⟩
 ·rintro⟨j,h,h2,e⟩;exact⟨j,by omega,e⟩
theorem nodup_iff {l:LI}:l.Nodup↔∀i (hi:i<l.length),l[i]∉l.take i:=by
 constructor
 ·intro h i hi hm
  obtain⟨j,hj,hji,e⟩:=mem_take_iff.1 hm
  have:=(List.pairwise_iff_getElem.1 h) j i hj hi hji
  exact this e
 ·intro h
  refine List.pairwise_iff_getElem.2 (λi j hi hj hij e=>h j hj (mem_take_iff.2 ⟨i,hi,hij,e⟩))
theorem oB_iff (g:LL)(o:LI)(hl:o.length=g.length):oB g o=true↔OOk g o:=by
 unfold oB
 rw[Cg]
 constructor
 ·intro h
  refine⟨hl,λx hx=> ?_,nodup_iff.2 λi hi=> ?_⟩
  ·obtain⟨i,hi,rfl⟩:=List.getElem_of_mem hx
   have:=h i hi
   rw[AH hi] at this
   simp at this;omega
  ·have:=h i hi
   rw[AH hi] at this
   simp at this;exact this.2
 ·intro h i hi
  have h1:=h.rng _ (List.getElem_mem hi)
  have h2:=nodup_iff.1 h.nd i hi
  rw[AH hi]
  simp[h2];omega
def ordB (g:LL)(o:LI):Bool:=decide (o.length=g.length)&&oB g o
theorem ordB_iff (g:LL)(o:LI):ordB g o=true↔OOk g o:=by
 unfold ordB
 by_cases hl:o.length=g.length
 ·simp[hl,oB_iff g o hl]
 ·simp[hl];intro h;exact hl h.len
theorem Hq (g:LL)(o:LI)(h:Sh2 g)(ho:Sh o):D.j1 g o=some (gB g&&ordB g o):=by
 have hl:g.length≤4294967296:=h.1
 have hol:o.length≤4294967296:=ho
 unfold D.j1
 rw[CY g h,bs]
 cases hg:gB g
 ·rfl
 ·have hg':=(FY g).1 hg
  simp only[cT]
  unfold D.L1 D.d ordB
  simp only[bs]
  by_cases hl:o.length=g.length
  ·have e:((o.length:Int) !=(g.length:Int))=false:=by simp[hl]
   simp only[e,cF]
   simp only[Option.bind_fun_some,hl,decide_true,Bool.true_and]
   unfold oB
   rw[←hl]
   refine Do o.length _ false (λi hi=> ?_) ?_ rfl rfl
   ·have hsh:Sh (o.take i):=by unfold Sh;rw[List.length_take];omega
    simp only[dlt hi,cT,AC hi,bs,wi' hi (by omega),AH hi,←hl,D.z1,D.d,Eo,Ge (show i≤o.length by omega),Df _ _ hsh]
    rw[w64 (x:=(o.length:Int)-1) (by omega) (by omega)]
    cases (decide (0≤o[i])&&decide (o[i]≤(o.length:Int)-1))
    ·rfl
    ·cases decide (o[i]∈o.take i)<;>rfl
   ·simp only[Be,cF]
  ·have e:((o.length:Int) !=(g.length:Int))=true:=by simp;omega
   simp[e,hl]
theorem Cc (v:Nat):D.a (v:Int)=some (ishl .u32 1 (v:Int)):=by
 unfold D.a
 have:decide ((v:Int)<0)=false:=by simp
 rw[this];rfl
theorem impl_one_eq' {x:Int}(h:0≤x):D.a x=some (ishl .u32 1 x):=by
 have:=Cc x.toNat
 rwa [show ((x.toNat:Nat):Int)=x by omega] at this
def mk (xs:LI):Int:=xs.foldl (λs v=>ior .u32 s (ishl .u32 1 v)) 0
theorem GM (xs:LI)(h:Sh xs)(h0:∀x∈xs,0≤x):D.h xs=some (mk xs):=by
 unfold Sh at h
 unfold D.h
 refine(loop_listb xs (λs i=>(s,i)) (λs v=>ior .u32 s (ishl .u32 1 v)) (λs=>s) (λ_=>True) 0 trivial (λs i hi _=>⟨?_,trivial⟩) (λs _=> ?_)).trans rfl
 ·simp only[dlt hi,cT,AC hi,bs,wi' hi (by omega),impl_one_eq' (h0 _ (List.getElem_mem hi))]
 ·simp only[Be,cF]
theorem GK :∀(xs:LI) (s:Int),VS s→VS (xs.foldl (λs v=>ior .u32 s (ishl .u32 1 v)) s)
 |[],s,h=>h
 |x::xs,s,_=>GK xs _ (VS.ior _ _)
theorem VS.mk (xs:LI):VS (mk xs):=GK xs 0 VS.zero
theorem Gw (u:Nat):∀(xs:LI) (s:Int),VS s→(∀x∈xs,0≤x∧x<32)→has (xs.foldl (λs v=>ior .u32 s (ishl .u32 1 v)) s) u=(has s u||decide ((u:Int)∈xs))
 |[],s,_,_=>by simp
 |x::xs,s,hs,h=>by
  have hx:=h x (by simp)
  rw[List.foldl_cons,Gw u xs _ (VS.ior _ _) (λy hy=>h y (by simp[hy])),CG hs (VS.ishl _ _)]
  obtain⟨k,rfl⟩:∃k:Nat,x=k:=⟨x.toNat,by omega⟩
  rw[BX (by omega)]
  by_cases hu:u=k
  ·subst hu;simp
  ·have:¬(u:Int)=(k:Int):=by omega
   simp[hu,this]
theorem CR {xs:LI}(h:∀x∈xs,0≤x∧x<32)(u:Nat):has (mk xs) u=decide ((u:Int)∈xs):=by
 unfold mk;rw[Gw u xs 0 VS.zero h,Bv,Bool.false_or]
theorem GOk.mem0 {g:LL}(hg:GOk g){r:LI}(hr:r∈g):r.length≤16∧∀x∈r,0≤x∧x<g.length:=by
 obtain⟨v,hv,rfl⟩:=List.getElem_of_mem hr
 rw[←DN hv]
 exact⟨hg.row_len hv,(hg.rows v hv).2⟩
theorem E2 (g:LL)(hg:GOk g):D.L g=some (g.map mk):=by
 have h16:=hg.n16
 unfold D.L
 refine(Gj g (λs i=>(s,i)) mk (by omega) (λs i hi _=> ?_) (λs=> ?_)).trans rfl
 ·obtain⟨h1,h2⟩:=hg.mem0 (List.getElem_mem hi)
  simp only[dlt hi,cT,AC hi,bs,wi' hi (by omega),GM g[i] (by unfold Sh;omega) (λx hx=>(h2 x hx).1)]
 ·simp only[Be,cF]
theorem wide_eq (xs:LI)(h:Sh xs):D.r0 xs=some xs:=by
 unfold Sh at h
 unfold D.r0
 rw[makeD_zero (by omega) (by omega),bs]
 refine(Gj xs (λs i=>(s,i)) (λx=>x) h (λs i hi _=> ?_) (λs=> ?_)).trans (by simp)
 ·simp only[dlt hi,cT,AC hi,bs,wi' hi (by omega)]
 ·simp only[Be,cF]
theorem least_eq {s:Int}(h:VS s)(h0:s≠0):∃k:Nat,k<32∧D.k0 s=some (k:Int)∧has s k=true∧(∀v,v<k→has s v=false)∧
  (∀v,has (iand .u32 s (IntKind.u32.wrap (s-1))) v=(has s v&& !decide (v=k))):=by
 obtain⟨k,h1,h2,h3,h4,h5⟩:=least_spec h h0
 refine⟨k,h1,?_,h2,h3,h5⟩
 unfold D.k0 D.D1
 have e:(s==0)=false:=by simpa using h0
 simp only[e,cF,h4,tz_table k h1,bs]
 rw[w64 (by omega) (by omega)]
theorem D8 (s:Int)(h:VS s):D.o s=some (elems s):=by
 unfold D.o
 have key:∀(n:Nat) (x:Int) (l:LI),VS x→(elems x).length=n→l.length+n≤32→
   Az (σ:=Int×LI) (ρ:=(LI)) (fun(s_52:Int×LI)=>match s_52 with|(x_55,l_56)=>cond (x_55 !=0) ((D.k0 x_55).bind λy_88=>(AR l_56 ([y_88]:LI)).bind λl_99=>some (.inl ((iand .u32 x_55 (IntKind.u32.wrap (x_55-1))),l_99))) (some (.inr l_56))) (x,l)=some (l++elems x):=by
  intro n
  induction n with
  |zero=>
   intro x l hx hn _
   have e:elems x=[]:=List.eq_nil_of_length_eq_zero hn
   have e0:x=0:=hx.eq_zero.2 λv hv=>by
    cases hc:has x v
    ·rfl
    ·have:=mem_elems.2 ⟨v,hv,hc,rfl⟩;rw[e] at this;simp at this
   rw[e]
   refine CB ?_
   have:(x !=0)=false:=by simp[e0]
   simp only[this,cF,List.append_nil]
  |succ n ih=>
   intro x l hx hn hl
   have h0:x≠0:=by rintro rfl;rw[Cr] at hn;simp at hn
   obtain⟨k,h1,h2,h3,h4,h5⟩:=least_eq hx h0
   have e:=Hd h1 h3 h4 h5
   have en:(elems (iand .u32 x (IntKind.u32.wrap (x-1)))).length=n:=by rw[e] at hn;simpa using hn
   have hstep:=ih (iand .u32 x (IntKind.u32.wrap (x-1))) (l++[(k:Int)]) (VS.iand _ _) en (by simp;omega)
   have e1:(x !=0)=true:=by simpa using h0
   rw[Cp (s':=(iand .u32 x (IntKind.u32.wrap (x-1)),l++[(k:Int)]))]
   ·rw[hstep,e];simp
   ·simp only[e1,cT,h2,bs,A5 (xs:=l) (ys:=[(k:Int)]) (by simp;omega)]
 have:=key (elems s).length s [] h rfl (by simpa using Ce s)
 rw[this];simp
theorem elems_sh (s:Int):Sh (elems s):=by have:=Ce s;unfold Sh;omega
theorem numbers_eq (s:Int)(h:VS s):D.n1 s=some (elems s):=by
 unfold D.n1
 rw[D8 s h,bs,wide_eq _ (elems_sh s)];rfl
theorem DE (xs:LI)(h:Sh xs):D.e xs=some xs:=by
 unfold Sh at h
 unfold D.e
 rw[A5 (by simpa using h)];rfl
def into (xs:LI)(n:Int):LI:=if n∈xs then xs else xs.takeWhile (λx=>decide (x<n))++n::xs.dropWhile (λx=>decide (x<n))
theorem mem_into {xs:LI}{n x:Int}:x∈into xs n↔x=n∨x∈xs:=by
 unfold into
 split
 ·constructor
  ·intro h;exact .inr h
  ·rintro(rfl|h)
   ·assumption
   ·exact h
 ·have e:x∈xs↔x∈xs.takeWhile (λx=>decide (x<n))++xs.dropWhile (λx=>decide (x<n)):=by rw[List.takeWhile_append_dropWhile]
  rw[e];simp only[List.mem_append,List.mem_cons]
  constructor
  ·rintro(h|h|h)<;>simp[h]
  ·rintro(h|h|h)<;>simp[h]
theorem Gx {xs:LI}{n:Int}(h:Inc xs):∀y∈xs.dropWhile (λx=>decide (x<n)),n≤y:=by
 induction xs with
 |nil=>simp
 |cons x xs ih=>
  have h':=List.pairwise_cons.1 h
  intro y hy
  rw[List.dropWhile_cons] at hy
  split at hy
  ·exact ih h'.2 y hy
  ·rename_i hc
   simp at hc
   rcases List.mem_cons.1 hy with rfl|hy
   ·exact hc
   ·have:=h'.1 y hy;omega
theorem inc_takeWhile {xs:LI}{n:Int}:∀y∈xs.takeWhile (λx=>decide (x<n)),y<n:=by
 intro y hy
 induction xs with
 |nil=>simp at hy
 |cons x xs ih=>
  rw[List.takeWhile_cons] at hy
  split at hy
  ·rename_i hc
   rcases List.mem_cons.1 hy with rfl|hy
   ·simpa using hc
   ·exact ih hy
  ·simp at hy
theorem Inc.into {xs:LI}(h:Inc xs)(n:Int):Inc (into xs n):=by
 unfold Sx.into
 split
 ·exact h
 ·rename_i hn
  unfold Inc
  rw[List.pairwise_append]
  refine⟨List.Pairwise.sublist (List.takeWhile_sublist _) h,List.pairwise_cons.2 ⟨λy hy=> ?_,List.Pairwise.sublist (List.dropWhile_sublist _) h⟩,λa ha b hb=> ?_⟩
  ·have h1:=Gx h y hy
   have h2:y≠n:=λe=>hn (e▸(List.dropWhile_sublist _).mem hy)
   omega
  ·have h1:=inc_takeWhile a ha
   rcases List.mem_cons.1 hb with rfl|hb
   ·exact h1
   ·have:=Gx h b hb;omega
theorem into_len (xs:LI)(n:Int):(into xs n).length≤xs.length+1:=by
 unfold into
 split
 ·omega
 ·have:(xs.takeWhile (λx=>decide (x<n))++xs.dropWhile (λx=>decide (x<n))).length=xs.length:=by rw[List.takeWhile_append_dropWhile]
  simp only[List.length_append,List.length_cons] at this ⊢;omega
theorem Ec {α:Type}(p:α→Bool):∀(xs:List α),xs.takeWhile p=xs.take (xs.takeWhile p).length∧xs.dropWhile p=xs.drop (xs.takeWhile p).length
 |[]=>by simp
 |x::xs=>by
  rw[List.takeWhile_cons,List.dropWhile_cons]
  cases p x
  ·simp
  ·have:=Ec p xs
   simp only[if_true,List.length_cons,List.take_succ_cons,List.drop_succ_cons,←this.1,←this.2,and_self]
theorem Eh {α:Type}(p:α→Bool):∀(xs:List α) (i:Nat) (h:i<(xs.takeWhile p).length) (h':i<xs.length),p xs[i]=true
 |x::xs,i,h,h'=>by
  rw[List.takeWhile_cons] at h
  cases hp:p x
  ·rw[hp] at h;simp at h
  ·rw[hp] at h
   cases i with
   |zero=>simpa using hp
   |succ i=>simp only[if_true,List.length_cons] at h;simpa using Eh p xs i (by omega) (by simpa using h')
theorem ED {α:Type}(p:α→Bool):∀(xs:List α) (h:(xs.takeWhile p).length<xs.length),p (xs[(xs.takeWhile p).length])=false
 |x::xs,h=>by
  cases hp:p x
  ·simp[List.takeWhile_cons,hp]
  ·have h2:(xs.takeWhile p).length<xs.length:=by simpa [List.takeWhile_cons,hp] using h
   simpa [List.takeWhile_cons,hp] using ED p xs h2
theorem Hj {α:Type}(p:α→Bool)(xs:List α):(xs.takeWhile p).length≤xs.length:=(List.takeWhile_sublist _).length_le
theorem DW (xs:LI)(n:Int)(h:Inc xs)(hl:xs.length≤4294967295):D.q xs n=some (into xs n):=by
 unfold D.q
 generalize hk:(xs.takeWhile (λx=>decide (x<n))).length=k
 have hkl:k≤xs.length:=by rw[←hk];exact Hj _ _
 have htk:xs.takeWhile (λx=>decide (x<n))=xs.take k:=by rw[←hk];exact(Ec _ xs).1
 have hdk:xs.dropWhile (λx=>decide (x<n))=xs.drop k:=by rw[←hk];exact(Ec _ xs).2
 refine(BY (λi=>((i:Nat):Int)) k (k:Int) rfl (λi hi=> ?_) ?_).trans ?_
 ·have hi':i<xs.length:=by omega
  have hp:decide (xs[i]<n)=true:=Eh (λx=>decide (x<n)) xs i (by omega) hi'
  simp only[dlt hi',cT,AC hi',bs,hp,wq i]
 ·by_cases hlt:k<xs.length
  ·have hp:decide (xs[k]<n)=false:=by
    have:=ED (λx=>decide (x<n)) xs (by omega)
    simp only[hk] at this;exact this
   simp only[dlt hlt,cT,AC hlt,bs,hp,cF]
  ·obtain rfl:k=xs.length:=by omega
   simp only[Be,cF,bs]
 ·have hS1:Sh (xs.take k):=by unfold Sh;rw[List.length_take];omega
  have hrest:((Di xs 0 (k:Int)).bind λl_135=>(D.e l_135).bind λy_139=>(AR y_139 ([n]:LI)).bind λl_154=>(Di xs (k:Int) (xs.length:Int)).bind λl_160=>(AR l_154 l_160).bind λl_164=>some l_164)=some (xs.take k++n::xs.drop k):=by
   simp only[Ge hkl,Hh hkl,bs,DE _ hS1]
   rw[A5 (by simp;omega),bs,A5 (by simp;omega),bs]
   simp
  by_cases hlt:k<xs.length
  ·simp only[dlt hlt,cT,AC hlt,bs]
   by_cases he:xs[k]=n
   ·have hm:n∈xs:=by rw[←he];exact List.getElem_mem _
    have:(xs[k]==n)=true:=by simp[he]
    simp only[this,cT]
    unfold into;rw[if_pos hm]
   ·have:(xs[k]==n)=false:=by simpa using he
    simp only[this,cF,hrest]
    unfold into
    rw[htk,hdk,if_neg]
    intro hm
    obtain⟨j,hj,e⟩:=List.getElem_of_mem hm
    have hst:decide (xs[k]<n)=false:=by
     have:=ED (λx=>decide (x<n)) xs (by omega)
     simp only[hk] at this;exact this
    simp at hst
    rcases Nat.lt_trichotomy j k with h1|h1|h1
    ·have:=Eh (λx=>decide (x<n)) xs j (by omega) hj
     simp at this;omega
    ·subst h1;exact he e
    ·have:=(List.pairwise_iff_getElem.1 h) k j hlt hj h1
     omega
  ·obtain rfl:k=xs.length:=by omega
   simp only[Be,cF,bs,hrest]
   unfold into
   rw[htk,hdk,if_neg]
   intro hm
   obtain⟨j,hj,e⟩:=List.getElem_of_mem hm
   have:=Eh (λx=>decide (x<n)) xs j (by omega) hj
   simp at this;omega
theorem Inc.short {s:LI}{n:Nat}(h:Inc s)(hr:∀x∈s,0≤x∧x<n):s.length≤n:=by
 rcases SetOf.len h hr with e|e
 ·subst e;simp
 ·omega
end Go.Sx



namespace Go.Sx
structure DK (b:LI)(i:Int):Prop where
 byte:∀x∈b,0≤x∧x≤255
 len:b.length≤4096
 i0:0≤i
 i1:i≤b.length
theorem iand_u64_le (a:Int)(n:Nat)(hn:n<18446744073709551616):0≤iand .u64 a (n:Int)∧iand .u64 a (n:Int)≤n:=by
 have e:(BitVec.ofInt 64 (n:Int)).toNat=n:=by rw[BitVec.toNat_ofInt];omega
 have h:(BitVec.ofInt 64 a&&&BitVec.ofInt 64 (n:Int)).toNat≤n:=by
  rw[BitVec.toNat_and,e];exact Nat.and_le_right
 have w:∀m:Nat,m<18446744073709551616→IntKind.u64.wrap (m:Int)=m:=λm hm=>by
  simp[IntKind.wrap,IntKind.signed,IntKind.bits];omega
 have e2:iand .u64 a (n:Int)=(((BitVec.ofInt 64 a&&&BitVec.ofInt 64 (n:Int)).toNat:Nat):Int):=by
  show IntKind.u64.wrap (((BitVec.ofInt 64 a&&&BitVec.ofInt 64 (n:Int)).toNat:Nat):Int)=_
  exact w _ (by omega)
 rw[e2];omega
theorem tmod_rng {x n:Int}(hx:0≤x)(hn:0<n):0≤Int.tmod x n∧Int.tmod x n<n:=
 ⟨Int.tmod_nonneg _ hx,Int.tmod_lt_of_pos _ hn⟩
theorem F9 {b:LI}{i:Int}(h:DK b i)(z n:Int)(hn:0<n):∃r i' z',D.l b i z n=some (r,b,i',z')∧0≤r∧r<n∧DK b i':=by
 obtain⟨h1,h2,h3,h4⟩:=h
 unfold D.l
 have hn0:(n==0)=false:=by simp;omega
 have hc:∀y:Int,0≤iand .u64 y 16777215∧iand .u64 y 16777215≤16777215:=λy=>iand_u64_le y 16777215 (by omega)
 by_cases hi:i<b.length
 ·have hb:=h1 _ (List.getElem_mem (show i.toNat<b.length by omega))
  simp only[hi,decide_true,cT,idx_int h3 hi,bs,hn0,cF]
  have hy:=hc (BZ .u64 (IntKind.u64.wrap ((IntKind.u64.wrap (z*6364136223846793005))+1442695040888963407)) 33)
  generalize iand .u64 (BZ .u64 (IntKind.u64.wrap ((IntKind.u64.wrap (z*6364136223846793005))+1442695040888963407)) 33) 16777215=y at hy ⊢
  rw[w64 (x:=y) (by omega) (by omega),w64 (x:=b[i.toNat]) (by omega) (by omega),w64 (x:=y+b[i.toNat]) (by omega) (by omega),w64 (x:=i+1) (by omega) (by omega)]
  have hr:=tmod_rng (x:=y+b[i.toNat]) (n:=n) (by omega) hn
  exact⟨_,_,_,rfl,hr.1,hr.2,h1,h2,by omega,by omega⟩
 ·simp only[hi,decide_false,cF,hn0]
  have hy:=hc (BZ .u64 (IntKind.u64.wrap ((IntKind.u64.wrap (z*6364136223846793005))+1442695040888963407)) 33)
  generalize iand .u64 (BZ .u64 (IntKind.u64.wrap ((IntKind.u64.wrap (z*6364136223846793005))+1442695040888963407)) 33) 16777215=y at hy ⊢
  rw[w64 (x:=y) (by omega) (by omega)]
  have hr:=tmod_rng (x:=y) (n:=n) (by omega) hn
  exact⟨_,_,_,rfl,hr.1,hr.2,h1,h2,h3,h4⟩
theorem Gf {b:LI}{i:Int}(h:DK b i)(z n:Int)(hn:0<n):∃y,D.l b i z n=some y∧(0≤y.1∧y.1<n∧y.2.1=b∧DK b y.2.2.1):=by
 obtain⟨r,i',z',e,h1,h2,h3⟩:=F9 h z n hn
 exact⟨_,e,h1,h2,rfl,h3⟩
theorem roll_ok (code:LI)(seed:Int)(h:∀x∈code,0≤x∧x≤255)(hl:code.length≤4096):∃z,D.p1 code seed=some (code,0,z)∧DK code 0:=by
 unfold D.p1
 refine⟨_,(loop_listb code (λs i=>(i,s)) (λs e=>IntKind.u64.wrap ((IntKind.u64.wrap ((IntKind.u64.wrap (s*1099511628211))+(IntKind.u64.wrap e)))+3)) (λs=>s) (λ_=>True) _ trivial (λs i hi _=>⟨?_,trivial⟩) (λs _=> ?_)).trans rfl,h,hl,by omega,by omega⟩
 ·simp only[dlt hi,cT,AC hi,bs,wq i]
 ·simp only[Be,cF]
theorem l1Empty_eq (n:Nat)(hn:n≤16):D.u1 (n:Int)=some (List.replicate n []):=by
 unfold D.u1
 refine(BY (λi=>((i:Int),List.replicate i [])) n (List.replicate n []) (by simp) (λi hi=> ?_) ?_).trans rfl
 ·simp only[dlt hi,cT,wq i]
  rw[A5 (by simp;omega),bs,←List.replicate_succ']
 ·simp only[Be,cF]
theorem row_set {g:LL}{u v:Nat}{r:LI}(hu:u<g.length):row (g.set u r) v=if v=u then r else row g v:=by
 unfold row
 by_cases h:v=u
 ·subst h;simp[hu]
 ·rw[if_neg h,List.getD_eq_getElem?_getD,List.getElem?_set_ne (λe=>h e.symm),←List.getD_eq_getElem?_getD]
theorem l1Link_ok {g:LL}(hg:GOk g){u v:Nat}(hu:u<g.length)(hv:v<g.length)(huv:u≠v):
  ∃g',D.j0 g (u:Int) (v:Int)=some g'∧GOk g'∧g'.length=g.length∧∀a b,adj g' a b↔adj g a b∨(a=u∧b=v)∨(a=v∧b=u):=by
 have h16:=hg.n16
 have hru:=hg.rows u hu;have hrv:=hg.rows v hv
 have hlu:=hg.row_len hu;have hlv:=hg.row_len hv
 refine⟨(g.set u (into (row g u) v)).set v (into (row g v) u),?_,?_⟩
 ·unfold D.j0
  have e1:row (g.set u (into (row g u) v)) v=row g v:=by rw[row_set hu,if_neg (Ne.symm huv)]
  simp only[CZ hu,bs,DW _ _ hru.1 (show (row g u).length≤4294967295 by omega),Int.toNat_natCast]
  rw[CZ (show v<(g.set u (into (row g u) v)).length by simpa using hv),e1]
  simp only[bs,DW _ _ hrv.1 (show (row g v).length≤4294967295 by omega)]
 ·have hrow:∀w,row ((g.set u (into (row g u) v)).set v (into (row g v) u)) w=if w=v then into (row g v) u else if w=u then into (row g u) v else row g w:=by
   intro w
   rw[row_set (by simpa using hv),row_set hu]
  have hadj:∀a b,adj ((g.set u (into (row g u) v)).set v (into (row g v) u)) a b↔adj g a b∨(a=u∧b=v)∨(a=v∧b=u):=by
   intro a b
   unfold adj
   rw[hrow]
   by_cases ha:a=v
   ·subst ha
    rw[if_pos rfl,mem_into]
    constructor
    ·rintro(h|h)
     ·exact .inr (.inr ⟨rfl,by omega⟩)
     ·exact .inl h
    ·rintro(h|⟨h,_⟩|⟨_,h⟩)
     ·exact .inr h
     ·exact absurd h.symm huv
     ·exact .inl (by omega)
   ·rw[if_neg ha]
    by_cases ha':a=u
    ·subst ha'
     rw[if_pos rfl,mem_into]
     constructor
     ·rintro(h|h)
      ·exact .inr (.inl ⟨rfl,by omega⟩)
      ·exact .inl h
     ·rintro(h|⟨_,h⟩|⟨h,_⟩)
      ·exact .inr h
      ·exact .inl (by omega)
      ·exact absurd h ha
    ·rw[if_neg ha']
     constructor
     ·exact .inl
     ·rintro(h|⟨h,_⟩|⟨h,_⟩)
      ·exact h
      ·exact absurd h ha'
      ·exact absurd h ha
  refine⟨⟨by simpa using hg.n1,by simpa using h16,λw hw=> ?_,λw hw=> ?_,λa b ha hab=> ?_⟩,by simp,hadj⟩
  ·simp only[List.length_set] at hw ⊢
   rw[hrow]
   split
   ·refine⟨hrv.1.into _,λx hx=> ?_⟩
    rcases mem_into.1 hx with rfl|hx
    ·omega
    ·exact hrv.2 x hx
   ·split
    ·refine⟨hru.1.into _,λx hx=> ?_⟩
     rcases mem_into.1 hx with rfl|hx
     ·omega
     ·exact hru.2 x hx
    ·exact hg.rows w hw
  ·simp only[List.length_set] at hw
   rw[hadj]
   rintro(h|⟨h1,h2⟩|⟨h1,h2⟩)
   ·exact hg.irr w hw h
   ·omega
   ·omega
  ·simp only[List.length_set] at ha
   rw[hadj] at hab ⊢
   rcases hab with h|h|h
   ·exact .inl (hg.sym a b ha h)
   ·exact .inr (.inr ⟨h.2,h.1⟩)
   ·exact .inr (.inl ⟨h.2,h.1⟩)
theorem GOk.empty {n:Nat}(h1:1≤n)(h16:n≤16):GOk (List.replicate n []):=by
 have hr:∀v,row (List.replicate n []) v=[]:=λv=>by
  unfold row
  rw[List.getD_eq_getElem?_getD,List.getElem?_replicate];split<;>rfl
 refine⟨by simpa using h1,by simpa using h16,λv _=> ?_,λv _=> ?_,λu v _ h=> ?_⟩
 ·rw[hr];exact⟨by simp[Inc],by simp⟩
 ·unfold adj;rw[hr];simp
 ·unfold adj at h;rw[hr] at h;simp at h
def EdgeIn (n:Nat)(e:LI):Prop:=∃a b:Nat,e=[(a:Int),(b:Int)]∧a<b∧b<n
theorem setB_edge {n:Nat}{a b:Nat}(h:a<b)(hb:b<n):Da [(a:Int),(b:Int)] n=true:=by
 rw[Dh]
 refine⟨by simp[Inc];omega,λx hx=> ?_⟩
 simp at hx
 rcases hx with rfl|rfl<;>omega
theorem GraphOf_ok (n:Nat)(edges:LL)(h1:1≤n)(h16:n≤16)(he:edges.length≤120)(hE:∀e∈edges,EdgeIn n e):
  ∃g,D.A0 (n:Int) edges=some (g,true)∧GOk g∧g.length=n∧∀a b:Nat,adj g a b↔([(a:Int),(b:Int)]∈edges∧a<b)∨([(b:Int),(a:Int)]∈edges∧b<a):=by
 unfold D.A0
 rw[Eo]
 have e1:(decide ((1:Int)≤(n:Int))&&decide ((n:Int)≤16))=true:=by simp;omega
 have e2:decide ((120:Int)<(edges.length:Int))=false:=by simp;omega
 simp only[bs,e1,e2,Bool.not_true,Bool.or_false,cF,l1Empty_eq n h16]
 have key:∀(k i:Nat) (g:LL),i+k=edges.length→GOk g→g.length=n→(∀a b:Nat,adj g a b↔([(a:Int),(b:Int)]∈edges.take i∧a<b)∨([(b:Int),(a:Int)]∈edges.take i∧b<a))→
   ∃g',Az (σ:=Int×LL) (ρ:=(LL) ⊕ ((LL)×Bool)) (fun(s_217:Int×LL)=>match s_217 with|(x_220,l_221)=>cond (decide (x_220<(edges.length:Int))) ((idx edges x_220).bind λe_319=>(cond ((e_319.length:Int) !=2) (some true) ((idx edges x_220).bind λe_356=>(D.A e_356 (n:Int)).bind λy_362=>some (!y_362))).bind λb_354=>cond b_354 (some (.inr (.inr (([]:LL),false)))) ((idx edges x_220).bind λe_375=>(idx e_375 0).bind λe_381=>(idx edges x_220).bind λe_387=>(idx e_387 1).bind λe_393=>(D.j0 l_221 e_381 e_393).bind λy_401=>some (.inl ((IntKind.i64.wrap (x_220+1)),y_401)))) (some (.inr (.inl l_221)))) ((i:Int),g)=some (.inl g')∧GOk g'∧g'.length=n∧(∀a b:Nat,adj g' a b↔([(a:Int),(b:Int)]∈edges∧a<b)∨([(b:Int),(a:Int)]∈edges∧b<a)):=by
  intro k
  induction k with
  |zero=>
   intro i g hi hg hl ha
   obtain rfl:i=edges.length:=by omega
   rw[List.take_length] at ha
   exact⟨g,CB (by simp only[Be,cF]),hg,hl,ha⟩
  |succ k ih=>
   intro i g hi hg hl ha
   have hil:i<edges.length:=by omega
   obtain⟨a,b,eab,hab,hbn⟩:=hE _ (List.getElem_mem hil)
   obtain⟨g',k1,k2,k3,k4⟩:=l1Link_ok hg (u:=a) (v:=b) (by omega) (by omega) (by omega)
   obtain⟨g'',m1,m2⟩:=ih (i+1) g' (by omega) k2 (by omega) (λc d=>by
    rw[k4,ha,List.take_succ_eq_append_getElem hil]
    simp only[List.mem_append,List.mem_singleton,eab,List.cons.injEq,and_true]
    constructor
    ·rintro((⟨h,h'⟩|⟨h,h'⟩)|⟨rfl,rfl⟩|⟨rfl,rfl⟩)
     ·exact .inl ⟨.inl h,h'⟩
     ·exact .inr ⟨.inl h,h'⟩
     ·exact .inl ⟨.inr ⟨rfl,rfl⟩,hab⟩
     ·exact .inr ⟨.inr ⟨rfl,rfl⟩,hab⟩
    ·rintro(⟨h|⟨h,h2⟩,h'⟩|⟨h|⟨h,h2⟩,h'⟩)
     ·exact .inl (.inl ⟨h,h'⟩)
     ·exact .inr (.inl ⟨by omega,by omega⟩)
     ·exact .inl (.inr ⟨h,h'⟩)
     ·exact .inr (.inr ⟨by omega,by omega⟩))
   refine⟨g'',?_,m2⟩
   rw[Cp (s':=(((i+1:Nat):Int),g'))]
   ·exact m1
   ·have h0:idx [(a:Int),(b:Int)] 0=some (a:Int):=rfl
    have h1':idx [(a:Int),(b:Int)] 1=some (b:Int):=rfl
    have hlen:((([(a:Int),(b:Int)]).length:Int) !=2)=false:=rfl
    simp only[dlt hil,cT,AC hil,eab,bs,hlen,cF,Fy [(a:Int),(b:Int)] n (by simp[Sh]) (by omega) (by omega),setB_edge hab hbn,Bool.not_true,h0,h1',k1,wq i]
 obtain⟨g',m1,m2,m3,m4⟩:=key edges.length 0 (List.replicate n []) (by omega) (GOk.empty h1 h16) (by simp) (λa b=>by
  unfold adj row
  rw[List.getD_eq_getElem?_getD,List.getElem?_replicate]
  split<;>simp)
 refine⟨g',?_,m2,m3,m4⟩
 rw[show ((0:Nat):Int)=0 from rfl] at m1
 rw[m1];rfl
theorem w9Graph_ok {b:LI}{i:Int}(h:DK b i)(z:Int)(most:Nat)(h1:1≤most)(h8:most≤8):
  ∃y,D.c2 b i z (most:Int)=some y∧(GOk y.1∧y.1.length≤most∧y.2.1=b∧DK b y.2.2.1):=by
 unfold D.c2
 refine EV _ (Gf h z most (by omega)) ?_
 rintro⟨r,b1,i1,z1⟩ ⟨r0,r1,rfl,k1⟩
 dsimp only at r0 r1 k1 ⊢
 refine EV _ (Gf k1 z1 3 (by omega)) ?_
 rintro⟨q,b2,i2,z2⟩ ⟨q0,q1,rfl,k2⟩
 dsimp only at q0 q1 k2 ⊢
 obtain⟨n,en,en'⟩:∃n:Nat,IntKind.i64.wrap (1+r)=(n:Int)∧(n:Int)=1+r:=⟨(1+r).toNat,by rw[w64 (by omega) (by omega)];omega,by omega⟩
 rw[en]
 refine BC (λs=>∃v:Nat,s.2.1=(v:Int)∧1≤v∧v≤n∧s.2.2.1=b2∧DK b2 s.2.2.2.1∧s.1.length≤8*v+v∧∀e∈s.1,EdgeIn n e) (λs=>n-s.2.1.toNat)
  (λr=>r.2.1=b2∧DK b2 r.2.2.1∧r.1.length≤120∧∀e∈r.1,EdgeIn n e) ?_ ?_ ?_
 ·rintro⟨l,_,b2,i,z⟩ ⟨v,rfl,g1,g2,rfl,hk,hl,hE⟩
  dsimp only at hk hl hE ⊢
  by_cases hv:v<n
  ·simp only[dlt hv,cT]
   refine BC (λs=>∃u:Nat,s.2.1=(u:Int)∧u≤v∧s.2.2.1=b2∧DK b2 s.2.2.2.1∧s.1.length≤8*v+v+u∧∀e∈s.1,EdgeIn n e) (λs=>v-s.2.1.toNat)
    (λr=>r.2.1=b2∧DK b2 r.2.2.1∧r.1.length≤8*v+v+v∧∀e∈r.1,EdgeIn n e) ?_ ⟨0,rfl,by omega,rfl,hk,by dsimp only;omega,hE⟩ ?_
   ·rintro⟨l,_,b2,i,z⟩ ⟨u,rfl,g3,rfl,hk,hl,hE⟩
    dsimp only at hk hl hE ⊢
    by_cases hu:u<v
    ·simp only[dlt hu,cT]
     refine EV _ (Gf hk z 4 (by omega)) ?_
     rintro⟨t,b2,i3,z3⟩ ⟨t0,t1,rfl,hk'⟩
     dsimp only at t0 t1 hk' ⊢
     by_cases hc:t<IntKind.i64.wrap (1+q)
     ·simp only[hc,decide_true,cT,wq u]
      rw[A5 (by simp;omega),bs]
      refine⟨_,rfl,⟨u+1,rfl,by omega,rfl,hk',by simp;omega,λe he=> ?_⟩,by dsimp only;omega⟩
      rcases List.mem_append.1 he with he|he
      ·exact hE e he
      ·simp at he;subst he;exact⟨u,v,rfl,hu,hv⟩
     ·simp only[hc,decide_false,cF,wq u]
      exact⟨_,rfl,⟨u+1,rfl,by omega,rfl,hk',by dsimp only;omega,hE⟩,by dsimp only;omega⟩
    ·obtain rfl:u=v:=by omega
     simp only[Be,cF]
     exact⟨_,rfl,rfl,hk,by dsimp only;omega,hE⟩
   ·rintro⟨l,b2,i3,z3⟩ ⟨rfl,hk',hl',hE'⟩
    dsimp only at hk' hl' hE' ⊢
    simp only[wq v]
    exact⟨_,rfl,⟨v+1,rfl,by omega,by omega,rfl,hk',by dsimp only;omega,hE'⟩,by dsimp only;omega⟩
  ·obtain rfl:v=n:=by omega
   simp only[Be,cF]
   exact⟨_,rfl,rfl,hk,by dsimp only;omega,hE⟩
 ·exact⟨1,rfl,by omega,by omega,rfl,k2,by simp,by simp⟩
 ·rintro⟨l,b2,i3,z3⟩ ⟨rfl,hk,hl,hE⟩
  dsimp only at hk hl hE ⊢
  obtain⟨g,m1,m2,m3,_⟩:=GraphOf_ok n l (by omega) (by omega) hl hE
  rw[m1,bs]
  exact⟨_,rfl,m2,by dsimp only;omega,rfl,hk⟩
end Go.Sx



namespace Go.Sx
theorem ext_getD {a b:LI}(hl:a.length=b.length)(h:∀j,j<a.length→a.getD j 0=b.getD j 0):a=b:=by
 apply List.ext_getElem hl
 intro j h1 h2
 have:=h j h1
 rwa [AH h1,AH h2] at this
theorem DT (l:LI)(i j:Nat)(x:Int)(hi:i<l.length):(l.set i x).getD j 0=if j=i then x else l.getD j 0:=by
 simp only[List.getD_eq_getElem?_getD,List.getElem?_set]
 by_cases h:j=i
 ·subst h;simp[hi]
 ·rw[if_neg (λe=>h e.symm),if_neg h]
def nb (F:LI)(u w:Nat):Bool:=has (F.getD u 0) w
structure FOk (F:LI)(n:Nat):Prop where
 len:F.length=n
 vs:∀u,u<n→VS (F.getD u 0)
 lt:∀u w,u<n→nb F u w=true→w<n
 irr:∀u,u<n→nb F u u=false
 sym:∀u w,u<n→nb F u w=true→nb F w u=true
theorem FOk.ext {F F':LI}{n:Nat}(h:F.length=n)(h':F'.length=n)(v:∀u,u<n→VS (F.getD u 0))(v':∀u,u<n→VS (F'.getD u 0))(e:∀u w,u<n→nb F u w=nb F' u w):F=F':=by
 refine ext_getD (by omega) (λj hj=> ?_)
 exact(v j (by omega)).ext (v' j (by omega)) (λw _=>e j w (by omega))
theorem Hc (g:LL)(u:Nat):(g.map mk).getD u 0=mk (row g u):=by
 unfold row
 simp only[List.getD_eq_getElem?_getD,List.getElem?_map]
 cases g[u]? with
 |none=>simp[mk]
 |some r=>rfl
theorem Ey {g:LL}(hg:GOk g){u w:Nat}(hu:u<g.length):nb (g.map mk) u w=true↔adj g u w:=by
 have h16:=hg.n16
 unfold nb
 rw[Hc,CR (λx hx=>by have:=(hg.rows u hu).2 x hx;omega)]
 simp[adj]
theorem FOk.of {g:LL}(hg:GOk g):FOk (g.map Sx.mk) g.length:=by
 refine⟨by simp,λu _=>by rw[Hc];exact VS.mk _,λu w hu h=>hg.lt hu ((Ey hg hu).1 h),λu hu=> ?_,λu w hu h=> ?_⟩
 ·cases h:nb (g.map Sx.mk) u u
  ·rfl
  ·exact absurd ((Ey hg hu).1 h) (hg.irr u hu)
 ·have ha:=(Ey hg hu).1 h
  exact(Ey hg (hg.lt hu ha)).2 (hg.sym u w hu ha)
def grow (F:LI):LL:=F.map elems
theorem row_grow (F:LI)(u:Nat):row (grow F) u=elems (F.getD u 0):=by
 unfold row grow
 simp only[List.getD_eq_getElem?_getD,List.getElem?_map]
 cases F[u]? with
 |none=>simp[Cr]
 |some r=>rfl
theorem EN {F:LI}{n u w:Nat}(h:FOk F n)(hu:u<n):adj (grow F) u w↔nb F u w=true:=by
 unfold adj nb
 rw[row_grow,AT (h.vs u hu)]
theorem GOk.grow {F:LI}{n:Nat}(h:FOk F n)(h1:1≤n)(h16:n≤16):GOk (grow F):=by
 have hl:(Sx.grow F).length=n:=by unfold Sx.grow;rw[List.length_map,h.len]
 refine⟨by omega,by omega,λv hv=> ?_,λv hv ha=> ?_,λu v hu ha=> ?_⟩
 ·rw[row_grow,hl]
  refine⟨BP _,λx hx=> ?_⟩
  obtain⟨w,_,h2,rfl⟩:=mem_elems.1 hx
  have:=h.lt v w (by omega) h2
  omega
 ·rw[EN h (by omega)] at ha
  rw[h.irr v (by omega)] at ha;cases ha
 ·rw[EN h (by omega)] at ha
  have:=h.lt u v (by omega) ha
  rw[EN h (by omega)]
  exact h.sym u v (by omega) ha
theorem Gq {s:Int}(h:VS s):mk (elems s)=s:=by
 refine(VS.mk _).ext h (λv hv=> ?_)
 rw[CR (λx hx=>by obtain⟨w,h1,_,rfl⟩:=mem_elems.1 hx;omega),Bool.eq_iff_iff,decide_eq_true_eq,AT h]
theorem all_mask :∀n:Fin 17,∀v:Fin 32,has (IntKind.u32.wrap (ishl .u32 1 (n.val:Int)-1)) v.val=decide (v.val<n.val):=by decide+kernel
theorem FQ (F:LI)(h:F.length≤16):∃s,D.F0 F=some s∧VS s∧∀v,has s v=decide (v<F.length):=by
 refine⟨IntKind.u32.wrap (ishl .u32 1 (F.length:Int)-1),?_,VS.wrap _,λv=> ?_⟩
 ·unfold D.F0 D.W1
  have:decide ((F.length:Int)<0)=false:=by simp
  rw[this];rfl
 ·by_cases hv:v<32
  ·exact all_mask ⟨F.length,by omega⟩ ⟨v,hv⟩
  ·rw[FX (VS.wrap _) (by omega)];symm;simp;omega
theorem inner_ok {n v:Nat}(F L:LI)(S:Int)(h16:n≤16)(hF:F.length=n)(hV:∀u,u<n→VS (F.getD u 0))(hS:VS S)(hSn:∀w,has S w=true→w<n)(hL:idx L (v:Int)=some S):
  ∃F',(Az (σ:=LI×Int) (ρ:=(LI)) (fun(s_776:LI×Int)=>match s_776 with|(l_779,x_782)=>cond (decide (x_782<((elems S).length:Int))) ((idx (elems S) x_782).bind λe_820=>(idx l_779 e_820).bind λe_826=>(idx L (v:Int)).bind λe_832=>(D.a e_820).bind λy_838=>(idx l_779 e_820).bind λe_841=>some (.inl ((l_779.set (Int.toNat e_820) (ior .u32 e_826 (iandNot .u32 e_832 y_838))),(IntKind.i64.wrap (x_782+1))))) (some (.inr l_779))) (F,0))=some F'∧
   (F'.length=n∧(∀u,u<n→VS (F'.getD u 0))∧∀u w,u<n→nb F' u w=(nb F u w||(has S u&&has S w&&decide (w≠u)))):=by
 have key:=BC (k:=λr=>some r) (Q:=λF':LI=>F'.length=n∧(∀u,u<n→VS (F'.getD u 0))∧∀u w,u<n→nb F' u w=(nb F u w||(has S u&&has S w&&decide (w≠u))))
  (step:=(fun(s_776:LI×Int)=>match s_776 with|(l_779,x_782)=>cond (decide (x_782<((elems S).length:Int))) ((idx (elems S) x_782).bind λe_820=>(idx l_779 e_820).bind λe_826=>(idx L (v:Int)).bind λe_832=>(D.a e_820).bind λy_838=>(idx l_779 e_820).bind λe_841=>some (.inl ((l_779.set (Int.toNat e_820) (ior .u32 e_826 (iandNot .u32 e_832 y_838))),(IntKind.i64.wrap (x_782+1))))) (some (.inr l_779)))) (s:=(F,0))
  (λs=>∃i:Nat,s.2=(i:Int)∧i≤(elems S).length∧s.1.length=n∧(∀u,u<n→VS (s.1.getD u 0))∧∀u w,u<n→nb s.1 u w=(nb F u w||(decide ((u:Int)∈(elems S).take i)&&has S w&&decide (w≠u)))) (λs=>(elems S).length-s.2.toNat)
  (λF'=>F'.length=n∧(∀u,u<n→VS (F'.getD u 0))∧∀u w,u<n→nb F' u w=(nb F u w||(has S u&&has S w&&decide (w≠u)))) ?_ ⟨0,rfl,by omega,hF,hV,λu w _=>by simp⟩ (λr hr=>⟨r,rfl,hr⟩)
 ·obtain⟨y,hy,hq⟩:=key
  rw[Option.bind_eq_some_iff] at hy
  obtain⟨a,ha,hb⟩:=hy
  cases hb
  exact⟨_,ha,hq⟩
 ·rintro⟨l,_⟩ ⟨i,rfl,hi,hl,hv,hh⟩
  dsimp only at hl hv hh ⊢
  have hle:=Ce S
  by_cases hlt:i<(elems S).length
  ·obtain⟨u0,h1,h2,h3⟩:=mem_elems.1 (List.getElem_mem hlt)
   have h4:=hSn u0 h2
   simp only[dlt hlt,cT,AC hlt,bs,h3,AC (show u0<l.length by omega),hL,Cc,wq i,Int.toNat_natCast]
   refine⟨_,rfl,⟨i+1,rfl,by omega,by simp[hl],λu hu=> ?_,λu w hu=> ?_⟩,by dsimp only;omega⟩
   ·rw[DT _ _ _ _ (by omega)]
    split
    ·exact VS.ior _ _
    ·exact hv u hu
   ·have hmem:((u:Int)∈(elems S).take (i+1))↔((u:Int)∈(elems S).take i∨u=u0):=by
     rw[List.take_succ_eq_append_getElem hlt,List.mem_append,h3]
     simp[Int.natCast_inj]
    unfold nb
    rw[DT _ _ _ _ (by omega)]
    by_cases hc:u=u0
    ·subst hc
     rw[if_pos rfl]
     have hg:l[u]=l.getD u 0:=(AH (by omega) 0).symm
     rw[hg,CG (hv u hu) (VS.iandNot _ _),A8 hS (VS.ishl _ _),BX (by omega)]
     have:=hh u w hu
     unfold nb at this
     rw[this,decide_eq_true (hmem.2 (.inr rfl))]
     cases has (F.getD u 0) w<;>cases has S w<;>by_cases hw:w=u<;>simp[hw]
    ·rw[if_neg hc]
     have:=hh u w hu
     unfold nb at this
     rw[this]
     have:decide ((u:Int)∈(elems S).take (i+1))=decide ((u:Int)∈(elems S).take i):=by
      rw[Bool.eq_iff_iff,decide_eq_true_eq,decide_eq_true_eq,hmem];simp[hc]
     rw[this]
  ·obtain rfl:i=(elems S).length:=by omega
   simp only[Be,cF]
   refine⟨_,rfl,hl,hv,λu w hu=> ?_⟩
   rw[hh u w hu,List.take_length]
   congr 3
   rw[Bool.eq_iff_iff,decide_eq_true_eq,AT hS]
def PEO (F:LI)(o:LI):Prop:=∀(j:Nat) (v u w:Nat),o[j]? =some (v:Int)→nb F v u=true→nb F v w=true→(u:Int)∉o.take (j+1)→(w:Int)∉o.take (j+1)→u≠w→nb F u w=true
def Lat (F L:LI)(o:LI)(i:Nat):Prop:=∀(j:Nat) (v:Nat),j<i→o[j]? =some (v:Int)→∀w,nb L v w=(nb F v w&&decide ((w:Int)∉o.take (j+1)))
inductive Via (F:LI)(gone:Nat→Prop)(u:Nat):Nat→Prop
 |me:Via F gone u u
 |step {x y:Nat}:Via F gone u x→nb F x y=true→gone y→Via F gone u y
theorem Via.mono {F:LI}{g g':Nat→Prop}{u x:Nat}(h:Via F g u x)(hg:∀y,g y→g' y):Via F g' u x:=by
 induction h with
 |me=>exact .me
 |step _ h1 h2 ih=>exact .step ih h1 (hg _ h2)
theorem Via.end_ {F:LI}{g:Nat→Prop}{u x:Nat}(h:Via F g u x):x=u∨g x:=by
 cases h with
 |me=>exact .inl rfl
 |step _ _ h2=>exact .inr h2
theorem Via.lt {F:LI}{n:Nat}(hF:FOk F n){g:Nat→Prop}{u x:Nat}(hu:u<n)(h:Via F g u x):x<n:=by
 induction h with
 |me=>exact hu
 |step _ h1 _ ih=>exact hF.lt _ _ ih h1
theorem Via.back {F:LI}{n:Nat}(hF:FOk F n){g g':Nat→Prop}(hg:∀y,g y→g' y){v x:Nat}(hv:v<n)(hgv:g' v)(h:Via F g v x):∀z,Via F g' z x→Via F g' z v:=by
 induction h with
 |me=>exact λz h=>h
 |step hx h1 h2 ih=>
  intro z hz
  have hxn:=Via.lt hF hv hx
  refine ih z (.step hz (hF.sym _ _ hxn h1) ?_)
  rcases hx.end_ with e|e
  ·rw[e];exact hgv
  ·exact hg _ e
def Bhd (F:LI)(gone:Nat→Prop)(v w:Nat):Prop:=∃x,Via F gone v x∧nb F x w=true
structure EInv (n:Nat)(F0 o:LI)(i:Nat)(F L:LI)(left:Int):Prop where
 f:FOk F n
 lenL:L.length=n
 vsL:∀u,u<n→VS (L.getD u 0)
 vsl:VS left
 left:∀v,has left v=decide (v<n∧(v:Int)∉o.take i)
 mono:∀u w,u<n→nb F0 u w=true→nb F u w=true
 lat:Lat F L o i
 peo:∀(j:Nat) (v u w:Nat),j<i→o[j]? =some (v:Int)→nb F v u=true→nb F v w=true→(u:Int)∉o.take (j+1)→(w:Int)∉o.take (j+1)→u≠w→nb F u w=true
 same:PEO F0 o→F=F0
 via:∀u w:Nat,u<n→(u:Int)∉o.take i→(w:Int)∉o.take i→u≠w→(nb F u w=true↔Bhd F0 (λx=>(x:Int)∈o.take i) u w)
 latb:∀(j:Nat) (v:Nat),j<i→o[j]? =some (v:Int)→∀w:Nat,nb L v w=true↔(w:Int)∉o.take (j+1)∧Bhd F0 (λx=>(x:Int)∈o.take j) v w
theorem Eg {o:LI}{j i:Nat}(h:j≤i){x:Int}(hx:x∈o.take j):x∈o.take i:=by
 rw[mem_take_iff] at hx ⊢
 obtain⟨k,h1,h2,h3⟩:=hx
 exact⟨k,h1,by omega,h3⟩
theorem EInv.step {n:Nat}{F0 o F L:LI}{i v:Nat}{left:Int}(h16:n≤16)(h0:FOk F0 n)(hn:∀x∈o,0≤x∧x<n)(hnd:o.Nodup)(hi:i<o.length)(hv:o[i]=(v:Int))(h:EInv n F0 o i F L left){F':LI}
  (hl':F'.length=n) (hv':∀u,u<n→VS (F'.getD u 0)) (h':∀u w,u<n→nb F' u w=(nb F u w||(has (iand .u32 (F.getD v 0) (iandNot .u32 left (ishl .u32 1 (v:Int)))) u&&has (iand .u32 (F.getD v 0) (iandNot .u32 left (ishl .u32 1 (v:Int)))) w&&decide (w≠u)))):
  EInv n F0 o (i+1) F' (L.set v (iand .u32 (F.getD v 0) (iandNot .u32 left (ishl .u32 1 (v:Int))))) (iandNot .u32 left (ishl .u32 1 (v:Int))):=by
 have hvn:v<n:=by have:=hn _ (List.getElem_mem hi);omega
 have hvt:(v:Int)∉o.take i:=by rw[←hv];exact nodup_iff.1 hnd i hi
 have htk:∀x:Nat,((x:Int)∈o.take (i+1))↔((x:Int)∈o.take i∨x=v):=λx=>by
  rw[List.take_succ_eq_append_getElem hi,List.mem_append,hv];simp[Int.natCast_inj]
 have hleft:∀w,has (iandNot .u32 left (ishl .u32 1 (v:Int))) w=decide (w<n∧(w:Int)∉o.take (i+1)):=λw=>by
  rw[A8 h.vsl (VS.ishl _ _),BX (by omega),h.left,Bool.eq_iff_iff]
  simp only[Bool.and_eq_true,decide_eq_true_eq,Bool.not_eq_true',decide_eq_false_iff_not,htk]
  constructor
  ·rintro⟨⟨a,b⟩,c⟩;exact⟨a,λhh=>hh.elim b c⟩
  ·rintro⟨a,b⟩;exact⟨⟨a,λhh=>b (.inl hh)⟩,λhh=>b (.inr hh)⟩
 have hS:∀w,has (iand .u32 (F.getD v 0) (iandNot .u32 left (ishl .u32 1 (v:Int)))) w=(nb F v w&&decide ((w:Int)∉o.take (i+1))):=λw=>by
  rw[B8 (h.f.vs v hvn) (VS.iandNot _ _),hleft,Bool.eq_iff_iff]
  show (nb F v w&&_)=true↔_
  simp only[Bool.and_eq_true,decide_eq_true_eq]
  exact⟨fun⟨a,b,c⟩=>⟨a,c⟩,fun⟨a,c⟩=>⟨a,h.f.lt v w hvn a,c⟩⟩
 have hlV:VS (iandNot .u32 left (ishl .u32 1 (v:Int))):=VS.iandNot _ _
 generalize iandNot .u32 left (ishl .u32 1 (v:Int))=left' at*
 generalize hSS:iand .u32 (F.getD v 0) left'=S at*
 have hSV:VS S:=by rw[←hSS];exact VS.iand _ _
 have hSlt:∀w,has S w=true→w<n∧(w:Int)∉o.take (i+1):=λw hw=>by
  rw[hS] at hw
  simp only[Bool.and_eq_true,decide_eq_true_eq] at hw
  exact⟨h.f.lt v w hvn hw.1,hw.2⟩
 have hmono:∀u w,u<n→nb F u w=true→nb F' u w=true:=λu w hu hh=>by rw[h' u w hu,hh];rfl
 have hold:∀x:Nat,x<n→(x:Int)∈o.take (i+1)→∀w,nb F' x w=nb F x w:=λx hx hm w=>by
  rw[h' x w hx]
  have:has S x=false:=by
   cases hc:has S x
   ·rfl
   ·exact absurd hm (hSlt x hc).2
  simp[this]
 have hf':FOk F' n:=by
  refine⟨hl',hv',λu w hu hh=> ?_,λu hu=> ?_,λu w hu hh=> ?_⟩
  ·rw[h' u w hu] at hh
   simp only[Bool.or_eq_true,Bool.and_eq_true] at hh
   rcases hh with hh|⟨⟨_,hh⟩,_⟩
   ·exact h.f.lt u w hu hh
   ·exact(hSlt w hh).1
  ·rw[h' u u hu,h.f.irr u hu];simp
  ·rw[h' u w hu] at hh
   simp only[Bool.or_eq_true,Bool.and_eq_true,decide_eq_true_eq] at hh
   rcases hh with hh|⟨⟨h1,h2⟩,h3⟩
   ·exact hmono w u (h.f.lt u w hu hh) (h.f.sym u w hu hh)
   ·rw[h' w u (hSlt w h2).1,h1,h2]
    have:decide (u≠w)=true:=by simpa using λe=>h3 e.symm
    simp[this]
 have hjv:∀j (x:Nat),o[j]? =some (x:Int)→j<o.length∧x<n∧(x:Int)∈o.take (j+1):=λj x hx=>by
  obtain⟨h1,h2⟩:=List.getElem?_eq_some_iff.1 hx
  have:=hn _ (List.getElem_mem h1)
  refine⟨h1,by omega,?_⟩
  rw[mem_take_iff];exact⟨j,h1,by omega,h2⟩
 refine⟨hf',by simp[h.lenL],λu hu=> ?_,hlV,hleft,λu w hu hh=>hmono u w hu (h.mono u w hu hh),λj x hj hx w=> ?_,λj x u w hj hx h1 h2 h3 h4 h5=> ?_,λhp=> ?_,λu w hu k1 k2 huw=> ?_,λj x hj hx w=> ?_⟩
 ·rw[DT _ _ _ _ (by rw[h.lenL];exact hvn)]
  split
  ·exact hSV
  ·exact h.vsL u hu
 ·obtain⟨k1,k2,k3⟩:=hjv j x hx
  have k4:=Eg (show j+1≤i+1 by omega) k3
  rw[hold x k2 k4 w]
  unfold nb
  rw[DT _ _ _ _ (by rw[h.lenL];exact hvn)]
  by_cases hji:j=i
  ·subst hji
   rw[List.getElem?_eq_getElem hi,hv] at hx
   have:x=v:=by
    have:(v:Int)=(x:Int):=by simpa using hx
    omega
   subst this
   rw[if_pos rfl,hS];rfl
  ·have hne:x≠v:=λe=>by
    subst e
    exact hvt (Eg (show j+1≤i by omega) k3)
   rw[if_neg hne]
   exact h.lat j x (by omega) hx w
 ·obtain⟨k1,k2,k3⟩:=hjv j x hx
  have k4:=Eg (show j+1≤i+1 by omega) k3
  rw[hold x k2 k4] at h1 h2
  by_cases hji:j=i
  ·subst hji
   rw[List.getElem?_eq_getElem hi,hv] at hx
   have:x=v:=by
    have:(v:Int)=(x:Int):=by simpa using hx
    omega
   subst this
   have hu:has S u=true:=by rw[hS,h1];simpa using h3
   have hw:has S w=true:=by rw[hS,h2];simpa using h4
   rw[h' u w (hSlt u hu).1,hu,hw]
   have:decide (w≠u)=true:=by simpa using λe=>h5 e.symm
   simp[this]
  ·exact hmono u w (h.f.lt x u k2 h1) (h.peo j x u w (by omega) hx h1 h2 h3 h4 h5)
 ·have hFF:=h.same hp
  subst hFF
  refine FOk.ext hl' h.f.len hv' h.f.vs (λu w hu=> ?_)
  rw[h' u w hu,Bool.eq_iff_iff]
  simp only[Bool.or_eq_true,Bool.and_eq_true,decide_eq_true_eq]
  constructor
  ·rintro(hh|⟨⟨h1,h2⟩,h3⟩)
   ·exact hh
   ·have k1:=(hSlt u h1).2;have k2:=(hSlt w h2).2
    rw[hS] at h1 h2
    simp only[Bool.and_eq_true] at h1 h2
    exact hp i v u w (by rw[List.getElem?_eq_getElem hi,hv]) h1.1 h2.1 k1 k2 (λe=>h3 e.symm)
  ·exact .inl
 ·have q1:(u:Int)∉o.take i:=λe=>k1 ((htk u).2 (.inl e))
  have q2:(w:Int)∉o.take i:=λe=>k2 ((htk w).2 (.inl e))
  have huv:u≠v:=λe=>k1 ((htk u).2 (.inr e))
  have hwv:w≠v:=λe=>k2 ((htk w).2 (.inr e))
  have hgg:∀y:Nat,(y:Int)∈o.take i→(y:Int)∈o.take (i+1):=λy hy=>(htk y).2 (.inl hy)
  rw[h' u w hu]
  simp only[Bool.or_eq_true,Bool.and_eq_true,decide_eq_true_eq]
  constructor
  ·rintro(hh|⟨⟨a1,a2⟩,_⟩)
   ·obtain⟨x,hx,e⟩:=(h.via u w hu q1 q2 huw).1 hh
    exact⟨x,hx.mono hgg,e⟩
   ·rw[hS] at a1 a2
    simp only[Bool.and_eq_true,decide_eq_true_eq] at a1 a2
    obtain⟨x,hx,ex⟩:=(h.via v u hvn hvt q1 (λe=>huv e.symm)).1 a1.1
    obtain⟨y,hy,ey⟩:=(h.via v w hvn hvt q2 (λe=>hwv e.symm)).1 a2.1
    have hvg:(v:Int)∈o.take (i+1):=(htk v).2 (.inr rfl)
    have hxn:=Via.lt h0 hvn hx
    have hxg:(x:Int)∈o.take (i+1):=by
     rcases hx.end_ with e|e
     ·rw[e];exact hvg
     ·exact hgg x e
    have hux:Via F0 (λx=>(x:Int)∈o.take (i+1)) u x:= .step .me (h0.sym x u hxn ex) hxg
    have huv':=Via.back h0 (g':=λx=>(x:Int)∈o.take (i+1)) hgg hvn hvg hx u hux
    have hgo:∀y,Via F0 (λx=>(x:Int)∈o.take i) v y→Via F0 (λx=>(x:Int)∈o.take (i+1)) u y:=λy hy=>by
     induction hy with
     |me=>exact huv'
     |step _ b1 b2 ih=>exact .step ih b1 (hgg _ b2)
    exact⟨y,hgo y hy,ey⟩
  ·rintro⟨x,hx,ex⟩
   have hcl:∀x,Via F0 (λx=>(x:Int)∈o.take (i+1)) u x→Via F0 (λx=>(x:Int)∈o.take i) u x∨(Bhd F0 (λx=>(x:Int)∈o.take i) u v∧Via F0 (λx=>(x:Int)∈o.take i) v x):=λx hx=>by
    induction hx with
    |me=>exact .inl .me
    | @step a b _ b1 b2 ih=>
     rcases(htk b).1 b2 with b2|b2
     ·rcases ih with ih|⟨ih1,ih2⟩
      ·exact .inl (.step ih b1 b2)
      ·exact .inr ⟨ih1,.step ih2 b1 b2⟩
     ·rcases ih with ih|⟨ih1,ih2⟩
      ·subst b2;exact .inr ⟨⟨a,ih,b1⟩,.me⟩
      ·subst b2;exact .inr ⟨ih1,.me⟩
   rcases hcl x hx with hx|⟨hx1,hx2⟩
   ·exact .inl ((h.via u w hu q1 q2 huw).2 ⟨x,hx,ex⟩)
   ·right
    have a1:=(h.via u v hu q1 hvt huv).2 hx1
    have a2:=(h.via v w hvn hvt q2 (λe=>hwv e.symm)).2 ⟨x,hx2,ex⟩
    refine⟨⟨?_,?_⟩,λe=>huw e.symm⟩
    ·rw[hS,h.f.sym u v hu a1];simpa using k1
    ·rw[hS,a2];simpa using k2
 ·obtain⟨k1,k2,k3⟩:=hjv j x hx
  unfold nb
  rw[DT _ _ _ _ (by rw[h.lenL];exact hvn)]
  by_cases hji:j=i
  ·subst hji
   rw[List.getElem?_eq_getElem hi,hv] at hx
   have:x=v:=by
    have:(v:Int)=(x:Int):=by simpa using hx
    omega
   subst this
   rw[if_pos rfl,hS,Bool.and_eq_true,decide_eq_true_eq]
   constructor
   ·rintro⟨b1,b2⟩
    have b3:(w:Int)∉o.take j:=λe=>b2 ((htk w).2 (.inl e))
    have b4:x≠w:=λe=>b2 ((htk w).2 (.inr e.symm))
    exact⟨b2,(h.via x w hvn hvt b3 b4).1 b1⟩
   ·rintro⟨b2,b1⟩
    have b3:(w:Int)∉o.take j:=λe=>b2 ((htk w).2 (.inl e))
    have b4:x≠w:=λe=>b2 ((htk w).2 (.inr e.symm))
    exact⟨(h.via x w hvn hvt b3 b4).2 b1,b2⟩
  ·have hne:x≠v:=λe=>by
    subst e
    exact hvt (Eg (show j+1≤i by omega) k3)
   rw[if_neg hne]
   exact h.latb j x (by omega) hx w
theorem elim_ok {n:Nat}{F0 o:LI}(h16:n≤16)(h0:FOk F0 n)(hl:o.length=n)(hn:∀x∈o,0≤x∧x<n)(hnd:o.Nodup):
  ∃y,D.Z1 F0 o=some y∧∃left,EInv n F0 o n y.1 y.2 left:=by
 have hlen:=h0.len
 unfold D.Z1
 rw[A5 (by simp;omega),bs]
 obtain⟨s,e1,hs1,hs2⟩:=FQ F0 (by omega)
 rw[e1,bs,DB (by omega) (by omega),bs]
 simp only[bs,List.nil_append]
 refine BC (λst=>∃i:Nat,st.2.2.2=(i:Int)∧i≤n∧EInv n F0 o i st.1 st.2.1 st.2.2.1) (λst=>n-st.2.2.2.toNat) (λr=>∃left,EInv n F0 o n r.1 r.2 left) ?_ ?_ ?_
 ·rintro⟨F,L,left,_⟩ ⟨i,rfl,hi,h⟩
  dsimp only at h ⊢
  rw[hl]
  by_cases hlt:i<n
  ·have hio:i<o.length:=by omega
   obtain⟨v,hv⟩:∃v:Nat,o[i]=(v:Int):=⟨(o[i]).toNat,by have:=hn _ (List.getElem_mem hio);omega⟩
   have hvn:v<n:=by have:=hn _ (List.getElem_mem hio);omega
   have hFv:idx F (v:Int)=some (F.getD v 0):=by rw[AC (by rw[h.f.len];omega),AH (by rw[h.f.len];omega)]
   have hLs:idx (L.set v (iand .u32 (F.getD v 0) (iandNot .u32 left (ishl .u32 1 (v:Int))))) (v:Int)=some (iand .u32 (F.getD v 0) (iandNot .u32 left (ishl .u32 1 (v:Int)))):=by
    rw[AC (by simp[h.lenL];omega)];simp
   simp only[dlt hlt,cT,AC hio,hv,bs,Cc,hFv,AC (show v<L.length by rw[h.lenL];omega),Int.toNat_natCast]
   rw[hLs]
   simp only[bs,D8 _ (VS.iand _ _)]
   have hSlt:∀w,has (iand .u32 (F.getD v 0) (iandNot .u32 left (ishl .u32 1 (v:Int)))) w=true→w<n:=λw hw=>by
    rw[B8 (h.f.vs v hvn) (VS.iandNot _ _)] at hw
    simp only[Bool.and_eq_true] at hw
    exact h.f.lt v w hvn hw.1
   obtain⟨F',e2,k1,k2,k3⟩:=inner_ok F _ _ h16 h.f.len h.f.vs (VS.iand _ _) hSlt hLs
   rw[hLs] at e2
   refine bind_eq (x:=F') e2 ?_
   rw[wq i]
   exact⟨_,rfl,⟨i+1,rfl,by omega,h.step h16 h0 hn hnd hio hv k1 k2 k3⟩,by dsimp only;omega⟩
  ·obtain rfl:i=n:=by omega
   simp only[Be,cF]
   exact⟨_,rfl,_,h⟩
 ·refine⟨0,rfl,by omega,h0,by simp[hlen],λu hu=> ?_,hs1,λv=>by rw[hs2,hlen];simp,λu w _ h=>h,λj v hj=>by omega,λj v u w hj=>by omega,λ_=>rfl,λu w hu _ _ _=>⟨λhh=>⟨u,.me,hh⟩,fun⟨x,hx,e⟩=> ?_⟩,λj v hj=>by omega⟩
  ·rw[List.getD_eq_getElem?_getD,List.getElem?_replicate]
   split<;>exact VS.zero
  ·rcases hx.end_ with e2|e2
   ·rw[←e2];exact e
   ·simp at e2
 ·rintro⟨F,L⟩ h
  exact⟨_,rfl,h⟩
theorem DF :∀{l m:LI},l.Nodup→(∀x∈l,x∈m)→l.length≤m.length
 |[],_,_,_=>by simp
 |x::l,m,h,hs=>by
  have h':=List.nodup_cons.1 h
  have hx:=hs x (by simp)
  have:=DF (l:=l) (m:=m.erase x) h'.2 (λy hy=>by
   have hne:y≠x:=λe=>h'.1 (e▸hy)
   exact(List.mem_erase_of_ne hne).2 (hs y (by simp[hy])))
  rw[List.length_erase_of_mem hx] at this
  have hp:0<m.length:=List.length_pos_of_mem hx
  simp;omega
theorem nodup_all {l m:LI}(hl:l.Nodup)(hm:m.Nodup)(h:∀x∈l,x∈m)(h':∀x∈m,x∈l):l.length=m.length:=
 Nat.le_antisymm (DF hl h) (DF hm h')
theorem Inc.nodup {l:LI}(h:Inc l):l.Nodup:=List.Pairwise.imp (λh e=>by omega) h
theorem l1All_eq (n:Nat)(hn:n≤4294967295):D.T0 (n:Int)=some ((List.range n).map Int.ofNat):=by
 unfold D.T0
 refine(BY (λi=>((List.range i).map Int.ofNat,(i:Int))) n ((List.range n).map Int.ofNat) (by simp) (λi hi=> ?_) ?_).trans rfl
 ·simp only[dlt hi,cT,wq i]
  rw[A5 (by simp;omega),bs,List.range_succ,List.map_append];rfl
 ·simp only[Be,cF]
theorem l8Meet_eq (a b:LI)(ha:Sh a)(hb:Sh b):D.r1 a b=some (a.filter λx=>decide (x∈b)):=by
 unfold Sh at ha
 unfold D.r1
 have key:∀(k i:Nat),i+k=a.length→∃y,(Az (σ:=LI×Int) (ρ:=(LI)) (fun(s_78:LI×Int)=>match s_78 with|(l_81,x_86)=>cond (decide (x_86<(a.length:Int))) ((idx a x_86).bind λe_127=>(D.f b e_127).bind λy_133=>cond y_133 ((idx a x_86).bind λe_141=>(AR l_81 ([e_141]:LI)).bind λl_151=>some (.inl (l_151,(IntKind.i64.wrap (x_86+1))))) (some (.inl (l_81,(IntKind.i64.wrap (x_86+1)))))) (some (.inr l_81))) ((a.take i).filter (λx=>decide (x∈b)),(i:Int)))=some y∧y=a.filter λx=>decide (x∈b):=by
  intro k
  induction k with
  |zero=>
   intro i hi
   obtain rfl:i=a.length:=by omega
   rw[List.take_length]
   exact⟨_,CB (by simp only[Be,cF]),rfl⟩
  |succ k ih=>
   intro i hi
   have hil:i<a.length:=by omega
   obtain⟨y,h1,h2⟩:=ih (i+1) (by omega)
   refine⟨y,?_,h2⟩
   rw[Cp]
   ·exact h1
   ·have hlen:((a.take i).filter (λx=>decide (x∈b))).length≤i:=Nat.le_trans (List.length_filter_le _ _) (by simp;omega)
    rw[List.take_succ_eq_append_getElem hil,List.filter_append]
    simp only[dlt hil,cT,AC hil,bs,Df b _ hb,wq i]
    by_cases hc:a[i]∈b
    ·simp only[hc,decide_true,cT,List.filter_cons,if_true,List.filter_nil]
     rw[A5 (by simp;omega)];rfl
    ·simp[hc]
 obtain⟨y,h1,rfl⟩:=key a.length 0 (by omega)
 simp only[List.take_zero,List.filter_nil] at h1
 rw[show ((0:Nat):Int)=0 from rfl] at h1
 rw[h1];rfl
theorem l9Part_eq (a b:LI)(ha:Sh a)(hb:Sh b):D.g1 a b=some (a.all λx=>decide (x∈b)):=by
 unfold D.g1
 rw[l8Meet_eq a b ha hb,bs]
 congr 1
 rw[Bool.eq_iff_iff,List.all_eq_true]
 constructor
 ·intro h x hx
  have h1:(a.filter λx=>decide (x∈b)).length=a.length:=by have:=beq_iff_eq.1 h;omega
  exact(List.length_filter_eq_length_iff.1 h1) x hx
 ·intro h
  have:(a.filter λx=>decide (x∈b))=a:=List.filter_eq_self.2 h
  simp[this]
theorem l9In_eq (bags links:LL)(l:LI)(hb:Sh2 bags)(hl:Sh l):D.f1 bags links l=some (bags.any λb=>l.all λx=>decide (x∈b)):=by
 have hbl:bags.length≤4294967296:=hb.1
 unfold D.f1
 refine(GJ bags.length (λi=>l.all λx=>decide (x∈bags.getD i [])) true (λi hi=> ?_) ?_ rfl rfl).trans ?_
 ·simp only[dlt hi,cT,AC hi,bs,wq i,AH hi,l9Part_eq l _ hl (hb.2 _ (List.getElem_mem hi))]
  cases l.all λx=>decide (x∈bags[i])<;>rfl
 ·simp only[Be,cF]
 ·rw[EO bags (λb=>l.all λx=>decide (x∈b)) _ (λi hi=>by rw[AH hi])]
def CT (bags:LL)(v:Int):LI:=((List.range bags.length).filter λb=>decide (v∈bags.getD b [])).map Int.ofNat
theorem mem_withV {bags:LL}{v x:Int}:x∈CT bags v↔∃b:Nat,x=b∧b<bags.length∧v∈bags.getD b []:=by
 unfold CT
 rw[List.mem_map]
 constructor
 ·rintro⟨b,hb,rfl⟩
  rw[List.mem_filter,List.mem_range] at hb
  exact⟨b,rfl,hb.1,of_decide_eq_true hb.2⟩
 ·rintro⟨b,rfl,h1,h2⟩
  exact⟨b,List.mem_filter.2 ⟨List.mem_range.2 h1,decide_eq_true h2⟩,rfl⟩
theorem FI (bags:LL)(v:Int):Inc (CT bags v):=by
 unfold CT Inc
 rw[List.pairwise_map]
 refine List.Pairwise.filter _ ?_
 refine List.Pairwise.imp ?_ (List.pairwise_lt_range (n:=bags.length))
 intro a b h
 show (a:Int)<(b:Int)
 omega
theorem l9With_eq (bags links:LL)(v:Int)(hb:Sh2 bags)(hl:bags.length≤4294967295):D.i1 bags links v=some (CT bags v):=by
 unfold D.i1
 refine(BY (λi=>(((List.range i).filter λb=>decide (v∈bags.getD b [])).map Int.ofNat,(i:Int))) bags.length (CT bags v) (by simp) (λi hi=> ?_) ?_).trans rfl
 ·have hlen:(((List.range i).filter λb=>decide (v∈bags.getD b [])).map Int.ofNat).length≤i:=by
   rw[List.length_map];exact Nat.le_trans (List.length_filter_le _ _) (by simp)
  simp only[dlt hi,cT,AC hi,bs,Df _ _ (hb.2 _ (List.getElem_mem hi)),wq i]
  rw[List.range_succ,List.filter_append,List.map_append]
  by_cases hc:v∈bags[i]
  ·have:decide (v∈bags.getD i [])=true:=by rw[AH hi];simpa using hc
   simp only[hc,decide_true,cT,List.filter_cons,this,if_true,List.filter_nil]
   rw[A5 (by simp;simp at hlen;omega)];rfl
  ·have:decide (v∈bags.getD i [])=false:=by rw[AH hi];simpa using hc
   simp only[hc,decide_false,cF,List.filter_cons,this,List.filter_nil,List.map_nil,List.append_nil]
   simp
 ·simp only[Be,cF];rfl
def Lk (links:LL)(x y:Int):Prop:=[x,y]∈links∨[y,x]∈links
def Pairs (links:LL):Prop:=∀l∈links,∃a b:Int,l=[a,b]
theorem l9Near_ok (bags links:LL)(b:Int)(hl:links.length≤1000000)(hp:Pairs links):
  ∃y,D.K0 bags links b=some y∧(Inc y∧(∀w,w∈y↔Lk links b w)∧y.length≤2*links.length):=by
 unfold D.K0
 refine BC (λs=>∃i:Nat,s.2=(i:Int)∧i≤links.length∧Inc s.1∧(∀w,w∈s.1↔Lk (links.take i) b w)∧s.1.length≤2*i) (λs=>links.length-s.2.toNat)
  (λr=>Inc r∧(∀w,w∈r↔Lk links b w)∧r.length≤2*links.length) ?_ ⟨0,rfl,by omega,by simp[Inc],by simp[Lk],by simp⟩ ?_
 ·rintro⟨s,_⟩ ⟨i,rfl,hi,hs,hm,hsl⟩
  dsimp only at hs hm hsl ⊢
  by_cases hil:i<links.length
  ·obtain⟨x,y,exy⟩:=hp _ (List.getElem_mem hil)
   have h0:idx [x,y] 0=some x:=rfl
   have h1:idx [x,y] 1=some y:=rfl
   simp only[dlt hil,cT,AC hil,exy,h0,h1,bs,wq i]
   have hLk:∀w,Lk (links.take (i+1)) b w↔Lk (links.take i) b w∨(x=b∧y=w)∨(y=b∧x=w):=by
    intro w
    unfold Lk
    rw[List.take_succ_eq_append_getElem hil,exy]
    simp only[List.mem_append,List.mem_singleton,List.cons.injEq,and_true]
    constructor
    ·rintro((h|⟨rfl,rfl⟩)|(h|⟨rfl,rfl⟩))
     ·exact .inl (.inl h)
     ·exact .inr (.inl ⟨rfl,rfl⟩)
     ·exact .inl (.inr h)
     ·exact .inr (.inr ⟨rfl,rfl⟩)
    ·rintro((h|h)|⟨rfl,rfl⟩|⟨rfl,rfl⟩)
     ·exact .inl (.inl h)
     ·exact .inr (.inl h)
     ·exact .inl (.inr ⟨rfl,rfl⟩)
     ·exact .inr (.inr ⟨rfl,rfl⟩)
   refine EV (λt=>Inc t∧(∀w,w∈t↔w∈s∨(x=b∧y=w))∧t.length≤s.length+1) ?_ ?_
   ·by_cases hx:x=b
    ·have:(x==b)=true:=by simp[hx]
     simp only[this,cT,DW s y hs (by omega),bs]
     exact⟨_,rfl,hs.into _,λw=>by rw[mem_into];simp[hx];constructor<;>(rintro(h|h)<;>simp[h]),into_len _ _⟩
    ·have:(x==b)=false:=by simpa using hx
     simp only[this,cF]
     exact⟨_,rfl,hs,λw=>by simp[hx],by omega⟩
   ·rintro t ⟨ht,htm,htl⟩
    by_cases hy:y=b
    ·have:(y==b)=true:=by simp[hy]
     simp only[this,cT,DW t x ht (by omega),bs]
     refine⟨_,rfl,⟨i+1,rfl,by omega,ht.into _,λw=> ?_,?_⟩,by dsimp only;omega⟩
     ·dsimp only
      rw[hLk,mem_into,htm,hm]
      constructor
      ·rintro(rfl|h|h)
       ·exact .inr (.inr ⟨hy,rfl⟩)
       ·exact .inl h
       ·exact .inr (.inl h)
      ·rintro(h|h|⟨_,rfl⟩)
       ·exact .inr (.inl h)
       ·exact .inr (.inr h)
       ·exact .inl rfl
     ·have:=into_len t x;dsimp only;omega
    ·have:(y==b)=false:=by simpa using hy
     simp only[this,cF]
     refine⟨_,rfl,⟨i+1,rfl,by omega,ht,λw=> ?_,by dsimp only;omega⟩,by dsimp only;omega⟩
     dsimp only
     rw[hLk,htm,hm]
     constructor
     ·rintro(h|h)
      ·exact .inl h
      ·exact .inr (.inl h)
     ·rintro(h|h|⟨h,_⟩)
      ·exact .inl h
      ·exact .inr h
      ·exact absurd h hy
  ·obtain rfl:i=links.length:=by omega
   simp only[Be,cF]
   rw[List.take_length] at hm
   exact⟨_,rfl,hs,hm,hsl⟩
 ·rintro r hr
  exact⟨_,rfl,hr⟩
structure Closed (links:LL)(sel m:LI):Prop where
 sub:∀x∈m,x∈sel
 first:∀x,sel.head? =some x→x∈m
 step:∀x∈m,∀y∈sel,Lk links x y→y∈m
theorem l9Reached_ok (bags links:LL)(sel:LI)(hl:links.length≤1000000)(hp:Pairs links)(hs:sel.length≤1000000)(hne:sel≠[]):
  ∃y,D.b0 bags links sel=some y∧∃m:LI,y=m.length∧m.Nodup∧Closed links sel m∧∀m',Closed links sel m'→∀x∈m,x∈m':=by
 unfold D.b0
 obtain⟨x0,sel',rfl⟩:∃x l,sel=x::l:=by cases sel with
  |nil=>exact absurd rfl hne
  |cons x l=>exact⟨x,l,rfl⟩
 generalize hsel:x0::sel'=sel at*
 have hsh:Sh sel:=by unfold Sh;omega
 have e0:((sel.length:Int)==0)=false:=by rw[←hsel];simp;omega
 have e1:idx sel 0=some x0:=by rw[←hsel];rfl
 have hx0:x0∈sel:=by rw[←hsel];simp
 simp only[e0,cF,e1,bs]
 refine BC (λs=>∃i:Nat,s.2=(i:Int)∧i≤s.1.length∧s.1.Nodup∧(∀x∈s.1,x∈sel)∧x0∈s.1∧(∀m',Closed links sel m'→∀x∈s.1,x∈m')∧∀x∈s.1.take i,∀y∈sel,Lk links x y→y∈s.1) (λs=>sel.length-s.2.toNat)
  (λr=>r.Nodup∧Closed links sel r∧∀m',Closed links sel m'→∀x∈r,x∈m') ?_ ⟨0,rfl,by simp,by simp,by simpa using hx0,by simp,λm' hm' x hx=>by simp at hx;subst hx;exact hm'.first _ (by rw[←hsel];rfl),by simp⟩ ?_
 ·rintro⟨m,_⟩ ⟨i,rfl,hi,hn,hsub,hx,hmn,hc⟩
  dsimp only at hi hn hsub hx hmn hc ⊢
  have hml:=DF hn hsub
  by_cases him:i<m.length
  ·simp only[dlt him,cT,AC him,bs]
   refine EV _ (l9Near_ok bags links m[i] hl hp) ?_
   rintro near ⟨hni,hnm,hnl⟩
   refine BC (λs=>∃k:Nat,s.2=(k:Int)∧k≤near.length∧s.1.Nodup∧(∀x∈s.1,x∈sel)∧(∃t,s.1=m++t)∧(∀m',Closed links sel m'→∀x∈s.1,x∈m')∧∀y∈near.take k,y∈sel→y∈s.1) (λs=>near.length-s.2.toNat)
    (λr=>r.Nodup∧(∀x∈r,x∈sel)∧(∃t,r=m++t)∧(∀m',Closed links sel m'→∀x∈r,x∈m')∧∀y∈near,y∈sel→y∈r) ?_ ⟨0,rfl,by simp,hn,hsub,⟨[],by simp⟩,hmn,by simp⟩ ?_
   ·rintro⟨r,_⟩ ⟨k,rfl,hk,hrn,hrs,⟨t,rfl⟩,hrm,hrc⟩
    dsimp only at hrn hrs hrm hrc ⊢
    have hrl:=DF hrn hrs
    have hrsh:Sh (m++t):=by unfold Sh;omega
    by_cases hkn:k<near.length
    ·have htk:=List.take_succ_eq_append_getElem hkn
     simp only[dlt hkn,cT,AC hkn,bs,Df _ _ hsh,Df _ _ hrsh,wq k]
     by_cases h1:near[k]∈sel
     ·by_cases h2:near[k]∈m++t
      ·simp only[h1,h2,decide_true,cT,Bool.not_true,cF,bs]
       refine⟨_,rfl,⟨k+1,rfl,by omega,hrn,hrs,⟨t,rfl⟩,hrm,λy hy hys=> ?_⟩,by dsimp only;omega⟩
       rw[htk] at hy
       rcases List.mem_append.1 hy with hy|hy
       ·exact hrc y hy hys
       ·simp at hy;subst hy;exact h2
      ·simp only[h1,h2,decide_true,decide_false,cT,Bool.not_false,bs]
       rw[A5 (by simp at hrl ⊢;omega),bs]
       refine⟨_,rfl,⟨k+1,rfl,by omega,?_,λy hy=> ?_,⟨t++[near[k]],by simp⟩,λm' hm' y hy=> ?_,λy hy hys=> ?_⟩,by dsimp only;omega⟩
       ·have hp:(m++t++[near[k]]).Perm (near[k]::(m++t)):=List.perm_append_comm
        exact hp.nodup_iff.2 (List.nodup_cons.2 ⟨h2,hrn⟩)
       ·rcases List.mem_append.1 hy with hy|hy
        ·exact hrs y hy
        ·simp at hy;subst hy;exact h1
       ·rcases List.mem_append.1 hy with hy|hy
        ·exact hrm m' hm' y hy
        ·simp at hy;subst hy
         exact hm'.step m[i] (hmn m' hm' _ (List.getElem_mem him)) _ h1 ((hnm _).1 (List.getElem_mem hkn))
       ·dsimp only
        rw[htk] at hy
        rcases List.mem_append.1 hy with hy|hy
        ·exact List.mem_append_left _ (hrc y hy hys)
        ·simp at hy;subst hy;simp
     ·simp only[h1,decide_false,cF,bs]
      refine⟨_,rfl,⟨k+1,rfl,by omega,hrn,hrs,⟨t,rfl⟩,hrm,λy hy hys=> ?_⟩,by dsimp only;omega⟩
      rw[htk] at hy
      rcases List.mem_append.1 hy with hy|hy
      ·exact hrc y hy hys
      ·simp at hy;subst hy;exact absurd hys h1
    ·obtain rfl:k=near.length:=by omega
     simp only[Be,cF]
     rw[List.take_length] at hrc
     exact⟨_,rfl,hrn,hrs,⟨t,rfl⟩,hrm,hrc⟩
   ·rintro r ⟨hrn,hrs,⟨t,rfl⟩,hrm,hrc⟩
    simp only[wq i]
    refine⟨_,rfl,⟨i+1,rfl,by simp;omega,hrn,hrs,List.mem_append_left _ hx,hrm,λx hx' y hy hxy=> ?_⟩,by dsimp only;omega⟩
    dsimp only at hx' ⊢
    rw[List.take_append_of_le_length (by omega),List.take_succ_eq_append_getElem him] at hx'
    rcases List.mem_append.1 hx' with hx'|hx'
    ·exact List.mem_append_left _ (hc x hx' y hy hxy)
    ·simp at hx';subst hx'
     exact hrc y ((hnm y).2 hxy) hy
  ·obtain rfl:i=m.length:=by omega
   simp only[Be,cF]
   rw[List.take_length] at hc
   exact⟨_,rfl,hn,⟨hsub,λx hx'=>by rw[←hsel] at hx';simp at hx';subst hx';exact hx,hc⟩,hmn⟩
 ·rintro r ⟨h1,h2,h3⟩
  exact⟨_,rfl,r,rfl,h1,h2,h3⟩
def D2 (links:LL)(sel:LI):Prop:=∀m,Closed links sel m→∀x∈sel,x∈m
def D3 (n:Nat)(l:LI):Prop:=∃a b:Nat,l=[(a:Int),(b:Int)]∧a<b∧b<n
theorem l1Edges_ok (g:LL)(hg:GOk g):∃y,D.o0 g=some y∧(y.length≤256∧∀e∈y,∃u v:Nat,e=[(u:Int),(v:Int)]∧u<g.length∧adj g u v∧u<v):=by
 have h16:=hg.n16
 unfold D.o0
 refine BC (λs=>∃u:Nat,s.2=(u:Int)∧u≤g.length∧s.1.length≤16*u∧∀e∈s.1,∃u v:Nat,e=[(u:Int),(v:Int)]∧u<g.length∧adj g u v∧u<v) (λs=>g.length-s.2.toNat)
  (λr=>r.length≤256∧∀e∈r,∃u v:Nat,e=[(u:Int),(v:Int)]∧u<g.length∧adj g u v∧u<v) ?_ ⟨0,rfl,by omega,by simp,by simp⟩ ?_
 ·rintro⟨l,_⟩ ⟨u,rfl,hu,hl,hE⟩
  dsimp only at hl hE ⊢
  unfold D.d
  simp only[bs]
  by_cases hug:u<g.length
  ·have hrl:=hg.row_len hug
   simp only[dlt hug,cT]
   refine BC (λs=>∃i:Nat,s.2=(i:Int)∧i≤(row g u).length∧s.1.length≤16*u+i∧∀e∈s.1,∃u v:Nat,e=[(u:Int),(v:Int)]∧u<g.length∧adj g u v∧u<v) (λs=>(row g u).length-s.2.toNat)
    (λr=>r.length≤16*u+16∧∀e∈r,∃u v:Nat,e=[(u:Int),(v:Int)]∧u<g.length∧adj g u v∧u<v) ?_ ⟨0,rfl,by omega,by dsimp only;omega,hE⟩ ?_
   ·rintro⟨l,_⟩ ⟨i,rfl,hi,hl,hE⟩
    dsimp only at hl hE ⊢
    simp only[CZ hug,bs]
    by_cases hir:i<(row g u).length
    ·obtain⟨v,ev,hv,hav⟩:=hg.mem hug (List.getElem_mem hir)
     simp only[dlt hir,cT,AC hir,ev,bs,wq i]
     by_cases huv:u<v
     ·simp only[dlt huv,cT]
      rw[A5 (by simp;omega),bs]
      refine⟨_,rfl,⟨i+1,rfl,by omega,by simp;omega,λe he=> ?_⟩,by dsimp only;omega⟩
      rcases List.mem_append.1 he with he|he
      ·exact hE e he
      ·simp at he;subst he;exact⟨u,v,rfl,hug,hav,huv⟩
     ·have:decide ((u:Int)<(v:Int))=false:=by simp;omega
      simp only[this,cF]
      exact⟨_,rfl,⟨i+1,rfl,by omega,by dsimp only;omega,hE⟩,by dsimp only;omega⟩
    ·obtain rfl:i=(row g u).length:=by omega
     simp only[Be,cF]
     exact⟨_,rfl,by omega,hE⟩
   ·rintro r ⟨h1,h2⟩
    simp only[wq u]
    exact⟨_,rfl,⟨u+1,rfl,by omega,by dsimp only;omega,h2⟩,by dsimp only;omega⟩
  ·obtain rfl:u=g.length:=by omega
   simp only[Be,cF]
   exact⟨_,rfl,by omega,hE⟩
 ·rintro r hr
  exact⟨_,rfl,hr⟩
structure TB (g bags links:LL):Prop where
 n1:1≤bags.length
 n16:bags.length≤16
 many:links.length+1=bags.length
 lks:∀l∈links,D3 bags.length l
 sets:∀b∈bags,SetOf b g.length
 tree:D2 links ((List.range bags.length).map Int.ofNat)
 edges:∀u v:Nat,u<g.length→adj g u v→∃b∈bags,(u:Int)∈b∧(v:Int)∈b
 some:∀v,v<g.length→CT bags v≠[]
 conn:∀v,v<g.length→D2 links (CT bags v)
def rowF (r:LI)(u:Nat)(s:LL):LL:=(List.range r.length).foldl (λs i=>if(u:Int)<r.getD i 0 then s++[[(u:Int),r.getD i 0]] else s) s
theorem inner_edges (r:LI)(u:Nat)(s0:LL)(h:s0.length+r.length≤4294967296){step:LL×Int→Option ((LL×Int) ⊕ LL)}
  (hstep:∀s (i:Nat) (hi:i<r.length),step (s,(i:Int))=cond (decide ((u:Int)<r[i])) ((AR s [[(u:Int),r[i]]]).bind λl=>some (.inl (l,((i+1:Nat):Int)))) (some (.inl (s,((i+1:Nat):Int)))))
  (hend:∀s,step (s,(r.length:Int))=some (.inr s)):Az step (s0,0)=some (rowF r u s0)∧(rowF r u s0).length≤s0.length+r.length:=by
 have key:=loop_nat (step:=step) r.length (λs i=>(s,i)) (λs i=>if(u:Int)<r.getD i 0 then s++[[(u:Int),r.getD i 0]] else s) (λs=>s) (λi s=>s.length≤s0.length+i) s0 (by omega)
  (λs i hi hs=> ?_) (λs _=>hend s)
 ·exact key
 ·have hg:r.getD i 0=r[i]:=AH hi 0
  refine⟨?_,?_⟩
  ·rw[hstep s i hi,hg]
   by_cases hc:(u:Int)<r[i]
   ·rw[decide_eq_true hc,cT,A5 (by simp;omega),if_pos hc];rfl
   ·rw[decide_eq_false hc,cF,if_neg hc]
  ·rw[hg]
   split
   ·rw[List.length_append,List.length_singleton];omega
   ·omega
def DU (g:LL):LL:=(List.range g.length).foldl (λs u=>rowF (row g u) u s) []
theorem l1Edges_eq (g:LL)(hg:GOk g):D.o0 g=some (DU g):=by
 have h16:=hg.n16
 unfold D.o0 D.d
 have key:=loop_nat (ρ:=LL) (step:=(fun(s_482:LL×Int)=>match s_482 with|(l_485,x_490)=>(some (g.length:Int)).bind λy_731=>cond (decide (x_490<y_731)) ((Az (σ:=LL×Int) (ρ:=(LL)) (fun(s_848:LL×Int)=>match s_848 with|(l_851,x_856)=>(idx g x_490).bind λe_914=>cond (decide (x_856<(e_914.length:Int))) ((idx g x_490).bind λe_921=>(idx e_921 x_856).bind λe_927=>cond (decide (x_490<e_927)) ((idx g x_490).bind λe_934=>(idx e_934 x_856).bind λe_940=>(AR l_851 ([([x_490,e_940]:LI)]:LL)).bind λl_957=>some (.inl (l_957,(IntKind.i64.wrap (x_856+1))))) (some (.inl (l_851,(IntKind.i64.wrap (x_856+1)))))) (some (.inr l_851))) (l_485,0)).bind λl_908=>some (.inl (l_908,(IntKind.i64.wrap (x_490+1))))) (some (.inr l_485))))
  g.length (λs i=>(s,i)) (λs u=>rowF (row g u) u s) (λs=>s) (λi s=>s.length≤16*i) [] (by simp) (λs u hu hs=> ?_) (λs _=> ?_)
 ·exact congrArg (λz=>Option.bind z λl=>some l) key.1
 ·have hr:=hg.row_len hu
  obtain⟨k1,k2⟩:=inner_edges (row g u) u s (by omega) (step:=(fun(s_848:LL×Int)=>match s_848 with|(l_851,x_856)=>(idx g (u:Int)).bind λe_914=>cond (decide (x_856<(e_914.length:Int))) ((idx g (u:Int)).bind λe_921=>(idx e_921 x_856).bind λe_927=>cond (decide ((u:Int)<e_927)) ((idx g (u:Int)).bind λe_934=>(idx e_934 x_856).bind λe_940=>(AR l_851 ([([(u:Int),e_940]:LI)]:LL)).bind λl_957=>some (.inl (l_957,(IntKind.i64.wrap (x_856+1))))) (some (.inl (l_851,(IntKind.i64.wrap (x_856+1)))))) (some (.inr l_851)))) (λs i hi=>by
    simp only[CZ hu,dlt hi,cT,AC hi,bs,wq i]) (λs=>by simp only[CZ hu,bs,Be,cF])
  refine⟨?_,by omega⟩
  simp only[bs,dlt hu,cT,wq u]
  exact(congrArg (λz=>Option.bind z _) k1).trans rfl
 ·simp only[bs,Be,cF]
theorem GOk.sh2 {g:LL}(hg:GOk g):Sh2 g:=by
 have h16:=hg.n16
 exact⟨by unfold Sh;omega,λr hr=>by have:=(hg.mem0 hr).1;unfold Sh;omega⟩
theorem FT {g:LL}(hg:GOk g):gB g=true:=(FY g).2 hg
theorem OOk.sh {g:LL}{o:LI}(hg:GOk g)(ho:OOk g o):Sh o:=by
 have:=hg.n16;have:=ho.len;unfold Sh;omega
structure Fill (g:LL)(o F L:LI):Prop where
 elim:D.Z1 (g.map mk) o=some (F,L)
 f:FOk F g.length
 lenL:L.length=g.length
 vsL:∀u,u<g.length→VS (L.getD u 0)
 mono:∀u w,u<g.length→adj g u w→nb F u w=true
 lat:Lat F L o g.length
 peo:PEO F o
 same:PEO (g.map mk) o→F=g.map mk
 latb:∀(j:Nat) (v:Nat),o[j]? =some (v:Int)→∀w:Nat,nb L v w=true↔(w:Int)∉o.take (j+1)∧Bhd (g.map mk) (λx=>(x:Int)∈o.take j) v w
theorem fill_ex {g:LL}{o:LI}(hg:GOk g)(ho:OOk g o):∃F L,Fill g o F L:=by
 obtain⟨⟨F,L⟩,e,left,h⟩:=elim_ok hg.n16 (FOk.of hg) ho.len ho.rng ho.nd
 refine⟨F,L,e,h.f,h.lenL,h.vsL,λu w hu ha=>h.mono u w hu ((Ey hg hu).2 ha),h.lat,λj v u w hj=> ?_,h.same,λj v hj=>h.latb j v (by have:=(List.getElem?_eq_some_iff.1 hj).1;have:=ho.len;omega) hj⟩
 have hjl:=(List.getElem?_eq_some_iff.1 hj).1
 have:=ho.len
 exact h.peo j v u w (by omega) hj
theorem DY (F:LI):(grow F).length=F.length:=by simp[grow]
theorem E4 {g:LL}{o:LI}(ho:OOk g o){v:Nat}(hv:v<g.length):∃i:Nat,i<g.length∧o[i]? =some (v:Int):=by
 have hsub:∀x∈o,x∈(List.range g.length).map Int.ofNat:=λx hx=>by
  have:=ho.rng x hx
  exact List.mem_map.2 ⟨x.toNat,List.mem_range.2 (by omega),by show ((x.toNat:Nat):Int)=x;omega⟩
 by_cases hm:(v:Int)∈o
 ·obtain⟨i,hi,e⟩:=List.getElem_of_mem hm
  exact⟨i,by have:=ho.len;omega,by rw[List.getElem?_eq_getElem hi,e]⟩
 ·exfalso
  have h1:((v:Int)::o).length≤((List.range g.length).map Int.ofNat).length:=DF (List.nodup_cons.2 ⟨hm,ho.nd⟩) (λx hx=>by
   rcases List.mem_cons.1 hx with rfl|hx
   ·exact List.mem_map.2 ⟨v,List.mem_range.2 hv,rfl⟩
   ·exact hsub x hx)
  have:=ho.len
  simp at h1
  omega
def RowOk (t N:LI):Prop:=(t.length=N.length∧∀k (hk:k<t.length),t[k]∈N∧t[k]∉t.take k)∧(0<t.length→t.getD 0 0=N.getD 0 0)
def cz :LI→LI→Int
 |[],[]=>0
 |[],_::_=> -1
 |_::_,[]=>1
 |a::x,b::y=>if a<b then-1 else if b<a then 1 else cz x y
def lk :Nat→LI→Int
 |0,_=>0
 |_+1,[]=>0
 |d+1,a::l=>(a+1)*33^d+lk d l
def lkey (s:Int):Int:=lk 32 (elems s)
def skey (s:Int):Int:=((elems s).length:Int)*33^32+lkey s
theorem least_of {P:Nat→Prop}(h:∃j,P j):∃j,P j∧∀i,i<j→¬P i:=by
 obtain⟨j,hj⟩:=h
 induction j using Nat.strongRecOn with
 |ind j ih=>
  by_cases hc:∃i,i<j∧P i
  ·obtain⟨i,h1,h2⟩:=hc;exact ih i h1 h2
  ·exact⟨j,hj,λi hi hp=>hc ⟨i,hi,hp⟩⟩
theorem Hk {α:Type}(p:α→Bool){l:List α}{i:Nat}(hi:i<l.length):(l.take (i+1)).filter p=(l.take i).filter p++(if p l[i] then [l[i]] else []):=by
 rw[List.take_succ_eq_append_getElem hi,List.filter_append]
 congr 1
 rw[List.filter_cons,List.filter_nil]
def lft (g:LL)(v:Nat)(gone:List Bool):LI:=(row g v).filter λx=> !gone.getD x.toNat false
theorem l7Left_eq (g:LL)(hg:GOk g){v:Nat}(hv:v<g.length)(gone:List Bool)(hl:gone.length=g.length):D.u0 g (v:Int) gone=some (lft g v gone):=by
 have hr:=hg.row_len hv
 unfold D.u0 lft
 refine(BY (λi=>(((row g v).take i).filter (λx=> !gone.getD x.toNat false),(i:Int))) (row g v).length ((row g v).filter λx=> !gone.getD x.toNat false) (by simp) (λi hi=> ?_) ?_).trans rfl
 ·obtain⟨w,e1,h1,_⟩:=hg.mem hv (List.getElem_mem hi)
  have hlen:(((row g v).take i).filter (λx=> !gone.getD x.toNat false)).length≤16:=Nat.le_trans (List.length_filter_le _ _) (by simp;omega)
  simp only[CZ hv,bs,dlt hi,cT,AC hi,e1,AC (show w<gone.length by omega),wq i]
  have e3:=Hk (λx:Int=> !gone.getD x.toNat false) hi
  rw[e1] at e3
  simp only[Int.toNat_natCast,AH (show w<gone.length by omega)] at e3
  rw[e3]
  cases hc:gone[w]
  ·rw[Bool.not_false,cT,A5 (by rw[List.length_singleton];omega),bs];rfl
  ·rw[Bool.not_true,cF];simp
 ·simp only[CZ hv,bs,Be,cF,List.take_length]
theorem lft_inc {g:LL}(hg:GOk g){v:Nat}(hv:v<g.length)(gone:List Bool):Inc (lft g v gone):=List.Pairwise.filter _ (hg.rows v hv).1
def Dk (f:Nat→Nat):Nat→Nat
 |0=>0
 |n+1=>Dk f n+f n
theorem Fc {f g:Nat→Nat}:∀{n:Nat},(∀i,i<n→f i=g i)→Dk f n=Dk g n
 |0,_=>rfl
 |n+1,h=>by simp only[Dk];rw[Fc (n:=n) (λi hi=>h i (by omega)),h n (by omega)]
theorem sumN_add (f g:Nat→Nat):∀n,Dk (λi=>f i+g i) n=Dk f n+Dk g n
 |0=>rfl
 |n+1=>by simp only[Dk];rw[sumN_add f g n];omega
theorem sumN_zero :∀n,Dk (λ_=>0) n=0
 |0=>rfl
 |n+1=>by simp only[Dk];rw[sumN_zero n]
def bit (b:Bool):Nat:=if b then 1 else 0
def S2 (n:Nat)(p:Nat→Nat→Bool):Nat:=Dk (λu=>Dk (λw=>bit (p u w)) n) n
def els (s:Int)(i:Nat):LI:=((List.range i).filter (has s)).map Int.ofNat
theorem els_succ (s:Int)(i:Nat):els s (i+1)=if has s i then els s i++[(i:Int)] else els s i:=by
 unfold els
 rw[List.range_succ,List.filter_append,List.map_append]
 cases h:has s i<;>simp[h]
theorem els_all {s:Int}{n:Nat}(hn:n≤32)(h:∀v,has s v=true→v<n):els s n=elems s:=by
 unfold els elems
 obtain⟨k,hk⟩:∃k,32=n+k:=⟨32-n,by omega⟩
 rw[hk,List.range_add,List.filter_append]
 have:((List.range k).map (λx=>n+x)).filter (has s)=[]:=by
  rw[List.filter_eq_nil_iff]
  intro x hx hc
  obtain⟨y,_,rfl⟩:=List.mem_map.1 hx
  have:=h _ hc;omega
 rw[this,List.append_nil]
def full (n:Nat):Int:=IntKind.u32.wrap (ishl .u32 1 (n:Int)-1)
theorem Dp (n:Nat):VS (full n):=VS.wrap _
theorem DA {n:Nat}(h:n≤16)(v:Nat):has (full n) v=decide (v<n):=by
 by_cases hv:v<32
 ·exact all_mask ⟨n,by omega⟩ ⟨v,hv⟩
 ·rw[FX (Dp n) (by omega)];symm;simp;omega
def CH (n:Nat)(s:Int):List Bool:=(List.range n).map λv=> !has s v
theorem Fb (n:Nat)(s:Int):(CH n s).length=n:=by simp[CH]
theorem GE {n:Nat}{s:Int}{v:Nat}(h:v<n){h':v<(CH n s).length}:(CH n s)[v]= !has s v:=by
 simp[CH]
theorem Gi {n:Nat}{s:Int}{v:Nat}(h:v<n):(CH n s).getD v false= !has s v:=by
 unfold CH
 rw[AH (by simpa using h)];simp
theorem goneOf_idx {n:Nat}{s:Int}{v:Nat}(h:v<n):idx (CH n s) (v:Int)=some (!has s v):=by
 rw[AC (by rw[Fb];exact h),←Gi h,AH (by rw[Fb];exact h)]
theorem goneOf_set {n b:Nat}{s:Int}(hs:VS s)(hb:b<n)(hn:n≤32):(CH n s).set b true=CH n (iandNot .u32 s (ishl .u32 1 (b:Int))):=by
 apply List.ext_getElem
 ·simp[CH]
 ·intro i h1 h2
  have hi:i<n:=by simpa [CH] using h2
  rw[List.getElem_set,GE hi,GE hi,A8 hs (VS.ishl _ _),BX (by omega)]
  by_cases e:b=i
  ·subst e;simp
  ·rw[if_neg e]
   have:decide (i=b)=false:=by simp;omega
   simp[this]
theorem G7 {n:Nat}(h:n≤16):List.replicate n false=CH n (full n):=by
 apply List.ext_getElem
 ·simp[CH]
 ·intro i h1 h2
  have hi:i<n:=by simpa [CH] using h2
  rw[List.getElem_replicate,GE hi,DA h]
  simp[hi]
theorem lft_gone {g:LL}(hg:GOk g){s:Int}(hs:VS s){v:Nat}(hv:v<g.length):lft g v (CH g.length s)=elems (iand .u32 (mk (row g v)) s):=by
 have h16:=hg.n16
 refine Inc.ext (lft_inc hg hv _) (BP _) (λx=> ?_)
 unfold lft
 rw[List.mem_filter,mem_elems]
 constructor
 ·rintro⟨h1,h2⟩
  obtain⟨w,rfl,hw,ha⟩:=hg.mem hv h1
  rw[Int.toNat_natCast,Gi hw,Bool.not_not] at h2
  refine⟨w,by omega,?_,rfl⟩
  rw[B8 (VS.mk _) hs,h2,CR (λx hx=>by have:=(hg.rows v hv).2 x hx;omega)]
  simpa using h1
 ·rintro⟨w,_,h2,rfl⟩
  rw[B8 (VS.mk _) hs,CR (λx hx=>by have:=(hg.rows v hv).2 x hx;omega)] at h2
  simp only[Bool.and_eq_true,decide_eq_true_eq] at h2
  have hw:w<g.length:=by have:=(hg.rows v hv).2 _ h2.1;omega
  exact⟨h2.1,by rw[Int.toNat_natCast,Gi hw,h2.2];rfl⟩
section
variable {g : LL} {o : LI} (hg : GOk g) (ho : OOk g o)
include hg ho
end
end Go.Sx

namespace Go.Sx
section
variable {g : LL} {o : LI} (hg : GOk g) (ho : OOk g o)
include hg ho
omit hg ho in
theorem l1Max_eq (a b:Int):D.M a b=some (max a b):=by
 unfold D.M
 by_cases h:b<a
 ·simp only[h,decide_true,cT];congr 1;omega
 ·simp only[h,decide_false,cF];congr 1;omega
def mx (f:Nat→Int):Nat→Int
 |0=>0
 |n+1=>max (mx f n) (f n)
end
end Go.Sx

namespace Go.Sx
def dg (g:LL)(s:Int)(v:Int):Int:=((elems (iand .u32 (mk (row g v.toNat)) s)).length:Int)
theorem idx_nets {g:LL}{v:Nat}(h:v<g.length):idx (g.map mk) (v:Int)=some (mk (row g v)):=by
 rw[AC (by simpa using h),List.getElem_map,DN h]
theorem elems_head {s:Int}(h:VS s){k:Nat}(hk:has s k=true)(hm:∀v,v<k→has s v=false):∃t,elems s=(k:Int)::t:=by
 cases he:elems s with
 |nil=>have:=(AT h).2 hk;rw[he] at this;simp at this
 |cons x t=>
  refine⟨t,?_⟩
  congr 1
  have hx:x∈elems s:=by rw[he];simp
  obtain⟨v,_,h2,rfl⟩:=mem_elems.1 hx
  have hkm:=(AT h).2 hk
  rw[he] at hkm
  have hi:=BP s
  rw[he] at hi
  rcases List.mem_cons.1 hkm with e|e
  ·exact e.symm
  ·have:=(List.pairwise_cons.1 hi).1 _ e
   have:=hm v (by omega)
   rw[this] at h2;cases h2
theorem graph_ext {g g':LL}(hg:GOk g)(hg':GOk g')(hl:g.length=g'.length)(h:∀a b:Nat,a<g.length→(adj g a b↔adj g' a b)):g=g':=by
 apply List.ext_getElem hl
 intro i h1 h2
 rw[←DN h1,←DN h2]
 refine Inc.ext (hg.rows i h1).1 (hg'.rows i h2).1 (λx=> ?_)
 constructor
 ·intro hx
  obtain⟨w,rfl,_,ha⟩:=hg.mem h1 hx
  exact(h i w h1).1 ha
 ·intro hx
  obtain⟨w,rfl,_,ha⟩:=hg'.mem h2 hx
  exact(h i w h1).2 ha
theorem grow_of {g:LL}(hg:GOk g):grow (g.map mk)=g:=by
 have hf:=FOk.of hg
 refine graph_ext (GOk.grow hf hg.n1 hg.n16) hg (by rw[DY,hf.len]) (λa b ha=> ?_)
 rw[DY,hf.len] at ha
 rw[EN hf ha,Ey hg ha]
theorem l7Clique_ok {g:LL}(hg:GOk g){l:LI}(hi:Inc l)(hr:∀x∈l,0≤x∧x<g.length):
  ∃g',D.B0 g l=some g'∧(GOk g'∧g'.length=g.length∧∀a b:Nat,adj g' a b↔adj g a b∨(a≠b∧(a:Int)∈l∧(b:Int)∈l)):=by
 have h16:=hg.n16
 have hl:=hi.short (n:=g.length) hr
 unfold D.B0
 refine BC (λs=>∃i:Nat,s.2=(i:Int)∧i≤l.length∧GOk s.1∧s.1.length=g.length∧∀a b:Nat,adj s.1 a b↔adj g a b∨(a≠b∧(a:Int)∈l.take i∧(b:Int)∈l.take i)) (λs=>l.length-s.2.toNat)
  (λr=>GOk r∧r.length=g.length∧∀a b:Nat,adj r a b↔adj g a b∨(a≠b∧(a:Int)∈l∧(b:Int)∈l)) ?_ ⟨0,rfl,by omega,hg,rfl,λa b=>by simp⟩ (λr h=>⟨r,rfl,h⟩)
 rintro⟨G,_⟩ ⟨i,rfl,hil,hG,hGl,hA⟩
 dsimp only at hG hGl hA ⊢
 by_cases hlt:i<l.length
 ·have r1:=hr _ (List.getElem_mem hlt)
  obtain⟨v,ev⟩:∃v:Nat,l[i]=(v:Int):=⟨l[i].toNat,by omega⟩
  simp only[dlt hlt,cT]
  refine BC (λs=>∃k:Nat,s.2=(k:Int)∧k≤i∧GOk s.1∧s.1.length=g.length∧∀a b:Nat,adj s.1 a b↔adj G a b∨(a=v∧(b:Int)∈l.take k)∨(b=v∧(a:Int)∈l.take k)) (λs=>i-s.2.toNat)
   (λr=>GOk r∧r.length=g.length∧∀a b:Nat,adj r a b↔adj G a b∨(a=v∧(b:Int)∈l.take i)∨(b=v∧(a:Int)∈l.take i)) ?_ ⟨0,rfl,by omega,hG,hGl,λa b=>by simp⟩ ?_
  ·rintro⟨G',_⟩ ⟨k,rfl,hk,hG',hGl',hA'⟩
   dsimp only at hG' hGl' hA' ⊢
   by_cases hkl:k<i
   ·have hkk:k<l.length:=by omega
    have r2:=hr _ (List.getElem_mem hkk)
    obtain⟨u,eu⟩:∃u:Nat,l[k]=(u:Int):=⟨l[k].toNat,by omega⟩
    have hne:l[k]<l[i]:=(List.pairwise_iff_getElem.1 hi) k i hkk hlt hkl
    obtain⟨g2,q1,q2,q3,q4⟩:=l1Link_ok hG' (u:=u) (v:=v) (by omega) (by omega) (by omega)
    simp only[dlt hkl,cT,AC hkk,AC hlt,bs,eu,ev,q1,wq k]
    refine⟨_,rfl,⟨k+1,rfl,by omega,q2,by dsimp only;omega,λa b=> ?_⟩,by dsimp only;omega⟩
    dsimp only
    rw[q4,hA',List.take_succ_eq_append_getElem hkk,eu]
    simp only[List.mem_append,List.mem_singleton,Int.natCast_inj]
    constructor
    ·rintro((h|⟨h1,h2⟩|⟨h1,h2⟩)|⟨h1,h2⟩|⟨h1,h2⟩)
     ·exact .inl h
     ·exact .inr (.inl ⟨h1,.inl h2⟩)
     ·exact .inr (.inr ⟨h1,.inl h2⟩)
     ·exact .inr (.inr ⟨h2,.inr h1⟩)
     ·exact .inr (.inl ⟨h1,.inr h2⟩)
    ·rintro(h|⟨h1,h2|h2⟩|⟨h1,h2|h2⟩)
     ·exact .inl (.inl h)
     ·exact .inl (.inr (.inl ⟨h1,h2⟩))
     ·exact .inr (.inr ⟨h1,h2⟩)
     ·exact .inl (.inr (.inr ⟨h1,h2⟩))
     ·exact .inr (.inl ⟨h2,h1⟩)
   ·obtain rfl:k=i:=by omega
    simp only[Be,cF]
    exact⟨_,rfl,hG',hGl',hA'⟩
  ·rintro r ⟨q1,q2,q3⟩
   rw[wq i]
   refine⟨_,rfl,⟨i+1,rfl,by omega,q1,q2,λa b=> ?_⟩,by dsimp only;omega⟩
   dsimp only
   have hvt:(v:Int)∉l.take i:=by
    rw[←ev];exact nodup_iff.1 hi.nodup i hlt
   rw[q3,hA,List.take_succ_eq_append_getElem hlt,ev]
   simp only[List.mem_append,List.mem_singleton,Int.natCast_inj]
   constructor
   ·rintro((h|⟨h0,h1,h2⟩)|⟨h1,h2⟩|⟨h1,h2⟩)
    ·exact .inl h
    ·exact .inr ⟨h0,.inl h1,.inl h2⟩
    ·refine .inr ⟨λe=> ?_,.inr h1,.inl h2⟩
     subst e;subst h1;exact hvt h2
    ·refine .inr ⟨λe=> ?_,.inl h2,.inr h1⟩
     subst e;subst h1;exact hvt h2
   ·rintro(h|⟨h0,h1|h1,h2|h2⟩)
    ·exact .inl (.inl h)
    ·exact .inl (.inr ⟨h0,h1,h2⟩)
    ·exact .inr (.inr ⟨h2,h1⟩)
    ·exact .inr (.inl ⟨h1,h2⟩)
    ·exact absurd (h1.trans h2.symm) h0
 ·obtain rfl:i=l.length:=by omega
  simp only[Be,cF]
  rw[List.take_length] at hA
  exact⟨_,rfl,hG,hGl,hA⟩
theorem FOk.clique {F F':LI}{n:Nat}{S:Int}(h:FOk F n)(hS:∀w,has S w=true→w<n)(hl:F'.length=n)(hv:∀u,u<n→VS (F'.getD u 0))(h':∀u w,u<n→nb F' u w=(nb F u w||(has S u&&has S w&&decide (w≠u)))):FOk F' n:=by
 refine⟨hl,hv,λu w hu hh=> ?_,λu hu=> ?_,λu w hu hh=> ?_⟩
 ·rw[h' u w hu] at hh
  simp only[Bool.or_eq_true,Bool.and_eq_true] at hh
  rcases hh with hh|⟨⟨_,hh⟩,_⟩
  ·exact h.lt u w hu hh
  ·exact hS w hh
 ·rw[h' u u hu,h.irr u hu];simp
 ·rw[h' u w hu] at hh
  simp only[Bool.or_eq_true,Bool.and_eq_true,decide_eq_true_eq] at hh
  rcases hh with hh|⟨⟨h1,h2⟩,h3⟩
  ·rw[h' w u (h.lt u w hu hh),h.sym u w hu hh];rfl
  ·rw[h' w u (hS w h2),h1,h2]
   have:decide (u≠w)=true:=by simpa using λe=>h3 e.symm
   simp[this]
theorem eliminate_ok {F:LI}{n b:Nat}{s:Int}(h16:n≤16)(h:FOk F n)(hs:VS s)(hb:b<n):
  ∃F',D.b2 F s (b:Int)=some F'∧(FOk F' n∧∀u w,u<n→nb F' u w=(nb F u w||((nb F b u&&has s u)&&(nb F b w&&has s w)&&decide (w≠u)))):=by
 have hlen:=h.len
 unfold D.b2
 have hFb:idx F (b:Int)=some (F.getD b 0):=by rw[AC (by omega),AH (by omega)]
 rw[hFb]
 simp only[bs,Cc]
 have hSV:VS (iandNot .u32 (iand .u32 (F.getD b 0) s) (ishl .u32 1 (b:Int))):=VS.iandNot _ _
 have hS:∀w,has (iandNot .u32 (iand .u32 (F.getD b 0) s) (ishl .u32 1 (b:Int))) w=(nb F b w&&has s w):=λw=>by
  rw[A8 (VS.iand _ _) (VS.ishl _ _),B8 (h.vs b hb) hs,BX (by omega)]
  by_cases e:w=b
  ·subst e
   have:=h.irr w hb
   unfold nb at this ⊢
   rw[this];simp
  ·unfold nb;simp[e]
 have hSn:∀w,has (iandNot .u32 (iand .u32 (F.getD b 0) s) (ishl .u32 1 (b:Int))) w=true→w<n:=λw hw=>by
  rw[hS,Bool.and_eq_true] at hw
  exact h.lt b w hb hw.1
 generalize iandNot .u32 (iand .u32 (F.getD b 0) s) (ishl .u32 1 (b:Int))=S at*
 rw[D8 S hSV,bs]
 refine BC (λst=>∃i:Nat,st.2=(i:Int)∧i≤(elems S).length∧st.1.length=n∧(∀u,u<n→VS (st.1.getD u 0))∧∀u w,u<n→nb st.1 u w=(nb F u w||(decide ((u:Int)∈(elems S).take i)&&has S w&&decide (w≠u)))) (λst=>(elems S).length-st.2.toNat)
  (λF'=>F'.length=n∧(∀u,u<n→VS (F'.getD u 0))∧∀u w,u<n→nb F' u w=(nb F u w||(has S u&&has S w&&decide (w≠u)))) ?_ ⟨0,rfl,by omega,hlen,h.vs,λu w _=>by simp⟩ ?_
 ·rintro⟨l,_⟩ ⟨i,rfl,hi,hl,hv,hh⟩
  dsimp only at hl hv hh ⊢
  have hle:=Ce S
  by_cases hlt:i<(elems S).length
  ·obtain⟨u0,h1,h2,h3⟩:=mem_elems.1 (List.getElem_mem hlt)
   have h4:=hSn u0 h2
   simp only[dlt hlt,cT,AC hlt,bs,h3,AC (show u0<l.length by omega),Cc,wq i,Int.toNat_natCast]
   refine⟨_,rfl,⟨i+1,rfl,by omega,by simp[hl],λu hu=> ?_,λu w hu=> ?_⟩,by dsimp only;omega⟩
   ·rw[DT _ _ _ _ (by omega)]
    split
    ·exact VS.ior _ _
    ·exact hv u hu
   ·have hmem:((u:Int)∈(elems S).take (i+1))↔((u:Int)∈(elems S).take i∨u=u0):=by
     rw[List.take_succ_eq_append_getElem hlt,List.mem_append,h3]
     simp[Int.natCast_inj]
    unfold nb
    rw[DT _ _ _ _ (by omega)]
    by_cases hc:u=u0
    ·subst hc
     rw[if_pos rfl]
     have hg:l[u]=l.getD u 0:=(AH (by omega) 0).symm
     rw[hg,CG (hv u hu) (VS.iandNot _ _),A8 hSV (VS.ishl _ _),BX (by omega)]
     have:=hh u w hu
     unfold nb at this
     rw[this,decide_eq_true (hmem.2 (.inr rfl))]
     cases has (F.getD u 0) w<;>cases has S w<;>by_cases hw:w=u<;>simp[hw]
    ·rw[if_neg hc]
     have:=hh u w hu
     unfold nb at this
     rw[this]
     have:decide ((u:Int)∈(elems S).take (i+1))=decide ((u:Int)∈(elems S).take i):=by
      rw[Bool.eq_iff_iff,decide_eq_true_eq,decide_eq_true_eq,hmem];simp[hc]
     rw[this]
  ·obtain rfl:i=(elems S).length:=by omega
   simp only[Be,cF]
   refine⟨_,rfl,hl,hv,λu w hu=> ?_⟩
   rw[hh u w hu,List.take_length]
   congr 3
   rw[Bool.eq_iff_iff,decide_eq_true_eq,AT hSV]
 ·rintro F' ⟨q1,q2,q3⟩
  refine⟨_,rfl,h.clique hSn q1 q2 q3,λu w hu=> ?_⟩
  rw[q3 u w hu,hS,hS]
noncomputable def FM (F:LI)(s b:Int):LI:=(D.b2 F s b).getD []
theorem elimF_ok {F:LI}{n b:Nat}{s:Int}(h16:n≤16)(h:FOk F n)(hs:VS s)(hb:b<n):
  D.b2 F s (b:Int)=some (FM F s b)∧FOk (FM F s b) n∧∀u w,u<n→nb (FM F s b) u w=(nb F u w||((nb F b u&&has s u)&&(nb F b w&&has s w)&&decide (w≠u))):=by
 obtain⟨F',e,h1,h2⟩:=eliminate_ok h16 h hs hb
 have:FM F s b=F':=by unfold FM;rw[e];rfl
 rw[this];exact⟨e,h1,h2⟩
theorem lft_grow {F:LI}{n v:Nat}{s:Int}(h1:1≤n)(h16:n≤16)(h:FOk F n)(hs:VS s)(hv:v<n):lft (grow F) v (CH n s)=elems (iand .u32 (F.getD v 0) s):=by
 have hl:(grow F).length=n:=by rw[DY,h.len]
 have:=lft_gone (GOk.grow h h1 h16) hs (v:=v) (by omega)
 rw[hl,row_grow,Gq (h.vs v hv)] at this
 exact this
theorem clique_grow {F:LI}{n b:Nat}{s:Int}(h1:1≤n)(h16:n≤16)(h:FOk F n)(hs:VS s)(hb:b<n):
  D.B0 (grow F) (lft (grow F) b (CH n (iandNot .u32 s (ishl .u32 1 (b:Int)))))=some (grow (FM F s b)):=by
 obtain⟨_,e2,e3⟩:=elimF_ok h16 h hs hb
 have hG:=GOk.grow h h1 h16
 have hl:(grow F).length=n:=by rw[DY,h.len]
 rw[lft_grow h1 h16 h (VS.iandNot _ _) hb]
 have hm:∀w:Nat,(w:Int)∈elems (iand .u32 (F.getD b 0) (iandNot .u32 s (ishl .u32 1 (b:Int))))↔(nb F b w&&has s w)=true:=λw=>by
  rw[AT (VS.iand _ _),B8 (h.vs b hb) (VS.iandNot _ _),A8 hs (VS.ishl _ _),BX (by omega)]
  by_cases e:w=b
  ·subst e
   have:=h.irr w hb
   unfold nb at this ⊢
   rw[this];simp
  ·unfold nb;simp[e]
 obtain⟨g',q1,q2,q3,q4⟩:=l7Clique_ok hG (l:=elems (iand .u32 (F.getD b 0) (iandNot .u32 s (ishl .u32 1 (b:Int))))) (BP _) (λx hx=>by
  obtain⟨w,_,_,rfl⟩:=mem_elems.1 hx
  have:=(hm w).1 hx
  rw[Bool.and_eq_true] at this
  have:=h.lt b w hb this.1
  omega)
 rw[q1]
 congr 1
 refine graph_ext q2 (GOk.grow e2 h1 h16) (by rw[q3,DY,DY,h.len,e2.len]) (λu w hu=> ?_)
 have hu':u<n:=by omega
 rw[q4,EN e2 hu',EN h hu',e3 u w hu',hm,hm]
 simp only[Bool.or_eq_true,Bool.and_eq_true,decide_eq_true_eq]
 constructor
 ·rintro(h|⟨h,h1,h2⟩)
  ·exact .inl h
  ·exact .inr ⟨⟨h1,h2⟩,λe=>h e.symm⟩
 ·rintro(h|⟨⟨h1,h2⟩,h⟩)
  ·exact .inl h
  ·exact .inr ⟨λe=>h e.symm,h1,h2⟩
theorem l1CopyGraph_eq {g:LL}(hg:GOk g):D.v1 g=some g:=by
 have h16:=hg.n16
 unfold D.v1
 refine(Gj g (λs i=>(i,s)) (λr=>r) (by omega) (λs i hi _=> ?_) (λs=> ?_)).trans (by simp)
 ·simp only[dlt hi,cT,AC hi,bs,DE _ (hg.sh2.2 _ (List.getElem_mem hi)),wq i]
 ·simp only[Be,cF]
def CQ (F:LI)(K:Int):Prop:=∀u w,has K u=true→has K w=true→u≠w→nb F u w=true
def MX (F:LI)(n:Nat)(K:Int):Prop:=CQ F K∧∀w,w<n→has K w=false→∃u,has K u=true∧nb F u w=false
def In (n:Nat)(K:Int):Prop:=VS K∧∀w,has K w=true→w<n
theorem In.lt {n:Nat}{K:Int}(h:In n K)(hn:n≤16):0≤K∧K<65536:=by
 obtain⟨m,rfl,hm⟩:=h.1.nat
 refine⟨by omega,?_⟩
 have:m<2^16:=by
  apply Nat.lt_pow_two_of_testBit
  intro i hi
  cases hc:m.testBit i
  ·rfl
  ·have:=h.2 i (by rw[B7];exact hc)
   omega
 omega
theorem elems_mk {n:Nat}{x:LI}(hn:n≤16)(hi:Inc x)(hr:∀z∈x,0≤z∧z<n):elems (mk x)=x:=by
 have h32:∀z∈x,0≤z∧z<32:=λz hz=>by have:=hr z hz;omega
 refine Inc.ext (BP _) hi (λz=> ?_)
 rw[mem_elems]
 constructor
 ·rintro⟨v,_,h,rfl⟩
  rw[CR h32] at h
  exact of_decide_eq_true h
 ·intro hz
  have:=h32 z hz
  refine⟨z.toNat,by omega,?_,by omega⟩
  rw[CR h32,show ((z.toNat:Nat):Int)=z by omega]
  exact decide_eq_true hz
def Cq (g:LL)(x:LI):Prop:=∀u w:Nat,(u:Int)∈x→(w:Int)∈x→u≠w→adj g u w
structure GC (g:LL)(l:LI):Prop where
 up:l.Pairwise λa b=>lkey a<lkey b
 mem:∀K,K∈l↔In g.length K∧MX (g.map mk) g.length K
def mis (F:LI)(n:Nat)(S:Int):Nat:=S2 n (λu w=>has S u&&(has S w&&(decide (w<u)&& !nb F w u)))
def cd (F:LI)(s v:Int):Int:=((elems (iand .u32 (F.getD v.toNat 0) s)).length:Int)
def cf (n:Nat)(F:LI)(s v:Int):Int:=(mis F n (iand .u32 (F.getD v.toNat 0) s):Int)
section
variable {g : LL} (hg : GOk g)
include hg
end
end Go.Sx

namespace Go.Sx
def S16 (s:Int):Prop:=0≤s∧s<65536
theorem S16.vs {s:Int}(h:S16 s):VS s:=⟨h.1,by have:=h.2;omega⟩
theorem S16.nat {s:Int}(h:S16 s):∃n:Nat,s=n∧n<65536:=⟨s.toNat,by have:=h.1;omega,by have:=h.1;have:=h.2;omega⟩
theorem In.s16 {n:Nat}{K:Int}(h:In n K)(hn:n≤16):S16 K:=h.lt hn
theorem In.of {n i:Nat}(h:i<2^n)(hn:n≤16):In n (i:Int):=by
 have:2^n≤2^16:=Nat.pow_le_pow_right (by omega) hn
 refine⟨⟨by omega,by omega⟩,λw hw=> ?_⟩
 rw[B7] at hw
 have:=Nat.ge_two_pow_of_testBit hw
 apply Classical.byContradiction
 intro hc
 have h2:2^n≤2^w:=Nat.pow_le_pow_right (by omega) (by omega)
 omega
theorem CV (n:Nat)(h:n<18446744073709551616):(BitVec.ofInt 64 (n:Int)).toNat=n:=by
 rw[BitVec.toNat_ofInt];omega
theorem and64 {a b:Nat}(ha:a<4294967296)(hb:b<4294967296):iand .i64 (a:Int) (b:Int)=((a&&&b:Nat):Int):=by
 have hw:a&&&b<4294967296:=Nat.and_lt_two_pow (n:=32) _ hb
 show IntKind.i64.wrap (((BitVec.ofInt 64 (a:Int)&&&BitVec.ofInt 64 (b:Int)).toNat:Nat):Int)=_
 rw[BitVec.toNat_and,CV a (by omega),CV b (by omega),w64 (by omega) (by omega)]
theorem or64 {a b:Nat}(ha:a<4294967296)(hb:b<4294967296):ior .i64 (a:Int) (b:Int)=((a|||b:Nat):Int):=by
 have hw:a|||b<4294967296:=Nat.or_lt_two_pow (n:=32) ha hb
 show IntKind.i64.wrap (((BitVec.ofInt 64 (a:Int)|||BitVec.ofInt 64 (b:Int)).toNat:Nat):Int)=_
 rw[BitVec.toNat_or,CV a (by omega),CV b (by omega),w64 (by omega) (by omega)]
theorem xor64 {a b:Nat}(ha:a<4294967296)(hb:b<4294967296):ixor .i64 (a:Int) (b:Int)=((a^^^b:Nat):Int):=by
 have hw:a^^^b<4294967296:=Nat.xor_lt_two_pow (n:=32) ha hb
 show IntKind.i64.wrap (((BitVec.ofInt 64 (a:Int)^^^BitVec.ofInt 64 (b:Int)).toNat:Nat):Int)=_
 rw[BitVec.toNat_xor,CV a (by omega),CV b (by omega),w64 (by omega) (by omega)]
theorem and6432 {a b:Int}(ha:VS a)(hb:VS b):iand .i64 a b=iand .u32 a b:=by
 obtain⟨m,rfl,hm⟩:=ha.nat;obtain⟨n,rfl,hn⟩:=hb.nat
 rw[and64 hm hn,EH hm hn]
theorem or6432 {a b:Int}(ha:VS a)(hb:VS b):ior .i64 a b=ior .u32 a b:=by
 obtain⟨m,rfl,hm⟩:=ha.nat;obtain⟨n,rfl,hn⟩:=hb.nat
 rw[or64 hm hn,ior_nat hm hn]
theorem shl64 {v:Nat}(hv:v<32):ishl .i64 1 (v:Int)=ishl .u32 1 (v:Int):=by
 rw[one_eq hv]
 have h:(2:Nat)^v<2^32:=Nat.pow_lt_pow_right (by omega) hv
 have h':(2:Nat)^32=4294967296:=by decide
 rw[h'] at h
 show IntKind.i64.wrap (1*2^(min ((v:Int)).toNat 64))=_
 rw[show min ((v:Int)).toNat 64=v by simp;omega,Int.one_mul]
 have e:((2^v:Nat):Int)=(2:Int)^v:=by simp
 rw[←e]
 generalize 2^v=p at h ⊢
 rw[w64 (by omega) (by omega)]
theorem shr64 {s:Int}(h:VS s)(v:Nat)(hv:v<64):BZ .i64 s (v:Int)=((s.toNat>>>v:Nat):Int):=by
 obtain⟨m,rfl,hm⟩:=h.nat
 show Int.fdiv (m:Int) (2^(min ((v:Int)).toNat 64))=_
 rw[show min ((v:Int)).toNat 64=v by simp;omega]
 have e:((2^v:Nat):Int)=(2:Int)^v:=by simp
 rw[←e,Int.fdiv_eq_ediv_of_nonneg _ (Int.natCast_nonneg _),Nat.shiftRight_eq_div_pow]
 simp
theorem bit64 {s:Int}(h:VS s){v:Nat}(hv:v<64):(iand .i64 (BZ .i64 s (v:Int)) 1==1)=has s v:=by
 rw[shr64 h v hv]
 have hs:s.toNat>>>v<4294967296:=by
  obtain⟨m,rfl,hm⟩:=h.nat
  rw[Nat.shiftRight_eq_div_pow]
  exact Nat.lt_of_le_of_lt (Nat.div_le_self _ _) hm
 rw[show (1:Int)=((1:Nat):Int) from rfl,and64 hs (by omega),has,Nat.testBit]
 rw[Nat.and_comm]
 have h1:1&&&(s.toNat>>>v)=0∨1&&&(s.toNat>>>v)=1:=by
  rw[Nat.and_comm,Nat.and_one_is_mod];omega
 rcases h1 with e|e<;>rw[e]<;>rfl
theorem uw {v:Nat}(hv:v<1000):IntKind.u64.wrap (v:Int)=(v:Int):=wu64 (by omega) (by omega)
theorem E6 (v:Nat):decide ((v:Int)<0)=false:=by simp
theorem Eu {g:LL}(hg:GOk g):D.m g=some (g.map mk):=by
 have h16:=hg.n16
 unfold D.m
 refine(BY (λi=>((g.take i).map mk,(i:Int))) g.length (g.map mk) (by simp) (λi hi=> ?_) ?_).trans rfl
 ·have hr:=hg.row_len hi
  simp only[dlt hi,cT]
  refine(BY (λk=>(mk ((row g i).take k),(k:Int))) (row g i).length (mk (row g i)) (by simp[mk]) (λk hk=> ?_) ?_).trans ?_
  ·obtain⟨w,e1,hw,_⟩:=hg.mem hi (List.getElem_mem hk)
   simp only[CZ hi,bs,dlt hk,cT,AC hk,e1,uw (show w<1000 by omega),E6,cF,wq k]
   rw[shl64 (show w<32 by omega),or6432 (VS.mk _) (VS.ishl _ _)]
   have:mk ((row g i).take (k+1))=ior .u32 (mk ((row g i).take k)) (ishl .u32 1 (w:Int)):=by
    unfold mk
    rw[List.take_succ_eq_append_getElem hk,List.foldl_append,e1];rfl
   rw[this]
  ·simp only[CZ hi,bs,Be,cF,List.take_length]
  ·rw[A5 (by simp;omega),bs,wq i,List.take_succ_eq_append_getElem hi,List.map_append,←DN hi];rfl
 ·simp only[Be,cF,List.take_length]
theorem Em {n:Nat}(hn:n≤16):full n=((2^n-1:Nat):Int):=by
 have key:∀k:Fin 17,full k.val=((2^k.val-1:Nat):Int):=by decide+kernel
 exact key ⟨n,by omega⟩
theorem GD {g:LL}(hg:GOk g):D.F g=some (full g.length):=by
 have h16:=hg.n16
 unfold D.F
 rw[uw (by omega),E6,cF,shl64 (by omega),one_eq (by omega),Em h16]
 have h:(2:Nat)^g.length≤2^16:=Nat.pow_le_pow_right (by omega) h16
 have h0:0<(2:Nat)^g.length:=Nat.pow_pos (by omega)
 rw[w64 (by omega) (by omega)]
 congr 1;omega
def stB (g:LL)(b:Int):Bool:=(List.range g.length).all λv=> !(has b v&&(iand .u32 (mk (row g v)) b !=0))
theorem FB {g:LL}(hg:GOk g){b:Int}(hb:VS b):D.S (g.map mk) b=some (stB g b):=by
 have h16:=hg.n16
 unfold D.S
 refine(C7 g.length (λv=> !(has b v&&(iand .u32 (mk (row g v)) b !=0))) (.inl ()) (.inr false) (λv hv=> ?_) ?_).trans ?_
 ·have e1:decide ((v:Int)<((g.map mk).length:Int))=true:=by rw[List.length_map];exact dlt hv
  simp only[e1,cT,uw (show v<1000 by omega),E6,cF,bit64 hb (show v<64 by omega),idx_nets hv,bs,and6432 (VS.mk _) hb,wq v]
  cases has b v
  ·simp
  ·simp only[cT,bs,Bool.true_and]
   cases (iand .u32 (mk (row g v)) b !=0)<;>rfl
 ·have e1:decide ((g.length:Int)<((g.map mk).length:Int))=false:=by rw[List.length_map];exact Be
  simp only[e1,cF]
 ·unfold stB
  cases (List.range g.length).all λv=> !(has b v&&(iand .u32 (mk (row g v)) b !=0))<;>rfl
theorem Fk {g:LL}(hg:GOk g){b:Int}(hb:In g.length b):stB g b=true↔∀u w,has b u=true→has b w=true→¬adj g u w:=by
 have h16:=hg.n16
 unfold stB
 rw[Cg]
 constructor
 ·intro h u w hu hw ha
  have hu':=hb.2 u hu
  have:=h u hu'
  rw[hu] at this
  simp only[Bool.true_and,Bool.not_eq_true',bne_eq_false_iff_eq] at this
  rw[(VS.iand _ _).eq_zero] at this
  have hw':=hb.2 w hw
  have h2:=this w (by omega)
  rw[B8 (VS.mk _) hb.1,hw,CR (λx hx=>by have:=(hg.rows u hu').2 x hx;omega)] at h2
  simp only[Bool.and_true,decide_eq_false_iff_not] at h2
  exact h2 ha
 ·intro h v hv
  cases hc:has b v with
  |false=>rfl
  |true=>
   simp only[Bool.true_and,Bool.not_eq_true',bne_eq_false_iff_eq]
   rw[(VS.iand _ _).eq_zero]
   intro w hw
   rw[B8 (VS.mk _) hb.1,CR (λx hx=>by have:=(hg.rows v hv).2 x hx;omega)]
   cases hw2:has b w with
   |false=>simp
   |true=>
    have:(w:Int)∉row g v:=h v w hc hw2
    simp[this]
theorem lowbits64 {s:Int}(h:VS s)(h0:s≠0):iand .i64 s (IntKind.i64.wrap (s-1))=iand .u32 s (IntKind.u32.wrap (s-1)):=by
 obtain⟨m,rfl,hm⟩:=h.nat
 have hm0:m≠0:=by omega
 have e1:IntKind.i64.wrap ((m:Int)-1)=((m-1:Nat):Int):=by rw[w64 (by omega) (by omega)];omega
 have e2:IntKind.u32.wrap ((m:Int)-1)=((m-1:Nat):Int):=by rw[EW];omega
 rw[e1,e2,and64 hm (by omega),EH hm (by omega)]
theorem E8 {s:Int}(h:VS s):D.z s=some ((elems s).length:Int):=by
 have hel:=Ce s
 unfold D.z
 obtain⟨y,hy,hq⟩:=BC (step:=(fun(s_10:Int×Int)=>match s_10 with|(x_13,x_14)=>cond (decide ((0:Int)<x_13)) (some (.inl ((iand .i64 x_13 (IntKind.i64.wrap (x_13-1))),(IntKind.i64.wrap (x_14+1))))) (some (.inr x_14)))) (s:=(s,0)) (k:=λx=>some x) (Q:=λy=>y=((elems s).length:Int))
  (λst=>VS st.1∧∃c:Nat,st.2=(c:Int)∧c+(elems st.1).length=(elems s).length) (λst=>(elems st.1).length) (λr=>r=((elems s).length:Int)) (by
   rintro⟨x,_⟩ ⟨hx,c,rfl,hc⟩
   dsimp only at hx hc ⊢
   by_cases h0:x=0
   ·subst h0
    rw[Cr] at hc
    simp only[List.length_nil,Nat.add_zero] at hc
    have e:decide ((0:Int)<0)=false:=rfl
    rw[e,cF]
    exact⟨_,rfl,by show (c:Int)=_;omega⟩
   ·have e:decide ((0:Int)<x)=true:=by have:=hx.1;simp;omega
    obtain⟨k,hk,h1,h2,_,h3⟩:=least_spec hx h0
    have he:=Hd hk h1 h2 h3
    have hl:(elems x).length=(elems (iand .u32 x (IntKind.u32.wrap (x-1)))).length+1:=by rw[he];rfl
    rw[e,cT,lowbits64 hx h0,wq c]
    exact⟨_,rfl,⟨VS.iand _ _,c+1,rfl,by dsimp only;omega⟩,by dsimp only;omega⟩) ⟨h,0,rfl,by simp⟩ (λr hr=>⟨r,rfl,hr⟩)
 rw[hy,hq]
theorem low64 {m:Nat}(h:m<4294967296)(h0:m≠0):∃k:Nat,k<32∧m.testBit k=true∧(∀v,v<k→m.testBit v=false)∧iand .i64 (m:Int) (IntKind.i64.wrap (0-(m:Int)))=((2^k:Nat):Int):=by
 obtain⟨q,hq,hk64⟩:=Lib.ctzFrom_spec 64 m (by omega) (by omega)
 obtain⟨hl,_⟩:=Lib.lowest_bit 64 m h0 (by omega)
 have hc:Lib.ctz 64 m=Lib.ctzFrom 64 m:=by unfold Lib.ctz;rw[if_neg h0]
 rw[hc] at hl
 generalize Lib.ctzFrom 64 m=k at*
 have hpos:0<2^k:=Nat.pow_pos (by omega)
 have hb:∀v,m.testBit v=(decide (v≥k)&&(2*q+1).testBit (v-k)):=λv=>by rw[hq,Nat.mul_comm,Nat.testBit_mul_two_pow,Bool.and_comm]
 have hkb:m.testBit k=true:=by rw[hb];simp
 have hk:k<32:=by
  have:=Nat.ge_two_pow_of_testBit hkb
  apply Classical.byContradiction
  intro hc
  have h2:2^32≤2^k:=Nat.pow_le_pow_right (by omega) (by omega)
  omega
 refine⟨k,hk,hkb,λv hv=>by rw[hb];simp;intro hc;omega,?_⟩
 have hpk:2^k<2^32:=Nat.pow_lt_pow_right (by omega) hk
 rw[w64 (by omega) (by omega)]
 show IntKind.i64.wrap (((BitVec.ofInt 64 (m:Int)&&&BitVec.ofInt 64 (0-(m:Int))).toNat:Nat):Int)=_
 have e:(BitVec.ofInt 64 (0-(m:Int))).toNat=2^64-m:=by rw[BitVec.toNat_ofInt];omega
 rw[BitVec.toNat_and,CV m (by omega),e,hl,w64 (by omega) (by omega)]
def Ahead (a b:Int):Prop:=∃v,has a v=true∧has b v=false∧∀u,u<v→has a u=has b u
theorem l25Less_eq {a b:Int}(ha:VS a)(hb:VS b):∃r,D.P a b=some r∧(r=true↔Ahead a b):=by
 obtain⟨m,rfl,hm⟩:=ha.nat;obtain⟨n,rfl,hn⟩:=hb.nat
 unfold D.P
 rw[xor64 hm hn]
 refine⟨_,rfl,?_⟩
 have hx:m^^^n<4294967296:=Nat.xor_lt_two_pow (n:=32) hm hn
 by_cases h0:m^^^n=0
 ·rw[h0]
  have hmn:m=n:=Nat.eq_of_testBit_eq λi=>by
   have:=congrArg (λz=>z.testBit i) h0
   simp only[Nat.testBit_xor,Nat.zero_testBit] at this
   cases h1:m.testBit i<;>cases h2:n.testBit i<;>simp_all
  have e:iand .i64 ((m:Nat):Int) (iand .i64 ((0:Nat):Int) (IntKind.i64.wrap (0-((0:Nat):Int))))=0:=by
   have:iand .i64 ((0:Nat):Int) (IntKind.i64.wrap (0-((0:Nat):Int)))=((0:Nat):Int):=by decide
   rw[this,and64 hm (by omega),Nat.and_zero];rfl
  rw[e]
  simp only[bne_self_eq_false,Bool.false_eq_true,false_iff]
  rintro⟨v,h1,h2,_⟩
  rw[hmn,h2] at h1;cases h1
 ·obtain⟨k,hk,k1,k2,k3⟩:=low64 hx h0
  have hpk:2^k<2^32:=Nat.pow_lt_pow_right (by omega) hk
  rw[k3,and64 hm (by omega),bne_iff_ne]
  have hne:((m&&&2^k:Nat):Int)≠0↔m.testBit k=true:=by
   constructor
   ·intro h
    cases hc:m.testBit k
    ·exfalso
     apply h
     have:m&&&2^k=0:=Nat.eq_of_testBit_eq λi=>by
      rw[Nat.testBit_and,Nat.testBit_two_pow,Nat.zero_testBit]
      by_cases e:k=i
      ·subst e;simp[hc]
      ·simp[e]
     rw[this];rfl
    ·rfl
   ·intro h h2
    have h3:m&&&2^k=0:=by omega
    have:=congrArg (λz=>z.testBit k) h3
    simp only[Nat.testBit_and,Nat.testBit_two_pow,Nat.zero_testBit,h] at this
    simp at this
  rw[hne]
  rw[Nat.testBit_xor] at k1
  have hag:∀v,v<k→m.testBit v=n.testBit v:=λv hv=>by
   have:=k2 v hv
   rw[Nat.testBit_xor] at this
   cases h1:m.testBit v<;>cases h2:n.testBit v<;>simp_all
  constructor
  ·intro h
   refine⟨k,by rw[B7];exact h,?_,λu hu=>by rw[B7,B7];exact hag u hu⟩
   rw[B7]
   rw[h] at k1
   cases hc:n.testBit k
   ·rfl
   ·rw[hc] at k1;cases k1
  ·rintro⟨v,h1,h2,h3⟩
   rw[B7] at h1 h2
   rcases Nat.lt_trichotomy v k with c|c|c
   ·have:=hag v c;rw[h1,h2] at this;cases this
   ·subst c;exact h1
   ·have:=h3 k c
    rw[B7,B7] at this
    rw[this] at k1
    simp at k1
theorem l25Set_eq {s:Int}(h:S16 s):D.c0 s=some (elems s):=by
 unfold D.c0
 obtain⟨j,hj1,hj2⟩:=least_of (P:=λj=>s.toNat>>>j=0) ⟨16,by
  obtain⟨n,rfl,hn⟩:=h.nat
  rw[Nat.shiftRight_eq_div_pow];simp;omega⟩
 have hj16:j≤16:=by
  apply Classical.byContradiction
  intro hc
  refine hj2 16 (by omega) ?_
  obtain⟨n,rfl,hn⟩:=h.nat
  rw[Nat.shiftRight_eq_div_pow];simp;omega
 have hlt:∀v,has s v=true→v<j:=λv hv=>by
  apply Classical.byContradiction
  intro hc
  have:(s.toNat>>>j).testBit (v-j)=true:=by
   rw[Nat.testBit_shiftRight]
   rw[show j+(v-j)=v by omega];exact hv
  rw[hj1] at this;simp at this
 refine(BY (λi=>(els s i,(i:Int))) j (elems s) (by simp[els]) (λi hi=> ?_) ?_).trans rfl
 ·have hle:(els s i).length≤16:=by
   unfold els
   rw[List.length_map]
   exact Nat.le_trans (List.length_filter_le _ _) (by simp;omega)
  have e1:decide ((0:Int)<BZ .i64 s (i:Int))=true:=by
   rw[shr64 h.vs i (by omega)]
   have h2:s.toNat>>>i≠0:=hj2 i hi
   rw[decide_eq_true_eq]
   generalize s.toNat>>>i=z at h2 ⊢
   omega
  simp only[uw (show i<1000 by omega),E6,cF,e1,cT,bit64 h.vs (show i<64 by omega),wq i]
  rw[els_succ]
  cases has s i
  ·rfl
  ·rw[cT,A5 (by simp;omega),bs];rfl
 ·have e1:decide ((0:Int)<BZ .i64 s (j:Int))=false:=by
   rw[shr64 h.vs j (by omega),hj1];rfl
  simp only[uw (show j<1000 by omega),E6,cF,e1]
  rw[els_all (by omega) hlt]
def both (a b:LI)(n:Nat):LI:=((List.range n).filter λt:Nat=>decide ((t:Int)∈a)||decide ((t:Int)∈b)).map Int.ofNat
def ch (cs:LI)(i v:Nat):Bool:=has (cs.getD i 0) v
def Opn (cs:LI)(p:Int)(v:Nat):Prop:=(∃i,i<cs.length∧has p i=true∧ch cs i v=true)∧∃i,i<cs.length∧has p i=false∧ch cs i v=true
def Ft (cs:LI)(p:Int)(k:Nat):Prop:=k<cs.length∧has p k=false∧∀v,Opn cs p v→ch cs k v=true
def Goes (cs:LI):Int→LI→Prop
 |p,[]=>∀i,i<cs.length→has p i=true
 |p,x::l=>∃k:Nat,x=(k:Int)∧Ft cs p k∧Goes cs (ior .u32 p (ishl .u32 1 (k:Int))) l
section
variable {cs : LI} (hvs : ∀ s ∈ cs, VS s) (hm : cs.length ≤ 16)
include hvs hm
end
end Go.Sx

namespace Go.Sx
section
variable {g : LL} (hg : GOk g)
include hg
end
end Go.Sx

namespace Go.Sx
structure Iv (g:LL)(L R:Nat→Int):Prop where
 le:∀v,v<g.length→L v≤R v
 ad:∀u v,u<g.length→v<g.length→(adj g u v↔u≠v∧L u≤R v∧L v≤R u)
section
variable {g : LL} (hg : GOk g)
include hg
variable {L R : Nat → Int} (hI : Iv g L R)
include hI
end
end Go.Sx

namespace Go.Sx
structure Un (cs:LI)(m:Nat)(U:LI):Prop where
 len:U.length=2^m
 vs:∀b,b<2^m→VS (U.getD b 0)
 hs:∀b,b<2^m→∀v,has (U.getD b 0) v=true↔∃i,i<m∧b.testBit i=true∧ch cs i v=true
section
variable {cs U : LI} (hs : ∀ s ∈ cs, VS s) (hm : cs.length ≤ 16) (hU : Un cs cs.length U)
include hs hm hU
end
end Go.Sx

namespace Go.Sx
section
variable {F : LI} {n : Nat} (hF : FOk F n) (h1 : 1 ≤ n) (h16 : n ≤ 16) {L : Int} (hL : VS L)
include hF h1 h16 hL
end
end Go.Sx

namespace Go.Sx
noncomputable def ef (g:LL)(o:LI):Nat→LI×LI×Int
 |0=>(g.map mk,List.replicate g.length 0,full g.length)
 |i+1=>(FM (ef g o i).1 (ef g o i).2.2 (o.getD i 0),(ef g o i).2.1.set (o.getD i 0).toNat (iand .u32 ((ef g o i).1.getD (o.getD i 0).toNat 0) (iandNot .u32 (ef g o i).2.2 (ishl .u32 1 (o.getD i 0)))),
   iandNot .u32 (ef g o i).2.2 (ishl .u32 1 (o.getD i 0)))
section
variable {g : LL} {o : LI} (hg : GOk g) (ho : OOk g o)
include hg ho
theorem F6 :∀i,i≤g.length→EInv g.length (g.map mk) o i (ef g o i).1 (ef g o i).2.1 (ef g o i).2.2
 |0,_=>by
  have h16:=hg.n16
  refine⟨FOk.of hg,by simp[ef],λu hu=> ?_,Dp _,λv=> ?_,λu w _ h=>h,λj v hj=>by omega,λj v u w hj=>by omega,λ_=>rfl,λu w hu _ _ _=>⟨λhh=>⟨u,.me,hh⟩,fun⟨x,hx,e⟩=> ?_⟩,λj v hj=>by omega⟩
  ·rw[show (ef g o 0).2.1=List.replicate g.length 0 from rfl,List.getD_eq_getElem?_getD,List.getElem?_replicate]
   split<;>exact VS.zero
  ·rw[show (ef g o 0).2.2=full g.length from rfl,DA h16];simp
  ·rcases hx.end_ with e2|e2
   ·rw[←e2];exact e
   ·simp at e2
 |i+1,hi=>by
  have h16:=hg.n16;have hl:=ho.len
  have ih:=F6 i (by omega)
  have hio:i<o.length:=by omega
  have hr:=ho.rng _ (List.getElem_mem hio)
  obtain⟨v,hv⟩:∃v:Nat,o[i]=(v:Int):=⟨o[i].toNat,by omega⟩
  have hvn:v<g.length:=by omega
  have hd:o.getD i 0=(v:Int):=by rw[AH hio,hv]
  obtain⟨_,k1,k2⟩:=elimF_ok (b:=v) h16 ih.f ih.vsl hvn
  simp only[ef,hd,Int.toNat_natCast]
  refine ih.step h16 (FOk.of hg) ho.rng ho.nd hio hv k1.len k1.vs (λu w hu=> ?_)
  rw[k2 u w hu,B8 (ih.f.vs v hvn) (VS.iandNot _ _),B8 (ih.f.vs v hvn) (VS.iandNot _ _),A8 ih.vsl (VS.ishl _ _),A8 ih.vsl (VS.ishl _ _),BX (by omega),BX (by omega)]
  have hirr:=ih.f.irr v hvn
  have e:∀x,(has ((ef g o i).1.getD v 0) x&&(has (ef g o i).2.2 x&& !decide (x=v)))=(nb (ef g o i).1 v x&&has (ef g o i).2.2 x):=λx=>by
   by_cases e:x=v
   ·subst e;rw[show has ((ef g o i).1.getD x 0) x=nb (ef g o i).1 x x from rfl,hirr];simp
   ·unfold nb;simp[e]
  rw[e,e]
theorem elim_ef :D.Z1 (g.map mk) o=some ((ef g o g.length).1,(ef g o g.length).2.1):=by
 have h16:=hg.n16;have hl:=ho.len
 have hlen:(g.map mk).length=g.length:=by simp
 unfold D.Z1
 rw[A5 (by simp;omega),bs]
 obtain⟨s,e1,hs1,hs2⟩:=FQ (g.map mk) (by omega)
 rw[e1,bs,DB (by omega) (by omega),bs]
 simp only[bs,List.nil_append]
 have hsf:s=full g.length:=hs1.ext (Dp _) (λw _=>by rw[hs2,DA h16,hlen])
 refine(BY (λi=>((ef g o i).1,(ef g o i).2.1,(ef g o i).2.2,(i:Int))) g.length ((ef g o g.length).1,(ef g o g.length).2.1) (by simp[ef,hsf]) (λi hi=> ?_) ?_).trans rfl
 ·have h:=F6 hg ho i (by omega)
  have h':=F6 hg ho (i+1) (by omega)
  have hio:i<o.length:=by omega
  have hr:=ho.rng _ (List.getElem_mem hio)
  obtain⟨v,hv⟩:∃v:Nat,o[i]=(v:Int):=⟨o[i].toNat,by omega⟩
  have hvn:v<g.length:=by omega
  have hd:o.getD i 0=(v:Int):=by rw[AH hio,hv]
  obtain⟨_,q1,q2⟩:=elimF_ok (b:=v) h16 h.f h.vsl hvn
  simp only[ef,hd,Int.toNat_natCast] at h' ⊢
  generalize (ef g o i).1=F at*
  generalize (ef g o i).2.1=L at*
  generalize (ef g o i).2.2=left at*
  have hFv:idx F (v:Int)=some (F.getD v 0):=by rw[AC (by rw[h.f.len];omega),AH (by rw[h.f.len];omega)]
  have hLs:idx (L.set v (iand .u32 (F.getD v 0) (iandNot .u32 left (ishl .u32 1 (v:Int))))) (v:Int)=some (iand .u32 (F.getD v 0) (iandNot .u32 left (ishl .u32 1 (v:Int)))):=by
   rw[AC (by simp[h.lenL];omega)];simp
  simp only[dlt hio,cT,AC hio,hv,bs,Cc,hFv,AC (show v<L.length by rw[h.lenL];omega),Int.toNat_natCast]
  rw[hLs]
  simp only[bs,D8 _ (VS.iand _ _)]
  have hSlt:∀w,has (iand .u32 (F.getD v 0) (iandNot .u32 left (ishl .u32 1 (v:Int)))) w=true→w<g.length:=λw hw=>by
   rw[B8 (h.f.vs v hvn) (VS.iandNot _ _)] at hw
   simp only[Bool.and_eq_true] at hw
   exact h.f.lt v w hvn hw.1
  obtain⟨F',e2,k1,k2,k3⟩:=inner_ok F _ _ h16 h.f.len h.f.vs (VS.iand _ _) hSlt hLs
  have hFF:F'=FM F left (v:Int):=by
   refine FOk.ext k1 q1.len k2 q1.vs (λu w hu=> ?_)
   rw[k3 u w hu,q2 u w hu,B8 (h.f.vs v hvn) (VS.iandNot _ _),B8 (h.f.vs v hvn) (VS.iandNot _ _),A8 h.vsl (VS.ishl _ _),A8 h.vsl (VS.ishl _ _),BX (by omega),BX (by omega)]
   have hirr:=h.f.irr v hvn
   have e:∀x,(has (F.getD v 0) x&&(has left x&& !decide (x=v)))=(nb F v x&&has left x):=λx=>by
    by_cases e:x=v
    ·subst e;rw[show has (F.getD x 0) x=nb F x x from rfl,hirr];simp
    ·unfold nb;simp[e]
   rw[e,e]
  rw[hLs] at e2
  simp only[bs] at e2
  rw[e2,bs,wq i,hFF]
 ·simp only[hl,Be,cF]
theorem l7Fill_ef :D.L0 g o=some (grow (ef g o g.length).1):=by
 have h16:=hg.n16;have hl:=ho.len;have hn1:=hg.n1
 unfold D.L0 D.d
 rw[l1CopyGraph_eq hg,bs,bs,DB (by omega) (by omega),bs]
 refine(BY (λi=>(CH g.length (ef g o i).2.2,(i:Int),grow (ef g o i).1)) g.length (grow (ef g o g.length).1) (by simp only[ef];rw[G7 h16,grow_of hg];rfl) (λi hi=> ?_) ?_).trans rfl
 ·have h:=F6 hg ho i (by omega)
  have hio:i<o.length:=by omega
  have hr:=ho.rng _ (List.getElem_mem hio)
  obtain⟨v,hv⟩:∃v:Nat,o[i]=(v:Int):=⟨o[i].toNat,by omega⟩
  have hvn:v<g.length:=by omega
  have hd:o.getD i 0=(v:Int):=by rw[AH hio,hv]
  simp only[ef,hd]
  generalize (ef g o i).1=F at*
  generalize (ef g o i).2.1=L at*
  generalize (ef g o i).2.2=s at*
  have hG:=GOk.grow h.f hn1 h16
  have hGl:(grow F).length=g.length:=by rw[DY,h.f.len]
  have hl7:=l7Left_eq (grow F) hG (show v<(grow F).length by omega) (CH g.length (iandNot .u32 s (ishl .u32 1 (v:Int)))) (by rw[Fb];omega)
  simp only[dlt hio,cT,AC hio,hv,bs,goneOf_idx hvn,Int.toNat_natCast,goneOf_set h.vsl hvn (show g.length≤32 by omega),hl7,clique_grow hn1 h16 h.f h.vsl hvn,wq i]
 ·simp only[hl,Be,cF]
end
end Go.Sx

namespace Go.Sx
structure Net (A:LI)(n:Nat):Prop where
 len:A.length=n
 vs:∀u,u<n→VS (A.getD u 0)
 lt:∀u w,u<n→nb A u w=true→w<n
structure Rch (A:LI)(W:Int)(v:Nat)(S:Int):Prop where
 vs:VS S
 me:has S v=true
 step:∀x y,has S x=true→nb A x y=true→has W y=true→has S y=true
 least:∀T:Nat→Prop,T v→(∀x y,T x→nb A x y=true→has W y=true→T y)→∀x,has S x=true→T x
theorem reach_ok {A:LI}{n:Nat}(hn:n≤16)(hA:Net A n){v:Nat}(hv:v<n){W:Int}(hW:VS W):∃S,D.C0 A (v:Int) W=some S∧Rch A W v S∧∀x,has S x=true→x<n:=by
 unfold D.C0
 rw[Cc,bs]
 refine BC (λS=>VS S∧has S v=true∧(∀x,has S x=true→x<n)∧∀T:Nat→Prop,T v→(∀x y,T x→nb A x y=true→has W y=true→T y)→∀x,has S x=true→T x) (λS=>n-(elems S).length)
  (λS=>Rch A W v S∧∀x,has S x=true→x<n) ?_ ?_ (λr hr=>⟨r,rfl,hr⟩)
 ·rintro S ⟨hS,hv',hlt,hT⟩
  have hle:=Ce S
  simp only[D8 S hS,bs]
  have hin:=BC (step:=(fun(s_223:Int×Int)=>match s_223 with|(x_226,x_227)=>cond (decide (x_227<((elems S).length:Int))) ((idx (elems S) x_227).bind λe_246=>(idx A e_246).bind λe_252=>some (.inl ((ior .u32 x_226 (iand .u32 e_252 W)),(IntKind.i64.wrap (x_227+1))))) (some (.inr x_226)))) (s:=(S,0)) (k:=λr=>some r) (Q:=λX:Int=>VS X∧∀y,has X y=true↔has S y=true∨∃u:Nat,has S u=true∧nb A u y=true∧has W y=true)
   (λs=>∃k:Nat,s.2=(k:Int)∧k≤(elems S).length∧VS s.1∧∀y,has s.1 y=true↔has S y=true∨∃u:Nat,(u:Int)∈(elems S).take k∧nb A u y=true∧has W y=true) (λs=>(elems S).length-s.2.toNat) (λX=>VS X∧∀y,has X y=true↔has S y=true∨∃u:Nat,has S u=true∧nb A u y=true∧has W y=true)
   ?_ ⟨0,rfl,by omega,hS,λy=>by simp⟩ (λr hr=>⟨r,rfl,hr⟩)
  ·obtain⟨X,hX,hX1,hX2⟩:=hin
   rw[Option.bind_eq_some_iff] at hX
   obtain⟨z,e1,e2⟩:=hX
   cases e2
   rw[e1,bs]
   by_cases hc:X=S
   ·subst hc
    simp only[beq_self_eq_true,cT]
    refine⟨_,rfl,⟨hS,hv',λx y h1 h2 h3=>(hX2 y).2 (.inr ⟨x,h1,h2,h3⟩),hT⟩,hlt⟩
   ·have e3:(X==S)=false:=by simpa using hc
    simp only[e3,cF]
    have hXlt:∀x,has X x=true→x<n:=λx hx=>by
     rcases(hX2 x).1 hx with h|⟨u,h1,h2,_⟩
     ·exact hlt x h
     ·exact hA.lt u x (hlt u h1) h2
    refine⟨_,rfl,⟨hX1,(hX2 v).2 (.inl hv'),hXlt,λT h1 h2 x hx=> ?_⟩,?_⟩
    ·rcases(hX2 x).1 hx with h|⟨u,h3,h4,h5⟩
     ·exact hT T h1 h2 x h
     ·exact h2 u x (hT T h1 h2 u h3) h4 h5
    ·
     obtain⟨w,hw,hws⟩:∃w:Nat,has X w=true∧has S w=false:=by
      apply Classical.byContradiction
      intro hno
      refine hc (hX1.ext hS (λw _=> ?_))
      rw[Bool.eq_iff_iff]
      refine⟨λh=> ?_,λh=>(hX2 w).2 (.inl h)⟩
      cases hh:has S w
      ·exact absurd ⟨w,h,hh⟩ hno
      ·rfl
     have h1:((w:Int)::elems S).length≤(elems X).length:=DF (List.nodup_cons.2 ⟨λhm=>by rw[AT hS,hws] at hm;exact Bool.noConfusion hm,(BP S).nodup⟩) (λx hx=>by
      rcases List.mem_cons.1 hx with rfl|hx
      ·rw[AT hX1];exact hw
      ·obtain⟨u,_,h2,rfl⟩:=mem_elems.1 hx
       rw[AT hX1];exact(hX2 u).2 (.inl h2))
     have h2:(elems X).length≤n:=(BP X).short (n:=n) (λx hx=>by
      obtain⟨u,_,h2,rfl⟩:=mem_elems.1 hx
      have:=hXlt u h2;omega)
     simp at h1
     show n-(elems X).length<n-(elems S).length
     omega
  ·rintro⟨X,_⟩ ⟨k,rfl,hk,hX1,hX2⟩
   dsimp only at hX1 hX2 ⊢
   by_cases hkl:k<(elems S).length
   ·obtain⟨u,_,h2,h3⟩:=mem_elems.1 (List.getElem_mem hkl)
    have hu:=hlt u h2
    have hAu:idx A (u:Int)=some (A.getD u 0):=by rw[AC (by rw[hA.len];exact hu),AH (by rw[hA.len];exact hu)]
    simp only[dlt hkl,cT,AC hkl,bs,h3,hAu,wq k]
    refine⟨_,rfl,⟨k+1,rfl,hkl,VS.ior _ _,λy=> ?_⟩,by dsimp only;omega⟩
    dsimp only
    rw[CG hX1 (VS.iand _ _),Bool.or_eq_true,B8 (hA.vs u hu) hW,Bool.and_eq_true,hX2,List.take_succ_eq_append_getElem hkl,h3]
    constructor
    ·rintro((h|⟨u',h4,h5⟩)|⟨h4,h5⟩)
     ·exact .inl h
     ·exact .inr ⟨u',List.mem_append_left _ h4,h5⟩
     ·exact .inr ⟨u,List.mem_append_right _ (by simp),h4,h5⟩
    ·rintro(h|⟨u',h4,h5,h6⟩)
     ·exact .inl (.inl h)
     ·rcases List.mem_append.1 h4 with h4|h4
      ·exact .inl (.inr ⟨u',h4,h5,h6⟩)
      ·simp at h4
       obtain rfl:u'=u:=by omega
       exact .inr ⟨h5,h6⟩
   ·obtain rfl:k=(elems S).length:=by omega
    simp only[Be,cF]
    refine⟨_,rfl,hX1,λy=> ?_⟩
    rw[hX2,List.take_length]
    constructor
    ·rintro(h|⟨u,h1,h2⟩)
     ·exact .inl h
     ·exact .inr ⟨u,(AT hS).1 h1,h2⟩
    ·rintro(h|⟨u,h1,h2⟩)
     ·exact .inl h
     ·exact .inr ⟨u,(AT hS).2 h1,h2⟩
 ·refine⟨VS.ishl _ _,by rw[BX (by omega)];simp,λx hx=> ?_,λT h1 _ x hx=> ?_⟩
  ·rw[BX (by omega)] at hx
   have:=of_decide_eq_true hx;omega
  ·rw[BX (by omega)] at hx
   rw[of_decide_eq_true hx];exact h1
theorem join_net {n:Nat}(hn:n≤16){X:LI}(hX:Net X n){v t:Nat}(hv:v<n)(ht:t<n)(hvt:v≠t):
  ∃y,D.k1 X (v:Int) (t:Int)=some y∧Net y n∧∀u w,u<n→nb y u w=(nb X u w||(decide (u=v)&&decide (w=t))||(decide (u=t)&&decide (w=v))):=by
 have hl:=hX.len;have hV:=hX.vs
 have hx:∀k,k<n→idx X (k:Int)=some (X.getD k 0):=λk hk=>by rw[AC (by omega),AH (by omega)]
 have hform:∀u w,u<n→nb ((X.set v (ior .u32 (X.getD v 0) (ishl .u32 1 (t:Int)))).set t (ior .u32 (X.getD t 0) (ishl .u32 1 (v:Int)))) u w=(nb X u w||(decide (u=v)&&decide (w=t))||(decide (u=t)&&decide (w=v))):=λu w hu=>by
  unfold nb
  rw[List.getD_eq_getElem?_getD,List.getElem?_set]
  by_cases h:t=u
  ·subst h
   rw[if_pos rfl,if_pos (by simp;omega),Option.getD_some,CG (hV _ hu) (VS.ishl _ _),BX (by omega)]
   have:decide (t=v)=false:=decide_eq_false (λe=>hvt e.symm)
   rw[this];simp
  ·rw[if_neg h,List.getElem?_set]
   have e2:decide (u=t)=false:=decide_eq_false (λe=>h e.symm)
   by_cases h2:v=u
   ·subst h2
    rw[if_pos rfl,if_pos (by omega),Option.getD_some,CG (hV _ hu) (VS.ishl _ _),BX (by omega),e2]
    simp
   ·have e3:decide (u=v)=false:=decide_eq_false (λe=>h2 e.symm)
    rw[if_neg h2,←List.getD_eq_getElem?_getD,e2,e3];simp
 refine⟨(X.set v (ior .u32 (X.getD v 0) (ishl .u32 1 (t:Int)))).set t (ior .u32 (X.getD t 0) (ishl .u32 1 (v:Int))),?_,⟨by simp[hl],λu hu=> ?_,λu w hu hw=> ?_⟩,hform⟩
 ·unfold D.k1
  have e1:idx (X.set v (ior .u32 (X.getD v 0) (ishl .u32 1 (t:Int)))) (t:Int)=some (X.getD t 0):=by
   rw[AC (by simp;omega),List.getElem_set_ne hvt]
   exact congrArg some (AH (by omega) 0).symm
  simp only[hx v hv,bs,Cc,Int.toNat_natCast,e1]
 ·rw[List.getD_eq_getElem?_getD,List.getElem?_set]
  by_cases h:t=u
  ·rw[if_pos h,if_pos (by simp;omega)];exact VS.ior _ _
  ·rw[if_neg h,List.getElem?_set]
   by_cases h2:v=u
   ·rw[if_pos h2,if_pos (by omega)];exact VS.ior _ _
   ·rw[if_neg h2,←List.getD_eq_getElem?_getD];exact hV u hu
 ·rw[hform u w hu] at hw
  simp only[Bool.or_eq_true,Bool.and_eq_true,decide_eq_true_eq] at hw
  rcases hw with(h|h)|h
  ·exact hX.lt u w hu h
  ·omega
  ·omega
theorem GI (x y:LI)(hx:Sh x):D.Q x y=some (decide (x=y)):=by
 unfold Sh at hx
 unfold D.Q
 by_cases hl:x.length=y.length
 ·have e:((x.length:Int) !=(y.length:Int))=false:=by simp[hl]
  rw[e,cF]
  refine(Do x.length (λi=>x.getD i 0==y.getD i 0) false (λi hi=> ?_) ?_ rfl rfl).trans ?_
  ·have hi':i<y.length:=by omega
   simp only[dlt hi,cT,AC hi,AC hi',bs,AH hi,AH hi',wq i]
   by_cases h:x[i]=y[i]
   ·have:(x[i] !=y[i])=false:=by simp[h]
    rw[this,cF,if_pos (by simp[h])]
   ·have:(x[i] !=y[i])=true:=by simp[h]
    rw[this,cT,if_neg (by simp[h])]
  ·simp only[Be,cF]
  ·congr 1
   rw[Bool.eq_iff_iff,Cg,decide_eq_true_eq]
   constructor
   ·intro h
    exact ext_getD hl (λj hj=>by have:=h j hj;simpa using this)
   ·rintro rfl i _;simp
 ·have e:((x.length:Int) !=(y.length:Int))=true:=by simp;omega
  rw[e,cT,decide_eq_false (λh=>hl (by rw[h]))]
abbrev Pr :=Int×Int×Int
def tot :LL→Int
 |[]=>0
 |x::xs=>x.length+tot xs
def joinF (n:Nat)(F:LI)(v:Nat)(S:Int):LI:=(List.range n).map λu=>ior .u32 (ior .u32 (F.getD u 0) (if u=v then S else 0)) (if has S u then ishl .u32 1 (v:Int) else 0)
def Cn (ad:Nat→Nat→Prop)(S:Nat→Prop)(x y:Nat):Prop:=∀T:Nat→Prop,T x→(∀a b,T a→ad a b→S b→T b)→T y
section
variable {ad : Nat → Nat → Prop} {S S' : Nat → Prop} {x y z : Nat}
end
def Joint (ad:Nat→Nat→Prop)(S:Nat→Prop):Prop:=∀x y,S x→S y→Cn ad S x y
abbrev Ad (F:LI)(a b:Nat):Prop:=nb F a b=true
abbrev El (s:Int)(x:Nat):Prop:=has s x=true
abbrev Mn (s:Int)(v x:Nat):Prop:=has s x=true∧x≠v
section
variable {F : LI} {n : Nat} (hn : n ≤ 16) (hF : FOk F n)
include hn hF
end
end Go.Sx

namespace Go.Sx
def Way (ad:Nat→Nat→Prop):List Nat→Prop
 |[]=>True
 |[_]=>True
 |a::b::l=>ad a b∧Way ad (b::l)
structure Hole (ad:Nat→Nat→Prop)(c:List Nat):Prop where
 len:4≤c.length
 nd:c.Nodup
 step:∀i (h:i+1<c.length),ad c[i] c[i+1]
 close:ad (c[c.length-1]'(by omega)) (c[0]'(by omega))
 no:∀i j (_:i+1<j) (hj:j<c.length),¬(i=0∧j=c.length-1)→¬ad (c[i]'(by omega)) c[j]
def NoHole (ad:Nat→Nat→Prop)(X:Nat→Prop):Prop:=∀c,Hole ad c→¬∀x∈c,X x
section
variable {ad : Nat → Nat → Prop} (hs : ∀ a b, ad a b → ad b a) (hi : ∀ a, ¬ ad a a)
include hs hi
end
end Go.Sx

namespace Go.Sx
section
variable {g : LL} (hg : GOk g)
include hg
end
end Go.Sx

namespace Go.Sx
section
variable {g : LL} (hg : GOk g)
include hg
end
end Go.Sx

namespace Go.Sx
def Nr (ad:Nat→Nat→Prop)(v:Nat):Nat→Nat→Prop
 |0,_=>False
 |k+1,u=>u=v∨∃w,Nr ad v k w∧ad w u
section
variable {g : LL} (hg : GOk g)
include hg
end
end Go.Sx

namespace Go.Sx
section
variable {g : LL} (hg : GOk g)
include hg
end
end Go.Sx

namespace Go.Sx
theorem GZ {s:Int}(hs:VS s){x:Nat}(hx:x<32):D.g s (x:Int)=some (has s x):=by
 unfold D.g
 have:decide ((x:Int)<0)=false:=by simp
 rw[this,cF,F8 hs hx]
section
variable {g : LL} (hg : GOk g) {c : List Nat} (hH : Hole (adj g) c) (hlt : ∀ x ∈ c, x < g.length)
include hg hH hlt
end
end Go.Sx

namespace Go.Sx
structure Rd (ad:Nat→Nat→Prop)(c:List Nat):Prop where
 len:3≤c.length
 nd:c.Nodup
 step:∀i (h:i+1<c.length),ad c[i] c[i+1]
 close:ad (c[c.length-1]'(by omega)) (c[0]'(by omega))
section
variable {g : LL} (hg : GOk g) {c : List Nat} (hH : Rd (adj g) c) (hlt : ∀ x ∈ c, x < g.length)
include hg hH hlt
end
end Go.Sx

namespace Go.Sx
section
variable {F : LI} {n : Nat} (hF : FOk F n) (h1 : 1 ≤ n) (h16 : n ≤ 16) {L : Int}
include hF h1 h16
end
end Go.Sx

namespace Go.Sx
def Gm (E:Nat→Nat→Prop)(a b c d:Nat):Prop:=E c d∧((a=c∧¬E b d∧b≠d)∨(b=d∧¬E a c∧a≠c))
def Kl (E:Nat→Nat→Prop)(a b c d:Nat):Prop:=∀T:Nat→Nat→Prop,T a b→(∀p q r s,T p q→Gm E p q r s→T r s)→T c d
section
variable {E : Nat → Nat → Prop} (hs : ∀ a b, E a b → E b a) (hi : ∀ a, ¬ E a a)
include hs
include hi
end
section
variable {E : Nat → Nat → Prop} (hs : ∀ a b, E a b → E b a) (hi : ∀ a, ¬ E a a)
include hs hi
end
end Go.Sx

namespace Go.Sx
section
variable {E : Nat → Nat → Prop} (hs : ∀ a b, E a b → E b a) (hi : ∀ a, ¬ E a a)
include hs
include hi
end
end Go.Sx

namespace Go.Sx
def AdW (g:LL)(all:Int)(a b:Nat):Prop:=adj g a b∧has all b=true
def Dst (g:LL)(all:Int)(v j u:Nat):Prop:=Nr (AdW g all) v (j+1) u∧¬Nr (AdW g all) v j u
section
variable {g : LL} (hg : GOk g)
include hg
end
end Go.Sx

namespace Go.Sx
def Av (ad:Nat→Nat→Prop)(X:Nat→Prop)(c z:Nat):Prop:=X z∧z≠c∧¬ad c z
def Apt (ad:Nat→Nat→Prop)(X:Nat→Prop)(a b c:Nat):Prop:=
 X a∧X b∧X c∧a≠b∧a≠c∧b≠c∧¬ad a b∧¬ad a c∧¬ad b c∧Cn ad (Av ad X c) a b∧Cn ad (Av ad X b) a c∧Cn ad (Av ad X a) b c
def Ape (ad:Nat→Nat→Prop)(X S:Nat→Prop)(a b:Nat):Prop:=
 X a∧X b∧a≠b∧¬ad a b∧(∃k,S k∧Cn ad (Av ad X b) a k)∧∃k,S k∧Cn ad (Av ad X a) b k
structure Rp (ad:Nat→Nat→Prop)(X:Nat→Prop)(L R:Nat→Int):Prop where
 le:∀v,X v→L v≤R v
 ad:∀u v,X u→X v→u≠v→(ad u v↔L u≤R v∧L v≤R u)
section
variable {ad : Nat → Nat → Prop} (hs : ∀ a b, ad a b → ad b a)
include hs
end
end Go.Sx

namespace Go.Sx
section
variable {ad : Nat → Nat → Prop}
variable (hs : ∀ a b, ad a b → ad b a) (hi : ∀ a, ¬ ad a a)
include hs
include hi
end
section
variable {ad : Nat → Nat → Prop} (hs : ∀ a b, ad a b → ad b a) (hi : ∀ a, ¬ ad a a)
include hs
include hi
end
end Go.Sx

namespace Go.Sx
section
variable {g : LL} (hg : GOk g)
include hg
end
end Go.Sx

namespace Go.Sx
section
variable {g : LL} (hg : GOk g)
include hg
end
end Go.Sx

namespace Go.Sx
section
variable {g : LL} (hg : GOk g)
include hg
end
end Go.Sx

namespace Go.Sx
section
variable {ad : Nat → Nat → Prop} (hs : ∀ a b, ad a b → ad b a) (hi : ∀ a, ¬ ad a a)
include hs hi
end
end Go.Sx

namespace Go.Sx
section
variable {ad : Nat → Nat → Prop} {X : Nat → Prop} {L R : Nat → Int} (h : Rp ad X L R)
include h
end
end Go.Sx

namespace Go.Sx
def atp (cs o:LI)(k v:Nat):Bool:=ch cs (o.getD k 0).toNat v
section
variable {g : LL} (hg : GOk g) {l o : LI} (hl : GC g l) (h16 : l.length ≤ 16) (ho : Goes l 0 o)
include hg hl
include h16 ho
end
end Go.Sx

namespace Go.Sx
section
variable {g l : LL} {cs : LI} (hg : GOk g)
include hg
end
end Go.Sx

namespace Go.Sx
theorem less2 (a b c d:Int):D.f0 [a,b] [c,d]=some (decide (a<c∨(a=c∧b<d))):=by
 unfold D.f0
 have i0:∀x y:Int,idx [x,y] 0=some x:=λx y=>by unfold idx;simp
 have i1:∀x y:Int,idx [x,y] 1=some y:=λx y=>by unfold idx;simp
 have w1:IntKind.i64.wrap 1=1:=by decide
 have w2:IntKind.i64.wrap 2=2:=by decide
 have e0:((([a,b]:LI).length:Int) !=(([c,d]:LI).length:Int))=false:=by simp
 rw[e0,cF]
 by_cases h1:a=c
 ·subst h1
  rw[Cp (s':=1) (by simp[i0,w1])]
  by_cases h2:b=d
  ·subst h2
   rw[Cp (s':=2) (by simp[i1,w2]),CB (r:= .inl ()) (by simp)];simp
  ·have e:(b !=d)=true:=by simpa using h2
   rw[CB (r:= .inr (decide (b<d))) (by simp[i1,e])];simp
 ·have e:(a !=c)=true:=by simpa using h1
  rw[CB (r:= .inr (decide (a<c))) (by simp[i0,e])];simp[h1]
theorem less_key {x y:LI}(hx:FZ x)(hy:FZ y):D.f0 x y=some (decide (CS x<CS y)):=by
 obtain⟨h1,h2,h3,h4,h5⟩:=hx
 obtain⟨k1,k2,k3,k4,k5⟩:=hy
 obtain⟨a,b,rfl⟩:=list2 h1
 obtain⟨c,d,rfl⟩:=list2 k1
 rw[less2]
 unfold CS
 simp only[List.getD_cons_zero,List.getD_cons_succ] at*
 congr 1
 rw[decide_eq_decide]
 constructor<;>intro h<;>omega
def insAt (l:LI)(xs:LL):Nat:=xs.findIdx λx=>decide (CS l<CS x)
def ins (l:LI)(xs:LL):LL:=xs.take (insAt l xs)++l::xs.drop (insAt l xs)
def Ez (a b:Int):LI:=[min a b,max a b]
theorem l1Min_eq (a b:Int):D.x0 a b=some (min a b):=by
 unfold D.x0
 by_cases h:a<b
 ·simp only[h,decide_true,cT];congr 1;omega
 ·simp only[h,decide_false,cF];congr 1;omega
theorem l1Max_eq2 (a b:Int):D.M a b=some (max a b):=by
 unfold D.M
 by_cases h:b<a
 ·simp only[h,decide_true,cT];congr 1;omega
 ·simp only[h,decide_false,cF];congr 1;omega
theorem l9Link_eq {xs:LL}{a b:Int}(hg:∀x∈xs,FZ x)(hl:FZ (Ez a b))(hx:xs.length≤1000000):D.s1 xs a b=some (ins (Ez a b) xs):=by
 unfold D.s1
 rw[l1Min_eq,bs,l1Max_eq2,bs]
 have el:([min a b,max a b]:LI)=Ez a b:=rfl
 simp only[el]
 have hk:=List.findIdx_le_length (p:=λx=>decide (CS (Ez a b)<CS x)) (xs:=xs)
 generalize hkk:insAt (Ez a b) xs=k
 have hkl:k≤xs.length:=by rw[←hkk];exact hk
 generalize hL:Ez a b=l at*
 have hlo:∀i (hi:i<xs.length),i<k→D.f0 l xs[i]=some false:=λi hi hik=>by
  rw[less_key hl (hg _ (List.getElem_mem hi))]
  have:=List.not_of_lt_findIdx (p:=λx=>decide (CS l<CS x)) (xs:=xs) (i:=i) (by unfold insAt at hkk;omega)
  simp at this
  simp;omega
 have hhi:∀(h:k<xs.length),D.f0 l xs[k]=some true:=λh=>by
  rw[less_key hl (hg _ (List.getElem_mem h))]
  unfold insAt at hkk
  have h1:decide (CS l<CS (xs[xs.findIdx λx=>decide (CS l<CS x)]'(by rw[hkk];exact h)))=true:=List.findIdx_getElem (p:=λx=>decide (CS l<CS x)) (xs:=xs) (w:=by rw[hkk];exact h)
  simp only[hkk] at h1
  rw[h1]
 let st:Nat→LI×LL×Bool×Int:=λi=>if i≤k then(l,xs.take i,false,(i:Int)) else(l,xs.take k++l::(xs.drop k).take (i-k),true,(i:Int))
 have hst:st xs.length=(l,if k=xs.length then xs else ins l xs,decide (k<xs.length),(xs.length:Int)):=by
  by_cases e:k=xs.length
  ·simp[st,e]
  ·have h1:¬xs.length≤k:=by omega
   have h2:k<xs.length:=by omega
   simp only[st,h1,if_false,e,h2,decide_true]
   unfold ins;rw[hkk,List.take_of_length_le (l:=xs.drop k) (by simp)]
 refine(BY st xs.length (l,if k=xs.length then xs else ins l xs,decide (k<xs.length)) (by simp[st]) (λi hi=> ?_) ?_).trans ?_
 ·by_cases h1:i<k
  ·have e1:st i=(l,xs.take i,false,(i:Int)):=by simp only[st];rw[if_pos (by omega)]
   have e2:st (i+1)=(l,xs.take (i+1),false,((i+1:Nat):Int)):=by simp only[st];rw[if_pos (by omega)]
   rw[e1,e2]
   simp only[dlt hi,cT,Bool.not_false,AC hi,bs,hlo i hi h1,cF,wq i]
   rw[A5 (by simp;omega),bs,List.take_succ_eq_append_getElem hi]
  ·by_cases h2:i=k
   ·subst h2
    have e1:st i=(l,xs.take i,false,(i:Int)):=by simp only[st];rw[if_pos (by omega)]
    have e2:st (i+1)=(l,xs.take i++l::(xs.drop i).take 1,true,((i+1:Nat):Int)):=by simp only[st];rw[if_neg (by omega)];congr;omega
    rw[e1,e2]
    simp only[dlt hi,cT,Bool.not_false,AC hi,bs,hhi hi,wq i]
    rw[A5 (by simp;omega),bs,A5 (by simp;omega),bs]
    have:(xs.drop i).take 1=[xs[i]]:=by rw[List.drop_eq_getElem_cons hi,List.take_succ_cons,List.take_zero]
    rw[this];simp
   ·have e1:st i=(l,xs.take k++l::(xs.drop k).take (i-k),true,(i:Int)):=by simp only[st];rw[if_neg (by omega)]
    have e2:st (i+1)=(l,xs.take k++l::(xs.drop k).take (i+1-k),true,((i+1:Nat):Int)):=by simp only[st];rw[if_neg (by omega)]
    rw[e1,e2]
    simp only[dlt hi,cT,Bool.not_true,cF,bs,AC hi,wq i]
    rw[A5 (by simp;omega),bs]
    have:(xs.drop k).take (i+1-k)=(xs.drop k).take (i-k)++[xs[i]]:=by
     rw[show i+1-k=(i-k)+1 by omega,List.take_succ_eq_append_getElem (by simp;omega)]
     congr 2
     rw[List.getElem_drop];congr 1;omega
    rw[this];simp
 ·rw[hst]
  simp only[Be,cF]
 ·by_cases e:k=xs.length
  ·simp only[e,if_true,Nat.lt_irrefl,decide_false,Bool.not_false,cT]
   rw[A5 (by simp;omega),bs]
   unfold ins;rw[hkk,e];simp
  ·have h2:k<xs.length:=by omega
   simp only[e,if_false,h2,decide_true,Bool.not_true,cF]
structure NetL (A:LI)(n:Nat)(K:LL):Prop where
 net:Net A n
 nb:∀x y,x<n→y<n→(nb A x y=true↔Lk K (x:Int) (y:Int))
end Go.Sx



namespace Go.Sx
section
variable {l : LI} (hn : l.length ≤ 16) (hvs : ∀ s ∈ l, VS s)
include hn hvs
end
section
variable {g : LL} (hg : GOk g)
include hg
end
end Go.Sx

namespace Go.Sx
section
variable {g : LL} (hg : GOk g)
include hg
end
end Go.Sx

namespace Go.Sx
def nearS (F:LI)(p:Pr):Int:=if p.2.2=2 then ishl .u32 1 p.2.1 else if p.2.2=3 then F.getD p.2.1.toNat 0 else if p.2.2=4 then ior .u32 (F.getD p.2.1.toNat 0) (ishl .u32 1 p.2.1) else 0
def Fs (n:Nat):List Pr→LI
 |[]=>List.replicate n 0
 |p::l=>joinF n (Fs n l) p.1.toNat (nearS (Fs n l) p)
def vsOf (l:List Pr):LI:=l.map (·.1)
def Lsts (g:LL)(K:Int):Prop:=In g.length K∧(∀u w,has K u=true→has K w=true→¬adj g u w)∧∀w,w<g.length→has K w=true∨∃v,has K v=true∧adj g v w
def lf (xs:List (Int×Int))(v:Nat):Int:=(xs.getD v (0,0)).1
def rt (xs:List (Int×Int))(v:Nat):Int:=(xs.getD v (0,0)).2
def Dn (xs:List (Int×Int))(u v:Nat):Bool:=decide (lf xs u≤rt xs v)&&decide (lf xs v≤rt xs u)
structure IvL (xs:List (Int×Int)):Prop where
 n1:1≤xs.length
 n16:xs.length≤16
 ok:∀x∈xs,0≤x.1∧x.1≤x.2∧x.2≤100
def rowI (xs:List (Int×Int))(v m:Nat):LI:=((List.range m).filter λu=>decide (u≠v)&&Dn xs u v).map Int.ofNat
def gI (xs:List (Int×Int)):LL:=(List.range xs.length).map λv=>rowI xs v xs.length
section
variable {xs : List (Int × Int)} (h : IvL xs)
include h
end
end Go.Sx

namespace Go.Sx
section
variable {g : LL} (hg : GOk g) {l o : LI} (hl : GC g l) (h16 : l.length ≤ 16) (ho : Goes l 0 o) (hol : o.length ≤ 32)
include hg hl h16 ho hol
end
end Go.Sx

namespace Go.Sx
section
variable {g : LL} (hg : GOk g)
include hg
end
end Go.Sx

namespace Go.Sx
section
variable {g : LL} (hg : GOk g)
include hg
end
end Go.Sx

namespace Go.Sx
abbrev ap (a b:Nat):Int×Int:=((a:Int),(b:Int))
section
variable {g : LL} (hg : GOk g)
include hg
end
end Go.Sx

namespace Go.Sx
section
variable {g : LL} (hg : GOk g)
include hg
end
end Go.Sx

namespace Go.Sx
abbrev Vx (n at' x:Nat):Prop:=x<n∧x≠at'
def PP (F:LI)(n:Nat)(S:Nat→Prop):Prop:=∀c x,S c→S x→x≠c→(∀w,Ad F c w→Cn (Ad F) (Vx n c) x w→S w)∧∀y,S y→y≠c→Cn (Ad F) (Vx n c) x y→Cn (Ad F) (λz=>S z∧z≠c) x y
def Two (S:Int):Prop:=∃x y,El S x∧El S y∧x≠y
section
variable {F : LI} {n : Nat} (hn : n ≤ 16) (hF : FOk F n)
include hn hF
end
end Go.Sx

namespace Go.Sx
section
variable {g : LL} (hg : GOk g)
include hg
end
end Go.Sx

namespace Go.Sx
def pr (a b:Nat):LI:=[(a:Int),(b:Int)]
def Clo (g:LL)(u v a b:Nat):Prop:=∀T:Nat→Nat→Prop,T u v→T v u→(∀a b w,T a b→adj g a w→Cn (adj g) (Vx g.length a) b w→T a w∧T w a)→T a b
section
variable {g : LL} (hg : GOk g) {u v : Nat}
include hg
end
end Go.Sx

namespace Go.Sx
section
variable {g : LL} (hg : GOk g) {u v : Nat}
include hg
end
end Go.Sx

namespace Go.Sx
section
variable {g : LL} (hg : GOk g)
include hg
end
end Go.Sx

namespace Go.Sx
section
variable {g : LL} (hg : GOk g)
include hg
end
end Go.Sx

namespace Go.Sx
theorem G5 {s:Int}(hs:VS s){v:Nat}(hv:v<32):into (elems s) (v:Int)=elems (ior .u32 s (ishl .u32 1 (v:Int))):=by
 refine Inc.ext ((BP _).into _) (BP _) (λz=> ?_)
 rw[mem_into,mem_elems,mem_elems]
 constructor
 ·rintro(rfl|⟨w,h3,h4,rfl⟩)
  ·exact⟨v,hv,by rw[CG hs (VS.ishl _ _),BX hv];simp,rfl⟩
  ·exact⟨w,h3,by rw[CG hs (VS.ishl _ _),h4];rfl,rfl⟩
 ·rintro⟨w,h3,h4,rfl⟩
  rw[CG hs (VS.ishl _ _),BX hv,Bool.or_eq_true] at h4
  rcases h4 with h4|h4
  ·exact .inr ⟨w,h3,h4,rfl⟩
  ·exact .inl (by rw[of_decide_eq_true h4])
theorem D4 {o:LI}(h:o.Nodup){i j:Nat}(hi:i<o.length)(hj:j<o.length)(e:o[i]=o[j]):i=j:=by
 rcases Nat.lt_trichotomy i j with c|c|c
 ·exact absurd (mem_take_iff.2 ⟨i,hi,c,e⟩) (nodup_iff.1 h j hj)
 ·exact c
 ·exact absurd (mem_take_iff.2 ⟨j,hj,c,e.symm⟩) (nodup_iff.1 h i hi)
theorem ins_last {l:LI}{xs:LL}(h:∀x∈xs,CS x≤CS l):ins l xs=xs++[l]:=by
 have e:insAt l xs=xs.length:=by
  unfold insAt
  rw[List.findIdx_eq_length]
  intro x hx
  have:=h x hx
  simp;omega
 unfold ins
 rw[e];simp
def nxt (o l:LI)(i:Nat):Nat:=(i+1)+(o.drop (i+1)).findIdx (λx=>decide (l=[])||decide (x∈l))
theorem nxt_gt (o l:LI)(i:Nat):i<nxt o l i:=by unfold nxt;omega
theorem to_loop (o l:LI)(hl:Sh l)(ho:o.length≤1000000)(i:Nat)(hi:i<o.length):
  (Az (σ:=Int) (ρ:=Int) (fun(x:Int)=>(cond ((decide (x<(o.length:Int)))&&(decide ((0:Int)<(l.length:Int)))) ((idx o x).bind λe=>(D.f l e).bind λy=>some (!y)) (some false)).bind λb=>cond b (some (.inl (IntKind.i64.wrap (x+1)))) (some (.inr x))) ((i+1:Nat):Int))=some ((nxt o l i:Nat):Int):=by
 have hk:=List.findIdx_le_length (p:=λx=>decide (l=[])||decide (x∈l)) (xs:=o.drop (i+1))
 have key:=BY (step:=(fun(x:Int)=>(cond ((decide (x<(o.length:Int)))&&(decide ((0:Int)<(l.length:Int)))) ((idx o x).bind λe=>(D.f l e).bind λy=>some (!y)) (some false)).bind λb=>cond b (some (.inl (IntKind.i64.wrap (x+1)))) (some (.inr x)))) (k:=λr=>some r) (s0:=((i+1:Nat):Int)) (λj=>((i+1+j:Nat):Int)) ((o.drop (i+1)).findIdx (λx=>decide (l=[])||decide (x∈l))) ((nxt o l i:Nat):Int) rfl (λj hj=> ?_) ?_
 ·rw[Option.bind_eq_some_iff] at key
  obtain⟨a,h1,h2⟩:=key
  cases h2;exact h1
 ·have h1:=List.not_of_lt_findIdx hj
  simp only[List.length_drop] at hk
  have hx:i+1+j<o.length:=by omega
  simp only[Bool.not_eq_true,Bool.or_eq_false_iff,decide_eq_false_iff_not,List.getElem_drop] at h1
  have hp:(decide ((0:Int)<(l.length:Int)))=true:=by
   have:=List.length_pos_iff.2 h1.1
   simp;omega
  simp only[dlt hx,hp,Bool.and_self,cT,AC hx,bs,Df _ _ hl,h1.2,decide_false,Bool.not_false,wi (show i+1+j<4611686018427387904 by omega)]
  rfl
 ·show _=some (Sum.inr ((nxt o l i:Nat):Int))
  have e:((i+1+(o.drop (i+1)).findIdx (λx=>decide (l=[])||decide (x∈l)):Nat):Int)=((nxt o l i:Nat):Int):=rfl
  rw[e]
  by_cases hx:nxt o l i<o.length
  ·have h1:=List.findIdx_getElem (p:=λx=>decide (l=[])||decide (x∈l)) (xs:=o.drop (i+1)) (w:=by unfold nxt at hx;simp;omega)
   simp only[List.getElem_drop,Bool.or_eq_true,decide_eq_true_eq] at h1
   by_cases hn:l=[]
   ·subst hn;simp
   ·have h2:o[nxt o l i]∈l:=by rcases h1 with h1|h1;exact absurd h1 hn;exact h1
    have hp:(decide ((0:Int)<(l.length:Int)))=true:=by
     have:=List.length_pos_iff.2 hn
     simp;omega
    simp only[dlt hx,hp,Bool.and_self,cT,AC hx,bs,Df _ _ hl,h2,decide_true,Bool.not_true,cF]
  ·have:(decide (((nxt o l i:Nat):Int)<(o.length:Int)))=false:=by simp;omega
   simp only[this,Bool.false_and,cF,bs]
section
variable {g : LL} {o F L : LI} (hg : GOk g) (ho : OOk g o) (hF : Fill g o F L)
include hg ho hF
theorem Fill.efF :F=(ef g o g.length).1∧L=(ef g o g.length).2.1:=by
 have h:=hF.elim
 rw[elim_ef hg ho] at h
 have:=Option.some.inj h
 exact⟨(congrArg (·.1) this).symm,(congrArg (·.2) this).symm⟩
theorem l7Later_eq :D.w1 g o=some (L.map elems):=by
 have h16:=hg.n16;have hn1:=hg.n1;have hl:=ho.len
 have hLl:=hF.lenL
 unfold D.w1 D.d
 rw[l7Fill_ef hg ho,bs,←(hF.efF hg ho).1,bs,DB (by omega) (by omega),bs,bs,DB (by omega) (by omega),bs]
 have hG:=GOk.grow hF.f hn1 h16
 have hGl:(grow F).length=g.length:=by rw[DY,hF.f.len]
 refine(BY (λi=>(CH g.length (ef g o i).2.2,(List.range g.length).map (λv=>if((v:Nat):Int)∈o.take i then elems (L.getD v 0) else []),(i:Int))) g.length (L.map elems) ?_ (λi hi=> ?_) ?_).trans rfl
 ·have:(ef g o 0).2.2=full g.length:=rfl
  rw[this,←G7 h16]
  congr 2
  apply List.ext_getElem
  ·simp
  ·intro j h1 h2;simp
 ·have h:=F6 hg ho i (by omega)
  have h':=F6 hg ho (i+1) (by omega)
  have hio:i<o.length:=by omega
  have hr:=ho.rng _ (List.getElem_mem hio)
  obtain⟨v,hv⟩:∃v:Nat,o[i]=(v:Int):=⟨o[i].toNat,by omega⟩
  have hvn:v<g.length:=by omega
  have hd:o.getD i 0=(v:Int):=by rw[AH hio,hv]
  have hs':(ef g o (i+1)).2.2=iandNot .u32 (ef g o i).2.2 (ishl .u32 1 (v:Int)):=by simp only[ef,hd]
  rw[hs'] at h' ⊢
  have hl7:=l7Left_eq (grow F) hG (show v<(grow F).length by omega) (CH g.length (iandNot .u32 (ef g o i).2.2 (ishl .u32 1 (v:Int)))) (by rw[Fb];omega)
  simp only[dlt hio,cT,AC hio,hv,bs,goneOf_idx hvn,Int.toNat_natCast,goneOf_set h.vsl hvn (show g.length≤32 by omega),hl7,AC (show v<((List.range g.length).map (λv=>if((v:Nat):Int)∈o.take i then elems (L.getD v 0) else [])).length by simpa using hvn),wq i]
  rw[lft_grow hn1 h16 hF.f (VS.iandNot _ _) hvn]
  have hel:iand .u32 (F.getD v 0) (iandNot .u32 (ef g o i).2.2 (ishl .u32 1 (v:Int)))=L.getD v 0:=by
   refine(VS.iand _ _).ext (hF.vsL v hvn) (λw _=> ?_)
   rw[B8 (hF.f.vs v hvn) (VS.iandNot _ _),h'.left]
   have hlat:=hF.lat i v hi (by rw[List.getElem?_eq_getElem hio,hv]) w
   unfold nb at hlat
   rw[hlat,Bool.eq_iff_iff]
   simp only[Bool.and_eq_true,decide_eq_true_eq]
   exact⟨fun⟨a,_,c⟩=>⟨a,c⟩,fun⟨a,c⟩=>⟨a,hF.f.lt v w hvn a,c⟩⟩
  rw[hel]
  congr 4
  apply List.ext_getElem
  ·simp
  ·intro j h1 h2
   rw[List.getElem_set]
   simp only[List.getElem_map,List.getElem_range]
   have htk:((j:Int)∈o.take (i+1))↔((j:Int)∈o.take i∨j=v):=by
    rw[List.take_succ_eq_append_getElem hio,List.mem_append,hv];simp[Int.natCast_inj]
   by_cases e:v=j
   ·subst e
    rw[if_pos rfl,if_pos (htk.2 (.inr rfl))]
   ·rw[if_neg e]
    by_cases hm:(j:Int)∈o.take i
    ·rw[if_pos hm,if_pos (htk.2 (.inl hm))]
    ·rw[if_neg hm,if_neg (λhh=>(htk.1 hh).elim hm (λe'=>e e'.symm))]
 ·simp only[hl,Be,cF]
  congr 2
  apply List.ext_getElem
  ·simp[hLl]
  ·intro j h1 h2
   simp only[List.getElem_map,List.getElem_range]
   obtain⟨q,hq,hq2⟩:=E4 ho (v:=j) (by simpa using h1)
   rw[if_pos,AH (by simpa using h2)]
   rw[←hl,List.take_length]
   exact List.mem_of_getElem? hq2
theorem later_pos {i v m:Nat}(hi:o[i]? =some (v:Int))(hm:m<o.length)(h:o[m]∈elems (L.getD v 0)):i+1≤m:=by
 have hl:=ho.len
 obtain⟨hio,hv⟩:=List.getElem?_eq_some_iff.1 hi
 have hr:=ho.rng _ (List.getElem_mem hio)
 obtain⟨w,_,h2,h3⟩:=mem_elems.1 h
 have hlat:=hF.lat i v (by omega) hi w
 unfold nb at hlat
 rw[hlat] at h2
 simp only[Bool.and_eq_true,decide_eq_true_eq] at h2
 apply Classical.byContradiction
 intro hc
 exact h2.2 (mem_take_iff.2 ⟨m,hm,by omega,h3⟩)
theorem later_in {v:Nat}(hv:v<g.length){x:Int}(h:x∈elems (L.getD v 0)):∃m:Nat,∃hm:m<o.length,o[m]=x∧0≤x∧x<g.length:=by
 have hl:=ho.len
 obtain⟨i,h1,h2⟩:=E4 ho hv
 obtain⟨w,_,h3,rfl⟩:=mem_elems.1 h
 have hlat:=hF.lat i v h1 h2 w
 unfold nb at hlat
 rw[hlat] at h3
 simp only[Bool.and_eq_true,decide_eq_true_eq] at h3
 have hw:=hF.f.lt v w hv h3.1
 obtain⟨m,h4,h5⟩:=E4 ho hw
 obtain⟨h6,h7⟩:=List.getElem?_eq_some_iff.1 h5
 exact⟨m,h6,h7,by omega,by omega⟩
noncomputable def Dd (o L:LI)(i:Nat):LI:=into (elems (L.getD (o.getD i 0).toNat 0)) (o.getD i 0)
noncomputable def EB (o L:LI)(i:Nat):LI:=Ez (i:Int) ((nxt o (elems (L.getD (o.getD i 0).toNat 0)) i:Nat):Int)
omit hg ho hF in
theorem Fi (i:Nat):EB o L i=[(i:Int),((nxt o (elems (L.getD (o.getD i 0).toNat 0)) i:Nat):Int)]:=by
 have:=nxt_gt o (elems (L.getD (o.getD i 0).toNat 0)) i
 unfold EB Ez
 rw[show min (i:Int) ((nxt o (elems (L.getD (o.getD i 0).toNat 0)) i:Nat):Int)=i by omega,show max (i:Int) ((nxt o (elems (L.getD (o.getD i 0).toNat 0)) i:Nat):Int)=((nxt o (elems (L.getD (o.getD i 0).toNat 0)) i:Nat):Int) by omega]
omit hg ho hF in
theorem nxt_le (l:LI){i:Nat}(hi:i<o.length):nxt o l i≤o.length:=by
 have hk:=List.findIdx_le_length (p:=λx=>decide (l=[])||decide (x∈l)) (xs:=o.drop (i+1))
 simp at hk
 unfold nxt;omega
theorem nxt_lt {i:Nat}(hi:i+1<o.length):nxt o (elems (L.getD (o.getD i 0).toNat 0)) i<o.length:=by
 have hio:i<o.length:=by omega
 have hl:=ho.len
 have hr:=ho.rng _ (List.getElem_mem hio)
 obtain⟨v,hv⟩:∃v:Nat,o[i]=(v:Int):=⟨o[i].toNat,by omega⟩
 have hvn:v<g.length:=by omega
 have hd:o.getD i 0=(v:Int):=by rw[AH hio,hv]
 rw[hd,Int.toNat_natCast]
 have hin:=λx hx=>later_in hg ho hF hvn (x:=x) hx
 have hps:=λm hm hh=>later_pos hg ho hF (i:=i) (v:=v) (m:=m) (by rw[List.getElem?_eq_getElem hio,hv]) hm hh
 generalize elems (L.getD v 0)=l at hin hps ⊢
 have:(o.drop (i+1)).findIdx (λx=>decide (l=[])||decide (x∈l))<(o.drop (i+1)).length:=by
  rw[List.findIdx_lt_length]
  by_cases hn:l=[]
  ·exact⟨(o.drop (i+1))[0]'(by simp;omega),List.getElem_mem _,by simp[hn]⟩
  ·obtain⟨x,hx⟩:=List.exists_mem_of_ne_nil _ hn
   obtain⟨m,hm,hmx,_⟩:=hin x hx
   have hp:=hps m hm (by rw[hmx];exact hx)
   refine⟨x,?_,by simp[hx]⟩
   have:(o.drop (i+1))[m-(i+1)]'(by simp;omega)=x:=by
    rw[List.getElem_drop,←hmx];congr 1;omega
   rw[←this];exact List.getElem_mem _
 unfold nxt
 simp at this
 omega
theorem lnkD_good {i:Nat}(hi:i<o.length):FZ (EB o L i):=by
 have h1:=nxt_le (o:=o) (elems (L.getD (o.getD i 0).toNat 0)) hi
 have h16:=hg.n16;have hl:=ho.len
 rw[Fi]
 refine⟨rfl,?_⟩
 simp only[List.getD_cons_zero,List.getD_cons_succ]
 omega
theorem lnkD_le {i j:Nat}(hij:i<j)(hj:j<o.length):CS (EB o L i)≤CS (EB o L j):=by
 have h1:=nxt_le (o:=o) (elems (L.getD (o.getD i 0).toNat 0)) (show i<o.length by omega)
 have h16:=hg.n16;have hl:=ho.len
 rw[Fi,Fi]
 unfold CS
 simp only[List.getD_cons_zero,List.getD_cons_succ]
 omega
theorem Hn :D.s0 g o=some ((List.range o.length).map (Dd o L),(List.range (o.length-1)).map (EB o L),true):=by
 have h16:=hg.n16;have hl:=ho.len;have hn1:=hg.n1
 unfold D.s0
 rw[Hq g o hg.sh2 (ho.sh hg),FT hg,(ordB_iff g o).2 ho,bs,Bool.and_self,Bool.not_true,cF,l7Later_eq hg ho hF,bs]
 refine(BY (λi=>((i:Int),(List.range i).map (Dd o L),(List.range (min i (o.length-1))).map (EB o L))) o.length ((List.range o.length).map (Dd o L),(List.range (o.length-1)).map (EB o L)) (by simp) (λi hi=> ?_) ?_).trans rfl
 ·have hr:=ho.rng _ (List.getElem_mem hi)
  obtain⟨v,hv⟩:∃v:Nat,o[i]=(v:Int):=⟨o[i].toNat,by omega⟩
  have hvn:v<g.length:=by omega
  have hvL:v<L.length:=by rw[hF.lenL];exact hvn
  have hd:o.getD i 0=(v:Int):=by rw[AH hi,hv]
  have he:=Ce L[v]
  have hsh:Sh (elems L[v]):=by unfold Sh;omega
  have hgL:L.getD v 0=L[v]:=AH hvL 0
  simp only[dlt hi,cT,AC hi,hv,bs,AC (show v<(L.map elems).length by simpa using hvL),List.getElem_map,DE _ hsh,DW _ _ (BP _) (show (elems L[v]).length≤4294967295 by omega)]
  rw[A5 (by simp;omega),bs,wq i,to_loop o (elems L[v]) hsh (by omega) i hi,bs]
  have eb:Dd o L i=into (elems L[v]) (v:Int):=by unfold Dd;rw[hd,Int.toNat_natCast,hgL]
  by_cases hlast:i+1<o.length
  ·have hx:=nxt_lt hg ho hF hlast
   have el:Ez (i:Int) ((nxt o (elems L[v]) i:Nat):Int)=EB o L i:=by unfold EB;rw[hd,Int.toNat_natCast,hgL]
   rw[hd,Int.toNat_natCast,hgL] at hx
   rw[dlt hx,cT,l9Link_eq (λx hx=> ?_) (by rw[el];exact lnkD_good hg ho hF hi) (by simp;omega),bs,el,ins_last (λx hx=> ?_)]
   ·rw[show min i (o.length-1)=i by omega,show min (i+1) (o.length-1)=i+1 by omega,List.range_succ,List.map_append,List.map_append,List.map_singleton,List.map_singleton,eb]
   ·obtain⟨j,hj,rfl⟩:=List.mem_map.1 hx
    have:=List.mem_range.1 hj
    exact lnkD_le hg ho hF (by omega) hi
   ·obtain⟨j,hj,rfl⟩:=List.mem_map.1 hx
    have:=List.mem_range.1 hj
    exact lnkD_good hg ho hF (by omega)
  ·have hx:nxt o (elems L[v]) i=o.length:=by
    have h1:=nxt_le (o:=o) (elems L[v]) hi
    have h2:=nxt_gt o (elems L[v]) i
    omega
   rw[hx,Be,cF,show min i (o.length-1)=o.length-1 by omega,show min (i+1) (o.length-1)=o.length-1 by omega,List.range_succ,List.map_append,List.map_singleton,eb]
 ·simp only[Be,cF]
  rw[show min o.length (o.length-1)=o.length-1 by omega]
end
end Go.Sx

namespace Go.Sx
theorem conn_up {links:LL}{sel:LI}{n:Nat}(hr:∀x∈sel,∃i:Nat,x=i∧i<n)(p:Int)(hp:p∈sel)(hup:∀x∈sel,x≠p→∃y∈sel,x<y∧Lk links x y):D2 links sel:=by
 intro m hm
 have hs:∀x y,x∈sel→y∈sel→Lk links x y→(x∈m↔y∈m):=λx y hx hy h=>
  ⟨λhxm=>hm.step x hxm y hy h,λhym=>hm.step y hym x hx (Or.elim h (λh=>Or.inr h) (λh=>Or.inl h))⟩
 have key:∀(k:Nat) (x:Int),x∈sel→n-x.toNat≤k→(x∈m↔p∈m):=by
  intro k
  induction k with
  |zero=>intro x hx hk;obtain⟨i,rfl,hi⟩:=hr x hx;omega
  |succ k ih=>
   intro x hx hk
   by_cases hxp:x=p
   ·rw[hxp]
   ·obtain⟨y,hy,hxy,hl⟩:=hup x hx hxp
    rw[hs x y hx hy hl]
    obtain⟨i,rfl,hi⟩:=hr x hx
    obtain⟨j,rfl,hj⟩:=hr y hy
    exact ih _ hy (by omega)
 have hpm:p∈m:=by
  cases hsel:sel with
  |nil=>rw[hsel] at hp;simp at hp
  |cons x0 t=>
   have h0:x0∈m:=hm.first x0 (by rw[hsel];rfl)
   exact(key n x0 (by rw[hsel];simp) (by omega)).1 h0
 exact λx hx=>(key n x hx (by omega)).2 hpm
section
variable {g : LL} {o F L : LI} (hg : GOk g) (ho : OOk g o) (hF : Fill g o F L)
include hg ho hF
theorem DV {i v:Nat}(hi:i<o.length)(hv:o[i]=(v:Int)){w:Nat}:(w:Int)∈Dd o L i↔w=v∨(nb F v w=true∧(w:Int)∉o.take (i+1)):=by
 have hl:=ho.len
 have hr:=ho.rng _ (List.getElem_mem hi)
 unfold Dd
 rw[AH hi,hv,Int.toNat_natCast,mem_into,AT (hF.vsL v (by omega))]
 have:=hF.lat i v (by omega) (by rw[List.getElem?_eq_getElem hi,hv]) w
 unfold nb at this ⊢
 rw[this,Bool.and_eq_true,decide_eq_true_eq]
 constructor
 ·rintro(h|h)
  ·exact .inl (by omega)
  ·exact .inr h
 ·rintro(h|h)
  ·exact .inl (by rw[h])
  ·exact .inr h
theorem bagD_pos {i w:Nat}(hi:i<o.length)(h:(w:Int)∈Dd o L i):∃m,∃hm:m<o.length,o[m]=(w:Int)∧i≤m:=by
 have hl:=ho.len
 have hr:=ho.rng _ (List.getElem_mem hi)
 obtain⟨v,hv⟩:∃v:Nat,o[i]=(v:Int):=⟨o[i].toNat,by omega⟩
 rcases(DV hg ho hF hi hv).1 h with rfl|⟨h1,h2⟩
 ·exact⟨i,hi,hv,Nat.le_refl _⟩
 ·have hwn:=hF.f.lt v w (by omega) h1
  obtain⟨m,hm,e⟩:=E4 ho hwn
  obtain⟨hm',e'⟩:=List.getElem?_eq_some_iff.1 e
  refine⟨m,hm',e',?_⟩
  apply Classical.byContradiction
  intro hc
  exact h2 (mem_take_iff.2 ⟨m,hm',by omega,e'⟩)
theorem nxt_first {i:Nat}(hi:i<o.length){w m:Nat}(hm:m<o.length)(e:o[m]=(w:Int))(him:i<m)(h:(w:Int)∈Dd o L i):nxt o (elems (L.getD (o.getD i 0).toNat 0)) i≤m∧∃hx:nxt o (elems (L.getD (o.getD i 0).toNat 0)) i<o.length,o[nxt o (elems (L.getD (o.getD i 0).toNat 0)) i]∈Dd o L i:=by
 have hb:(w:Int)∈elems (L.getD (o.getD i 0).toNat 0):=by
  unfold Dd at h
  rcases mem_into.1 h with h|h
  ·have hr:=AH hi 0
   rw[hr] at h
   have:=D4 ho.nd hm hi (by rw[e,h])
   omega
  ·exact h
 generalize hls:elems (L.getD (o.getD i 0).toNat 0)=l at hb
 have hdl:(o.drop (i+1))[m-(i+1)]'(by simp;omega)=(w:Int):=by
  rw[List.getElem_drop,←e];congr 1;omega
 have h1:(o.drop (i+1)).findIdx (λx=>decide (l=[])||decide (x∈l))≤m-(i+1):=by
  apply Classical.byContradiction
  intro hc
  have:=List.not_of_lt_findIdx (p:=λx=>decide (l=[])||decide (x∈l)) (xs:=o.drop (i+1)) (i:=m-(i+1)) (by omega)
  rw[hdl] at this
  simp[hb] at this
 have h2:(o.drop (i+1)).findIdx (λx=>decide (l=[])||decide (x∈l))<(o.drop (i+1)).length:=by simp;omega
 have h3:=List.findIdx_getElem (w:=h2)
 have hne:l≠[]:=λe=>by rw[e] at hb;simp at hb
 rw[Bool.or_eq_true,decide_eq_true_eq,decide_eq_true_eq] at h3
 have h3:=h3.resolve_left hne
 rw[List.getElem_drop] at h3
 unfold nxt
 refine⟨by omega,by omega,?_⟩
 unfold Dd
 rw[hls]
 exact mem_into.2 (.inr h3)
theorem bagD_next {i w m:Nat}(hi:i<o.length)(hm:m<o.length)(e:o[m]=(w:Int))(him:i<m)(h:(w:Int)∈Dd o L i):∃j,j<o.length∧i<j∧i+1<o.length∧EB o L i=[(i:Int),(j:Int)]∧(w:Int)∈Dd o L j:=by
 have hl:=ho.len
 obtain⟨h1,h2,h3⟩:=nxt_first hg ho hF hi hm e him h
 have hgt:=nxt_gt o (elems (L.getD (o.getD i 0).toNat 0)) i
 refine⟨nxt o (elems (L.getD (o.getD i 0).toNat 0)) i,h2,hgt,by omega,Fi i,?_⟩
 generalize nxt o (elems (L.getD (o.getD i 0).toNat 0)) i=j at*
 have hri:=ho.rng _ (List.getElem_mem hi);have hrj:=ho.rng _ (List.getElem_mem h2)
 obtain⟨v,hv⟩:∃v:Nat,o[i]=(v:Int):=⟨o[i].toNat,by omega⟩
 obtain⟨u,hu⟩:∃u:Nat,o[j]=(u:Int):=⟨o[j].toNat,by omega⟩
 rw[hu] at h3
 by_cases hjm:j=m
 ·subst hjm
  rw[DV hg ho hF h2 hu]
  left;omega
 ·have hnp:∀{a b:Nat} {x:Nat} (hb:b<o.length),o[b]=(x:Int)→a≤b→(x:Int)∉o.take a:=by
   intro a b x hb ex hab hc
   obtain⟨c,hc1,hc2,hc3⟩:=mem_take_iff.1 hc
   have:=D4 ho.nd hc1 hb (by rw[hc3,ex])
   omega
  have hwv:w≠v:=λe2=>by
   have:=D4 ho.nd hm hi (by rw[e,hv,e2]);omega
  have huv:u≠v:=λe2=>by
   have:=D4 ho.nd h2 hi (by rw[hu,hv,e2]);omega
  have huw:u≠w:=λe2=>hjm (D4 ho.nd h2 hm (by rw[hu,e,e2]))
  have hw1:nb F v w=true:=by
   rcases(DV hg ho hF hi hv).1 h with h|h
   ·exact absurd h hwv
   ·exact h.1
  have hu1:nb F v u=true:=by
   rcases(DV hg ho hF hi hv).1 h3 with h|h
   ·exact absurd h huv
   ·exact h.1
  have hp:=hF.peo i v u w (by rw[List.getElem?_eq_getElem hi,hv]) hu1 hw1 (hnp h2 hu (by omega)) (hnp hm e (by omega)) huw
  exact(DV hg ho hF h2 hu).2 (.inr ⟨hp,hnp hm e (by omega)⟩)
theorem DecompBy_TB :TB g ((List.range o.length).map (Dd o L)) ((List.range (o.length-1)).map (EB o L)):=by
 have hl:=ho.len;have hn1:=hg.n1;have hn16:=hg.n16
 have hbl:((List.range o.length).map (Dd o L)).length=o.length:=by simp
 have hbg:∀i,i<o.length→((List.range o.length).map (Dd o L)).getD i []=Dd o L i:=λi hi=>by rw[AH (by simpa using hi)];simp
 have hlk:∀i,i+1<o.length→EB o L i∈(List.range (o.length-1)).map (EB o L):=λi hi=>List.mem_map.2 ⟨i,List.mem_range.2 (by omega),rfl⟩
 have hwith:∀(v:Nat) (x:Int),x∈CT ((List.range o.length).map (Dd o L)) (v:Int)↔∃b:Nat,x=b∧b<o.length∧(v:Int)∈Dd o L b:=λv x=>by
  rw[mem_withV,hbl]
  constructor
  ·rintro⟨b,h1,h2,h3⟩;rw[hbg b h2] at h3;exact⟨b,h1,h2,h3⟩
  ·rintro⟨b,h1,h2,h3⟩;exact⟨b,h1,h2,by rw[hbg b h2];exact h3⟩
 have hself:∀(p v:Nat) (hp:p<o.length),o[p]=(v:Int)→(v:Int)∈Dd o L p:=λp v hp e=>(DV hg ho hF hp e).2 (.inl rfl)
 refine⟨by omega,by omega,by simp;omega,λl h=> ?_,λb h=> ?_,?_,λu v hu ha=> ?_,λv hv=> ?_,λv hv=> ?_⟩
 ·obtain⟨i,hi,rfl⟩:=List.mem_map.1 h
  have hi:=List.mem_range.1 hi
  have:=nxt_lt hg ho hF (show i+1<o.length by omega)
  have:=nxt_gt o (elems (L.getD (o.getD i 0).toNat 0)) i
  exact⟨i,_,Fi i,by omega,by omega⟩
 ·obtain⟨i,hi,rfl⟩:=List.mem_map.1 h
  have hi:=List.mem_range.1 hi
  have hr:=ho.rng _ (List.getElem_mem hi)
  refine⟨(BP _).into _,λx hx=> ?_⟩
  have hx0:0≤x:=by
   unfold Dd at hx
   rcases mem_into.1 hx with hx|hx
   ·rw[hx,AH hi];omega
   ·obtain⟨w,_,_,rfl⟩:=mem_elems.1 hx;omega
  obtain⟨m,hm,e,_⟩:=bagD_pos hg ho hF hi (w:=x.toNat) (by rw[show ((x.toNat:Nat):Int)=x by omega];exact hx)
  have:=ho.rng _ (List.getElem_mem hm)
  omega
 ·rw[hbl]
  refine conn_up (n:=o.length) (λx hx=> ?_) ((o.length-1:Nat):Int) (List.mem_map.2 ⟨o.length-1,List.mem_range.2 (by omega),rfl⟩) (λx hx hne=> ?_)
  ·obtain⟨i,hi,rfl⟩:=List.mem_map.1 hx
   exact⟨i,rfl,List.mem_range.1 hi⟩
  ·obtain⟨i,hi,rfl⟩:=List.mem_map.1 hx
   have hi:=List.mem_range.1 hi
   have hi2:i+1<o.length:=by
    apply Classical.byContradiction
    intro hc
    exact hne (by show (i:Int)=_;congr 1;omega)
   have h1:=nxt_lt hg ho hF hi2
   have h2:=nxt_gt o (elems (L.getD (o.getD i 0).toNat 0)) i
   refine⟨_,List.mem_map.2 ⟨_,List.mem_range.2 h1,rfl⟩,?_,.inl ?_⟩
   ·show (i:Int)<((_:Nat):Int)
    omega
   ·have:=hlk i hi2
    rw[Fi] at this
    exact this
 ·have hv:=hg.lt hu ha
  obtain⟨p,hp,ep⟩:=E4 ho hu
  obtain⟨q,hq,eq⟩:=E4 ho hv
  obtain⟨hp',ep'⟩:=List.getElem?_eq_some_iff.1 ep
  obtain⟨hq',eq'⟩:=List.getElem?_eq_some_iff.1 eq
  have hne:u≠v:=λe=>hg.irr u hu (by rw[e] at ha ⊢;exact ha)
  have hmn:=hF.mono u v hu ha
  have hmn2:=hF.f.sym u v hu hmn
  have hbm:∀i,i<o.length→Dd o L i∈(List.range o.length).map (Dd o L):=λi hi=>List.mem_map.2 ⟨i,List.mem_range.2 hi,rfl⟩
  have hnp:∀{a b:Nat} {x:Nat} (hb:b<o.length),o[b]=(x:Int)→a≤b→(x:Int)∉o.take a:=by
   intro a b x hb ex hab hc
   obtain⟨c,hc1,hc2,hc3⟩:=mem_take_iff.1 hc
   have:=D4 ho.nd hc1 hb (by rw[hc3,ex])
   omega
  rcases Nat.lt_trichotomy p q with c|c|c
  ·exact⟨_,hbm p hp',hself p u hp' ep',(DV hg ho hF hp' ep').2 (.inr ⟨hmn,hnp hq' eq' (by omega)⟩)⟩
  ·subst c;rw[ep'] at eq';omega
  ·exact⟨_,hbm q hq',(DV hg ho hF hq' eq').2 (.inr ⟨hmn2,hnp hp' ep' (by omega)⟩),hself q v hq' eq'⟩
 ·obtain⟨p,hp,ep⟩:=E4 ho hv
  obtain⟨hp',ep'⟩:=List.getElem?_eq_some_iff.1 ep
  intro hc
  have:=(hwith v p).2 ⟨p,rfl,hp',hself p v hp' ep'⟩
  rw[hc] at this
  simp at this
 ·obtain⟨p,hp,ep⟩:=E4 ho hv
  obtain⟨hp',ep'⟩:=List.getElem?_eq_some_iff.1 ep
  refine conn_up (n:=o.length) (λx hx=> ?_) (p:Int) ((hwith v p).2 ⟨p,rfl,hp',hself p v hp' ep'⟩) (λx hx hne=> ?_)
  ·obtain⟨b,rfl,hb,_⟩:=(hwith v x).1 hx
   exact⟨b,rfl,hb⟩
  ·obtain⟨b,rfl,hb,hvb⟩:=(hwith v x).1 hx
   obtain⟨m,hm,em,hbm⟩:=bagD_pos hg ho hF hb hvb
   have hmp:m=p:=D4 ho.nd hm hp' (by rw[em,ep'])
   subst hmp
   have hbp:b≠m:=λe=>hne (by rw[e])
   obtain⟨j,hj,hbj,hb1,hlj,hvj⟩:=bagD_next hg ho hF hb hm em (by omega) hvb
   refine⟨(j:Int),(hwith v j).2 ⟨j,rfl,hj,hvj⟩,by omega,.inl ?_⟩
   have:=hlk b hb1
   rw[hlj] at this
   exact this
end
end Go.Sx

namespace Go.Sx
theorem GOk.shr {g:LL}(hg:GOk g):Sh2 g:=by
 have h16:=hg.n16
 exact⟨by unfold Sh;omega,λr hr=>by have:=(hg.mem0 hr).1;unfold Sh;omega⟩
structure PB (g bags:LL):Prop where
 n16:bags.length≤16
 sets:∀i,i<bags.length→SetOf (bags.getD i []) g.length
 some:∀i,i<bags.length→bags.getD i []≠[]
 all:∀v:Nat,v<g.length→∃i,i<bags.length∧(v:Int)∈bags.getD i []
 edge:∀u v:Nat,u<g.length→adj g u v→∃i,i<bags.length∧(u:Int)∈bags.getD i []∧(v:Int)∈bags.getD i []
 run:∀(v:Nat) (i j k:Nat),i<j→j<k→k<bags.length→(v:Int)∈bags.getD i []→(v:Int)∈bags.getD k []→(v:Int)∈bags.getD j []
section
variable {g : LL} {o : LI} (hg : GOk g) (ho : OOk g o)
include hg ho
end
section
variable {g : LL} {o : LI} (hg : GOk g) (ho : OOk g o)
include hg ho
end
section
variable {g bags : LL} (hg : GOk g) (h : PB g bags)
include hg h
end
section
variable {g : LL} {o : LI} (hg : GOk g) (ho : OOk g o)
include hg ho
end
end Go.Sx

namespace Go.Sx
theorem link_iff (n:Nat)(l:LI):D3 n l↔l.length=2∧SetOf l (n:Int):=by
 constructor
 ·rintro⟨a,b,rfl,h1,h2⟩
  refine⟨rfl,by simp[Inc];omega,λx hx=> ?_⟩
  simp at hx;omega
 ·rintro⟨h1,h2,h3⟩
  obtain⟨x,y,rfl⟩:=list2 h1
  have a1:=h3 x (by simp);have a2:=h3 y (by simp)
  simp[Inc] at h2
  exact⟨x.toNat,y.toNat,by rw[show ((x.toNat:Nat):Int)=x by omega,show ((y.toNat:Nat):Int)=y by omega],by omega,by omega⟩
def lkB (n:Nat)(l:LI):Bool:=decide (l.length=2)&&Da l (n:Int)
theorem GT (n:Nat)(l:LI):lkB n l=true↔D3 n l:=by
 unfold lkB
 rw[link_iff,Bool.and_eq_true,decide_eq_true_eq,Dh]
section
variable {B K : LL} (hB : Sh2 B) (hK : Sh2 K)
include hB hK
theorem l9Form_eq :D.V0 B K=some ((decide (1≤B.length)&&decide (B.length≤16))&&decide (K.length≤16)&&K.all (lkB B.length)):=by
 have hBl:B.length≤4294967296:=hB.1
 have hKl:K.length≤4294967296:=hK.1
 unfold D.V0
 rw[Eo,bs]
 have e1:(decide ((1:Int)≤(B.length:Int))&&decide ((B.length:Int)≤16))=(decide (1≤B.length)&&decide (B.length≤16)):=by
  congr 1<;>rw[decide_eq_decide]<;>omega
 rw[e1]
 cases hb:(decide (1≤B.length)&&decide (B.length≤16))
 ·simp
 ·by_cases hk:K.length≤16
  ·have e2:decide ((16:Int)<(K.length:Int))=false:=by rw[decide_eq_false_iff_not];omega
   rw[e2,decide_eq_true hk,Bool.not_true,Bool.or_self,cF,Bool.and_self,Bool.true_and]
   refine(Do K.length (λi=>lkB B.length (K.getD i [])) false (λi hi=> ?_) ?_ rfl rfl).trans ?_
   ·have hs:=hK.2 _ (List.getElem_mem hi)
    simp only[dlt hi,cT,AC hi,bs,wq i,AH hi]
    unfold lkB
    by_cases h2:K[i].length=2
    ·have:((K[i].length:Int) !=2)=false:=by simp;omega
     rw[this,cF,Fy _ _ hs (by omega) (by omega),bs,decide_eq_true h2,Bool.true_and,bs]
     cases Da K[i] (B.length:Int)<;>rfl
    ·have:((K[i].length:Int) !=2)=true:=by simp;omega
     rw[this,cT,bs,decide_eq_false h2,Bool.false_and];rfl
   ·simp only[Be,cF]
   ·rw[Dq K (lkB B.length) _ (λi hi=>by rw[AH hi])]
  ·have e2:decide ((16:Int)<(K.length:Int))=true:=by rw[decide_eq_true_eq];omega
   rw[e2,decide_eq_false hk,Bool.or_true,cT];simp
theorem goodLinks_eq (hn:B.length≤16):D.J K (B.length:Int)=some (K.all (lkB B.length)):=by
 have hKl:K.length≤4294967296:=hK.1
 unfold D.J D.M1 D.P1
 have key:=Db (ρ:=Unit ⊕ Int) (step:=(fun(x_40:Int)=>cond (decide (x_40<(K.length:Int))) ((idx K x_40).bind λe_60=>(D.b1 e_60 (B.length:Int)).bind λy_66=>cond y_66 (some (.inr (.inr x_40))) (some (.inl (IntKind.i64.wrap (x_40+1))))) (some (.inr (.inl ()))))) K.length (λi=>if lkB B.length (K.getD i []) then none else some (.inr (i:Int))) (.inl ()) (λi hi=>by
   have hs:=hK.2 _ (List.getElem_mem hi)
   simp only[dlt hi,cT,AC hi,bs,wq i,AH hi]
   unfold D.b1 lkB
   by_cases h2:K[i].length=2
   ·have:((K[i].length:Int) !=2)=false:=by simp;omega
    rw[this,cF,Ef _ _ hs (by omega) (by omega),bs,decide_eq_true h2,Bool.true_and,bs,bs]
    cases Da K[i] (B.length:Int)<;>rfl
   ·have:((K[i].length:Int) !=2)=true:=by simp;omega
    rw[this,cT,bs,decide_eq_false h2,Bool.false_and];rfl) (by simp only[Be,cF])
 rw[key,bs]
 by_cases ha:K.all (lkB B.length)=true
 ·have:(List.range K.length).findSome? (λi=>if lkB B.length (K.getD i []) then none else some (Sum.inr (α:=Unit) (i:Int)))=none:=by
   rw[List.findSome?_eq_none_iff]
   intro i hi
   have hi':=List.mem_range.1 hi
   rw[if_pos]
   rw[AH hi']
   exact List.all_eq_true.1 ha _ (List.getElem_mem hi')
  rw[this,ha];rfl
 ·have ha:K.all (lkB B.length)=false:=by simpa using ha
  obtain⟨x,hx,hxb⟩:=List.all_eq_false.1 ha
  obtain⟨i,hi,rfl⟩:=List.getElem_of_mem hx
  cases hf:(List.range K.length).findSome? (λi=>if lkB B.length (K.getD i []) then none else some (Sum.inr (α:=Unit) (i:Int))) with
  |none=>
   rw[List.findSome?_eq_none_iff] at hf
   have:=hf i (List.mem_range.2 hi)
   rw[AH hi,if_neg (by simpa using hxb)] at this
   cases this
  |some z=>
   obtain⟨j,_,hj⟩:=List.exists_of_findSome?_eq_some hf
   split at hj
   ·cases hj
   ·cases hj
    have:decide ((0:Int)≤(j:Int))=true:=by rw[decide_eq_true_eq];omega
    simp[ha]
open Classical in
theorem reached_eq (sel:LI)(hl:K.length≤1000000)(hp:Pairs K)(hs:sel.length≤1000000)(hne:sel≠[])(hn:sel.Nodup):
  ∃y,D.b0 B K sel=some y∧(y=(sel.length:Int)↔D2 K sel):=by
 obtain⟨y,h1,m,rfl,h2,h3,h4⟩:=l9Reached_ok B K sel hl hp hs hne
 refine⟨_,h1,λh m' hm' x hx=> ?_,λhc=> ?_⟩
 ·have hxm:x∈m:=by
   apply Classical.byContradiction
   intro hno
   have:=DF (l:=x::m) (m:=sel) (List.nodup_cons.2 ⟨hno,h2⟩) (λz hz=>by
    rcases List.mem_cons.1 hz with rfl|hz
    ·exact hx
    ·exact h3.sub z hz)
   simp at this;omega
  exact h4 m' hm' x hxm
 ·rw[nodup_all h2 hn h3.sub (hc m h3)]
end
def Dv (n:Nat):LI:=(List.range n).map Int.ofNat
theorem allB_nodup (n:Nat):(Dv n).Nodup:=by
 refine Inc.nodup ?_
 unfold Inc Dv
 rw[List.pairwise_map]
 exact List.Pairwise.imp (fun{a b} h=>by show (a:Int)<(b:Int);omega) List.pairwise_lt_range
theorem allB_ne {n:Nat}(h:1≤n):Dv n≠[]:=by
 intro hc
 have:=congrArg List.length hc
 simp[Dv] at this;omega
theorem GL {α:Type}(p:Nat→Bool)(f:Nat→α)(s0:List α)(x:α):∀n,x∈(List.range n).foldl (λs i=>if p i then s++[f i] else s) s0↔x∈s0∨∃i,i<n∧p i=true∧x=f i
 |0=>by simp
 |n+1=>by
  rw[List.range_succ,List.foldl_append,List.foldl_cons,List.foldl_nil]
  have ih:=GL p f s0 x n
  by_cases hp:p n=true
  ·rw[if_pos hp,List.mem_append,ih]
   constructor
   ·rintro((h|⟨i,h1,h2⟩)|h)
    ·exact .inl h
    ·exact .inr ⟨i,by omega,h2⟩
    ·simp at h;exact .inr ⟨n,by omega,hp,h⟩
   ·rintro(h|⟨i,h1,h2,h3⟩)
    ·exact .inl (.inl h)
    ·by_cases e:i=n
     ·subst e;exact .inr (by simp[h3])
     ·exact .inl (.inr ⟨i,by omega,h2,h3⟩)
  ·rw[if_neg hp,ih]
   constructor
   ·rintro(h|⟨i,h1,h2⟩)
    ·exact .inl h
    ·exact .inr ⟨i,by omega,h2⟩
   ·rintro(h|⟨i,h1,h2,h3⟩)
    ·exact .inl h
    ·by_cases e:i=n
     ·subst e;exact absurd h2 hp
     ·exact .inr ⟨i,by omega,h2,h3⟩
theorem mem_rowF (r:LI)(u:Nat)(s:LL)(x:LI):x∈rowF r u s↔x∈s∨∃v∈r,(u:Int)<v∧x=[(u:Int),v]:=by
 unfold rowF
 have:=GL (λi=>decide ((u:Int)<r.getD i 0)) (λi=>[(u:Int),r.getD i 0]) s x r.length
 simp only[decide_eq_true_eq] at this
 rw[this]
 constructor
 ·rintro(h|⟨i,h1,h2,h3⟩)
  ·exact .inl h
  ·rw[AH h1] at h2 h3
   exact .inr ⟨r[i],List.getElem_mem h1,h2,h3⟩
 ·rintro(h|⟨v,h1,h2,h3⟩)
  ·exact .inl h
  ·obtain⟨i,hi,rfl⟩:=List.getElem_of_mem h1
   exact .inr ⟨i,hi,by rw[AH hi];exact h2,by rw[AH hi];exact h3⟩
theorem Gc {g:LL}(hg:GOk g)(x:LI):x∈DU g↔∃u v:Nat,u<g.length∧adj g u v∧u<v∧x=[(u:Int),(v:Int)]:=by
 have key:∀n,n≤g.length→(x∈(List.range n).foldl (λs u=>rowF (row g u) u s) []↔∃u v:Nat,u<n∧adj g u v∧u<v∧x=[(u:Int),(v:Int)]):=by
  intro n
  induction n with
  |zero=>intro _;simp
  |succ n ih=>
   intro hn
   rw[List.range_succ,List.foldl_append,List.foldl_cons,List.foldl_nil,mem_rowF,ih (by omega)]
   constructor
   ·rintro(⟨u,v,h1,h2⟩|⟨v,h1,h2,h3⟩)
    ·exact⟨u,v,by omega,h2⟩
    ·obtain⟨w,rfl,hw,ha⟩:=hg.mem (by omega) h1
     exact⟨n,w,by omega,ha,by omega,h3⟩
   ·rintro⟨u,v,h1,h2,h3,h4⟩
    by_cases e:u=n
    ·subst e;exact .inr ⟨v,h2,by omega,h4⟩
    ·exact .inl ⟨u,v,by omega,h2,h3,h4⟩
 exact key g.length (Nat.le_refl _)
section
variable {g B K : LL} (hg : GOk g) (hB : Sh2 B) (hK : Sh2 K)
include hg hB hK
open Classical in
theorem Hm :D.y1 g B K=some (decide (TB g B K)):=by
 have h16:=hg.n16
 have hKl:K.length≤4294967296:=hK.1
 have hBl:B.length≤4294967296:=hB.1
 unfold D.y1
 rw[CY g hg.shr,(FY g).2 hg]
 simp only[bs,Bool.not_true,cF]
 unfold D.C1
 rw[l9Form_eq hB hK,bs]
 by_cases hform:(1≤B.length∧B.length≤16∧K.length+1=B.length)∧∀l∈K,D3 B.length l
 case neg=>
  have hT:¬TB g B K:=λh=>hform ⟨⟨h.n1,h.n16,h.many⟩,h.lks⟩
  have e:(((decide (1≤B.length)&&decide (B.length≤16))&&decide (K.length≤16)&&K.all (lkB B.length))&&((K.length:Int)==IntKind.i64.wrap ((B.length:Int)-1)))=false:=by
   rw[w64 (by omega) (by omega)]
   cases hc:(((decide (1≤B.length)&&decide (B.length≤16))&&decide (K.length≤16)&&K.all (lkB B.length))&&((K.length:Int)==(B.length:Int)-1))
   ·rfl
   ·exfalso
    simp only[Bool.and_eq_true,decide_eq_true_eq,beq_iff_eq,List.all_eq_true] at hc
    exact hform ⟨⟨hc.1.1.1.1,hc.1.1.1.2,by omega⟩,λl hl=>(GT _ _).1 (hc.1.2 l hl)⟩
  rw[e,cF,decide_eq_false hT]
  rfl
 case pos=>
  obtain⟨⟨n1,n16,hm⟩,hlk⟩:=hform
  have hpairs:Pairs K:=λl hl=>by obtain⟨a,b,e,_⟩:=hlk l hl;exact⟨a,b,e⟩
  have e:(((decide (1≤B.length)&&decide (B.length≤16))&&decide (K.length≤16)&&K.all (lkB B.length))&&((K.length:Int)==IntKind.i64.wrap ((B.length:Int)-1)))=true:=by
   rw[w64 (by omega) (by omega)]
   simp only[Bool.and_eq_true,decide_eq_true_eq,beq_iff_eq,List.all_eq_true]
   exact⟨⟨⟨⟨n1,n16⟩,by omega⟩,λl hl=>(GT _ _).2 (hlk l hl)⟩,by omega⟩
  rw[e,cT,l1All_eq B.length (by omega),bs]
  obtain⟨y,e1,hy⟩:=reached_eq hB hK (Dv B.length) (by omega) hpairs (by simp[Dv];omega) (allB_ne n1) (allB_nodup _)
  have hal:(Dv B.length).length=B.length:=by simp[Dv]
  rw[hal] at hy
  have e1':D.b0 B K ((List.range B.length).map Int.ofNat)=some y:=e1
  rw[e1',bs,bs,bs]
  by_cases hc:D2 K (Dv B.length)
  case neg=>
   have:(y==(B.length:Int))=false:=by rw[beq_eq_false_iff_ne];exact λh=>hc (hy.1 h)
   rw[this,Bool.not_false,cT,decide_eq_false (λh=>hc h.tree)]
  case pos=>
   have:(y==(B.length:Int))=true:=by rw[beq_iff_eq];exact hy.2 hc
   rw[this,Bool.not_true,cF]
   unfold D.d
   refine(C7 B.length (λi=>Da (B.getD i []) g.length) (.inl ()) (.inr false) (λi hi=> ?_) ?_).trans ?_
   ·simp only[dlt hi,cT,AC hi,bs,Fy _ _ (hB.2 _ (List.getElem_mem hi)) (show (0:Int)≤(g.length:Int) by omega) (by omega),wq i,AH hi]
    cases Da B[i] (g.length:Int)<;>rfl
   ·simp only[Be,cF]
   ·rw[Dq B (λb=>Da b g.length) _ (λi hi=>by rw[AH hi])]
    by_cases hs:∀b∈B,SetOf b (g.length:Int)
    case neg=>
     have:(B.all λb=>Da b g.length)=false:=by
      cases hh:(B.all λb=>Da b g.length)
      ·rfl
      ·exact absurd (λb hb=>(Dh _ _).1 (List.all_eq_true.1 hh b hb)) hs
     rw[this,cF,decide_eq_false (λh=>hs h.sets)]
    case pos=>
     have:(B.all λb=>Da b g.length)=true:=List.all_eq_true.2 (λb hb=>(Dh _ _).2 (hs b hb))
     rw[this,cT]
     dsimp only
     rw[l1Edges_eq g hg,bs]
     have hel:(DU g).length≤256:=by
      obtain⟨y,y1,y2,_⟩:=l1Edges_ok g hg
      rw[l1Edges_eq g hg] at y1
      cases y1;exact y2
     refine(C7 (DU g).length (λi=>B.any λb=>((DU g).getD i []).all λx=>decide (x∈b)) (.inl ()) (.inr false) (λi hi=> ?_) ?_).trans ?_
     ·obtain⟨u,v,_,_,_,e2⟩:=(Gc hg _).1 (List.getElem_mem hi)
      simp only[dlt hi,cT,AC hi,bs,l9In_eq B K (DU g)[i] hB (by rw[e2];simp[Sh]),wq i,AH hi]
      cases (B.any λb=>((DU g)[i]).all λx=>decide (x∈b))<;>rfl
     ·simp only[Be,cF]
     ·rw[Dq (DU g) (λe=>B.any λb=>e.all λx=>decide (x∈b)) _ (λi hi=>by rw[AH hi])]
      by_cases hE:∀u v:Nat,u<g.length→adj g u v→∃b∈B,(u:Int)∈b∧(v:Int)∈b
      case neg=>
       have:((DU g).all λe=>B.any λb=>e.all λx=>decide (x∈b))=false:=by
        cases hh:((DU g).all λe=>B.any λb=>e.all λx=>decide (x∈b))
        ·rfl
        ·exfalso
         refine hE (λu v hu ha=> ?_)
         have hlt:∀u v:Nat,u<g.length→adj g u v→u<v→∃b∈B,(u:Int)∈b∧(v:Int)∈b:=λu v hu ha huv=>by
          obtain⟨b,hb,hbb⟩:=List.any_eq_true.1 (List.all_eq_true.1 hh _ ((Gc hg _).2 ⟨u,v,hu,ha,huv,rfl⟩))
          simp at hbb
          exact⟨b,hb,hbb⟩
         rcases Nat.lt_trichotomy u v with c|c|c
         ·exact hlt u v hu ha c
         ·subst c;exact absurd ha (hg.irr u hu)
         ·obtain⟨b,hb,h1,h2⟩:=hlt v u (hg.lt hu ha) (hg.sym u v hu ha) c
          exact⟨b,hb,h2,h1⟩
       rw[this,cF,decide_eq_false (λh=>hE h.edges)]
      case pos=>
       have:((DU g).all λe=>B.any λb=>e.all λx=>decide (x∈b))=true:=List.all_eq_true.2 (λe he=>by
        obtain⟨u,v,hu,ha,_,rfl⟩:=(Gc hg _).1 he
        obtain⟨b,hb,h1,h2⟩:=hE u v hu ha
        exact List.any_eq_true.2 ⟨b,hb,by simp[h1,h2]⟩)
       rw[this,cT]
       dsimp only
       refine(Do g.length (λv=>decide (CT B (v:Int)≠[]∧D2 K (CT B (v:Int)))) false (λv hv=> ?_) ?_ rfl rfl).trans ?_
       ·have hwl:(CT B (v:Int)).length≤16:=by
         have:=(FI B (v:Int)).short (n:=B.length) (λx hx=>by
          obtain⟨b,rfl,hb,_⟩:=mem_withV.1 hx;omega)
         omega
        simp only[bs,dlt hv,cT,l9With_eq B K (v:Int) hB (by omega),wq v]
        by_cases hne:CT B (v:Int)=[]
        ·rw[hne];simp
        ·have e0:(((CT B (v:Int)).length:Int)==0)=false:=by
          rw[beq_eq_false_iff_ne]
          have:=List.length_pos_iff.2 hne
          omega
         obtain⟨y,e2,hy2⟩:=reached_eq hB hK (CT B (v:Int)) (by omega) hpairs (by omega) hne (FI B (v:Int)).nodup
         rw[e0,cF,e2,bs,bs]
         by_cases hcv:D2 K (CT B (v:Int))
         ·have:(y !=((CT B (v:Int)).length:Int))=false:=by rw[bne_eq_false_iff_eq];exact hy2.2 hcv
          rw[this,cF,if_pos (decide_eq_true ⟨hne,hcv⟩)]
         ·have:(y !=((CT B (v:Int)).length:Int))=true:=by rw[bne_iff_ne];exact λh=>hcv (hy2.1 h)
          rw[this,cT,if_neg (by simpa using λh=>hcv)]
       ·simp only[bs,Be,cF]
       ·congr 1
        rw[Bool.eq_iff_iff,Cg,decide_eq_true_eq]
        simp only[decide_eq_true_eq]
        constructor
        ·intro hv
         exact⟨n1,n16,hm,hlk,hs,hc,hE,λv h=>(hv v h).1,λv h=>(hv v h).2⟩
        ·intro h v hv
         exact⟨h.some v hv,h.conn v hv⟩
end
end Go.Sx

namespace Go.Sx
theorem least_mem {s:Int}(hs:VS s){k:Nat}(hk:has s k=true)(hm:∀v,v<k→has s v=false):(elems s).head? =some (k:Int):=by
 obtain⟨t,e⟩:=elems_head hs hk hm
 rw[e];rfl
open Classical in
theorem GG {A:LI}{n:Nat}{K:LL}(hn:n≤16)(h:NetL A n K)(hk:∀l∈K,D3 n l){W:Int}(hW:VS W)(hlt:∀v,has W v=true→v<n):
  D.p0 A W=some (decide (elems W≠[]∧D2 K (elems W))):=by
 unfold D.p0
 by_cases hz:W=0
 ·subst hz
  have:elems 0=[]:=Cr
  simp[this]
 ·have e1:(W !=0)=true:=by simpa using hz
  obtain⟨v,hv32,e2,hv,hmin,_⟩:=least_eq hW hz
  obtain⟨S,e3,hS,hSn⟩:=reach_ok hn h.net (hlt v hv) hW
  have hhead:=least_mem hW hv hmin
  have hne:elems W≠[]:=by intro e;rw[e] at hhead;cases hhead
  rw[e1,cT,e2,bs,e3,bs,bs]
  congr 1
  rw[Bool.eq_iff_iff,beq_iff_eq,decide_eq_true_eq]
  have hsub:∀x,has S x=true→has W x=true:=hS.least (λx=>has W x=true) hv (λx y _ _ hy=>hy)
  constructor
  ·rintro rfl
   refine⟨hne,λm hm x hx=> ?_⟩
   obtain⟨u,_,hu,rfl⟩:=mem_elems.1 hx
   refine hS.least (λz=>(z:Int)∈m) (hm.first _ hhead) (λp q hp hpq hq=> ?_) u hu
   have hpW:has S p=true:=(AT hW).1 (hm.sub _ hp)
   exact hm.step _ hp _ ((AT hW).2 hq) ((h.nb p q (hlt p hpW) (hlt q hq)).1 hpq)
  ·rintro⟨_,hc⟩
   refine hS.vs.ext hW (λw _=> ?_)
   rw[Bool.eq_iff_iff]
   refine⟨hsub w,λhw=> ?_⟩
   have:=hc (elems S) ⟨λx hx=>by
    obtain⟨u,_,hu,rfl⟩:=mem_elems.1 hx
    exact(AT hW).2 (hsub u hu),λx hx=>by
    rw[hhead] at hx;cases hx;exact(AT hS.vs).2 hS.me,λx hx y hy hxy=>by
    obtain⟨p,_,hp,rfl⟩:=mem_elems.1 hx
    obtain⟨q,_,hq,rfl⟩:=mem_elems.1 hy
    exact(AT hS.vs).2 (hS.step p q hp ((h.nb p q (hSn p hp) (hlt q hq)).2 hxy) hq)⟩ (w:Int) ((AT hW).2 hw)
   exact(AT hS.vs).1 this
theorem Ha {B K:LL}(hn:B.length≤16)(hk:∀l∈K,D3 B.length l)(hKl:K.length≤1000000):∃A,D.v0 B K=some A∧NetL A B.length K:=by
 unfold D.v0
 rw[DB (by omega) (by omega),bs]
 refine BC (λs=>∃i:Nat,s.2=(i:Int)∧i≤K.length∧NetL s.1 B.length (K.take i)) (λs=>K.length-s.2.toNat) (λA=>NetL A B.length K) ?_ ⟨0,rfl,by omega,?_⟩ (λr hr=>⟨r,rfl,hr⟩)
 ·rintro⟨A,_⟩ ⟨i,rfl,hi,hA⟩
  dsimp only at hA ⊢
  by_cases hil:i<K.length
  ·obtain⟨a,b,e,hab,hb⟩:=hk _ (List.getElem_mem hil)
   have i0:idx K[i] 0=some (a:Int):=by rw[e];rfl
   have i1:idx K[i] 1=some (b:Int):=by rw[e];rfl
   obtain⟨A',e2,h1,h2⟩:=join_net hn hA.net (show a<B.length by omega) hb (by omega)
   simp only[dlt hil,cT,AC hil,bs,i0,i1,e2,wq i]
   refine⟨_,rfl,⟨i+1,rfl,hil,h1,λx y hx hy=> ?_⟩,by dsimp only;omega⟩
   dsimp only
   rw[h2 x y hx,List.take_succ_eq_append_getElem hil,e]
   simp only[Bool.or_eq_true,Bool.and_eq_true,decide_eq_true_eq]
   rw[hA.nb x y hx hy]
   unfold Lk
   simp only[List.mem_append,List.mem_singleton,List.cons.injEq,and_true,Int.natCast_inj]
   constructor
   ·rintro((h1|h1)|⟨h1,h2⟩)
    ·exact h1.elim (λh=> .inl (.inl h)) (λh=> .inr (.inl h))
    ·exact .inl (.inr h1)
    ·exact .inr (.inr ⟨h2,h1⟩)
   ·rintro((h1|h1)|(h1|⟨h1,h2⟩))
    ·exact .inl (.inl (.inl h1))
    ·exact .inl (.inr h1)
    ·exact .inl (.inl (.inr h1))
    ·exact .inr ⟨h2,h1⟩
  ·obtain rfl:i=K.length:=by omega
   simp only[Be,cF]
   rw[List.take_length] at hA
   exact⟨_,rfl,hA⟩
 ·have hz:∀u,(List.replicate B.length (0:Int)).getD u 0=0:=λu=>by
   rw[List.getD_eq_getElem?_getD,List.getElem?_replicate];split<;>rfl
  refine⟨⟨by simp,λu _=>by rw[hz];exact VS.zero,λu w _ h=>by unfold nb at h;rw[hz,Bv] at h;cases h⟩,λx y _ _=> ?_⟩
  unfold nb Lk
  rw[hz,Bv];simp
section
variable {g B K : LL} (hg : GOk g) (hs : ∀ b ∈ B, SetOf b (g.length : Int)) (hBl : B.length ≤ 1000)
include hg hs hBl
theorem masks_eqB :D.v B=some (B.map mk):=by
 have h16:=hg.n16
 unfold D.v
 refine(Gj B (λs i=>(s,i)) mk (by omega) (λs i hi _=> ?_) (λs=> ?_)).trans rfl
 ·have hb:=hs _ (List.getElem_mem hi)
  have hl:=hb.length_le (by omega)
  simp only[dlt hi,cT,AC hi,bs,GM _ (show Sh B[i] by unfold Sh;omega) (λx hx=>(hb.2 x hx).1),wq i]
 ·simp only[Be,cF]
theorem GA {i:Nat}(hi:i<B.length)(v:Nat):has (mk B[i]) v=decide ((v:Int)∈B[i]):=by
 have h16:=hg.n16
 have hb:=hs _ (List.getElem_mem hi)
 exact CR (λx hx=>by have:=hb.2 x hx;omega) v
open Classical in
theorem FF :D.i0 (g.map mk) (B.map mk)=some (decide (∀v,v<g.length→(∃j,∃hj:j<B.length,(v:Int)∈B[j])∧∀w,adj g v w→∃j,∃hj:j<B.length,(v:Int)∈B[j]∧(w:Int)∈B[j])):=by
 have h16:=hg.n16
 unfold D.i0
 refine(Do g.length (λv=>decide ((∃j,∃hj:j<B.length,(v:Int)∈B[j])∧∀w,adj g v w→∃j,∃hj:j<B.length,(v:Int)∈B[j]∧(w:Int)∈B[j])) false (λv hv=> ?_) ?_ rfl rfl).trans ?_
 ·have hv':v<(g.map mk).length:=by simpa using hv
  have e1:decide ((v:Int)<((g.map mk).length:Int))=true:=dlt hv'
  simp only[e1,cT,AC hv',bs,List.getElem_map]
  obtain⟨y,hy,hq⟩:=BC (step:=(fun(s_340:Int×Int)=>match s_340 with|(x_343,x_344)=>cond (decide (x_344<((B.map mk).length:Int))) ((idx (B.map mk) x_344).bind λe_365=>(D.g e_365 (v:Int)).bind λy_371=>cond y_371 (some (.inl ((ior .u32 x_343 e_365),(IntKind.i64.wrap (x_344+1))))) (some (.inl (x_343,(IntKind.i64.wrap (x_344+1)))))) (some (.inr x_343)))) (s:=(0,0))
   (k:=λr=>some r) (Q:=λx=>VS x∧∀u,has x u=true↔∃j,∃hj:j<B.length,(v:Int)∈B[j]∧(u:Int)∈B[j])
   (λs=>∃i:Nat,s.2=(i:Int)∧i≤B.length∧VS s.1∧∀u,has s.1 u=true↔∃j,∃hj:j<B.length,j<i∧(v:Int)∈B[j]∧(u:Int)∈B[j]) (λs=>B.length-s.2.toNat)
   (λx=>VS x∧∀u,has x u=true↔∃j,∃hj:j<B.length,(v:Int)∈B[j]∧(u:Int)∈B[j]) (by
    rintro⟨x,_⟩ ⟨i,rfl,hi,hx,hh⟩
    dsimp only at hx hh ⊢
    by_cases hlt:i<B.length
    ·have hlt':i<(B.map mk).length:=by simpa using hlt
     have hhas:D.g (mk B[i]) (v:Int)=some (has (mk B[i]) v):=by
      unfold D.g
      have:decide ((v:Int)<0)=false:=by simp
      rw[this,cF,F8 (VS.mk _) (by omega)]
     simp only[dlt hlt',cT,AC hlt',bs,List.getElem_map,hhas,GA hg hs hBl hlt,wq i]
     by_cases hm:(v:Int)∈B[i]
     ·simp only[hm,decide_true,cT]
      refine⟨_,rfl,⟨i+1,rfl,by omega,VS.ior _ _,λu=> ?_⟩,by dsimp only;omega⟩
      dsimp only
      rw[CG hx (VS.mk _),Bool.or_eq_true,hh,GA hg hs hBl hlt,decide_eq_true_eq]
      constructor
      ·rintro(⟨j,h0,h1,h2,h3⟩|h1)
       ·exact⟨j,h0,by omega,h2,h3⟩
       ·exact⟨i,hlt,by omega,hm,h1⟩
      ·rintro⟨j,h0,h1,h2,h3⟩
       by_cases hji:j=i
       ·subst hji;exact .inr h3
       ·exact .inl ⟨j,h0,by omega,h2,h3⟩
     ·simp only[hm,decide_false,cF]
      refine⟨_,rfl,⟨i+1,rfl,by omega,hx,λu=> ?_⟩,by dsimp only;omega⟩
      dsimp only
      rw[hh]
      constructor
      ·rintro⟨j,h0,h1,h2⟩;exact⟨j,h0,by omega,h2⟩
      ·rintro⟨j,h0,h1,h2,h3⟩
       by_cases hji:j=i
       ·subst hji;exact absurd h2 hm
       ·exact⟨j,h0,by omega,h2,h3⟩
    ·obtain rfl:i=B.length:=by omega
     have:decide (((B.length:Nat):Int)<((B.map mk).length:Int))=false:=by simp
     simp only[this,cF]
     refine⟨_,rfl,hx,λu=> ?_⟩
     rw[hh]
     exact⟨fun⟨j,h0,_,h2⟩=>⟨j,h0,h2⟩,fun⟨j,h0,h2⟩=>⟨j,h0,h0,h2⟩⟩) ⟨0,rfl,by omega,VS.zero,λu=>by simp[Bv]⟩ (λr hr=>⟨r,rfl,hr⟩)
  rw[Option.bind_eq_some_iff] at hy
  obtain⟨a,ha,hb⟩:=hy
  cases hb
  obtain⟨hy1,hy2⟩:=hq
  rw[ha,bs]
  have hhas:D.g y (v:Int)=some (has y v):=by
   unfold D.g
   have:decide ((v:Int)<0)=false:=by simp
   rw[this,cF,F8 hy1 (by omega)]
  rw[hhas,bs,wq v]
  have hrow:∀x∈g[v],0≤x∧x<32:=λx hx=>by
   rw[←DN hv] at hx
   have:=(hg.rows v hv).2 x hx;omega
  by_cases h1:∃j,∃hj:j<B.length,(v:Int)∈B[j]
  case neg=>
   have:has y v=false:=by
    cases hh:has y v
    ·rfl
    ·obtain⟨j,hj,m1,_⟩:=(hy2 v).1 hh
     exact absurd ⟨j,hj,m1⟩ h1
   rw[this,Bool.not_false,Bool.true_or,cT,if_neg (by rw[decide_eq_true_eq];exact λh=>h1 h.1)]
  case pos=>
   have:has y v=true:=by
    obtain⟨j,hj,m1⟩:=h1
    exact(hy2 v).2 ⟨j,hj,m1,m1⟩
   rw[this,Bool.not_true,Bool.false_or]
   by_cases h2:∀w,adj g v w→∃j,∃hj:j<B.length,(v:Int)∈B[j]∧(w:Int)∈B[j]
   case neg=>
    have hz:(iandNot .u32 (mk g[v]) y !=0)=true:=by
     rw[bne_iff_ne]
     intro hz
     rw[(VS.iandNot _ _).eq_zero] at hz
     refine h2 (λw hw=> ?_)
     have hw':=hg.lt hv hw
     have:=hz w (by omega)
     rw[A8 (VS.mk _) hy1,CR hrow] at this
     have hm:(w:Int)∈g[v]:=by rw[←DN hv];exact hw
     simp only[hm,decide_true,Bool.true_and,Bool.not_eq_false'] at this
     exact(hy2 w).1 this
    rw[hz,cT,if_neg (by rw[decide_eq_true_eq];exact λh=>h2 h.2)]
   case pos=>
    have hz:(iandNot .u32 (mk g[v]) y !=0)=false:=by
     rw[bne_eq_false_iff_eq,(VS.iandNot _ _).eq_zero]
     intro u hu
     rw[A8 (VS.mk _) hy1,CR hrow]
     by_cases ha:(u:Int)∈g[v]
     ·rw[←DN hv] at ha
      have:has y u=true:=(hy2 u).2 (h2 u ha)
      simp[this]
     ·simp[ha]
    rw[hz,cF,if_pos (decide_eq_true ⟨h1,h2⟩)]
 ·have:decide (((g.length:Nat):Int)<((g.map mk).length:Int))=false:=by simp
  simp only[this,cF]
 ·congr 1
  rw[Bool.eq_iff_iff,Cg,decide_eq_true_eq]
  simp only[decide_eq_true_eq]
end
section
variable {g B K : LL} (hg : GOk g) (hs : ∀ b ∈ B, SetOf b (g.length : Int)) (hBl : B.length ≤ 16)
include hg hs hBl
theorem masks_eq :D.v B=some (B.map mk):=masks_eqB hg hs (by omega)
theorem has_mask {i:Nat}(hi:i<B.length)(v:Nat):has (mk B[i]) v=decide ((v:Int)∈B[i]):=GA hg hs (by omega) hi v
open Classical in
theorem coversEdges_eq :D.i0 (g.map mk) (B.map mk)=some (decide (∀v,v<g.length→(∃j,∃hj:j<B.length,(v:Int)∈B[j])∧∀w,adj g v w→∃j,∃hj:j<B.length,(v:Int)∈B[j]∧(w:Int)∈B[j])):=FF hg hs (by omega)
theorem with_ok {v:Nat}(hv:v<g.length):∃x,(Az (σ:=Int×Int) (ρ:=(Int)) (fun(s_662:Int×Int)=>match s_662 with|(x_665,x_666)=>cond (decide (x_666<((B.map mk).length:Int))) ((idx (B.map mk) x_666).bind λe_694=>(D.g e_694 (v:Int)).bind λy_700=>cond y_700 ((D.a x_666).bind λy_708=>some (.inl ((ior .u32 x_665 y_708),(IntKind.i64.wrap (x_666+1))))) (some (.inl (x_665,(IntKind.i64.wrap (x_666+1)))))) (some (.inr x_665))) (0,0))=some x∧VS x∧(∀u,has x u=true→u<B.length)∧elems x=CT B (v:Int):=by
 have h16:=hg.n16
 obtain⟨y,hy,hq⟩:=BC (step:=(fun(s_662:Int×Int)=>match s_662 with|(x_665,x_666)=>cond (decide (x_666<((B.map mk).length:Int))) ((idx (B.map mk) x_666).bind λe_694=>(D.g e_694 (v:Int)).bind λy_700=>cond y_700 ((D.a x_666).bind λy_708=>some (.inl ((ior .u32 x_665 y_708),(IntKind.i64.wrap (x_666+1))))) (some (.inl (x_665,(IntKind.i64.wrap (x_666+1)))))) (some (.inr x_665)))) (s:=(0,0))
  (k:=λr=>some r) (Q:=λx=>VS x∧∀u,has x u=true↔∃hj:u<B.length,(v:Int)∈B[u])
  (λs=>∃i:Nat,s.2=(i:Int)∧i≤B.length∧VS s.1∧∀u,has s.1 u=true↔∃hj:u<B.length,u<i∧(v:Int)∈B[u]) (λs=>B.length-s.2.toNat)
  (λx=>VS x∧∀u,has x u=true↔∃hj:u<B.length,(v:Int)∈B[u]) (by
   rintro⟨x,_⟩ ⟨i,rfl,hi,hx,hh⟩
   dsimp only at hx hh ⊢
   by_cases hlt:i<B.length
   ·have hlt':i<(B.map mk).length:=by simpa using hlt
    have hhas:D.g (mk B[i]) (v:Int)=some (has (mk B[i]) v):=by
     unfold D.g
     have:decide ((v:Int)<0)=false:=by simp
     rw[this,cF,F8 (VS.mk _) (by omega)]
    simp only[dlt hlt',cT,AC hlt',bs,List.getElem_map,hhas,has_mask hg hs hBl hlt,Cc,wq i]
    by_cases hm:(v:Int)∈B[i]
    ·simp only[hm,decide_true,cT]
     refine⟨_,rfl,⟨i+1,rfl,by omega,VS.ior _ _,λu=> ?_⟩,by dsimp only;omega⟩
     dsimp only
     rw[CG hx (VS.ishl _ _),Bool.or_eq_true,hh,BX (by omega),decide_eq_true_eq]
     constructor
     ·rintro(⟨h0,h1,h2⟩|rfl)
      ·exact⟨h0,by omega,h2⟩
      ·exact⟨hlt,by omega,hm⟩
     ·rintro⟨h0,h1,h2⟩
      by_cases hji:u=i
      ·exact .inr hji
      ·exact .inl ⟨h0,by omega,h2⟩
    ·simp only[hm,decide_false,cF]
     refine⟨_,rfl,⟨i+1,rfl,by omega,hx,λu=> ?_⟩,by dsimp only;omega⟩
     dsimp only
     rw[hh]
     constructor
     ·rintro⟨h0,h1,h2⟩;exact⟨h0,by omega,h2⟩
     ·rintro⟨h0,h1,h2⟩
      by_cases hji:u=i
      ·subst hji;exact absurd h2 hm
      ·exact⟨h0,by omega,h2⟩
   ·obtain rfl:i=B.length:=by omega
    have:decide (((B.length:Nat):Int)<((B.map mk).length:Int))=false:=by simp
    simp only[this,cF]
    refine⟨_,rfl,hx,λu=> ?_⟩
    rw[hh]
    exact⟨fun⟨h0,_,h2⟩=>⟨h0,h2⟩,fun⟨h0,h2⟩=>⟨h0,h0,h2⟩⟩) ⟨0,rfl,by omega,VS.zero,λu=>by simp[Bv]⟩ (λr hr=>⟨r,rfl,hr⟩)
 rw[Option.bind_eq_some_iff] at hy
 obtain⟨a,ha,hb⟩:=hy
 cases hb
 obtain⟨hy1,hy2⟩:=hq
 refine⟨_,ha,hy1,λu hu=>((hy2 u).1 hu).1,?_⟩
 refine Inc.ext (BP _) (FI B (v:Int)) (λx=> ?_)
 rw[mem_elems,mem_withV]
 constructor
 ·rintro⟨u,_,h2,rfl⟩
  obtain⟨h3,h4⟩:=(hy2 u).1 h2
  exact⟨u,rfl,h3,by rw[AH h3];exact h4⟩
 ·rintro⟨u,rfl,h3,h4⟩
  rw[AH h3] at h4
  exact⟨u,by omega,(hy2 u).2 ⟨h3,h4⟩,rfl⟩
end
section
variable {g B K : LL} (hg : GOk g) (hB : Sh2 B) (hK : Sh2 K)
include hg hB hK
open Classical in
theorem Hi :D.P0 g B K=some (decide (TB g B K)):=by
 have h16:=hg.n16
 have hKl:K.length≤4294967296:=hK.1
 have hBl:B.length≤4294967296:=hB.1
 unfold D.P0
 rw[FK g hg.shr,(FY g).2 hg]
 simp only[bs,Bool.not_true,Bool.false_or]
 rw[w64 (by omega) (by omega)]
 by_cases hb:1≤B.length∧B.length≤16∧K.length+1=B.length
 case neg=>
  have hT:¬TB g B K:=λh=>hb ⟨h.n1,h.n16,h.many⟩
  have e:((decide ((B.length:Int)<1)||decide ((16:Int)<(B.length:Int)))||((K.length:Int) !=(B.length:Int)-1))=true:=by
   simp only[Bool.or_eq_true,decide_eq_true_eq,bne_iff_ne]
   omega
  rw[e,cT,bs,cT,decide_eq_false hT]
 case pos=>
  obtain⟨n1,n16,hm⟩:=hb
  have e:((decide ((B.length:Int)<1)||decide ((16:Int)<(B.length:Int)))||((K.length:Int) !=(B.length:Int)-1))=false:=by
   cases hc:((decide ((B.length:Int)<1)||decide ((16:Int)<(B.length:Int)))||((K.length:Int) !=(B.length:Int)-1))
   ·rfl
   ·simp only[Bool.or_eq_true,decide_eq_true_eq,bne_iff_ne] at hc;omega
  rw[e,cF,goodLinks_eq hB hK n16,bs,bs]
  by_cases hlk:∀l∈K,D3 B.length l
  case neg=>
   have:K.all (lkB B.length)=false:=by
    cases hh:K.all (lkB B.length)
    ·rfl
    ·exact absurd (λl hl=>(GT _ _).1 (List.all_eq_true.1 hh l hl)) hlk
   rw[this,Bool.not_false,cT,decide_eq_false (λh=>hlk h.lks)]
  case pos=>
   have:K.all (lkB B.length)=true:=List.all_eq_true.2 (λl hl=>(GT _ _).2 (hlk l hl))
   rw[this,Bool.not_true,cF]
   refine(C7 B.length (λi=>Da (B.getD i []) g.length) (.inl ()) (.inr false) (λi hi=> ?_) ?_).trans ?_
   ·simp only[dlt hi,cT,AC hi,bs,Ef _ _ (hB.2 _ (List.getElem_mem hi)) (show (0:Int)≤(g.length:Int) by omega) (by omega),wq i,AH hi]
    cases Da B[i] (g.length:Int)<;>rfl
   ·simp only[Be,cF]
   ·rw[Dq B (λb=>Da b g.length) _ (λi hi=>by rw[AH hi])]
    by_cases hs:∀b∈B,SetOf b (g.length:Int)
    case neg=>
     have:(B.all λb=>Da b g.length)=false:=by
      cases hh:(B.all λb=>Da b g.length)
      ·rfl
      ·exact absurd (λb hb=>(Dh _ _).1 (List.all_eq_true.1 hh b hb)) hs
     rw[this,cF,decide_eq_false (λh=>hs h.sets)]
    case pos=>
     have:(B.all λb=>Da b g.length)=true:=List.all_eq_true.2 (λb hb=>(Dh _ _).2 (hs b hb))
     rw[this,cT]
     dsimp only
     obtain⟨A,e1,hA⟩:=Ha n16 hlk (by omega)
     obtain⟨s,e2,hs1,hs2⟩:=FQ A (by rw[hA.net.len];omega)
     have hsel:elems s=Dv B.length:=by
      have hsn:∀v,has s v=true→v<B.length:=λv hv=>by rw[hs2,hA.net.len] at hv;exact of_decide_eq_true hv
      rw[←els_all (n:=B.length) (by omega) hsn]
      unfold els Dv
      congr 1
      rw[List.filter_eq_self]
      intro v hv
      rw[hs2,hA.net.len];exact decide_eq_true (List.mem_range.1 hv)
     rw[e1,bs,masks_eq hg hs n16,bs,e2,bs,GG n16 hA hlk hs1 (λv hv=>by rw[hs2,hA.net.len] at hv;exact of_decide_eq_true hv),bs,hsel]
     by_cases hc:D2 K (Dv B.length)
     case neg=>
      rw[decide_eq_false (λh=>hc h.2),Bool.not_false,cT,bs,cT,decide_eq_false (λh=>hc h.tree)]
     case pos=>
      rw[decide_eq_true (⟨allB_ne n1,hc⟩:_∧_),Bool.not_true,cF,E2 g hg,bs,coversEdges_eq hg hs n16,bs,bs]
      by_cases hE:∀v,v<g.length→(∃j,∃hj:j<B.length,(v:Int)∈B[j])∧∀w,adj g v w→∃j,∃hj:j<B.length,(v:Int)∈B[j]∧(w:Int)∈B[j]
      case neg=>
       rw[decide_eq_false hE,Bool.not_false,cT,decide_eq_false]
       intro h
       refine hE (λv hv=>⟨?_,λw hw=> ?_⟩)
       ·obtain⟨x,hx⟩:=List.exists_mem_of_ne_nil _ (h.some v hv)
        obtain⟨b,_,hb,hvb⟩:=mem_withV.1 hx
        rw[AH hb] at hvb
        exact⟨b,hb,hvb⟩
       ·obtain⟨b,hb,h1,h2⟩:=h.edges v w hv hw
        obtain⟨j,hj,rfl⟩:=List.getElem_of_mem hb
        exact⟨j,hj,h1,h2⟩
      case pos=>
       rw[decide_eq_true hE,Bool.not_true,cF]
       refine(Do g.length (λv=>decide (CT B (v:Int)≠[]∧D2 K (CT B (v:Int)))) false (λv hv=> ?_) ?_ rfl rfl).trans ?_
       ·obtain⟨x,e3,hx1,hx2,hx3⟩:=with_ok hg hs n16 hv
        rw[dlt hv,cT,e3,bs,GG n16 hA hlk hx1 hx2,bs,hx3,wq v]
        cases decide (CT B (v:Int)≠[]∧D2 K (CT B (v:Int)))<;>rfl
       ·simp only[Be,cF]
       ·congr 1
        rw[Bool.eq_iff_iff,Cg,decide_eq_true_eq]
        simp only[decide_eq_true_eq]
        constructor
        ·intro hv
         refine⟨n1,n16,hm,hlk,hs,hc,λu v hu ha=> ?_,λv h=>(hv v h).1,λv h=>(hv v h).2⟩
         obtain⟨j,hj,h1,h2⟩:=(hE u hu).2 v ha
         exact⟨B[j],List.getElem_mem hj,h1,h2⟩
        ·intro h v hv
         exact⟨h.some v hv,h.conn v hv⟩
end
end Go.Sx

namespace Go.Sx
def prt (s t:Int):Bool:=(iandNot .u32 s t)==0
structure TS (M:LI)(K:LL):Prop where
 n16:M.length≤16
 vs:∀s∈M,VS s
 lk:∀l∈K,D3 M.length l
 k16:K.length≤16
section
variable {M : LI} {K : LL} (h : TS M K) {g k : Nat} (hg : g < M.length) (hk : k < M.length) (hgk : g ≠ k)
include h hg hk hgk
end
def spareM (M:LI)(l:LI):Option (Nat×Nat):=
 if prt (M.getD (l.getD 1 0).toNat 0) (M.getD (l.getD 0 0).toNat 0) then some ((l.getD 1 0).toNat,(l.getD 0 0).toNat)
 else if prt (M.getD (l.getD 0 0).toNat 0) (M.getD (l.getD 1 0).toNat 0) then some ((l.getD 0 0).toNat,(l.getD 1 0).toNat) else none
def spare (M:LI)(K:LL):Option (Nat×Nat):=(List.range K.length).findSome? (λi=>spareM M (K.getD i []))
section
variable {M : LI} {K : LL} (h : TS M K)
include h
end
end Go.Sx

namespace Go.Sx
theorem Lk.symm {links:LL}{x y:Int}(h:Lk links x y):Lk links y x:=Or.elim h (λh=>Or.inr h) (λh=>Or.inl h)
theorem conn_iff {links:LL}{sel:LI}:D2 links sel↔∀T:Int→Prop,(∃x∈sel,T x)→(∀x y,x∈sel→y∈sel→T x→Lk links x y→T y)→∀x∈sel,T x:=by
 constructor
 ·intro h T ⟨x0,hx0,hT⟩ hs
  classical
  have hall:∀U:Int→Prop,(∀x,sel.head? =some x→U x)→(∀x y,x∈sel→y∈sel→U x→Lk links x y→U y)→∀x∈sel,U x:=λU h1 h2 x hx=>by
   have:=h (sel.filter λz=>decide (U z)) ⟨λz hz=>(List.mem_filter.1 hz).1,λz hz=>List.mem_filter.2 ⟨List.mem_of_mem_head? hz,decide_eq_true (h1 z hz)⟩,λa ha b hb hl=>by
    have ha:=List.mem_filter.1 ha
    exact List.mem_filter.2 ⟨hb,decide_eq_true (h2 a b ha.1 hb (of_decide_eq_true ha.2) hl)⟩⟩ x hx
   exact of_decide_eq_true (List.mem_filter.1 this).2
  cases hsel:sel with
  |nil=>intro x hx;simp at hx
  |cons z t=>
   rw[←hsel]
   have hz:T z:=by
    apply Classical.byContradiction
    intro hc
    have:=hall (λx=>¬T x) (λx hx=>by rw[hsel] at hx;simp at hx;rw[←hx];exact hc) (λa b ha hb hna hl hTb=>hna (hs b a hb ha hTb hl.symm)) x0 hx0
    exact this hT
   exact hall T (λx hx=>by rw[hsel] at hx;simp at hx;rw[←hx];exact hz) hs
 ·intro h m hm x hx
  cases hsel:sel with
  |nil=>rw[hsel] at hx;simp at hx
  |cons z t=>
   exact h (λz=>z∈m) ⟨z,by rw[hsel];simp,hm.first z (by rw[hsel];rfl)⟩ (λa b _ hb ha hl=>hm.step a ha b hb hl) x hx
theorem countP_lt {α:Type}{p q:α→Bool}:∀{l:List α},(∀x∈l,p x=true→q x=true)→(∃x∈l,q x=true∧p x=false)→l.countP p+1≤l.countP q
 |[],_,h=>by obtain⟨x,hx,_⟩:=h;simp at hx
 |a::l,h1,h2=>by
  have hm:l.countP p≤l.countP q:=List.countP_mono_left λx hx=>h1 x (List.mem_cons_of_mem _ hx)
  obtain⟨x,hx,hq,hp⟩:=h2
  rw[List.countP_cons,List.countP_cons]
  rcases List.mem_cons.1 hx with rfl|hx
  ·rw[hq,hp];simp;omega
  ·have:=countP_lt (λx hx=>h1 x (List.mem_cons_of_mem _ hx)) ⟨x,hx,hq,hp⟩
   have h3:=h1 a (List.mem_cons_self ..)
   cases hpa:p a
   ·cases q a<;>simp<;>omega
   ·rw[h3 hpa];simp;omega
theorem conn_many {links:LL}{sel:LI}(hn:sel.Nodup)(h:D2 links sel):sel.length≤links.length+1:=by
 rw[conn_iff] at h
 have key:∀k,k+1≤sel.length→∃T:LI,T.Nodup∧(∀x∈T,x∈sel)∧T.length=k+1∧k≤links.countP (λl=>decide (l.getD 0 0∈T)&&decide (l.getD 1 0∈T)):=by
  intro k
  induction k with
  |zero=>
   intro hk
   have hs:0<sel.length:=by omega
   exact⟨[sel[0]],by simp,λx hx=>by simp at hx;rw[hx];exact List.getElem_mem hs,rfl,by omega⟩
  |succ k ih=>
   intro hk
   obtain⟨T,hT1,hT2,hT3,hT4⟩:=ih (by omega)
   have hex:∃x y,x∈T∧y∈sel∧y∉T∧Lk links x y:=by
    apply Classical.byContradiction
    intro hc
    have hall:=h (λz=>z∈T) ⟨T[0]'(by omega),hT2 _ (List.getElem_mem _),List.getElem_mem _⟩ (λx y _ hy hx hl=>by
     apply Classical.byContradiction
     intro hy2
     exact hc ⟨x,y,hx,hy,hy2,hl⟩)
    have:=DF hn hall
    omega
   obtain⟨x,y,hx,hy,hyT,hl⟩:=hex
   refine⟨y::T,List.nodup_cons.2 ⟨hyT,hT1⟩,λz hz=> ?_,by simp[hT3],?_⟩
   ·rcases List.mem_cons.1 hz with rfl|hz
    ·exact hy
    ·exact hT2 z hz
   ·refine Nat.le_trans (Nat.succ_le_succ hT4) (countP_lt (λl _ hl=> ?_) ?_)
    ·simp only[Bool.and_eq_true,decide_eq_true_eq] at hl ⊢
     exact⟨List.mem_cons_of_mem _ hl.1,List.mem_cons_of_mem _ hl.2⟩
    ·rcases hl with hl|hl
     ·exact⟨[x,y],hl,by simp[hx],by simp[hyT]⟩
     ·exact⟨[y,x],hl,by simp[hx],by simp[hyT]⟩
 cases hs:sel.length with
 |zero=>omega
 |succ k=>
  obtain⟨T,_,_,_,h4⟩:=key k (by omega)
  have:= @List.countP_le_length _ (λl=>decide (l.getD 0 0∈T)&&decide (l.getD 1 0∈T)) links
  omega
section
variable {G : LL} {M : LI} {K : LL} (h : TS M K) (hT : TB G (M.map elems) K) {g k : Nat} (hg : g < M.length) (hk : k < M.length) (hgk : g ≠ k)
include h hT hg hk hgk
end
end Go.Sx

namespace Go.Sx
section
variable {g : LL} (hg : GOk g)
include hg
end
end Go.Sx

namespace Go.Sx
section
variable {g : LL} (hg : GOk g)
include hg
def prs (P:List (Nat×Nat)):LL:=P.map λp=>pr p.1 p.2
end
end Go.Sx

namespace Go.Sx
section
variable {g : LL} (hg : GOk g)
include hg
end
end Go.Sx

namespace Go.Sx
section
variable {g : LL} (hg : GOk g)
include hg
end
end Go.Sx

namespace Go.Sx
section
variable {g : LL} (hg : GOk g)
include hg
end
end Go.Sx

namespace Go.Sx
section
variable {g : LL} (hg : GOk g)
include hg
end
end Go.Sx

namespace Go.Sx
section
variable {g : LL} (hg : GOk g)
include hg
end
end Go.Sx

namespace Go.Sx
section
variable {g : LL} (hg : GOk g)
include hg
end
end Go.Sx

namespace Go.Sx
theorem sumN_le {f g:Nat→Nat}:∀{m:Nat},(∀i,i<m→f i≤g i)→Dk f m≤Dk g m
 |0,_=>Nat.le_refl _
 |m+1,h=>by simp only[Dk];have:=sumN_le (m:=m) (λi hi=>h i (by omega));have:=h m (by omega);omega
def wst (A:Nat→Nat→Bool)(s v u:Nat):Bool:=A v u&& !s.testBit u
def wcnF (A:Nat→Nat→Bool)(n:Nat)(L:Nat→Bool):Nat→Nat→Nat→Nat
 |0,_,_=>0
 |k+1,s,v=>if s=2^n-1 then bit (L v) else Dk (λu=>bit (wst A s v u)*wcnF A n L k (s|||2^u) u) n
def wcn (A:Nat→Nat→Bool)(n:Nat)(L:Nat→Bool)(s v:Nat):Nat:=wcnF A n L (2^n) s v
def rm (n:Nat)(m:Int):Int:=iandNot .u32 (full n) m
noncomputable def bh (F:LI)(m v:Int):Int:=(D.e2 F m v).getD 0
noncomputable def indP (p:Prop):Nat:=by classical exact if p then 1 else 0
theorem C2 {p:Prop}(h:p):indP p=1:=by unfold indP;rw[if_pos h]
theorem Cz {p:Prop}(h:¬p):indP p=0:=by unfold indP;rw[if_neg h]
theorem indP_le {p q:Prop}(h:p→q):indP p≤indP q:=by
 by_cases hp:p
 ·rw[C2 hp,C2 (h hp)];exact Nat.le_refl _
 ·rw[Cz hp];exact Nat.zero_le _
noncomputable def Dc (n:Nat)(p:Nat→Prop):Nat:=Dk (λv=>indP (p v)) n
theorem Fl {n:Nat}{p q:Nat→Prop}(h:∀v,v<n→p v→q v):Dc n p≤Dc n q:=sumN_le (λv hv=>indP_le (h v hv))
section
variable (A : Nat → Nat → Prop) (n : Nat)
def EdI (e:Nat):Prop:=e<n*n∧(e/n=e%n∨A (e/n) (e%n))
def AtI (v:Nat)(P:Nat→Prop):Prop:=∃e,EdI A n e∧P e∧(e/n=v∨e%n=v)
def TI (X:BitVec (n*n))(v:Nat):Prop:=AtI A n v λe=>X.getLsbD e=true
def BdI (X:BitVec (n*n))(v:Nat):Prop:=TI A n X v∧TI A n (~~~X) v
def DelI (m:List (BitVec (n*n)))(v:Nat):Prop:=∃X∈m,BdI A n X v
end
def DisI {N:Nat}(X Y:BitVec N):Prop:=∀e,¬(X.getLsbD e=true∧Y.getLsbD e=true)
def PartI {N:Nat}(m:List (BitVec N)):Prop:=m.Pairwise DisI∧∀e,e<N→∃X∈m,X.getLsbD e=true
section
variable {A : Nat → Nat → Prop} {n k : Nat}
end
end Go.Sx

namespace Go.Sx
def PermN (m:Nat)(f:Nat→Nat):Prop:=(∀x,x<m→f x<m)∧∀x y,x<m→y<m→f x=f y→x=y
section
variable {m : Nat} {f : Nat → Nat}
variable {da : Nat → Prop}
variable (h : PermN m f) (hc : ∀ x, x < m → da x → da (f x)) {S : Nat → Prop} {b d : Nat}
include h hc
variable {face : Nat → LI} {out : LL}
end
end Go.Sx

namespace Go.Sx
def nx (t:LI)(x:Int):Int:=t.getD ((t.idxOf x+1)%t.length) 0
structure Rot (g T:LL):Prop where
 ok:GOk g
 len:T.length=g.length
 rows:∀v,v<g.length→RowOk (row T v) (row g v)
section
variable {g T : LL} (R : Rot g T)
include R
end
section
variable {g T : LL} (R : Rot g T)
include R
end
end Go.Sx

namespace Go.Sx
section
variable {g T : LL} (R : Rot g T)
include R
end
end Go.Sx

namespace Go.Sx
section
variable {g T : LL} (R : Rot g T)
include R
end
end Go.Sx

namespace Go.Sx
theorem D7 {n:Nat}{p q:Nat→Prop}(h:∀x,x<n→(p x↔q x)):Dc n p=Dc n q:=
 Fc λx hx=>by
  by_cases c:p x
  ·rw[C2 c,C2 ((h x hx).1 c)]
  ·rw[Cz c,Cz (mt (h x hx).2 c)]
theorem Ff {n:Nat}(p q:Nat→Prop):Dc n p=Dc n (λx=>q x∧p x)+Dc n (λx=>¬q x∧p x):=by
 unfold Dc
 rw[←sumN_add]
 refine Fc λx _=> ?_
 by_cases c:p x<;>by_cases d:q x
 ·rw[C2 c,C2 ⟨d,c⟩,Cz (λh=>h.1 d)]
 ·rw[C2 c,Cz (λh=>d h.1),C2 ⟨d,c⟩]
 ·rw[Cz c,Cz (λh=>c h.2),Cz (λh=>c h.2)]
 ·rw[Cz c,Cz (λh=>c h.2),Cz (λh=>c h.2)]
theorem Fu {n:Nat}:Dc n (λ_=>True)=n:=by
 induction n with
 |zero=>rfl
 |succ n ih=>show Dc n _+indP True=n+1;rw[ih,C2 trivial]
section
variable {g T : LL} (R : Rot g T)
include R
end
end Go.Sx

namespace Go.Sx
inductive NT
 |leaf
 |add (v:Nat) (t:NT)
 |drop (v:Nat) (t:NT)
 |meet (t u:NT)
def NT.bag :NT→Int
 | .leaf=>0
 | .add v t=>ior .u32 t.bag (ishl .u32 1 (v:Int))
 | .drop v t=>iandNot .u32 t.bag (ishl .u32 1 (v:Int))
 | .meet t _=>t.bag
def NT.size :NT→Nat
 | .leaf=>1
 | .add _ t=>t.size+1
 | .drop _ t=>t.size+1
 | .meet t u=>t.size+u.size+1
def NT.ks :NT→LI
 | .leaf=>[1]
 | .add _ t=>t.ks++[2]
 | .drop _ t=>t.ks++[3]
 | .meet t u=>t.ks++u.ks++[4]
def NT.vs :NT→LI
 | .leaf=>[-1]
 | .add v t=>t.vs++[(v:Int)]
 | .drop v t=>t.vs++[(v:Int)]
 | .meet t u=>t.vs++u.vs++[-1]
def NT.bs :NT→LL
 | .leaf=>[[]]
 | .add v t=>t.bs++[elems (NT.add v t).bag]
 | .drop v t=>t.bs++[elems (NT.drop v t).bag]
 | .meet t u=>t.bs++u.bs++[elems t.bag]
def NT.cs :Nat→NT→LL
 |_,.leaf=>[[]]
 |s,.add _ t=>t.cs s++[[((s+t.size-1:Nat):Int)]]
 |s,.drop _ t=>t.cs s++[[((s+t.size-1:Nat):Int)]]
 |s,.meet t u=>t.cs s++u.cs (s+t.size)++[[((s+t.size-1:Nat):Int),((s+t.size+u.size-1:Nat):Int)]]
theorem NT.size_pos :∀t:NT,1≤t.size
 | .leaf=>Nat.le_refl _
 | .add _ t=>by simp[NT.size]
 | .drop _ t=>by simp[NT.size]
 | .meet t u=>by simp[NT.size]
theorem NT.ks_len :∀t:NT,t.ks.length=t.size
 | .leaf=>rfl
 | .add _ t=>by simp[NT.ks,NT.size,t.ks_len]
 | .drop _ t=>by simp[NT.ks,NT.size,t.ks_len]
 | .meet t u=>by simp[NT.ks,NT.size,t.ks_len,u.ks_len];omega
theorem NT.vs_len :∀t:NT,t.vs.length=t.size
 | .leaf=>rfl
 | .add _ t=>by simp[NT.vs,NT.size,t.vs_len]
 | .drop _ t=>by simp[NT.vs,NT.size,t.vs_len]
 | .meet t u=>by simp[NT.vs,NT.size,t.vs_len,u.vs_len];omega
theorem NT.bs_len :∀t:NT,t.bs.length=t.size
 | .leaf=>rfl
 | .add _ t=>by simp[NT.bs,NT.size,t.bs_len]
 | .drop _ t=>by simp[NT.bs,NT.size,t.bs_len]
 | .meet t u=>by simp[NT.bs,NT.size,t.bs_len,u.bs_len];omega
theorem NT.cs_len :∀(s:Nat) (t:NT),(t.cs s).length=t.size
 |_,.leaf=>rfl
 |s,.add _ t=>by simp[NT.cs,NT.size,NT.cs_len s t]
 |s,.drop _ t=>by simp[NT.cs,NT.size,NT.cs_len s t]
 |s,.meet t u=>by simp[NT.cs,NT.size,NT.cs_len s t,NT.cs_len _ u];omega
theorem NT.bag_vs :∀t:NT,VS t.bag
 | .leaf=>VS.zero
 | .add _ _=>VS.ior _ _
 | .drop _ _=>VS.iandNot _ _
 | .meet t _=>t.bag_vs
abbrev NS :Type:=LI×LI×LL×LL
def app (S:NS)(t:NT):NS:=(S.1++t.ks,S.2.1++t.vs,S.2.2.1++t.bs,S.2.2.2++t.cs S.1.length)
structure NSq (S:NS):Prop where
 v:S.2.1.length=S.1.length
 b:S.2.2.1.length=S.1.length
 c:S.2.2.2.length=S.1.length
theorem NSq.app {S:NS}(h:NSq S)(t:NT):NSq (app S t):=by
 refine⟨?_,?_,?_⟩
 ·show (S.2.1++t.vs).length=(S.1++t.ks).length
  rw[List.length_append,List.length_append,h.v,t.vs_len,t.ks_len]
 ·show (S.2.2.1++t.bs).length=(S.1++t.ks).length
  rw[List.length_append,List.length_append,h.b,t.bs_len,t.ks_len]
 ·show (S.2.2.2++t.cs S.1.length).length=(S.1++t.ks).length
  rw[List.length_append,List.length_append,h.c,NT.cs_len,t.ks_len]
theorem Ca (S:NS)(t:NT):(app S t).1.length=S.1.length+t.size:=by
 show (S.1++t.ks).length=_
 rw[List.length_append,t.ks_len]
theorem GU {S:NS}(h:NSq S)(hl:S.1.length≤1000000)(A B:LI)(k v:Int){b:Int}(hb:VS b){l:LI}(hs:Sh l):
  D.s S.1 S.2.1 S.2.2.1 S.2.2.2 A B k v b l=some (S.1++[k],S.2.1++[v],S.2.2.1++[elems b],S.2.2.2++[l]):=by
 have h1:=h.v;have h2:=h.b;have h3:=h.c
 unfold D.s
 rw[A5 (by simp;omega),bs,A5 (by simp;omega),bs,numbers_eq b hb,bs,A5 (by simp;omega),bs,wide_eq l hs,bs,A5 (by simp;omega),bs]
theorem GV (S:NS)(hl:S.1.length≤1000000)(A B:LI):
  D.n S.1 S.2.1 S.2.2.1 S.2.2.2 A B=some ((S.1.length:Int)-1,S.1,S.2.1,S.2.2.1,S.2.2.2):=by
 unfold D.n
 rw[w64 (by omega) (by omega)]
theorem sh1 (x:Int):Sh [x]:=by unfold Sh;simp
theorem sh2 (x y:Int):Sh [x,y]:=by unfold Sh;simp
theorem DP (a b:Nat)(h:1≤b):((a+b-1:Nat):Int)=((a+b:Nat):Int)-1:=by omega
theorem node_drop {S:NS}(h:NSq S)(t:NT)(hl:S.1.length+t.size≤1000000)(A B:LI)(v:Nat):
  ((D.n (app S t).1 (app S t).2.1 (app S t).2.2.1 (app S t).2.2.2 A B).bind λy=>
   (D.s y.2.1 y.2.2.1 y.2.2.2.1 y.2.2.2.2 A B 3 (v:Int) (iandNot .u32 t.bag (ishl .u32 1 (v:Int))) [y.1]))=some (app S (.drop v t)):=by
 have hp:=t.size_pos
 rw[GV _ (by rw[Ca];omega),bs]
 dsimp only
 rw[GU (h.app t) (by rw[Ca];omega) A B 3 v (VS.iandNot _ _) (sh1 _)]
 unfold app
 simp only[NT.ks,NT.vs,NT.bs,NT.cs,List.append_assoc,List.length_append,t.ks_len,DP _ _ hp]
 rfl
theorem node_add {S:NS}(h:NSq S)(t:NT)(hl:S.1.length+t.size≤1000000)(A B:LI)(v:Nat):
  ((D.n (app S t).1 (app S t).2.1 (app S t).2.2.1 (app S t).2.2.2 A B).bind λy=>
   (D.s y.2.1 y.2.2.1 y.2.2.2.1 y.2.2.2.2 A B 2 (v:Int) (ior .u32 t.bag (ishl .u32 1 (v:Int))) [y.1]))=some (app S (.add v t)):=by
 have hp:=t.size_pos
 rw[GV _ (by rw[Ca];omega),bs]
 dsimp only
 rw[GU (h.app t) (by rw[Ca];omega) A B 2 v (VS.ior _ _) (sh1 _)]
 unfold app
 simp only[NT.ks,NT.vs,NT.bs,NT.cs,List.append_assoc,List.length_append,t.ks_len,DP _ _ hp]
 rfl
theorem node_meet {S:NS}(h:NSq S)(t u:NT)(hl:S.1.length+t.size+u.size≤1000000)(A B:LI)(b:Int)(hb:b=t.bag):
  ((D.n (app (app S t) u).1 (app (app S t) u).2.1 (app (app S t) u).2.2.1 (app (app S t) u).2.2.2 A B).bind λy=>
   (D.s y.2.1 y.2.2.1 y.2.2.2.1 y.2.2.2.2 A B 4 (-1) b [((S.1.length+t.size-1:Nat):Int),y.1]))=some (app S (.meet t u)):=by
 have hp:=t.size_pos;have hq:=u.size_pos
 subst hb
 rw[GV _ (by rw[Ca,Ca];omega),bs]
 dsimp only
 rw[GU ((h.app t).app u) (by rw[Ca,Ca];omega) A B 4 (-1) t.bag_vs (sh2 _ _)]
 unfold app
 simp only[NT.ks,NT.vs,NT.bs,NT.cs,List.append_assoc,List.length_append,t.ks_len,u.ks_len,DP _ _ hp,DP _ _ hq]
 simp only[Nat.add_assoc]
theorem node_leaf {S:NS}(h:NSq S)(hl:S.1.length≤1000000)(A B:LI):
  D.s S.1 S.2.1 S.2.2.1 S.2.2.2 A B 1 (-1) 0 []=some (app S .leaf):=by
 rw[GU h hl A B 1 (-1) VS.zero (by unfold Sh;simp),Cr]
 rfl
def BD (t:NT)(l:LI):NT:=l.foldl (λt v=> .drop v.toNat t) t
def BG (t:NT)(l:LI):NT:=l.foldl (λt v=> .add v.toNat t) t
theorem D9 :∀(l:LI) (t:NT),(BD t l).size=t.size+l.length
 |[],t=>rfl
 |x::l,t=>by
  show (BD (.drop x.toNat t) l).size=_
  rw[D9 l];simp[NT.size];omega
theorem FG :∀(l:LI) (t:NT),(BG t l).size=t.size+l.length
 |[],t=>rfl
 |x::l,t=>by
  show (BG (.add x.toNat t) l).size=_
  rw[FG l];simp[NT.size];omega
def chg (t:NT)(to:Int):NT:=BG (BD t (elems (iandNot .u32 t.bag to))) (elems (iandNot .u32 to (BD t (elems (iandNot .u32 t.bag to))).bag))
theorem Cx {α:Type}{l:List α}{i:Nat}(h:i<l.length):l.take (i+1)=l.take i++[l[i]]:=by
 rw[List.take_add_one,List.getElem?_eq_getElem h];rfl
theorem EF {s:Int}{i:Nat}(h:i<(elems s).length):∃v:Nat,(elems s)[i]=(v:Int)∧v<32∧has s v=true:=by
 obtain⟨v,h1,h2,h3⟩:=mem_elems.1 (List.getElem_mem h)
 exact⟨v,h3,h1,h2⟩
theorem FJ {S:NS}(h:NSq S)(t:NT){to:Int}(hl:S.1.length+t.size≤900000)(A B:LI):
  D.e0 (app S t).1 (app S t).2.1 (app S t).2.2.1 (app S t).2.2.2 A B t.bag to=some (app S (chg t to)):=by
 unfold D.e0
 rw[D8 _ (VS.iandNot _ _),bs]
 have e1:=Ce (iandNot .u32 t.bag to)
 generalize hL:elems (iandNot .u32 t.bag to)=L1 at e1 ⊢
 refine(BY (λi=>((BD t (L1.take i)).bag,(i:Int),(app S (BD t (L1.take i))).1,(app S (BD t (L1.take i))).2.1,(app S (BD t (L1.take i))).2.2.1,(app S (BD t (L1.take i))).2.2.2)) L1.length ((BD t L1).bag,(app S (BD t L1)).1,(app S (BD t L1)).2.1,(app S (BD t L1)).2.2.1,(app S (BD t L1)).2.2.2) rfl (λi hi=> ?_) ?_).trans ?_
 ·dsimp only
  obtain⟨v,ev,hv,_⟩:∃v:Nat,L1[i]=(v:Int)∧v<32∧True:=by
   subst hL
   obtain⟨v,h1,h2,_⟩:=EF hi
   exact⟨v,h1,h2,trivial⟩
  have hsz:=D9 (L1.take i) t
  have hn:=node_drop h (BD t (L1.take i)) (by rw[hsz,List.length_take];omega) A B v
  have et:BD t (L1.take (i+1))= .drop v (BD t (L1.take i)):=by
   rw[Cx hi]
   unfold BD
   rw[List.foldl_append,List.foldl_cons,List.foldl_nil,ev]
   rfl
  rw[dlt hi,cT,AC hi,bs,ev,Cc,bs,wi (by omega),et]
  obtain⟨y,h1,h2⟩:=bind_some hn
  rw[h1,bs,h2,bs]
  rfl
 ·dsimp only
  rw[Be,cF,List.take_length]
 ·dsimp only
  rw[D8 _ (VS.iandNot _ _),bs]
  have ec:chg t to=BG (BD t L1) (elems (iandNot .u32 to (BD t L1).bag)):=by unfold chg;rw[hL]
  rw[ec]
  have hd:=D9 L1 t
  generalize BD t L1=t1 at hd ⊢
  have e2:=Ce (iandNot .u32 to t1.bag)
  generalize hL2:elems (iandNot .u32 to t1.bag)=L2 at e2 ⊢
  refine(BY (λi=>((BG t1 (L2.take i)).bag,(i:Int),(app S (BG t1 (L2.take i))).1,(app S (BG t1 (L2.take i))).2.1,(app S (BG t1 (L2.take i))).2.2.1,(app S (BG t1 (L2.take i))).2.2.2)) L2.length ((app S (BG t1 L2)).1,(app S (BG t1 L2)).2.1,(app S (BG t1 L2)).2.2.1,(app S (BG t1 L2)).2.2.2) rfl (λi hi=> ?_) ?_).trans rfl
  ·dsimp only
   obtain⟨v,ev,hv,_⟩:∃v:Nat,L2[i]=(v:Int)∧v<32∧True:=by
    subst hL2
    obtain⟨v,h1,h2,_⟩:=EF hi
    exact⟨v,h1,h2,trivial⟩
   have hsz:=FG (L2.take i) t1
   have hn:=node_add h (BG t1 (L2.take i)) (by rw[hsz,List.length_take];omega) A B v
   have et:BG t1 (L2.take (i+1))= .add v (BG t1 (L2.take i)):=by
    rw[Cx hi]
    unfold BG
    rw[List.foldl_append,List.foldl_cons,List.foldl_nil,ev]
    rfl
   rw[dlt hi,cT,AC hi,bs,ev,Cc,bs,wi (by omega),et]
   obtain⟨y,h1,h2⟩:=bind_some hn
   rw[h1,bs,h2,bs]
   rfl
  ·dsimp only
   rw[Be,cF,List.take_length]
structure TreeK (N:Nat)(K:LL):Prop where
 many:K.length+1=N
 lks:∀l∈K,D3 N l
 conn:D2 K (Dv N)
inductive Avt (K:LL)(f:Int)(x:Nat):Nat→Prop
 |refl:Avt K f x x
 |step {y z:Nat}:Avt K f x y→Lk K (y:Int) (z:Int)→(z:Int)≠f→Avt K f x z
theorem Avt.trans {K:LL}{f:Int}{x y z:Nat}(h:Avt K f x y)(h':Avt K f y z):Avt K f x z:=by
 induction h' with
 |refl=>exact h
 |step _ h2 h3 ih=>exact ih.step h2 h3
theorem Avt.ne {K:LL}{f:Int}{x y:Nat}(h:Avt K f x y)(hx:(x:Int)≠f):(y:Int)≠f:=by
 cases h with
 |refl=>exact hx
 |step _ _ h=>exact h
theorem mem_allB {n:Nat}{x:Int}:x∈Dv n↔∃i:Nat,x=i∧i<n:=by
 unfold Dv
 rw[List.mem_map]
 constructor
 ·rintro⟨i,hi,rfl⟩;exact⟨i,rfl,List.mem_range.1 hi⟩
 ·rintro⟨i,rfl,hi⟩;exact⟨i,List.mem_range.2 hi,rfl⟩
theorem allB_len (n:Nat):(Dv n).length=n:=by unfold Dv;simp
section
variable {N : Nat} {K : LL}
theorem TreeK.lt (hT:TreeK N K){a b:Nat}(h:Lk K (a:Int) (b:Int)):a<N∧b<N∧a≠b:=by
 rcases h with h|h
 ·obtain⟨p,q,e,h1,h2⟩:=hT.lks _ h
  simp only[List.cons.injEq,and_true] at e
  omega
 ·obtain⟨p,q,e,h1,h2⟩:=hT.lks _ h
  simp only[List.cons.injEq,and_true] at e
  omega
theorem Avt.lt (hT:TreeK N K){f:Int}{x y:Nat}(h:Avt K f x y)(hx:x<N):y<N:=by
 cases h with
 |refl=>exact hx
 |step _ h _=>exact(hT.lt h).2.1
theorem lk_erase {l:LI}{x y:Int}(h:Lk K x y)(h1:l≠[x,y])(h2:l≠[y,x]):Lk (K.erase l) x y:=by
 rcases h with h|h
 ·exact .inl ((List.mem_erase_of_ne (Ne.symm h1)).2 h)
 ·exact .inr ((List.mem_erase_of_ne (Ne.symm h2)).2 h)
theorem TreeK.apart (hT:TreeK N K){b c d:Nat}(hc:Lk K (b:Int) (c:Int))(hd:Lk K (b:Int) (d:Int))(hcd:c≠d):¬Avt K (b:Int) c d:=by
 intro hA
 obtain⟨hb,hcN,hbc⟩:=hT.lt hc
 obtain⟨_,hdN,hbd⟩:=hT.lt hd
 obtain⟨l,hl,hlv⟩:∃l∈K,l=[(b:Int),(c:Int)]∨l=[(c:Int),(b:Int)]:=by
  rcases hc with h|h
  ·exact⟨_,h,.inl rfl⟩
  ·exact⟨_,h,.inr rfl⟩
 have hne:∀x y:Nat,x≠b→y≠b→l≠[(x:Int),(y:Int)]:=λx y hx hy e=>by
  rcases hlv with rfl|rfl
  ·simp only[List.cons.injEq,and_true] at e;omega
  ·simp only[List.cons.injEq,and_true] at e;omega
 have hkeep:∀x y:Nat,Lk K (x:Int) (y:Int)→¬((x=b∧y=c)∨(x=c∧y=b))→Lk (K.erase l) (x:Int) (y:Int):=λx y h hn=>by
  refine lk_erase h (λe=> ?_) (λe=> ?_)
  ·rcases hlv with rfl|rfl
   ·simp only[List.cons.injEq,and_true] at e;exact hn (.inl (by omega))
   ·simp only[List.cons.injEq,and_true] at e;exact hn (.inr (by omega))
  ·rcases hlv with rfl|rfl
   ·simp only[List.cons.injEq,and_true] at e;exact hn (.inr (by omega))
   ·simp only[List.cons.injEq,and_true] at e;exact hn (.inl (by omega))
 have hconn:D2 (K.erase l) (Dv N):=by
  rw[conn_iff]
  intro T hx0 hs
  have hs':∀x y:Nat,x<N→y<N→T (x:Int)→Lk (K.erase l) (x:Int) (y:Int)→T (y:Int):=λx y hx hy h1 h2=>hs _ _ (mem_allB.2 ⟨x,rfl,hx⟩) (mem_allB.2 ⟨y,rfl,hy⟩) h1 h2
  have hwalk:∀y,Avt K (b:Int) c y→(T (c:Int)↔T (y:Int)):=by
   intro y hy
   induction hy with
   |refl=>exact Iff.rfl
   | @step y z h1 h2 h3 ih=>
    obtain⟨hyN,hzN,_⟩:=hT.lt h2
    have hyb:y≠b:=λe=>(h1.ne (f:=(b:Int)) (by omega)) (by rw[e])
    have hzb:z≠b:=λe=>h3 (by rw[e])
    have hk:=hkeep y z h2 (by omega)
    exact ih.trans ⟨λh=>hs' _ _ hyN hzN h hk,λh=>hs' _ _ hzN hyN h hk.symm⟩
  have hbd':=hkeep b d hd (by omega)
  refine(conn_iff.1 hT.conn) T hx0 (λx y hx hy h1 h2=> ?_)
  obtain⟨i,rfl,hi⟩:=mem_allB.1 hx
  obtain⟨j,rfl,hj⟩:=mem_allB.1 hy
  by_cases hcase:(i=b∧j=c)∨(i=c∧j=b)
  ·rcases hcase with⟨rfl,rfl⟩|⟨rfl,rfl⟩
   ·exact(hwalk d hA).2 (hs' _ _ hb hdN h1 hbd')
   ·exact hs' _ _ hdN hb ((hwalk d hA).1 h1) hbd'.symm
  ·exact hs' _ _ hi hj h1 (hkeep i j h2 hcase)
 have h1:=conn_many (allB_nodup N) hconn
 rw[allB_len,List.length_erase_of_mem hl] at h1
 have h2:=hT.many
 have h3:0<K.length:=List.length_pos_of_mem hl
 omega
theorem TreeK.sub (hT:TreeK N K){f:Int}{b c x:Nat}(hf:f= -1∨∃a:Nat,f=a∧Lk K (b:Int) (a:Int))(hc:Lk K (b:Int) (c:Int))(hcf:(c:Int)≠f)(h:Avt K (b:Int) c x):Avt K f b x:=by
 have key:∀y,Avt K (b:Int) c y→(y:Int)≠f:=λy hy e=>by
  rcases hf with rfl|⟨a,rfl,ha⟩
  ·omega
  ·have:y=a:=by omega
   subst this
   exact hT.apart hc ha (by omega) hy
 induction h with
 |refl=>exact Avt.refl.step hc hcf
 | @step y z h1 h2 h3 ih=>exact ih.step h2 (key z (h1.step h2 h3))
theorem TreeK.notb {b c:Nat}(hbc:b≠c):¬Avt K (b:Int) c b:=λh=>h.ne (by omega) rfl
theorem TreeK.cases {f:Int}{b x:Nat}(h:Avt K f b x):x=b∨∃c:Nat,Lk K (b:Int) (c:Int)∧(c:Int)≠f∧Avt K (b:Int) c x:=by
 induction h with
 |refl=>exact .inl rfl
 | @step y z h1 h2 h3 ih=>
  by_cases hz:z=b
  ·exact .inl hz
  ·rcases ih with rfl|⟨c,hc1,hc2,hc3⟩
   ·exact .inr ⟨z,h2,h3,.refl⟩
   ·exact .inr ⟨c,hc1,hc2,hc3.step h2 (by omega)⟩
theorem TreeK.all (hT:TreeK N K){x:Nat}(h0:0<N)(hx:x<N):Avt K (-1) 0 x:=by
 have:=(conn_iff.1 hT.conn) (λy=>∃i:Nat,y=i∧Avt K (-1) 0 i) ⟨((0:Nat):Int),mem_allB.2 ⟨0,rfl,h0⟩,0,rfl,.refl⟩ (λa b ha hb ⟨i,hi,hA⟩ hl=>by
  obtain⟨j,rfl,hj⟩:=mem_allB.1 hb
  subst hi
  exact⟨j,rfl,hA.step hl (by omega)⟩) _ (mem_allB.2 ⟨x,rfl,hx⟩)
 obtain⟨i,e,hi⟩:=this
 have:x=i:=by omega
 rw[this];exact hi
theorem TreeK.disj (hT:TreeK N K){b c d x:Nat}(hc:Lk K (b:Int) (c:Int))(hd:Lk K (b:Int) (d:Int))(hcd:c≠d)(h1:Avt K (b:Int) c x):¬Avt K (b:Int) d x:=by
 intro h2
 refine hT.apart hc hd hcd (h1.trans ?_)
 have hdb:(d:Int)≠(b:Int):=by have:=(hT.lt hd).2.2;omega
 have back:∀y,Avt K (b:Int) d y→Avt K (b:Int) y d:=by
  intro y hy
  induction hy with
  |refl=>exact .refl
  | @step y z h1 h2 h3 ih=>exact(Avt.refl.step h2.symm (h1.ne hdb)).trans ih
 exact back x h2
noncomputable def B2 (N:Nat)(K:LL)(f:Int)(b:Nat):Nat:=Dc N (λx=>Avt K f b x)
theorem TreeK.over (hT:TreeK N K){S:LI}(hS:∀y∈S,∃i:Nat,y=i∧i<N)(hC:D2 K S){b c x y:Nat}(hc:Lk K (b:Int) (c:Int))(hx:Avt K (b:Int) c x)(hxS:(x:Int)∈S)(hy:¬Avt K (b:Int) c y)(hyS:(y:Int)∈S):
  (b:Int)∈S∧(c:Int)∈S:=by
 apply Classical.byContradiction
 intro hn
 have:=(conn_iff.1 hC) (λz=>∃i:Nat,z=i∧Avt K (b:Int) c i) ⟨_,hxS,x,rfl,hx⟩ (λp q hp hq ⟨i,hi,hA⟩ hl=>by
  subst hi
  obtain⟨j,rfl,hj⟩:=hS q hq
  by_cases hjb:j=b
  ·subst hjb
   have hic:i=c:=by
    apply Classical.byContradiction
    intro hne
    exact hT.apart hc hl.symm (λe=>hne e.symm) hA
   subst hic
   exact(hn ⟨hq,hp⟩).elim
  ·exact⟨j,rfl,hA.step hl (by omega)⟩) _ hyS
 obtain⟨i,e,hi⟩:=this
 have:y=i:=by omega
 rw[←this] at hi
 exact hy hi
end
end Go.Sx

namespace Go.Sx
theorem cntP_none {n:Nat}{p:Nat→Prop}(h:∀v,v<n→¬p v):Dc n p=0:=by
 unfold Dc
 rw[Fc (g:=λ_=>0) (λv hv=>Cz (h v hv)),sumN_zero]
noncomputable def wv (F:LI)(rec:Int→Int)(m v:Int):Int:=if((elems (bh F m v)).length:Int)<rec (ior .u32 m (ishl .u32 1 v)) then rec (ior .u32 m (ishl .u32 1 v)) else((elems (bh F m v)).length:Int)
noncomputable def wd (F:LI)(n:Nat):Nat→Int→Int
 |0,_=>0
 |k+1,m=>(elems (rm n m)).foldl (λb v=>if wv F (wd F n k) m v<b then wv F (wd F n k) m v else b) 16
theorem EU {n:Nat}{K:Int}(hn:n≤16)(h:In n K):(elems K).length=Dc n λv=>has K v=true:=by
 have h1:(elems K)=((List.range n).filter (has K)).map Int.ofNat:=Inc.ext (BP _) (by
  unfold Inc
  rw[List.pairwise_map]
  refine List.Pairwise.imp (fun{a b} h=> ?_) (List.Pairwise.filter _ List.pairwise_lt_range)
  show (a:Int)<(b:Int)
  omega) (λx=>by
  rw[mem_elems,List.mem_map]
  constructor
  ·rintro⟨v,_,hv,rfl⟩
   exact⟨v,List.mem_filter.2 ⟨List.mem_range.2 (h.2 v hv),hv⟩,rfl⟩
  ·rintro⟨v,hv,rfl⟩
   rw[List.mem_filter,List.mem_range] at hv
   exact⟨v,by omega,hv.2,rfl⟩)
 rw[h1,List.length_map]
 have:∀m,((List.range m).filter (has K)).length=Dk (λv=>indP (has K v=true)) m:=by
  intro m
  induction m with
  |zero=>rfl
  |succ m ih=>
   rw[List.range_succ,List.filter_append,List.length_append,ih]
   simp only[Dk]
   congr 1
   cases hk:has K m
   ·rw[Cz (by simp),List.filter_cons,hk];rfl
   ·rw[C2 rfl,List.filter_cons,hk];rfl
 exact this n
section
variable {F : LI} {n k : Nat} (hn : n ≤ 16) (hF : FOk F n)
include hn hF
end
section
variable {A : Nat → Nat → Prop} {n k : Nat}
end
section
variable {F : LI} {n k : Nat} (hn : n ≤ 16) (hF : FOk F n)
include hn hF
end
end Go.Sx

namespace Go.Sx
def NT.ok (n:Nat):NT→Prop
 | .leaf=>True
 | .add v t=>v<n∧has t.bag v=false∧t.ok n
 | .drop v t=>v<n∧has t.bag v=true∧t.ok n
 | .meet t u=>t.bag=u.bag∧t.ok n∧u.ok n
def NT.gone (v:Nat):NT→Nat
 | .leaf=>0
 | .add _ t=>t.gone v
 | .drop w t=>t.gone v+(if w=v then 1 else 0)
 | .meet t u=>t.gone v+u.gone v
def NT.bm :NT→LI
 | .leaf=>[0]
 | .add v t=>t.bm++[(NT.add v t).bag]
 | .drop v t=>t.bm++[(NT.drop v t).bag]
 | .meet t u=>t.bm++u.bm++[t.bag]
theorem NT.bs_bm :∀t:NT,t.bs=t.bm.map elems
 | .leaf=>by simp[NT.bs,NT.bm,Cr]
 | .add _ t=>by simp[NT.bs,NT.bm,t.bs_bm]
 | .drop _ t=>by simp[NT.bs,NT.bm,t.bs_bm]
 | .meet t u=>by simp[NT.bs,NT.bm,t.bs_bm,u.bs_bm]
theorem NT.bag_bm (t:NT):t.bag∈t.bm:=by
 cases t<;>simp[NT.bm,NT.bag]
theorem NT.In_bag {n:Nat}(hn:n≤16):∀t:NT,t.ok n→In n t.bag
 | .leaf,_=>⟨VS.zero,λw h=>by rw[show NT.leaf.bag=0 from rfl,Bv] at h;cases h⟩
 | .add v t,h=>⟨VS.ior _ _,λw hw=>by
   have ih:=t.In_bag hn h.2.2
   rw[NT.bag,CG ih.1 (VS.ishl _ _),BX (by have:=h.1;omega),Bool.or_eq_true,decide_eq_true_eq] at hw
   rcases hw with hw|rfl
   ·exact ih.2 w hw
   ·exact h.1⟩
 | .drop v t,h=>⟨VS.iandNot _ _,λw hw=>by
   have ih:=t.In_bag hn h.2.2
   rw[NT.bag,A8 ih.1 (VS.ishl _ _),Bool.and_eq_true] at hw
   exact ih.2 w hw.1⟩
 | .meet t u,h=>t.In_bag hn h.2.1
theorem E3 {t:NT}{v:Nat}(hv:v<32)(w:Nat):has (NT.add v t).bag w=(has t.bag w||decide (w=v)):=by
 rw[NT.bag,CG t.bag_vs (VS.ishl _ _),BX hv]
theorem EJ {t:NT}{v:Nat}(hv:v<32)(w:Nat):has (NT.drop v t).bag w=(has t.bag w&& !decide (w=v)):=by
 rw[NT.bag,A8 t.bag_vs (VS.ishl _ _),BX hv]
theorem NT.bm_In {n:Nat}(hn:n≤16):∀t:NT,t.ok n→∀m∈t.bm,In n m
 | .leaf,_,m,hm=>by
  simp only[NT.bm,List.mem_singleton] at hm
  subst hm
  exact NT.In_bag hn .leaf trivial
 | .add v t,h,m,hm=>by
  simp only[NT.bm,List.mem_append,List.mem_singleton] at hm
  rcases hm with hm|rfl
  ·exact t.bm_In hn h.2.2 m hm
  ·exact NT.In_bag hn _ h
 | .drop v t,h,m,hm=>by
  simp only[NT.bm,List.mem_append,List.mem_singleton] at hm
  rcases hm with hm|rfl
  ·exact t.bm_In hn h.2.2 m hm
  ·exact NT.In_bag hn _ h
 | .meet t u,h,m,hm=>by
  simp only[NT.bm,List.mem_append,List.mem_singleton] at hm
  rcases hm with(hm|hm)|rfl
  ·exact t.bm_In hn h.2.1 m hm
  ·exact u.bm_In hn h.2.2 m hm
  ·exact NT.In_bag hn t h.2.1
structure NL (n:Nat)(l:LI):Prop where
 nat:∀x∈l,∃v:Nat,x=v∧v<n
 nd:l.Nodup
theorem NL.tail {n:Nat}{x:Int}{l:LI}(h:NL n (x::l)):NL n l:=⟨λy hy=>h.nat y (List.mem_cons_of_mem _ hy),(List.nodup_cons.1 h.nd).2⟩
theorem NL.elems {n:Nat}{s:Int}(h:In n s):NL n (elems s):=
 ⟨λx hx=>by
  obtain⟨v,h1,h2,rfl⟩:=mem_elems.1 hx
  exact⟨v,rfl,h.2 v h2⟩,(BP s).nodup⟩
theorem drops_ok {n:Nat}(hn:n≤16):∀(l:LI) (t:NT),NL n l→(∀v:Nat,(v:Int)∈l→has t.bag v=true)→t.ok n→
  (BD t l).ok n∧(∀v,has (BD t l).bag v=(has t.bag v&& !decide ((v:Int)∈l)))∧(∀v,(BD t l).gone v=t.gone v+(if(v:Int)∈l then 1 else 0))∧∀m∈t.bm,m∈(BD t l).bm
 |[],t,_,_,h=>⟨h,λv=>by simp[BD],λv=>by simp[BD],λm hm=>hm⟩
 |x::l,t,hl,hb,h=>by
  obtain⟨w,rfl,hw⟩:=hl.nat x (List.mem_cons_self ..)
  have hnm:=(List.nodup_cons.1 hl.nd).1
  have hd:∀v,has (NT.drop w t).bag v=(has t.bag v&& !decide (v=w)):=λv=>EJ (by omega) v
  obtain⟨i1,i2,i3,i4⟩:=drops_ok hn l (.drop w t) hl.tail (λv hv=>by
   rw[hd,hb v (List.mem_cons_of_mem _ hv),Bool.true_and,Bool.not_eq_true',decide_eq_false_iff_not]
   rintro rfl
   exact hnm hv) ⟨hw,hb w (List.mem_cons_self ..),h⟩
  have e:BD t ((w:Int)::l)=BD (.drop w t) l:=rfl
  rw[e]
  refine⟨i1,λv=> ?_,λv=> ?_,λm hm=>i4 m (by simp[NT.bm,hm])⟩
  ·rw[i2,hd]
   by_cases hvw:v=w
   ·subst hvw;simp
   ·have:¬(v:Int)=(w:Int):=by omega
    simp[hvw,this]
  ·rw[i3,NT.gone]
   by_cases hvw:v=w
   ·subst hvw;simp[hnm]
   ·have h1:¬(v:Int)=(w:Int):=by omega
    have h2:¬w=v:=λe=>hvw e.symm
    simp[h1,h2]
theorem adds_ok {n:Nat}(hn:n≤16):∀(l:LI) (t:NT),NL n l→(∀v:Nat,(v:Int)∈l→has t.bag v=false)→t.ok n→
  (BG t l).ok n∧(∀v,has (BG t l).bag v=(has t.bag v||decide ((v:Int)∈l)))∧(∀v,(BG t l).gone v=t.gone v)∧∀m∈t.bm,m∈(BG t l).bm
 |[],t,_,_,h=>⟨h,λv=>by simp[BG],λv=>by simp[BG],λm hm=>hm⟩
 |x::l,t,hl,hb,h=>by
  obtain⟨w,rfl,hw⟩:=hl.nat x (List.mem_cons_self ..)
  have hnm:=(List.nodup_cons.1 hl.nd).1
  have hd:∀v,has (NT.add w t).bag v=(has t.bag v||decide (v=w)):=λv=>E3 (by omega) v
  obtain⟨i1,i2,i3,i4⟩:=adds_ok hn l (.add w t) hl.tail (λv hv=>by
   rw[hd,hb v (List.mem_cons_of_mem _ hv),Bool.false_or,decide_eq_false_iff_not]
   rintro rfl
   exact hnm hv) ⟨hw,hb w (List.mem_cons_self ..),h⟩
  have e:BG t ((w:Int)::l)=BG (.add w t) l:=rfl
  rw[e]
  refine⟨i1,λv=> ?_,λv=> ?_,λm hm=>i4 m (by simp[NT.bm,hm])⟩
  ·rw[i2,hd]
   by_cases hvw:v=w
   ·subst hvw;simp
   ·have:¬(v:Int)=(w:Int):=by omega
    simp[hvw,this]
  ·rw[i3,NT.gone]
theorem In.andNot {n:Nat}{a b:Int}(ha:In n a)(hb:VS b):In n (iandNot .u32 a b):=⟨VS.iandNot _ _,λw hw=>by
 rw[A8 ha.1 hb,Bool.and_eq_true] at hw
 exact ha.2 w hw.1⟩
theorem cnt_disj {n:Nat}{p q:Nat→Prop}(h:∀v,¬(p v∧q v)):Dc n p+Dc n q≤n:=by
 have h1:=Ff (n:=n) (λv=>p v∨q v) p
 have h2:Dc n (λv=>p v∧(p v∨q v))=Dc n p:=D7 λv _=>⟨λh=>h.1,λh=>⟨h,.inl h⟩⟩
 have h3:Dc n (λv=>¬p v∧(p v∨q v))=Dc n q:=D7 λv _=>⟨λh=>h.2.resolve_left h.1,λhq=>⟨λhp=>h v ⟨hp,hq⟩,.inr hq⟩⟩
 have h4:=Fl (n:=n) (p:=λv=>p v∨q v) (q:=λ_=>True) (λ_ _ _=>trivial)
 rw[Fu] at h4
 omega
theorem chg_ok {n:Nat}(hn:n≤16){t:NT}(h:t.ok n){to:Int}(hto:In n to):
  (chg t to).ok n∧(chg t to).bag=to∧(∀v,(chg t to).gone v=t.gone v+(if has t.bag v=true∧has to v=false then 1 else 0))∧(∀m∈t.bm,m∈(chg t to).bm)∧(chg t to).size≤t.size+n:=by
 have hb:=t.In_bag hn h
 have h1:=hb.andNot hto.1
 obtain⟨a1,a2,a3,a4⟩:=drops_ok hn _ t (NL.elems h1) (λv hv=>by
  have:=(AT h1.1).1 hv
  rw[A8 hb.1 hto.1,Bool.and_eq_true] at this
  exact this.1) h
 have hm1:∀v:Nat,decide ((v:Int)∈elems (iandNot .u32 t.bag to))=(has t.bag v&& !has to v):=λv=>by
  rw[←A8 hb.1 hto.1]
  cases hh:has (iandNot .u32 t.bag to) v
  ·exact decide_eq_false λhc=>by rw[(AT h1.1).1 hc] at hh;cases hh
  ·exact decide_eq_true ((AT h1.1).2 hh)
 unfold chg
 generalize hd:BD t (elems (iandNot .u32 t.bag to))=t1 at a1 a2 a3 a4 ⊢
 have hsz1:t1.size=t.size+(elems (iandNot .u32 t.bag to)).length:=by rw[←hd,D9]
 have hb1:=t1.In_bag hn a1
 have h2:=hto.andNot hb1.1
 have a2':∀v,has t1.bag v=(has t.bag v&&has to v):=λv=>by
  rw[a2,hm1];cases has t.bag v<;>cases has to v<;>rfl
 obtain⟨b1,b2,b3,b4⟩:=adds_ok hn _ t1 (NL.elems h2) (λv hv=>by
  have:=(AT h2.1).1 hv
  rw[A8 hto.1 hb1.1,Bool.and_eq_true,Bool.not_eq_true'] at this
  exact this.2) a1
 have hm2:∀v:Nat,decide ((v:Int)∈elems (iandNot .u32 to t1.bag))=(has to v&& !has t1.bag v):=λv=>by
  rw[←A8 hto.1 hb1.1]
  cases hh:has (iandNot .u32 to t1.bag) v
  ·exact decide_eq_false λhc=>by rw[(AT h2.1).1 hc] at hh;cases hh
  ·exact decide_eq_true ((AT h2.1).2 hh)
 refine⟨b1,?_,λv=> ?_,λm hm=>b4 m (a4 m hm),?_⟩
 ·refine VS.ext (NT.bag_vs _) hto.1 λv _=> ?_
  rw[b2,hm2,a2']
  cases has t.bag v<;>cases has to v<;>rfl
 ·rw[b3,a3]
  congr 1
  have:=hm1 v
  by_cases hc:(v:Int)∈elems (iandNot .u32 t.bag to)
  ·rw[if_pos hc]
   rw[decide_eq_true hc] at this
   have:=Bool.and_eq_true_iff.1 this.symm
   rw[if_pos ⟨this.1,by simpa using this.2⟩]
  ·rw[if_neg hc,if_neg]
   rintro⟨c1,c2⟩
   rw[decide_eq_false hc,c1,c2] at this
   cases this
 ·rw[FG,hsz1,EU hn h1,EU hn h2]
  have:=cnt_disj (n:=n) (p:=λv=>has (iandNot .u32 t.bag to) v=true) (q:=λv=>has (iandNot .u32 to t1.bag) v=true) (λv hv=>by
   rw[A8 hb.1 hto.1,A8 hto.1 hb1.1,Bool.and_eq_true,Bool.and_eq_true] at hv
   have h1:=hv.1.2;have h2:=hv.2.1
   rw[h2] at h1;cases h1)
  omega
def jo :List NT→NT→NT
 |[],e=>e
 |t::l,_=>l.foldl .meet t
def Bz (A:LI)(b fr:Int):LI:=(elems (A.getD b.toNat 0)).filter (λc=>decide (c≠fr))
def bld (M A:LI):Nat→Int→Int→NT
 |0,_,_=> .leaf
 |F+1,b,fr=>jo ((Bz A b fr).map λc=>chg (bld M A F c b) (M.getD b.toNat 0)) (chg .leaf (M.getD b.toNat 0))
def lsm {α:Type}(f:α→Nat):List α→Nat
 |[]=>0
 |x::l=>f x+lsm f l
theorem lsm_le {α:Type}{f g:α→Nat}:∀{l:List α},(∀x∈l,f x≤g x)→lsm f l≤lsm g l
 |[],_=>Nat.le_refl _
 |x::l,h=>by
  have h1:=h x (List.mem_cons_self ..)
  have h2:=lsm_le (l:=l) (λy hy=>h y (List.mem_cons_of_mem _ hy))
  simp only[lsm];omega
theorem F5 {α β:Type}(f:β→Nat)(g:α→β):∀l:List α,lsm f (l.map g)=lsm (λx=>f (g x)) l
 |[]=>rfl
 |x::l=>by simp only[List.map_cons,lsm];rw[F5 f g l]
theorem GR {α:Type}(k:Nat)(f:α→Nat):∀l:List α,lsm (λx=>k*f x) l=k*lsm f l
 |[]=>rfl
 |x::l=>by simp only[lsm];rw[GR k f l,Nat.mul_add]
theorem Gp {n:Nat}{m:Int}:∀(l:List NT) (t:NT),t.ok n→t.bag=m→(∀u∈l,u.ok n∧u.bag=m)→
  (l.foldl .meet t).ok n∧(l.foldl .meet t).bag=m∧(∀v,(l.foldl .meet t).gone v=t.gone v+lsm (NT.gone v) l)∧(∀b,(b∈t.bm∨∃u∈l,b∈u.bm)→b∈(l.foldl .meet t).bm)∧(l.foldl .meet t).size=t.size+lsm (λu=>u.size+1) l
 |[],t,h1,h2,_=>by
  refine⟨h1,h2,λv=>rfl,λb hb=> ?_,rfl⟩
  rcases hb with hb|⟨u,hu,_⟩
  ·exact hb
  ·cases hu
 |u::l,t,h1,h2,hl=>by
  obtain⟨g1,g2⟩:=hl u (List.mem_cons_self ..)
  obtain⟨i1,i2,i3,i4,i5⟩:=Gp l (.meet t u) ⟨h2.trans g2.symm,h1,g1⟩ h2 (λx hx=>hl x (List.mem_cons_of_mem _ hx))
  refine⟨i1,i2,λv=> ?_,λb hb=>i4 b ?_,?_⟩
  ·rw[List.foldl_cons,i3];simp only[NT.gone,lsm];omega
  ·simp only[NT.bm,List.mem_append]
   rcases hb with hb|⟨x,hx,hb⟩
   ·exact .inl (.inl (.inl hb))
   ·rcases List.mem_cons.1 hx with rfl|hx
    ·exact .inl (.inl (.inr hb))
    ·exact .inr ⟨x,hx,hb⟩
  ·rw[List.foldl_cons,i5];simp only[NT.size,lsm];omega
structure BT (n N:Nat)(M A:LI)(K:LL):Prop where
 n16:n≤16
 N16:N≤16
 tree:TreeK N K
 net:NetL A N K
 ins:∀x,x<N→In n (M.getD x 0)
 hang:∀v,D2 K ((Dv N).filter λx=>has (M.getD x.toNat 0) v)
section
variable {n N : Nat} {M A : LI} {K : LL}
theorem BT.kids (h:BT n N M A K){b:Nat}(hb:b<N){fr c:Int}:c∈Bz A (b:Int) fr↔∃d:Nat,c=d∧Lk K (b:Int) (d:Int)∧(d:Int)≠fr:=by
 unfold Bz
 rw[List.mem_filter,decide_eq_true_eq,mem_elems]
 constructor
 ·rintro⟨⟨v,hv,h1,rfl⟩,h2⟩
  have hvN:=h.net.net.lt b v hb h1
  exact⟨v,rfl,(h.net.nb b v hb hvN).1 h1,h2⟩
 ·rintro⟨d,rfl,h1,h2⟩
  obtain⟨_,hd,_⟩:=h.tree.lt h1
  have:=h.N16
  exact⟨⟨d,by omega,(h.net.nb b d hb hd).2 h1,rfl⟩,h2⟩
theorem kids_nd (b fr:Int):(Bz A b fr).Nodup:=(BP _).nodup.sublist List.filter_sublist
theorem BT.mem_hang (h:BT n N M A K){v x:Nat}(hx:x<N)(hv:has (M.getD x 0) v=true):(x:Int)∈(Dv N).filter λx=>has (M.getD x.toNat 0) v:=by
 rw[List.mem_filter]
 exact⟨mem_allB.2 ⟨x,rfl,hx⟩,hv⟩
theorem BT.over (h:BT n N M A K){v b c x y:Nat}(hc:Lk K (b:Int) (c:Int))(hx:Avt K (b:Int) c x)(hxv:has (M.getD x 0) v=true)(hy:¬Avt K (b:Int) c y)(hyN:y<N)(hyv:has (M.getD y 0) v=true):has (M.getD b 0) v=true∧has (M.getD c 0) v=true:=by
 obtain⟨hb,hcN,_⟩:=h.tree.lt hc
 have:=h.tree.over (λy hy=>mem_allB.1 (List.mem_filter.1 hy).1) (h.hang v) hc hx (h.mem_hang (hx.lt h.tree hcN) hxv) hy (h.mem_hang hyN hyv)
 exact⟨(List.mem_filter.1 this.1).2,(List.mem_filter.1 this.2).2⟩
theorem BT.sides (h:BT n N M A K){b:Nat}:∀l:LI,l.Nodup→(∀c∈l,∃d:Nat,c=d∧Lk K (b:Int) (d:Int))→
  lsm (λc:Int=>B2 N K (b:Int) c.toNat) l=Dc N (λx=>∃c∈l,Avt K (b:Int) c.toNat x)
 |[],_,_=>by
  rw[show (λx=>∃c∈([]:LI),Avt K (b:Int) c.toNat x)=λ_=>False from funext λx=>by simp]
  exact(cntP_none λ_ _ h=>h).symm
 |c::l,hn,hl=>by
  obtain⟨d,rfl,hd⟩:=hl c (List.mem_cons_self ..)
  rw[List.nodup_cons] at hn
  have ih:=h.sides l hn.2 (λx hx=>hl x (List.mem_cons_of_mem _ hx))
  rw[lsm,ih,Ff (λx=>∃c∈(d:Int)::l,Avt K (b:Int) c.toNat x) (λx=>Avt K (b:Int) d x)]
  congr 1
  ·exact D7 λx _=>⟨λhx=>⟨hx,(d:Int),List.mem_cons_self ..,hx⟩,λhx=>hx.1⟩
  ·refine D7 λx _=>⟨fun⟨e,he,hx⟩=>⟨λhx'=> ?_,e,List.mem_cons_of_mem _ he,hx⟩,fun⟨hnx,e,he,hx⟩=> ?_⟩
   ·obtain⟨q,rfl,hq⟩:=hl e (List.mem_cons_of_mem _ he)
    exact h.tree.disj hd hq (λe=>hn.1 (by rw[e];exact he)) hx' hx
   ·rcases List.mem_cons.1 he with rfl|he
    ·exact absurd hx hnx
    ·exact⟨e,he,hx⟩
theorem BT.sides_lt (h:BT n N M A K){b:Nat}(hb:b<N){fr:Int}(hf:fr= -1∨∃a:Nat,fr=a∧Lk K (b:Int) (a:Int)):
  lsm (λc:Int=>B2 N K (b:Int) c.toNat) (Bz A (b:Int) fr)+1≤B2 N K fr b:=by
 rw[h.sides _ (kids_nd _ _) (λc hc=>by
  obtain⟨d,e,h1,_⟩:=(h.kids hb).1 hc
  exact⟨d,e,h1⟩)]
 unfold B2
 rw[Ff (λx=>Avt K fr b x) (λx=>x=b),Nat.add_comm]
 refine Nat.add_le_add ?_ (Fl λx _ ⟨c,hc,hx⟩=> ?_)
 ·have:Dc N (λx=>x=b)≤Dc N (λx=>x=b∧Avt K fr b x):=Fl λx _ e=>⟨e,by rw[e];exact .refl⟩
  refine Nat.le_trans ?_ this
  unfold Dc
  have:∀m,b<m→1≤Dk (λv=>indP (v=b)) m:=by
   intro m
   induction m with
   |zero=>intro h;omega
   |succ m ih=>
    intro h
    simp only[Dk]
    by_cases e:m=b
    ·rw[C2 e];omega
    ·have:=ih (by omega);omega
  exact this N hb
 ·obtain⟨d,rfl,h1,h2⟩:=(h.kids hb).1 hc
  have hx:Avt K (b:Int) d x:=hx
  exact⟨λe=>TreeK.notb (K:=K) (h.tree.lt h1).2.2 (e▸hx),h.tree.sub hf h1 h2 hx⟩
theorem lsm_mem {α:Type}{f:α→Nat}:∀{l:List α} {x:α},x∈l→f x≤lsm f l
 |y::l,x,h=>by
  simp only[lsm]
  rcases List.mem_cons.1 h with rfl|h
  ·omega
  ·have:=lsm_mem (f:=f) h;omega
theorem BT.kid_lt (h:BT n N M A K){b:Nat}(hb:b<N){fr:Int}(hf:fr= -1∨∃a:Nat,fr=a∧Lk K (b:Int) (a:Int)){c:Nat}(hc:(c:Int)∈Bz A (b:Int) fr):B2 N K (b:Int) c+1≤B2 N K fr b:=by
 have h1:=h.sides_lt hb hf
 have h2:=lsm_mem (f:=λc:Int=>B2 N K (b:Int) c.toNat) hc
 have h2:B2 N K (b:Int) c≤_:=h2
 omega
open Classical in
theorem BT.bld_ok (h:BT n N M A K):∀(F b:Nat) (fr:Int),b<N→(fr= -1∨∃a:Nat,fr=a∧Lk K (b:Int) (a:Int))→B2 N K fr b≤F→
  (bld M A F b fr).ok n∧(bld M A F b fr).bag=M.getD b 0∧
  (∀v,(bld M A F b fr).gone v=if(∃x,Avt K fr b x∧has (M.getD x 0) v=true)∧has (M.getD b 0) v=false then 1 else 0)∧
  (∀x,Avt K fr b x→M.getD x 0∈(bld M A F b fr).bm)∧(bld M A F b fr).size+n+1≤(2*n+2)*B2 N K fr b
 |0,b,fr,hb,hf,hF=>by have:=h.sides_lt hb hf;omega
 |F+1,b,fr,hb,hf,hF=>by
  have hn:=h.n16
  have hMb:=h.ins b hb
  have hsd:=h.sides_lt hb hf
  have hkid:∀c∈Bz A (b:Int) fr,∃d:Nat,c=d∧d<N∧Lk K (b:Int) (d:Int)∧(d:Int)≠fr∧(chg (bld M A F c b) (M.getD b 0)).ok n∧(chg (bld M A F c b) (M.getD b 0)).bag=M.getD b 0∧
    (∀v,(chg (bld M A F c b) (M.getD b 0)).gone v=if(∃x,Avt K b d x∧has (M.getD x 0) v=true)∧has (M.getD b 0) v=false then 1 else 0)∧
    (∀x,Avt K b d x→M.getD x 0∈(chg (bld M A F c b) (M.getD b 0)).bm)∧(chg (bld M A F c b) (M.getD b 0)).size+1≤(2*n+2)*B2 N K b d:=by
   intro c hc
   obtain⟨d,rfl,h1,h2⟩:=(h.kids hb).1 hc
   obtain⟨_,hd,_⟩:=h.tree.lt h1
   have hlt:=h.kid_lt hb hf hc
   obtain⟨i1,i2,i3,i4,i5⟩:=h.bld_ok F d b hd (.inr ⟨b,rfl,h1.symm⟩) (by omega)
   obtain⟨j1,j2,j3,j4,j5⟩:=chg_ok hn i1 hMb
   refine⟨d,rfl,hd,h1,h2,j1,j2,λv=> ?_,λx hx=>j4 _ (i4 x hx),by omega⟩
   rw[j3,i3,i2]
   cases hbv:has (M.getD b 0) v with
   |true=>
    have hno:¬((∃x,Avt K b d x∧has (M.getD x 0) v=true)∧has (M.getD d 0) v=false):=by
     rintro⟨⟨x,hx,hxv⟩,hcv⟩
     have:=(h.over h1 hx hxv (TreeK.notb (K:=K) (h.tree.lt h1).2.2) hb hbv).2
     rw[hcv] at this;cases this
    rw[if_neg hno,if_neg (λe=>Bool.noConfusion e.2),if_neg (λe=>Bool.noConfusion e.2)]
   |false=>
    cases hcv:has (M.getD d 0) v with
    |true=>rw[if_neg (λe=>Bool.noConfusion e.2),if_pos ⟨rfl,rfl⟩,if_pos ⟨⟨d,.refl,hcv⟩,rfl⟩]
    |false=>
     have hno:¬(false=true∧false=false):=λe=>Bool.noConfusion e.1
     rw[if_neg hno,Nat.add_zero]
  have hgs:∀(v:Nat) (l:LI),l.Nodup→(∀c∈l,c∈Bz A (b:Int) fr)→
    lsm (λc=>(chg (bld M A F c b) (M.getD b 0)).gone v) l=if(∃c∈l,∃x,Avt K b c.toNat x∧has (M.getD x 0) v=true)∧has (M.getD b 0) v=false then 1 else 0:=by
   intro v l
   induction l with
   |nil=>intro _ _;rw[if_neg (by rintro⟨⟨c,hc,_⟩,_⟩;cases hc)];rfl
   |cons c l ih=>
    intro hnd hl
    rw[List.nodup_cons] at hnd
    obtain⟨d,rfl,hd,h1,h2,_,_,k3,_,_⟩:=hkid c (hl c (List.mem_cons_self ..))
    rw[lsm,ih hnd.2 (λx hx=>hl x (List.mem_cons_of_mem _ hx)),k3]
    cases hbv:has (M.getD b 0) v with
    |true=>rw[if_neg (λe=>Bool.noConfusion e.2),if_neg (λe=>Bool.noConfusion e.2),if_neg (λe=>Bool.noConfusion e.2)]
    |false=>
     by_cases hx:∃x,Avt K b d x∧has (M.getD x 0) v=true
     ·rw[if_pos ⟨hx,rfl⟩,if_neg,if_pos ⟨⟨_,List.mem_cons_self ..,hx⟩,rfl⟩]
      rintro⟨⟨c',hc',y,hy,hyv⟩,_⟩
      obtain⟨x,hx1,hx2⟩:=hx
      obtain⟨d',rfl,hd',h1',_⟩:=hkid c' (hl c' (List.mem_cons_of_mem _ hc'))
      have hy:Avt K b d' y:=hy
      have:=(h.over h1 hx1 hx2 (h.tree.disj h1' h1 (λe=>hnd.1 (by rw[←e];exact hc')) hy) (hy.lt h.tree hd') hyv).1
      rw[hbv] at this;cases this
     ·rw[if_neg (λe=>hx e.1),Nat.zero_add]
      by_cases hy:∃c∈l,∃x,Avt K b c.toNat x∧has (M.getD x 0) v=true
      ·obtain⟨c',hc',hy'⟩:=hy
       rw[if_pos ⟨⟨c',hc',hy'⟩,rfl⟩,if_pos ⟨⟨c',List.mem_cons_of_mem _ hc',hy'⟩,rfl⟩]
      ·rw[if_neg (λe=>hy e.1),if_neg]
       rintro⟨⟨c',hc',hy'⟩,_⟩
       rcases List.mem_cons.1 hc' with rfl|hc'
       ·exact hx hy'
       ·exact hy ⟨c',hc',hy'⟩
  have hside:∀v,has (M.getD b 0) v=false→((∃c∈Bz A (b:Int) fr,∃x,Avt K b c.toNat x∧has (M.getD x 0) v=true)↔∃x,Avt K fr b x∧has (M.getD x 0) v=true):=by
   intro v hv
   constructor
   ·rintro⟨c,hc,x,hx,hxv⟩
    obtain⟨d,rfl,h1,h2⟩:=(h.kids hb).1 hc
    exact⟨x,h.tree.sub hf h1 h2 hx,hxv⟩
   ·rintro⟨x,hx,hxv⟩
    rcases TreeK.cases hx with rfl|⟨c,h1,h2,h3⟩
    ·rw[hv] at hxv;cases hxv
    ·exact⟨_,(h.kids hb).2 ⟨c,rfl,h1,h2⟩,x,h3,hxv⟩
  have hgone:∀v,(if(∃c∈Bz A (b:Int) fr,∃x,Avt K b c.toNat x∧has (M.getD x 0) v=true)∧has (M.getD b 0) v=false then 1 else 0:Nat)=if(∃x,Avt K fr b x∧has (M.getD x 0) v=true)∧has (M.getD b 0) v=false then 1 else 0:=by
   intro v
   by_cases hv:has (M.getD b 0) v=false
   ·by_cases hc:∃x,Avt K fr b x∧has (M.getD x 0) v=true
    ·rw[if_pos ⟨(hside v hv).2 hc,hv⟩,if_pos ⟨hc,hv⟩]
    ·rw[if_neg (λe=>hc ((hside v hv).1 e.1)),if_neg (λe=>hc e.1)]
   ·rw[if_neg (λe=>hv e.2),if_neg (λe=>hv e.2)]
  have hmap:∀(e:(b:Int).toNat=b),M.getD (b:Int).toNat 0=M.getD b 0:=λ_=>rfl
  rw[bld]
  have hk0:=kids_nd (A:=A) (b:Int) fr
  have hall:∀x,Avt K fr b x→x=b∨∃c∈Bz A (b:Int) fr,Avt K b c.toNat x:=λx hx=>by
   rcases TreeK.cases hx with rfl|⟨c,h1,h2,h3⟩
   ·exact .inl rfl
   ·exact .inr ⟨_,(h.kids hb).2 ⟨c,rfl,h1,h2⟩,h3⟩
  have hgs0:=λv=>hgs v (Bz A (b:Int) fr) hk0 (λ_ hc=>hc)
  simp only[Int.toNat_natCast]
  generalize hKS:Bz A (b:Int) fr=KS at hkid hgs0 hall hgone hsd
  cases KS with
  |nil=>
   simp only[List.map_nil,jo]
   obtain⟨j1,j2,j3,j4,j5⟩:=chg_ok hn (t:= .leaf) trivial hMb
   refine⟨j1,j2,λv=> ?_,λx hx=> ?_,?_⟩
   ·have h1:¬(has NT.leaf.bag v=true∧has (M.getD b 0) v=false):=fun⟨e,_⟩=>by
     rw[show NT.leaf.bag=0 from rfl,Bv] at e;cases e
    rw[j3,←hgone,if_neg h1,if_neg (by rintro⟨⟨c,hc,_⟩,_⟩;cases hc)]
    rfl
   ·rcases hall x hx with rfl|⟨c,hc,_⟩
    ·have:=(chg .leaf (M.getD x 0)).bag_bm
     rwa [j2] at this
    ·cases hc
   ·simp only[NT.size] at j5
    have:=Nat.mul_le_mul_left (2*n+2) (show 1≤B2 N K fr b by omega)
    omega
  |cons c l=>
   simp only[List.map_cons,jo]
   obtain⟨d,rfl,hd,h1,h2,k1,k2,k3,k4,k5⟩:=hkid c (List.mem_cons_self ..)
   obtain⟨j1,j2,j3,j4,j5⟩:=Gp (n:=n) (m:=M.getD b 0) (l.map λc=>chg (bld M A F c b) (M.getD b 0)) (chg (bld M A F d b) (M.getD b 0)) k1 k2 (λu hu=>by
    obtain⟨c',hc',rfl⟩:=List.mem_map.1 hu
    obtain⟨_,_,_,_,_,q1,q2,_⟩:=hkid c' (List.mem_cons_of_mem _ hc')
    exact⟨q1,q2⟩)
   refine⟨j1,j2,λv=> ?_,λx hx=> ?_,?_⟩
   ·rw[j3,F5,←hgone,←hgs0 v];rfl
   ·rcases hall x hx with rfl|⟨c',hc',hx'⟩
    ·have:=NT.bag_bm ((l.map λc=>chg (bld M A F c x) (M.getD x 0)).foldl .meet (chg (bld M A F d x) (M.getD x 0)))
     rwa [j2] at this
    ·refine j4 _ ?_
     obtain⟨d',rfl,_,_,_,_,_,_,q4,_⟩:=hkid c' hc'
     rcases List.mem_cons.1 hc' with e|hc''
     ·rw[←e];exact .inl (q4 x hx')
     ·exact .inr ⟨_,List.mem_map.2 ⟨_,hc'',rfl⟩,q4 x hx'⟩
   ·rw[j5,F5]
    have hs:lsm (λc:Int=>(chg (bld M A F c b) (M.getD b 0)).size+1) l≤lsm (λc:Int=>(2*n+2)*B2 N K (b:Int) c.toNat) l:=lsm_le λc' hc'=>by
     obtain⟨d',rfl,_,_,_,_,_,_,_,q5⟩:=hkid c' (List.mem_cons_of_mem _ hc')
     exact q5
    rw[GR] at hs
    have hmul:=Nat.mul_le_mul_left (2*n+2) hsd
    rw[lsm,Nat.mul_add,Nat.mul_add] at hmul
    have k5:(chg (bld M A F (d:Int) b) (M.getD b 0)).size+1≤(2*n+2)*B2 N K (b:Int) (d:Int).toNat:=k5
    omega
end
end Go.Sx

namespace Go.Sx
def C3 (S:NS):List NT→Int×NS
 |[]=>(-1,S)
 |t::r=>(((S.1.length+(r.foldl .meet t).size-1:Nat):Int),app S (r.foldl .meet t))
theorem last_app (S:NS)(t:NT)(hl:S.1.length+t.size≤1000000)(A B:LI):
  D.n (app S t).1 (app S t).2.1 (app S t).2.2.1 (app S t).2.2.2 A B=some (((S.1.length+t.size-1:Nat):Int),(app S t).1,(app S t).2.1,(app S t).2.2.1,(app S t).2.2.2):=by
 have:=t.size_pos
 rw[GV _ (by rw[Ca];omega),Ca,show ((S.1.length+t.size-1:Nat):Int)=((S.1.length+t.size:Nat):Int)-1 by omega]
theorem condT {α:Type}{c:Bool}{p q r:α}(h:c=true)(k:p=r):cond c p q=r:=by rw[h,cT,k]
theorem condF {α:Type}{c:Bool}{p q r:α}(h:c=false)(k:q=r):cond c p q=r:=by rw[h,cF,k]
theorem meets_snoc (r:List NT)(t u:NT):(r++[u]).foldl NT.meet t= .meet (r.foldl .meet t) u:=by
 rw[List.foldl_append];rfl
theorem CX {α:Type}(f:α→Nat):∀(l m:List α),lsm f (l++m)=lsm f l+lsm f m
 |[],m=>by simp[lsm]
 |x::l,m=>by
  show f x+lsm f (l++m)=f x+lsm f l+lsm f m
  rw[CX f l m];omega
section
variable {n N : Nat} {M A : LI} {K : LL}
def kts (M A:LI)(F:Nat)(b:Nat)(l:LI):List NT:=l.map λc=>chg (bld M A F c b) (M.getD b 0)
theorem BT.gen_eq (h:BT n N M A K)(hM:M.length=N):∀(F b:Nat) (fr:Int) (S:NS),b<N→(fr= -1∨∃a:Nat,fr=a∧Lk K (b:Int) (a:Int))→B2 N K fr b≤F→NSq S→
  S.1.length+(2*n+2)*B2 N K fr b≤800000→D.m0 F S.1 S.2.1 S.2.2.1 S.2.2.2 M A b fr=some (app S (bld M A F b fr))
 |0,b,fr,S,hb,hf,hF,_,_=>by have:=h.sides_lt hb hf;omega
 |F+1,b,fr,S,hb,hf,hF,hS,hsz=>by
  have hn:=h.n16
  have hAl:=h.net.net.len
  have hMb:=h.ins b hb
  have hsd:=h.sides_lt hb hf
  rw[D.m0]
  have hidxA:idx A (b:Int)=some (A.getD b 0):=by
   rw[AC (by omega),AH (by omega)]
  have hidxM:∀x:Nat,x<N→idx M (x:Int)=some (M.getD x 0):=λx hx=>by
   rw[AC (by omega),AH (by omega)]
  rw[hidxA,bs,D8 _ (h.net.net.vs b hb),bs]
  have hkid:∀c∈Bz A (b:Int) fr,∃d:Nat,c=d∧d<N∧Lk K (b:Int) (d:Int)∧(d:Int)≠fr∧B2 N K (b:Int) d≤F∧(bld M A F c b).ok n∧(bld M A F c b).bag=M.getD d 0∧
    (bld M A F c b).size≤(2*n+2)*B2 N K (b:Int) d∧(chg (bld M A F c b) (M.getD b 0)).ok n∧(chg (bld M A F c b) (M.getD b 0)).bag=M.getD b 0∧(chg (bld M A F c b) (M.getD b 0)).size+1≤(2*n+2)*B2 N K (b:Int) d:=by
   intro c hc
   obtain⟨d,rfl,h1,h2⟩:=(h.kids hb).1 hc
   obtain⟨_,hd,_⟩:=h.tree.lt h1
   have hlt:=h.kid_lt hb hf hc
   obtain⟨i1,i2,i3,i4,i5⟩:=h.bld_ok F d b hd (.inr ⟨b,rfl,h1.symm⟩) (by omega)
   obtain⟨j1,j2,j3,j4,j5⟩:=chg_ok hn i1 hMb
   exact⟨d,rfl,hd,h1,h2,by omega,i1,i2,by omega,j1,j2,by omega⟩
  have hacc:∀(l:LI) (t:NT) (r:List NT),(∀c∈l,c∈Bz A (b:Int) fr)→kts M A F b l=t::r→
    (r.foldl .meet t).bag=M.getD b 0∧(r.foldl .meet t).size+1≤(2*n+2)*lsm (λc:Int=>B2 N K (b:Int) c.toNat) l:=by
   intro l t r hl he
   cases l with
   |nil=>cases he
   |cons c l=>
    obtain⟨e1,e2⟩:=List.cons.inj he
    subst e1;subst e2
    obtain⟨d,rfl,_,_,_,_,_,_,_,q1,q2,q3⟩:=hkid c (hl c (List.mem_cons_self ..))
    obtain⟨j1,j2,_,_,j5⟩:=Gp (n:=n) (m:=M.getD b 0) (l.map λc=>chg (bld M A F c b) (M.getD b 0)) (chg (bld M A F d b) (M.getD b 0)) q1 q2 (λu hu=>by
     obtain⟨c',hc',rfl⟩:=List.mem_map.1 hu
     obtain⟨_,_,_,_,_,_,_,_,_,p1,p2,_⟩:=hkid c' (hl c' (List.mem_cons_of_mem _ hc'))
     exact⟨p1,p2⟩)
    refine⟨j2,?_⟩
    rw[j5,F5]
    have hs:lsm (λc:Int=>(chg (bld M A F c b) (M.getD b 0)).size+1) l≤lsm (λc:Int=>(2*n+2)*B2 N K (b:Int) c.toNat) l:=lsm_le λc' hc'=>by
     obtain⟨d',rfl,_,_,_,_,_,_,_,_,_,q5⟩:=hkid c' (hl c' (List.mem_cons_of_mem _ hc'))
     exact q5
    rw[GR] at hs
    rw[lsm,Nat.mul_add]
    have q3:(chg (bld M A F (d:Int) b) (M.getD b 0)).size+1≤(2*n+2)*B2 N K (b:Int) (d:Int).toNat:=q3
    omega
  have hlsub:∀(l m:LI),l++m=Bz A (b:Int) fr→(2*n+2)*lsm (λc:Int=>B2 N K (b:Int) c.toNat) l+(2*n+2)*lsm (λc:Int=>B2 N K (b:Int) c.toNat) m+(2*n+2)≤(2*n+2)*B2 N K fr b:=by
   intro l m e
   rw[←e,CX] at hsd
   have:=Nat.mul_le_mul_left (2*n+2) hsd
   rw[Nat.mul_add,Nat.mul_add] at this
   omega
  generalize hL:elems (A.getD b 0)=L
  have hLk:Bz A (b:Int) fr=L.filter (λc=>decide (c≠fr)):=by unfold Bz;rw[Int.toNat_natCast,hL]
  have hL32:L.length≤32:=by rw[←hL];exact Ce _
  have hLn:∀i (hi:i<L.length),∃d:Nat,L[i]=(d:Int):=λi hi=>by
   subst hL
   obtain⟨v,h1,_⟩:=EF hi
   exact⟨v,h1⟩
  refine(BY (λi=>((C3 S (kts M A F b ((L.take i).filter λc=>decide (c≠fr)))).1,(i:Int),(C3 S (kts M A F b ((L.take i).filter λc=>decide (c≠fr)))).2.1,(C3 S (kts M A F b ((L.take i).filter λc=>decide (c≠fr)))).2.2.1,
   (C3 S (kts M A F b ((L.take i).filter λc=>decide (c≠fr)))).2.2.2.1,(C3 S (kts M A F b ((L.take i).filter λc=>decide (c≠fr)))).2.2.2.2)) L.length
   ((C3 S (kts M A F b (Bz A b fr))).1,(C3 S (kts M A F b (Bz A b fr))).2.1,(C3 S (kts M A F b (Bz A b fr))).2.2.1,(C3 S (kts M A F b (Bz A b fr))).2.2.2.1,(C3 S (kts M A F b (Bz A b fr))).2.2.2.2) rfl (λi hi=> ?_) ?_).trans ?_
  ·dsimp only
   obtain⟨d,ed⟩:=hLn i hi
   rw[dlt hi,cT,AC hi,bs,ed,wi (by omega),Cx hi,List.filter_append,ed]
   by_cases hdf:(d:Int)=fr
   ·rw[beq_iff_eq.2 hdf,cT,show List.filter (λc=>decide (c≠fr)) [(d:Int)]=[] by simp[hdf],List.append_nil]
   ·rw[beq_eq_false_iff_ne.2 hdf,cF,show List.filter (λc=>decide (c≠fr)) [(d:Int)]=[(d:Int)] by simp[hdf]]
    have hsplit:(L.take i).filter (λc=>decide (c≠fr))++((d:Int)::(L.drop (i+1)).filter (λc=>decide (c≠fr)))=Bz A (b:Int) fr:=by
     rw[hLk]
     conv=>rhs;rw[←List.take_append_drop i L]
     rw[List.filter_append,List.drop_eq_getElem_cons hi,ed,List.filter_cons,if_pos (by simp[hdf])]
    generalize hl:(L.take i).filter (λc=>decide (c≠fr))=l at hsplit ⊢
    have hlm:∀c∈l,c∈Bz A (b:Int) fr:=λc hc=>by rw[←hsplit];exact List.mem_append_left _ hc
    have hdm:(d:Int)∈Bz A (b:Int) fr:=by rw[←hsplit];exact List.mem_append_right _ (List.mem_cons_self ..)
    have hb2:=hlsub _ _ hsplit
    rw[lsm,Nat.mul_add] at hb2
    obtain⟨d',e,hd,h1,h2,h3,k1,k2,k3,k4,k5,k6⟩:=hkid _ hdm
    obtain rfl:d=d':=by omega
    have hb2:(2*n+2)*lsm (λc:Int=>B2 N K (b:Int) c.toNat) l+((2*n+2)*B2 N K (b:Int) d+(2*n+2)*lsm (λc:Int=>B2 N K (b:Int) c.toNat) ((L.drop (i+1)).filter (λc=>decide (c≠fr))))+(2*n+2)≤(2*n+2)*B2 N K fr b:=hb2
    have hkts:kts M A F b (l++[(d:Int)])=kts M A F b l++[chg (bld M A F d b) (M.getD b 0)]:=by unfold kts;rw[List.map_append];rfl
    have hlk:Lk K (d:Int) (b:Int):=h1.symm
    have hgen:=fun(S':NS) (hS':NSq S') (hs':S'.1.length+(2*n+2)*B2 N K (b:Int) d≤800000)=>h.gen_eq hM F d (b:Int) S' hd (.inr ⟨b,rfl,hlk⟩) h3 hS' hs'
    rw[hkts]
    cases hk:kts M A F b l with
    |nil=>
     simp only[C3,List.nil_append]
     rw[hgen S hS (by omega),bs,hidxM d hd,bs,hidxM b hb,bs,←k2,FJ hS _ (by omega),bs]
     refine condF rfl ?_
     rw[last_app S _ (by omega),bs]
     rfl
    |cons t r=>
     obtain⟨g1,g2⟩:=hacc l t r hlm hk
     have hg0:=(r.foldl NT.meet t).size_pos
     simp only[C3,List.cons_append,meets_snoc]
     rw[hgen _ (hS.app _) (by rw[Ca];omega),bs,hidxM d hd,bs,hidxM b hb,bs,←k2,FJ (hS.app _) _ (by rw[Ca];omega),bs]
     refine condT (decide_eq_true (by omega)) ?_
     rw[bs]
     have hm:=node_meet hS (r.foldl NT.meet t) (chg (bld M A F d b) (M.getD b 0)) (by omega) M A (M.getD b 0) g1.symm
     obtain⟨y,m1,m2⟩:=bind_some hm
     rw[m1,bs,m2,bs,bs]
     dsimp only
     rw[last_app S _ (by simp only[NT.size];omega),bs]
  ·dsimp only
   rw[Be,cF,List.take_length,←hLk]
  ·dsimp only
   rw[bld]
   simp only[Int.toNat_natCast]
   show _=some (app S (jo (kts M A F b (Bz A (b:Int) fr)) _))
   have hb2:=hlsub (Bz A (b:Int) fr) [] (List.append_nil _)
   cases hk:kts M A F b (Bz A (b:Int) fr) with
   |nil=>
    simp only[C3,jo]
    refine condT rfl ?_
    rw[node_leaf hS (by omega),bs,hidxM b hb,bs]
    have:=FJ hS .leaf (to:=M.getD b 0) (by simp only[NT.size];omega) M A
    rw[show NT.leaf.bag=0 from rfl] at this
    rw[this,bs]
   |cons t r=>
    have hg0:=(r.foldl NT.meet t).size_pos
    simp only[C3,jo]
    exact condF (decide_eq_false (by omega)) rfl
end
end Go.Sx
