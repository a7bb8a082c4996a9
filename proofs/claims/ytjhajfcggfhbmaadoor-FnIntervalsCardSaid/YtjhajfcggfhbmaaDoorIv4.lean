/- Parts. -/
import Derived.Test.YtjhajfcggfhbmaaDoorIv3
import Derived.KernelRfl
set_option linter.unusedVariables false
set_option linter.unusedSimpArgs false
set_option linter.unusedSectionVars false
namespace Go.Sx
structure OOk (g:LL)(o:LI):Prop where
 len:o.length=g.length
 rng:∀x∈o,0≤x∧x<g.length
 nd:o.Nodup
theorem mem_take_iff {α:Type}{l:List α}{i:Nat}{x:α}:x∈l.take i↔∃j,∃h:j<l.length,j<i∧l[j]=x:=by
 rw[List.mem_take_iff_getElem]
 constructor
 ·rintro⟨j,h,e⟩;exact⟨j,by omega,by omega,e⟩
 ·rintro⟨j,h,h2,e⟩;exact⟨j,by omega,e⟩
theorem nodup_iff {l:LI}:l.Nodup↔∀i (hi:i<l.length),l[i]∉l.take i:=by
 constructor
 ·intro h i hi hm
  obtain⟨j,hj,hji,e⟩:=mem_take_iff.1 hm
  have:=(List.pairwise_iff_getElem.1 h) j i hj hi hji
  exact this e
 ·intro h
  refine List.pairwise_iff_getElem.2 (λi j hi hj hij e=>h j hj (mem_take_iff.2 ⟨i,hi,hij,e⟩))
theorem B5 (v:Nat):D.b (v:Int)=some (ishl .u32 1 (v:Int)):=by
 unfold D.b
 have:decide ((v:Int)<0)=false:=by simp
 rw[this];rfl
theorem impl_one_eq' {x:Int}(h:0≤x):D.b x=some (ishl .u32 1 x):=by
 have:=B5 x.toNat
 rwa [show ((x.toNat:Nat):Int)=x by omega] at this
def mk (xs:LI):Int:=xs.foldl (λs v=>ior .u32 s (ishl .u32 1 v)) 0
theorem maskOf_eq (xs:LI)(h:Sh xs)(h0:∀x∈xs,0≤x):D.o0 xs=some (mk xs):=by
 unfold Sh at h
 unfold D.o0
 refine(loop_listb xs (λs i=>(s,i)) (λs v=>ior .u32 s (ishl .u32 1 v)) (λs=>s) (λ_=>True) 0 trivial (λs i hi _=>⟨?_,trivial⟩) (λs _=> ?_)).trans rfl
 ·simp only[dlt hi,cond_true,AB hi,bs,wi' hi (by omega),impl_one_eq' (h0 _ (List.getElem_mem hi))]
 ·simp only[Bg,cond_false]
theorem Eg :∀(xs:LI) (s:Int),VS s→VS (xs.foldl (λs v=>ior .u32 s (ishl .u32 1 v)) s)
 |[],s,h=>h
 |x::xs,s,_=>Eg xs _ (VS.ior _ _)
theorem VS.mk (xs:LI):VS (mk xs):=Eg xs 0 VS.zero
theorem D9 (u:Nat):∀(xs:LI) (s:Int),VS s→(∀x∈xs,0≤x∧x<32)→has (xs.foldl (λs v=>ior .u32 s (ishl .u32 1 v)) s) u=(has s u||decide ((u:Int)∈xs))
 |[],s,_,_=>by simp
 |x::xs,s,hs,h=>by
  have hx:=h x (by simp)
  rw[List.foldl_cons,D9 u xs _ (VS.ior _ _) (λy hy=>h y (by simp[hy])),Bj hs (VS.ishl _ _)]
  obtain⟨k,rfl⟩:∃k:Nat,x=k:=⟨x.toNat,by omega⟩
  rw[A8 (by omega)]
  by_cases hu:u=k
  ·subst hu;simp
  ·have:¬(u:Int)=(k:Int):=by omega
   simp[hu,this]
theorem CR {xs:LI}(h:∀x∈xs,0≤x∧x<32)(u:Nat):has (mk xs) u=decide ((u:Int)∈xs):=by
 unfold mk;rw[D9 u xs 0 VS.zero h,AY,Bool.false_or]
theorem GOk.mem0 {g:LL}(hg:GOk g){r:LI}(hr:r∈g):r.length≤16∧∀x∈r,0≤x∧x<g.length:=by
 obtain⟨v,hv,rfl⟩:=List.getElem_of_mem hr
 rw[←row_eq hv]
 exact⟨hg.row_len hv,(hg.rows v hv).2⟩
theorem Cy (g:LL)(hg:GOk g):D.n g=some (g.map mk):=by
 have h16:=hg.n16
 unfold D.n
 refine(Dr g (λs i=>(s,i)) mk (by omega) (λs i hi _=> ?_) (λs=> ?_)).trans rfl
 ·obtain⟨h1,h2⟩:=hg.mem0 (List.getElem_mem hi)
  simp only[dlt hi,cond_true,AB hi,bs,wi' hi (by omega),maskOf_eq g[i] (by unfold Sh;omega) (λx hx=>(h2 x hx).1)]
 ·simp only[Bg,cond_false]
theorem wide_eq (xs:LI)(h:Sh xs):D.J xs=some xs:=by
 unfold Sh at h
 unfold D.J
 rw[makeD_zero (by omega) (by omega),bs]
 refine(Dr xs (λs i=>(s,i)) (λx=>x) h (λs i hi _=> ?_) (λs=> ?_)).trans (by simp)
 ·simp only[dlt hi,cond_true,AB hi,bs,wi' hi (by omega)]
 ·simp only[Bg,cond_false]
theorem least_eq {s:Int}(h:VS s)(h0:s≠0):∃k:Nat,k<32∧D.R s=some (k:Int)∧has s k=true∧(∀v,v<k→has s v=false)∧
  (∀v,has (iand .u32 s (IntKind.u32.wrap (s-1))) v=(has s v&& !decide (v=k))):=by
 obtain⟨k,h1,h2,h3,h4,h5⟩:=least_spec h h0
 refine⟨k,h1,?_,h2,h3,h5⟩
 unfold D.R D.Q0
 have e:(s==0)=false:=by simpa using h0
 simp only[e,cond_false,h4,tz_table k h1,bs]
 rw[w64 (by omega) (by omega)]
theorem Cz (s:Int)(h:VS s):D.c s=some (Am s):=by
 unfold D.c
 have key:∀(n:Nat) (x:Int) (l:LI),VS x→(Am x).length=n→l.length+n≤32→
   Ao (σ:=Int×LI) (ρ:=(LI)) (fun(s_52:Int×LI)=>match s_52 with|(x_55,l_56)=>cond (x_55 !=0) ((D.R x_55).bind λy_88=>(AH l_56 ([y_88]:LI)).bind λl_99=>some (.inl ((iand .u32 x_55 (IntKind.u32.wrap (x_55-1))),l_99))) (some (.inr l_56))) (x,l)=some (l++Am x):=by
  intro n
  induction n with
  |zero=>
   intro x l hx hn _
   have e:Am x=[]:=List.eq_nil_of_length_eq_zero hn
   have e0:x=0:=hx.eq_zero.2 λv hv=>by
    cases hc:has x v
    ·rfl
    ·have:=mem_elems.2 ⟨v,hv,hc,rfl⟩;rw[e] at this;simp at this
   rw[e]
   refine AV ?_
   have:(x !=0)=false:=by simp[e0]
   simp only[this,cond_false,List.append_nil]
  |succ n ih=>
   intro x l hx hn hl
   have h0:x≠0:=by rintro rfl;rw[D4] at hn;simp at hn
   obtain⟨k,h1,h2,h3,h4,h5⟩:=least_eq hx h0
   have e:=elems_least h1 h3 h4 h5
   have en:(Am (iand .u32 x (IntKind.u32.wrap (x-1)))).length=n:=by rw[e] at hn;simpa using hn
   have hstep:=ih (iand .u32 x (IntKind.u32.wrap (x-1))) (l++[(k:Int)]) (VS.iand _ _) en (by simp;omega)
   have e1:(x !=0)=true:=by simpa using h0
   rw[Bi (s':=(iand .u32 x (IntKind.u32.wrap (x-1)),l++[(k:Int)]))]
   ·rw[hstep,e];simp
   ·simp only[e1,cond_true,h2,bs,Be (xs:=l) (ys:=[(k:Int)]) (by simp;omega)]
 have:=key (Am s).length s [] h rfl (by simpa using Bl s)
 rw[this];simp
theorem elems_sh (s:Int):Sh (Am s):=by have:=Bl s;unfold Sh;omega
theorem DW (s:Int)(h:VS s):D.x s=some (Am s):=by
 unfold D.x
 rw[Cz s h,bs,wide_eq _ (elems_sh s)];rfl
theorem results_eq (xs:LI)(h:Sh xs)(hv:∀s∈xs,VS s):D.d1 xs=some (xs.map Am):=by
 unfold Sh at h
 unfold D.d1
 refine(Dr xs (λs i=>(s,i)) Am h (λs i hi _=> ?_) (λs=> ?_)).trans rfl
 ·simp only[dlt hi,cond_true,AB hi,bs,wi' hi (by omega),DW _ (hv _ (List.getElem_mem hi))]
 ·simp only[Bg,cond_false]
theorem l1Copy_eq (xs:LI)(h:Sh xs):D.N0 xs=some xs:=by
 unfold Sh at h
 unfold D.N0
 rw[Be (by simpa using h)];rfl
def opn (g:LL)(l:LI)(v:Int):Prop:=∃y∈row g v.toNat,y∉l
end Go.Sx



namespace Go.Sx
structure DK (b:LI)(i:Int):Prop where
 byte:∀x∈b,0≤x∧x≤255
 len:b.length≤4096
 i0:0≤i
 i1:i≤b.length
theorem iand_u64_le (a:Int)(n:Nat)(hn:n<18446744073709551616):0≤iand .u64 a (n:Int)∧iand .u64 a (n:Int)≤n:=by
 have e:(BitVec.ofInt 64 (n:Int)).toNat=n:=by rw[BitVec.toNat_ofInt];omega
 have h:(BitVec.ofInt 64 a&&&BitVec.ofInt 64 (n:Int)).toNat≤n:=by
  rw[BitVec.toNat_and,e];exact Nat.and_le_right
 have w:∀m:Nat,m<18446744073709551616→IntKind.u64.wrap (m:Int)=m:=λm hm=>by
  simp[IntKind.wrap,IntKind.signed,IntKind.bits];omega
 have e2:iand .u64 a (n:Int)=(((BitVec.ofInt 64 a&&&BitVec.ofInt 64 (n:Int)).toNat:Nat):Int):=by
  show IntKind.u64.wrap (((BitVec.ofInt 64 a&&&BitVec.ofInt 64 (n:Int)).toNat:Nat):Int)=_
  exact w _ (by omega)
 rw[e2];omega
theorem tmod_rng {x n:Int}(hx:0≤x)(hn:0<n):0≤Int.tmod x n∧Int.tmod x n<n:=
 ⟨Int.tmod_nonneg _ hx,Int.tmod_lt_of_pos _ hn⟩
theorem below_ok {b:LI}{i:Int}(h:DK b i)(z n:Int)(hn:0<n):∃r i' z',D.k b i z n=some (r,b,i',z')∧0≤r∧r<n∧DK b i':=by
 obtain⟨h1,h2,h3,h4⟩:=h
 unfold D.k
 have hn0:(n==0)=false:=by simp;omega
 have hc:∀y:Int,0≤iand .u64 y 16777215∧iand .u64 y 16777215≤16777215:=λy=>iand_u64_le y 16777215 (by omega)
 by_cases hi:i<b.length
 ·have hb:=h1 _ (List.getElem_mem (show i.toNat<b.length by omega))
  simp only[hi,decide_true,cond_true,idx_int h3 hi,bs,hn0,cond_false]
  have hy:=hc (Bq .u64 (IntKind.u64.wrap ((IntKind.u64.wrap (z*6364136223846793005))+1442695040888963407)) 33)
  generalize iand .u64 (Bq .u64 (IntKind.u64.wrap ((IntKind.u64.wrap (z*6364136223846793005))+1442695040888963407)) 33) 16777215=y at hy ⊢
  rw[w64 (x:=y) (by omega) (by omega),w64 (x:=b[i.toNat]) (by omega) (by omega),w64 (x:=y+b[i.toNat]) (by omega) (by omega),w64 (x:=i+1) (by omega) (by omega)]
  have hr:=tmod_rng (x:=y+b[i.toNat]) (n:=n) (by omega) hn
  exact⟨_,_,_,rfl,hr.1,hr.2,h1,h2,by omega,by omega⟩
 ·simp only[hi,decide_false,cond_false,hn0]
  have hy:=hc (Bq .u64 (IntKind.u64.wrap ((IntKind.u64.wrap (z*6364136223846793005))+1442695040888963407)) 33)
  generalize iand .u64 (Bq .u64 (IntKind.u64.wrap ((IntKind.u64.wrap (z*6364136223846793005))+1442695040888963407)) 33) 16777215=y at hy ⊢
  rw[w64 (x:=y) (by omega) (by omega)]
  have hr:=tmod_rng (x:=y) (n:=n) (by omega) hn
  exact⟨_,_,_,rfl,hr.1,hr.2,h1,h2,h3,h4⟩
theorem Di {b:LI}{i:Int}(h:DK b i)(z n:Int)(hn:0<n):∃y,D.k b i z n=some y∧(0≤y.1∧y.1<n∧y.2.1=b∧DK b y.2.2.1):=by
 obtain⟨r,i',z',e,h1,h2,h3⟩:=below_ok h z n hn
 exact⟨_,e,h1,h2,rfl,h3⟩
theorem roll_ok (code:LI)(seed:Int)(h:∀x∈code,0≤x∧x≤255)(hl:code.length≤4096):∃z,D.i0 code seed=some (code,0,z)∧DK code 0:=by
 unfold D.i0
 refine⟨_,(loop_listb code (λs i=>(i,s)) (λs e=>IntKind.u64.wrap ((IntKind.u64.wrap ((IntKind.u64.wrap (s*1099511628211))+(IntKind.u64.wrap e)))+3)) (λs=>s) (λ_=>True) _ trivial (λs i hi _=>⟨?_,trivial⟩) (λs _=> ?_)).trans rfl,h,hl,by omega,by omega⟩
 ·simp only[dlt hi,cond_true,AB hi,bs,wq i]
 ·simp only[Bg,cond_false]
end Go.Sx



namespace Go.Sx
theorem ext_getD {a b:LI}(hl:a.length=b.length)(h:∀j,j<a.length→a.getD j 0=b.getD j 0):a=b:=by
 apply List.ext_getElem hl
 intro j h1 h2
 have:=h j h1
 rwa [Au h1,Au h2] at this
theorem getD_set (l:LI)(i j:Nat)(x:Int)(hi:i<l.length):(l.set i x).getD j 0=if j=i then x else l.getD j 0:=by
 simp only[List.getD_eq_getElem?_getD,List.getElem?_set]
 by_cases h:j=i
 ·subst h;simp[hi]
 ·rw[if_neg (λe=>h e.symm),if_neg h]
def nb (F:LI)(u w:Nat):Bool:=has (F.getD u 0) w
structure FOk (F:LI)(n:Nat):Prop where
 len:F.length=n
 vs:∀u,u<n→VS (F.getD u 0)
 lt:∀u w,u<n→nb F u w=true→w<n
 irr:∀u,u<n→nb F u u=false
 sym:∀u w,u<n→nb F u w=true→nb F w u=true
theorem FOk.ext {F F':LI}{n:Nat}(h:F.length=n)(h':F'.length=n)(v:∀u,u<n→VS (F.getD u 0))(v':∀u,u<n→VS (F'.getD u 0))(e:∀u w,u<n→nb F u w=nb F' u w):F=F':=by
 refine ext_getD (by omega) (λj hj=> ?_)
 exact(v j (by omega)).ext (v' j (by omega)) (λw _=>e j w (by omega))
theorem Db (g:LL)(u:Nat):(g.map mk).getD u 0=mk (row g u):=by
 unfold row
 simp only[List.getD_eq_getElem?_getD,List.getElem?_map]
 cases g[u]? with
 |none=>simp[mk]
 |some r=>rfl
theorem BE {g:LL}(hg:GOk g){u w:Nat}(hu:u<g.length):nb (g.map mk) u w=true↔adj g u w:=by
 have h16:=hg.n16
 unfold nb
 rw[Db,CR (λx hx=>by have:=(hg.rows u hu).2 x hx;omega)]
 simp[adj]
theorem FOk.of {g:LL}(hg:GOk g):FOk (g.map Sx.mk) g.length:=by
 refine⟨by simp,λu _=>by rw[Db];exact VS.mk _,λu w hu h=>hg.lt hu ((BE hg hu).1 h),λu hu=> ?_,λu w hu h=> ?_⟩
 ·cases h:nb (g.map Sx.mk) u u
  ·rfl
  ·exact absurd ((BE hg hu).1 h) (hg.irr u hu)
 ·have ha:=(BE hg hu).1 h
  exact(BE hg (hg.lt hu ha)).2 (hg.sym u w hu ha)
def grow (F:LI):LL:=F.map Am
theorem row_grow (F:LI)(u:Nat):row (grow F) u=Am (F.getD u 0):=by
 unfold row grow
 simp only[List.getD_eq_getElem?_getD,List.getElem?_map]
 cases F[u]? with
 |none=>simp[D4]
 |some r=>rfl
theorem C1 {F:LI}{n u w:Nat}(h:FOk F n)(hu:u<n):adj (grow F) u w↔nb F u w=true:=by
 unfold adj nb
 rw[row_grow,AM (h.vs u hu)]
theorem GOk.grow {F:LI}{n:Nat}(h:FOk F n)(h1:1≤n)(h16:n≤16):GOk (grow F):=by
 have hl:(Sx.grow F).length=n:=by unfold Sx.grow;rw[List.length_map,h.len]
 refine⟨by omega,by omega,λv hv=> ?_,λv hv ha=> ?_,λu v hu ha=> ?_⟩
 ·rw[row_grow,hl]
  refine⟨Bu _,λx hx=> ?_⟩
  obtain⟨w,_,h2,rfl⟩:=mem_elems.1 hx
  have:=h.lt v w (by omega) h2
  omega
 ·rw[C1 h (by omega)] at ha
  rw[h.irr v (by omega)] at ha;cases ha
 ·rw[C1 h (by omega)] at ha
  have:=h.lt u v (by omega) ha
  rw[C1 h (by omega)]
  exact h.sym u v (by omega) ha
theorem mk_elems {s:Int}(h:VS s):mk (Am s)=s:=by
 refine(VS.mk _).ext h (λv hv=> ?_)
 rw[CR (λx hx=>by obtain⟨w,h1,_,rfl⟩:=mem_elems.1 hx;omega),Bool.eq_iff_iff,decide_eq_true_eq,AM h]
theorem all_mask :∀n:Fin 17,∀v:Fin 32,has (IntKind.u32.wrap (ishl .u32 1 (n.val:Int)-1)) v.val=decide (v.val<n.val):=by decide+kernel
theorem ED (F:LI)(h:F.length≤16):∃s,D.p F=some s∧VS s∧∀v,has s v=decide (v<F.length):=by
 refine⟨IntKind.u32.wrap (ishl .u32 1 (F.length:Int)-1),?_,VS.wrap _,λv=> ?_⟩
 ·unfold D.p D.u
  have:decide ((F.length:Int)<0)=false:=by simp
  rw[this];rfl
 ·by_cases hv:v<32
  ·exact all_mask ⟨F.length,by omega⟩ ⟨v,hv⟩
  ·rw[CZ (VS.wrap _) (by omega)];symm;simp;omega
def PEO (F:LI)(o:LI):Prop:=∀(j:Nat) (v u w:Nat),o[j]? =some (v:Int)→nb F v u=true→nb F v w=true→(u:Int)∉o.take (j+1)→(w:Int)∉o.take (j+1)→u≠w→nb F u w=true
def Lat (F L:LI)(o:LI)(i:Nat):Prop:=∀(j:Nat) (v:Nat),j<i→o[j]? =some (v:Int)→∀w,nb L v w=(nb F v w&&decide ((w:Int)∉o.take (j+1)))
inductive Via (F:LI)(gone:Nat→Prop)(u:Nat):Nat→Prop
 |me:Via F gone u u
 |step {x y:Nat}:Via F gone u x→nb F x y=true→gone y→Via F gone u y
theorem Via.mono {F:LI}{g g':Nat→Prop}{u x:Nat}(h:Via F g u x)(hg:∀y,g y→g' y):Via F g' u x:=by
 induction h with
 |me=>exact .me
 |step _ h1 h2 ih=>exact .step ih h1 (hg _ h2)
theorem Via.end_ {F:LI}{g:Nat→Prop}{u x:Nat}(h:Via F g u x):x=u∨g x:=by
 cases h with
 |me=>exact .inl rfl
 |step _ _ h2=>exact .inr h2
theorem Via.lt {F:LI}{n:Nat}(hF:FOk F n){g:Nat→Prop}{u x:Nat}(hu:u<n)(h:Via F g u x):x<n:=by
 induction h with
 |me=>exact hu
 |step _ h1 _ ih=>exact hF.lt _ _ ih h1
theorem Via.back {F:LI}{n:Nat}(hF:FOk F n){g g':Nat→Prop}(hg:∀y,g y→g' y){v x:Nat}(hv:v<n)(hgv:g' v)(h:Via F g v x):∀z,Via F g' z x→Via F g' z v:=by
 induction h with
 |me=>exact λz h=>h
 |step hx h1 h2 ih=>
  intro z hz
  have hxn:=Via.lt hF hv hx
  refine ih z (.step hz (hF.sym _ _ hxn h1) ?_)
  rcases hx.end_ with e|e
  ·rw[e];exact hgv
  ·exact hg _ e
def Bhd (F:LI)(gone:Nat→Prop)(v w:Nat):Prop:=∃x,Via F gone v x∧nb F x w=true
structure EInv (n:Nat)(F0 o:LI)(i:Nat)(F L:LI)(left:Int):Prop where
 f:FOk F n
 lenL:L.length=n
 vsL:∀u,u<n→VS (L.getD u 0)
 vsl:VS left
 left:∀v,has left v=decide (v<n∧(v:Int)∉o.take i)
 mono:∀u w,u<n→nb F0 u w=true→nb F u w=true
 lat:Lat F L o i
 peo:∀(j:Nat) (v u w:Nat),j<i→o[j]? =some (v:Int)→nb F v u=true→nb F v w=true→(u:Int)∉o.take (j+1)→(w:Int)∉o.take (j+1)→u≠w→nb F u w=true
 same:PEO F0 o→F=F0
 via:∀u w:Nat,u<n→(u:Int)∉o.take i→(w:Int)∉o.take i→u≠w→(nb F u w=true↔Bhd F0 (λx=>(x:Int)∈o.take i) u w)
 latb:∀(j:Nat) (v:Nat),j<i→o[j]? =some (v:Int)→∀w:Nat,nb L v w=true↔(w:Int)∉o.take (j+1)∧Bhd F0 (λx=>(x:Int)∈o.take j) v w
theorem CG {o:LI}{j i:Nat}(h:j≤i){x:Int}(hx:x∈o.take j):x∈o.take i:=by
 rw[mem_take_iff] at hx ⊢
 obtain⟨k,h1,h2,h3⟩:=hx
 exact⟨k,h1,by omega,h3⟩
theorem EInv.step {n:Nat}{F0 o F L:LI}{i v:Nat}{left:Int}(h16:n≤16)(h0:FOk F0 n)(hn:∀x∈o,0≤x∧x<n)(hnd:o.Nodup)(hi:i<o.length)(hv:o[i]=(v:Int))(h:EInv n F0 o i F L left){F':LI}
  (hl':F'.length=n) (hv':∀u,u<n→VS (F'.getD u 0)) (h':∀u w,u<n→nb F' u w=(nb F u w||(has (iand .u32 (F.getD v 0) (iandNot .u32 left (ishl .u32 1 (v:Int)))) u&&has (iand .u32 (F.getD v 0) (iandNot .u32 left (ishl .u32 1 (v:Int)))) w&&decide (w≠u)))):
  EInv n F0 o (i+1) F' (L.set v (iand .u32 (F.getD v 0) (iandNot .u32 left (ishl .u32 1 (v:Int))))) (iandNot .u32 left (ishl .u32 1 (v:Int))):=by
 have hvn:v<n:=by have:=hn _ (List.getElem_mem hi);omega
 have hvt:(v:Int)∉o.take i:=by rw[←hv];exact nodup_iff.1 hnd i hi
 have htk:∀x:Nat,((x:Int)∈o.take (i+1))↔((x:Int)∈o.take i∨x=v):=λx=>by
  rw[List.take_succ_eq_append_getElem hi,List.mem_append,hv];simp[Int.natCast_inj]
 have hleft:∀w,has (iandNot .u32 left (ishl .u32 1 (v:Int))) w=decide (w<n∧(w:Int)∉o.take (i+1)):=λw=>by
  rw[AX h.vsl (VS.ishl _ _),A8 (by omega),h.left,Bool.eq_iff_iff]
  simp only[Bool.and_eq_true,decide_eq_true_eq,Bool.not_eq_true',decide_eq_false_iff_not,htk]
  constructor
  ·rintro⟨⟨a,b⟩,c⟩;exact⟨a,λhh=>hh.elim b c⟩
  ·rintro⟨a,b⟩;exact⟨⟨a,λhh=>b (.inl hh)⟩,λhh=>b (.inr hh)⟩
 have hS:∀w,has (iand .u32 (F.getD v 0) (iandNot .u32 left (ishl .u32 1 (v:Int)))) w=(nb F v w&&decide ((w:Int)∉o.take (i+1))):=λw=>by
  rw[Cv (h.f.vs v hvn) (VS.iandNot _ _),hleft,Bool.eq_iff_iff]
  show (nb F v w&&_)=true↔_
  simp only[Bool.and_eq_true,decide_eq_true_eq]
  exact⟨fun⟨a,b,c⟩=>⟨a,c⟩,fun⟨a,c⟩=>⟨a,h.f.lt v w hvn a,c⟩⟩
 have hlV:VS (iandNot .u32 left (ishl .u32 1 (v:Int))):=VS.iandNot _ _
 generalize iandNot .u32 left (ishl .u32 1 (v:Int))=left' at*
 generalize hSS:iand .u32 (F.getD v 0) left'=S at*
 have hSV:VS S:=by rw[←hSS];exact VS.iand _ _
 have hSlt:∀w,has S w=true→w<n∧(w:Int)∉o.take (i+1):=λw hw=>by
  rw[hS] at hw
  simp only[Bool.and_eq_true,decide_eq_true_eq] at hw
  exact⟨h.f.lt v w hvn hw.1,hw.2⟩
 have hmono:∀u w,u<n→nb F u w=true→nb F' u w=true:=λu w hu hh=>by rw[h' u w hu,hh];rfl
 have hold:∀x:Nat,x<n→(x:Int)∈o.take (i+1)→∀w,nb F' x w=nb F x w:=λx hx hm w=>by
  rw[h' x w hx]
  have:has S x=false:=by
   cases hc:has S x
   ·rfl
   ·exact absurd hm (hSlt x hc).2
  simp[this]
 have hf':FOk F' n:=by
  refine⟨hl',hv',λu w hu hh=> ?_,λu hu=> ?_,λu w hu hh=> ?_⟩
  ·rw[h' u w hu] at hh
   simp only[Bool.or_eq_true,Bool.and_eq_true] at hh
   rcases hh with hh|⟨⟨_,hh⟩,_⟩
   ·exact h.f.lt u w hu hh
   ·exact(hSlt w hh).1
  ·rw[h' u u hu,h.f.irr u hu];simp
  ·rw[h' u w hu] at hh
   simp only[Bool.or_eq_true,Bool.and_eq_true,decide_eq_true_eq] at hh
   rcases hh with hh|⟨⟨h1,h2⟩,h3⟩
   ·exact hmono w u (h.f.lt u w hu hh) (h.f.sym u w hu hh)
   ·rw[h' w u (hSlt w h2).1,h1,h2]
    have:decide (u≠w)=true:=by simpa using λe=>h3 e.symm
    simp[this]
 have hjv:∀j (x:Nat),o[j]? =some (x:Int)→j<o.length∧x<n∧(x:Int)∈o.take (j+1):=λj x hx=>by
  obtain⟨h1,h2⟩:=List.getElem?_eq_some_iff.1 hx
  have:=hn _ (List.getElem_mem h1)
  refine⟨h1,by omega,?_⟩
  rw[mem_take_iff];exact⟨j,h1,by omega,h2⟩
 refine⟨hf',by simp[h.lenL],λu hu=> ?_,hlV,hleft,λu w hu hh=>hmono u w hu (h.mono u w hu hh),λj x hj hx w=> ?_,λj x u w hj hx h1 h2 h3 h4 h5=> ?_,λhp=> ?_,λu w hu k1 k2 huw=> ?_,λj x hj hx w=> ?_⟩
 ·rw[getD_set _ _ _ _ (by rw[h.lenL];exact hvn)]
  split
  ·exact hSV
  ·exact h.vsL u hu
 ·obtain⟨k1,k2,k3⟩:=hjv j x hx
  have k4:=CG (show j+1≤i+1 by omega) k3
  rw[hold x k2 k4 w]
  unfold nb
  rw[getD_set _ _ _ _ (by rw[h.lenL];exact hvn)]
  by_cases hji:j=i
  ·subst hji
   rw[List.getElem?_eq_getElem hi,hv] at hx
   have:x=v:=by
    have:(v:Int)=(x:Int):=by simpa using hx
    omega
   subst this
   rw[if_pos rfl,hS];rfl
  ·have hne:x≠v:=λe=>by
    subst e
    exact hvt (CG (show j+1≤i by omega) k3)
   rw[if_neg hne]
   exact h.lat j x (by omega) hx w
 ·obtain⟨k1,k2,k3⟩:=hjv j x hx
  have k4:=CG (show j+1≤i+1 by omega) k3
  rw[hold x k2 k4] at h1 h2
  by_cases hji:j=i
  ·subst hji
   rw[List.getElem?_eq_getElem hi,hv] at hx
   have:x=v:=by
    have:(v:Int)=(x:Int):=by simpa using hx
    omega
   subst this
   have hu:has S u=true:=by rw[hS,h1];simpa using h3
   have hw:has S w=true:=by rw[hS,h2];simpa using h4
   rw[h' u w (hSlt u hu).1,hu,hw]
   have:decide (w≠u)=true:=by simpa using λe=>h5 e.symm
   simp[this]
  ·exact hmono u w (h.f.lt x u k2 h1) (h.peo j x u w (by omega) hx h1 h2 h3 h4 h5)
 ·have hFF:=h.same hp
  subst hFF
  refine FOk.ext hl' h.f.len hv' h.f.vs (λu w hu=> ?_)
  rw[h' u w hu,Bool.eq_iff_iff]
  simp only[Bool.or_eq_true,Bool.and_eq_true,decide_eq_true_eq]
  constructor
  ·rintro(hh|⟨⟨h1,h2⟩,h3⟩)
   ·exact hh
   ·have k1:=(hSlt u h1).2;have k2:=(hSlt w h2).2
    rw[hS] at h1 h2
    simp only[Bool.and_eq_true] at h1 h2
    exact hp i v u w (by rw[List.getElem?_eq_getElem hi,hv]) h1.1 h2.1 k1 k2 (λe=>h3 e.symm)
  ·exact .inl
 ·have q1:(u:Int)∉o.take i:=λe=>k1 ((htk u).2 (.inl e))
  have q2:(w:Int)∉o.take i:=λe=>k2 ((htk w).2 (.inl e))
  have huv:u≠v:=λe=>k1 ((htk u).2 (.inr e))
  have hwv:w≠v:=λe=>k2 ((htk w).2 (.inr e))
  have hgg:∀y:Nat,(y:Int)∈o.take i→(y:Int)∈o.take (i+1):=λy hy=>(htk y).2 (.inl hy)
  rw[h' u w hu]
  simp only[Bool.or_eq_true,Bool.and_eq_true,decide_eq_true_eq]
  constructor
  ·rintro(hh|⟨⟨a1,a2⟩,_⟩)
   ·obtain⟨x,hx,e⟩:=(h.via u w hu q1 q2 huw).1 hh
    exact⟨x,hx.mono hgg,e⟩
   ·rw[hS] at a1 a2
    simp only[Bool.and_eq_true,decide_eq_true_eq] at a1 a2
    obtain⟨x,hx,ex⟩:=(h.via v u hvn hvt q1 (λe=>huv e.symm)).1 a1.1
    obtain⟨y,hy,ey⟩:=(h.via v w hvn hvt q2 (λe=>hwv e.symm)).1 a2.1
    have hvg:(v:Int)∈o.take (i+1):=(htk v).2 (.inr rfl)
    have hxn:=Via.lt h0 hvn hx
    have hxg:(x:Int)∈o.take (i+1):=by
     rcases hx.end_ with e|e
     ·rw[e];exact hvg
     ·exact hgg x e
    have hux:Via F0 (λx=>(x:Int)∈o.take (i+1)) u x:= .step .me (h0.sym x u hxn ex) hxg
    have huv':=Via.back h0 (g':=λx=>(x:Int)∈o.take (i+1)) hgg hvn hvg hx u hux
    have hgo:∀y,Via F0 (λx=>(x:Int)∈o.take i) v y→Via F0 (λx=>(x:Int)∈o.take (i+1)) u y:=λy hy=>by
     induction hy with
     |me=>exact huv'
     |step _ b1 b2 ih=>exact .step ih b1 (hgg _ b2)
    exact⟨y,hgo y hy,ey⟩
  ·rintro⟨x,hx,ex⟩
   have hcl:∀x,Via F0 (λx=>(x:Int)∈o.take (i+1)) u x→Via F0 (λx=>(x:Int)∈o.take i) u x∨(Bhd F0 (λx=>(x:Int)∈o.take i) u v∧Via F0 (λx=>(x:Int)∈o.take i) v x):=λx hx=>by
    induction hx with
    |me=>exact .inl .me
    | @step a b _ b1 b2 ih=>
     rcases(htk b).1 b2 with b2|b2
     ·rcases ih with ih|⟨ih1,ih2⟩
      ·exact .inl (.step ih b1 b2)
      ·exact .inr ⟨ih1,.step ih2 b1 b2⟩
     ·rcases ih with ih|⟨ih1,ih2⟩
      ·subst b2;exact .inr ⟨⟨a,ih,b1⟩,.me⟩
      ·subst b2;exact .inr ⟨ih1,.me⟩
   rcases hcl x hx with hx|⟨hx1,hx2⟩
   ·exact .inl ((h.via u w hu q1 q2 huw).2 ⟨x,hx,ex⟩)
   ·right
    have a1:=(h.via u v hu q1 hvt huv).2 hx1
    have a2:=(h.via v w hvn hvt q2 (λe=>hwv e.symm)).2 ⟨x,hx2,ex⟩
    refine⟨⟨?_,?_⟩,λe=>huw e.symm⟩
    ·rw[hS,h.f.sym u v hu a1];simpa using k1
    ·rw[hS,a2];simpa using k2
 ·obtain⟨k1,k2,k3⟩:=hjv j x hx
  unfold nb
  rw[getD_set _ _ _ _ (by rw[h.lenL];exact hvn)]
  by_cases hji:j=i
  ·subst hji
   rw[List.getElem?_eq_getElem hi,hv] at hx
   have:x=v:=by
    have:(v:Int)=(x:Int):=by simpa using hx
    omega
   subst this
   rw[if_pos rfl,hS,Bool.and_eq_true,decide_eq_true_eq]
   constructor
   ·rintro⟨b1,b2⟩
    have b3:(w:Int)∉o.take j:=λe=>b2 ((htk w).2 (.inl e))
    have b4:x≠w:=λe=>b2 ((htk w).2 (.inr e.symm))
    exact⟨b2,(h.via x w hvn hvt b3 b4).1 b1⟩
   ·rintro⟨b2,b1⟩
    have b3:(w:Int)∉o.take j:=λe=>b2 ((htk w).2 (.inl e))
    have b4:x≠w:=λe=>b2 ((htk w).2 (.inr e.symm))
    exact⟨(h.via x w hvn hvt b3 b4).2 b1,b2⟩
  ·have hne:x≠v:=λe=>by
    subst e
    exact hvt (CG (show j+1≤i by omega) k3)
   rw[if_neg hne]
   exact h.latb j x (by omega) hx w
def cnt (n k:Nat):Nat:=((List.range k).filter (λi=>n.testBit i)).length
theorem cnt_add (n a b:Nat):cnt n (a+b)=cnt n a+cnt (n>>>a) b:=by
 unfold cnt
 rw[List.range_add,List.filter_append,List.length_append,List.filter_map,List.length_map]
 congr 2
 apply List.filter_congr
 intro i _
 simp[Nat.testBit_shiftRight]
theorem cnt_mod (n k:Nat):cnt (n%2^k) k=cnt n k:=by
 unfold cnt
 congr 1
 apply List.filter_congr
 intro i hi
 have:=List.mem_range.1 hi
 rw[Nat.testBit_mod_two_pow];simp[this]
theorem elems_length (n:Nat):(Am (n:Int)).length=cnt n 32:=by
 unfold Am cnt
 rw[List.length_map]
 rfl
theorem pop_all :∀b:Fin 256,DC DS (b.val:Int)=some ((cnt b.val 8:Nat):Int):=by decide+kernel
theorem pop_at {b:Nat}(h:b<256):DC DS (b:Int)=some ((cnt b 8:Nat):Int):=pop_all ⟨b,h⟩
theorem cnt_le (n k:Nat):cnt n k≤k:=by
 unfold cnt
 exact Nat.le_trans (List.length_filter_le _ _) (by simp)
theorem wrap8 {x:Int}(h0:0≤x)(h:x<256):IntKind.u8.wrap x=x:=by
 simp[IntKind.wrap,IntKind.signed,IntKind.bits];omega
theorem OnesCount32_eq {s:Int}(h:VS s):D.g0 s=some ((Am s).length:Int):=by
 obtain⟨n,rfl,hn⟩:=h.nat
 have s24:Bq .u32 (n:Int) 24=((n>>>24:Nat):Int):=shr_eq (n:Int) 24 h (by omega)
 have s16:Bq .u32 (n:Int) 16=((n>>>16:Nat):Int):=shr_eq (n:Int) 16 h (by omega)
 have s8:Bq .u32 (n:Int) 8=((n>>>8:Nat):Int):=shr_eq (n:Int) 8 h (by omega)
 have lt:∀k,n>>>k<4294967296:=λk=>by
  rw[Nat.shiftRight_eq_div_pow];exact Nat.lt_of_le_of_lt (Nat.div_le_self _ _) hn
 have a255:∀m:Nat,m<4294967296→iand .u32 (m:Int) 255=((m%256:Nat):Int):=λm hm=>by
  have:=Dq hm (show (255:Nat)<4294967296 by omega)
  rw[show ((255:Nat):Int)=255 from rfl] at this
  rw[this]
  congr 1
  exact Nat.and_two_pow_sub_one_eq_mod (n:=8) m
 have h24:n>>>24<256:=by rw[Nat.shiftRight_eq_div_pow];exact Nat.div_lt_of_lt_mul (by simpa using hn)
 have ec:cnt n 32=cnt (n%256) 8+cnt (n>>>8%256) 8+cnt (n>>>16%256) 8+cnt (n>>>24) 8:=by
  rw[show (32:Nat)=8+(8+(8+8)) from rfl,cnt_add n 8,cnt_add _ 8,cnt_add _ 8]
  have e1:=cnt_mod n 8;have e2:=cnt_mod (n>>>8) 8;have e3:=cnt_mod (n>>>16) 8
  simp only[show (2:Nat)^8=256 from rfl] at e1 e2 e3
  rw[e1,e2,e3]
  simp only[←Nat.shiftRight_add,Nat.reduceAdd]
  omega
 unfold D.g0
 rw[s24,s16,s8,a255 _ (lt 16),a255 _ (lt 8),a255 n hn,pop_at h24,pop_at (Nat.mod_lt _ (by omega)),pop_at (Nat.mod_lt _ (by omega)),pop_at (Nat.mod_lt _ (by omega))]
 simp only[bs]
 have c1:=cnt_le (n>>>24) 8;have c2:=cnt_le (n>>>16%256) 8;have c3:=cnt_le (n>>>8%256) 8;have c4:=cnt_le (n%256) 8
 generalize cnt (n>>>24) 8=a at*;generalize cnt (n>>>16%256) 8=b at*;generalize cnt (n>>>8%256) 8=c at*;generalize cnt (n%256) 8=d at*
 rw[wrap8 (x:=(a:Int)+b) (by omega) (by omega),wrap8 (x:=(a:Int)+b+c) (by omega) (by omega),wrap8 (x:=(a:Int)+b+c+d) (by omega) (by omega),w64 (by omega) (by omega),elems_length,ec]
 congr 1
 omega
theorem size_eq {s:Int}(h:VS s):D.a0 s=some ((Am s).length:Int):=by
 unfold D.a0;rw[OnesCount32_eq h];rfl
def cz :LI→LI→Int
 |[],[]=>0
 |[],_::_=> -1
 |_::_,[]=>1
 |a::x,b::y=>if a<b then-1 else if b<a then 1 else cz x y
theorem cz_range :∀x y,cz x y= -1∨cz x y=0∨cz x y=1
 |[],[]=> .inr (.inl rfl)
 |[],_::_=> .inl rfl
 |_::_,[]=> .inr (.inr rfl)
 |a::x,b::y=>by
  unfold cz
  split
  ·exact .inl rfl
  ·split
   ·exact .inr (.inr rfl)
   ·exact cz_range x y
theorem cmp_int (a b:Int):D.Q a b=some (if a<b then-1 else if b<a then 1 else 0):=by
 unfold D.Q D.S
 simp only[bne_self_eq_false,bs,cond_false]
 by_cases h:a<b
 ·simp[h]
 ·by_cases h2:b<a<;>simp[h,h2]
theorem compare_eq (x y:LI)(hx:Sh x)(hy:Sh y):D.t0 x y=some (cz x y):=by
 unfold Sh at hx hy
 unfold D.t0
 have key:∀(K:Unit ⊕ Int→Option Int),K (.inl ())=cond (decide ((x.length:Int)<(y.length:Int))) (some (-1)) (some 0)→(∀z,K (.inr z)=some z)→∀(k i:Nat),i+k=x.length→(i≤y.length)→(Ao (σ:=Int) (ρ:=(Unit) ⊕ (Int)) (fun(x_54:Int)=>cond (decide (x_54<(x.length:Int))) ((idx x x_54).bind λe_81=>cond (decide ((y.length:Int)≤x_54)) (some (.inr (.inr 1))) ((idx y x_54).bind λe_88=>(D.Q e_81 e_88).bind λy_94=>cond (y_94 !=0) (some (.inr (.inr y_94))) (some (.inl (IntKind.i64.wrap (x_54+1)))))) (some (.inr (.inl ())))) (i:Int)).bind K=some (cz (x.drop i) (y.drop i)):=by
  intro K hK1 hK2 k
  induction k with
  |zero=>
   intro i hi hiy
   obtain rfl:i=x.length:=by omega
   rw[AV (r:=Sum.inl ()) (by simp only[Bg,cond_false])]
   simp only[bs,List.drop_length,hK1]
   by_cases h:x.length<y.length
   ·have e:decide ((x.length:Int)<(y.length:Int))=true:=by simp;omega
    rw[e,cond_true,List.drop_eq_getElem_cons h];rfl
   ·have e:decide ((x.length:Int)<(y.length:Int))=false:=by simp;omega
    rw[e,cond_false,List.drop_eq_nil_of_le (by omega)];rfl
  |succ k ih=>
   intro i hi hiy
   have hix:i<x.length:=by omega
   by_cases h:i<y.length
   ·have e:decide ((y.length:Int)≤(i:Int))=false:=by simp;omega
    rw[List.drop_eq_getElem_cons hix,List.drop_eq_getElem_cons h]
    by_cases h1:x[i]<y[i]
    ·rw[AV (r:=Sum.inr (-1)) (by simp only[dlt hix,cond_true,AB hix,AB h,bs,e,cond_false,cmp_int,h1,if_true];rfl),bs,hK2]
     simp[cz,h1]
    ·by_cases h2:y[i]<x[i]
     ·rw[AV (r:=Sum.inr 1) (by simp only[dlt hix,cond_true,AB hix,AB h,bs,e,cond_false,cmp_int,h1,h2,if_true,if_false];rfl),bs,hK2]
      simp[cz,h1,h2]
     ·rw[Bi (s':=((i+1:Nat):Int)) (by simp only[dlt hix,cond_true,AB hix,AB h,bs,e,cond_false,cmp_int,h1,h2,if_false,wq i];rfl),ih (i+1) (by omega) (by omega)]
      simp[cz,h1,h2]
   ·obtain rfl:i=y.length:=by omega
    have e:decide ((y.length:Int)≤(y.length:Int))=true:=by simp
    rw[AV (r:=Sum.inr 1) (by simp only[dlt hix,cond_true,AB hix,bs,e]),bs,hK2]
    simp only[List.drop_length]
    rw[List.drop_eq_getElem_cons hix];rfl
 exact key _ rfl (λ_=>rfl) x.length 0 (by omega) (by omega)
def lk :Nat→LI→Int
 |0,_=>0
 |_+1,[]=>0
 |d+1,a::l=>(a+1)*33^d+lk d l
theorem pow33 (d:Nat):(1:Int)≤33^d:=by
 have:(0:Int)<33^d:=Int.pow_pos (by omega)
 omega
theorem Du :∀(d:Nat) (l:LI),(∀x∈l,0≤x∧x<32)→0≤lk d l∧lk d l<33^d
 |0,l,_=>by simp[lk]
 |d+1,[],_=>by have:=pow33 (d+1);simp only[lk];omega
 |d+1,a::l,h=>by
  have h1:=Du d l (λx hx=>h x (List.mem_cons_of_mem _ hx))
  have ha:=h a (by simp)
  have hp:=pow33 d
  simp only[lk]
  generalize hq:(33:Int)^d=p at*
  have e:(33:Int)^(d+1)=p*33:=by rw[←hq,Int.pow_succ]
  rw[e]
  have h2:(a+1)*p≤32*p:=Int.mul_le_mul_of_nonneg_right (by omega) (by omega)
  have h3:0≤(a+1)*p:=Int.mul_nonneg (by omega) (by omega)
  omega
theorem lk_cmp :∀(d:Nat) (x y:LI),x.length≤d→y.length≤d→(∀z∈x,0≤z∧z<32)→(∀z∈y,0≤z∧z<32)→(cz x y<0↔lk d x<lk d y)
 |d,[],[],_,_,_,_=>by cases d<;>simp[cz,lk]
 |0,_::_,_,h,_,_,_=>by simp at h
 |0,_,_::_,_,h,_,_=>by simp at h
 |d+1,[],b::y,_,h,_,hy=>by
  have h1:=Du d y (λx hx=>hy x (List.mem_cons_of_mem _ hx))
  have hb:=hy b (by simp)
  have hp:=pow33 d
  simp only[cz,lk]
  have h3:1*(33:Int)^d≤(b+1)*33^d:=Int.mul_le_mul_of_nonneg_right (by omega) (by omega)
  constructor
  ·intro _;omega
  ·intro _;omega
 |d+1,a::x,[],h,_,hx,_=>by
  have h1:=Du d x (λz hz=>hx z (List.mem_cons_of_mem _ hz))
  have ha:=hx a (by simp)
  have hp:=pow33 d
  simp only[cz,lk]
  have h3:1*(33:Int)^d≤(a+1)*33^d:=Int.mul_le_mul_of_nonneg_right (by omega) (by omega)
  constructor
  ·intro hc;omega
  ·intro hc;omega
 |d+1,a::x,b::y,hlx,hly,hx,hy=>by
  have ih:=lk_cmp d x y (by simpa using hlx) (by simpa using hly) (λz hz=>hx z (List.mem_cons_of_mem _ hz)) (λz hz=>hy z (List.mem_cons_of_mem _ hz))
  have h1:=Du d x (λz hz=>hx z (List.mem_cons_of_mem _ hz))
  have h2:=Du d y (λz hz=>hy z (List.mem_cons_of_mem _ hz))
  have hp:=pow33 d
  simp only[cz,lk]
  by_cases hab:a<b
  ·rw[if_pos hab]
   have h3:(a+1+1)*(33:Int)^d≤(b+1)*33^d:=Int.mul_le_mul_of_nonneg_right (by omega) (by omega)
   have h4:(a+1+1)*(33:Int)^d=(a+1)*33^d+33^d:=by rw[Int.add_mul (a+1) 1,Int.one_mul]
   constructor
   ·intro _;omega
   ·intro _;omega
  ·by_cases hba:b<a
   ·rw[if_neg hab,if_pos hba]
    have h3:(b+1+1)*(33:Int)^d≤(a+1)*33^d:=Int.mul_le_mul_of_nonneg_right (by omega) (by omega)
    have h4:(b+1+1)*(33:Int)^d=(b+1)*33^d+33^d:=by rw[Int.add_mul (b+1) 1,Int.one_mul]
    constructor
    ·intro hc;omega
    ·intro hc;omega
   ·rw[if_neg hab,if_neg hba]
    obtain rfl:a=b:=by omega
    rw[ih];omega
theorem cz_zero :∀x y,cz x y=0↔x=y
 |[],[]=>by simp[cz]
 |[],_::_=>by simp[cz]
 |_::_,[]=>by simp[cz]
 |a::x,b::y=>by
  unfold cz
  by_cases h:a<b
  ·simp[h];omega
  ·by_cases h2:b<a
   ·simp[h,h2];omega
   ·obtain rfl:a=b:=by omega
    simp[cz_zero x y]
theorem cz_anti :∀x y,cz y x= -cz x y
 |[],[]=>rfl
 |[],_::_=>rfl
 |_::_,[]=>rfl
 |a::x,b::y=>by
  unfold cz
  by_cases h:a<b
  ·have h2:¬b<a:=by omega
   simp[h,h2]
  ·by_cases h2:b<a
   ·simp[h,h2]
   ·simp[h,h2,cz_anti x y]
theorem lk_inj {d:Nat}{x y:LI}(hx:x.length≤d)(hy:y.length≤d)(h1:∀z∈x,0≤z∧z<32)(h2:∀z∈y,0≤z∧z<32)(h:lk d x=lk d y):x=y:=by
 have a:=lk_cmp d x y hx hy h1 h2
 have b:=lk_cmp d y x hy hx h2 h1
 rw[cz_anti x y] at b
 rw[←cz_zero]
 rcases cz_range x y with e|e|e<;>omega
theorem DD (s:Int):∀z∈Am s,0≤z∧z<32:=λz hz=>by
 obtain⟨v,h1,_,rfl⟩:=mem_elems.1 hz;omega
def lkey (s:Int):Int:=lk 32 (Am s)
def skey (s:Int):Int:=((Am s).length:Int)*33^32+lkey s
theorem elems_inj {s t:Int}(hs:VS s)(ht:VS t)(h:Am s=Am t):s=t:=by rw[←mk_elems hs,←mk_elems ht,h]
theorem lkey_inj {s t:Int}(hs:VS s)(ht:VS t)(h:lkey s=lkey t):s=t:=
 elems_inj hs ht (lk_inj (Bl s) (Bl t) (DD s) (DD t) h)
theorem compareSets_eq {s t:Int}(hs:VS s)(ht:VS t):D.a s t=some (cz (Am s) (Am t)):=by
 unfold D.a
 rw[Cz s hs,bs,Cz t ht,bs,compare_eq _ _ (elems_sh s) (elems_sh t)]
 rfl
noncomputable abbrev byLex :Gs.Srtd Int where
 dflt:=0
 key:=lkey
 good:=VS
 cmp:=D.a
 law:=λs t hs ht=>⟨_,compareSets_eq hs ht,by rw[decide_eq_decide];exact lk_cmp 32 _ _ (Bl s) (Bl t) (DD s) (DD t)⟩
theorem Ey {k:Int→Int}:∀{l l':LI},l.Pairwise (λa b=>k a<k b)→l'.Pairwise (λa b=>k a<k b)→(∀x,x∈l↔x∈l')→l=l'
 |[],[],_,_,_=>rfl
 |[],y::l',_,_,h=>by have:=(h y).2 (by simp);simp at this
 |x::l,[],_,_,h=>by have:=(h x).1 (by simp);simp at this
 |x::l,y::l',h1,h2,h=>by
  have h1':=List.pairwise_cons.1 h1;have h2':=List.pairwise_cons.1 h2
  have e:x=y:=by
   rcases List.mem_cons.1 ((h x).1 (by simp)) with e|e
   ·exact e
   ·rcases List.mem_cons.1 ((h y).2 (by simp)) with e'|e'
    ·exact e'.symm
    ·have:=h2'.1 x e;have:=h1'.1 y e';omega
  subst e
  have:l=l':=by
   refine Ey h1'.2 h2'.2 (λz=> ?_)
   constructor
   ·intro hz
    rcases List.mem_cons.1 ((h z).1 (List.mem_cons_of_mem _ hz)) with e|e
    ·subst e;have:=h1'.1 z hz;omega
    ·exact e
   ·intro hz
    rcases List.mem_cons.1 ((h z).2 (List.mem_cons_of_mem _ hz)) with e|e
    ·subst e;have:=h2'.1 z hz;omega
    ·exact e
  rw[this]
theorem sorted_rise (I:Gs.Srtd Int)(hinj:∀x y,I.good x→I.good y→I.key x=I.key y→x=y)(l:LI)(hG:∀x∈l,I.good x)(hn:l.Nodup)(hlen:l.length≤1000000):
  ∃l',DG.Sort I.cmp l=some l'∧List.Perm l' l∧l'.Pairwise (λa b=>I.key a<I.key b):=by
 obtain⟨l',e,hp,hs⟩:= @Gs.sort_spec Int I l hG hlen
 refine⟨l',e,hp,?_⟩
 rw[List.pairwise_iff_getElem]
 intro i j hi hj hij
 have h:=hs i j (by omega) (by omega) (by omega)
 unfold Gs.at' Gs.el at h
 rw[Int.toNat_natCast,Int.toNat_natCast,Au hi,Au hj] at h
 have hne:l'[i]≠l'[j]:=λe=>by
  have hn':=hp.nodup_iff.2 hn
  have:=(List.nodup_iff_pairwise_ne.1 hn')
  exact(List.pairwise_iff_getElem.1 this) i j hi hj hij e
 have g1:=hG _ (hp.mem_iff.1 (List.getElem_mem hi))
 have g2:=hG _ (hp.mem_iff.1 (List.getElem_mem hj))
 have hk:I.key l'[i]≠I.key l'[j]:=λe=>hne (hinj _ _ g1 g2 e)
 omega
theorem Cb :D.x0=DG.insertionSort D.a:=by kernel_rfl
theorem Cp :D.D0=DG.heapSort D.a:=by kernel_rfl
theorem Ca :D.K0=DG.breakPatterns D.a:=by kernel_rfl
theorem Cf :D.z0=DG.choosePivot D.a:=by kernel_rfl
theorem Ce :D.E0=DG.reverseRange D.a:=by kernel_rfl
theorem BX :D.L0=DG.partialInsertionSort D.a:=by kernel_rfl
theorem B9 :D.w0=DG.partitionEqual D.a:=by kernel_rfl
theorem Cm :D.H0=DG.partition D.a:=by kernel_rfl
theorem BO :∀(n:Nat) x a b c,D.A n x a b c=DG.pdqsortR D.a n x a b c
 |0,_,_,_,_=>rfl
 |n+1,x,a,b,c=>by
  unfold D.A DG.pdqsortR
  rw[Cb,Cp,Ca,Cf,Ce,BX,B9,Cm,funext (λx=>funext λa=>funext λb=>funext λc=>BO n x a b c)]
  kernel_rfl
theorem CX (x):D.b0 x=DG.Sort D.a x:=by
 unfold D.b0 DG.Sort D.g DG.pdqsort
 simp only[BO]
theorem BC :∀{l m:LI},l.Nodup→(∀x∈l,x∈m)→l.length≤m.length
 |[],_,_,_=>by simp
 |x::l,m,h,hs=>by
  have h':=List.nodup_cons.1 h
  have hx:=hs x (by simp)
  have:=BC (l:=l) (m:=m.erase x) h'.2 (λy hy=>by
   have hne:y≠x:=λe=>h'.1 (e▸hy)
   exact(List.mem_erase_of_ne hne).2 (hs y (by simp[hy])))
  rw[List.length_erase_of_mem hx] at this
  have hp:0<m.length:=List.length_pos_of_mem hx
  simp;omega
theorem nodup_all {l m:LI}(hl:l.Nodup)(hm:m.Nodup)(h:∀x∈l,x∈m)(h':∀x∈m,x∈l):l.length=m.length:=
 Nat.le_antisymm (BC hl h) (BC hm h')
theorem Inc.nodup {l:LI}(h:Inc l):l.Nodup:=List.Pairwise.imp (λh e=>by omega) h
theorem l1All_eq (n:Nat)(hn:n≤4294967295):D.e1 (n:Int)=some ((List.range n).map Int.ofNat):=by
 unfold D.e1
 refine(C4 (λi=>((List.range i).map Int.ofNat,(i:Int))) n ((List.range n).map Int.ofNat) (by simp) (λi hi=> ?_) ?_).trans rfl
 ·simp only[dlt hi,cond_true,wq i]
  rw[Be (by simp;omega),bs,List.range_succ,List.map_append];rfl
 ·simp only[Bg,cond_false]
theorem l8Meet_eq (a b:LI)(ha:Sh a)(hb:Sh b):D.Y0 a b=some (a.filter λx=>decide (x∈b)):=by
 unfold Sh at ha
 unfold D.Y0
 have key:∀(k i:Nat),i+k=a.length→∃y,(Ao (σ:=LI×Int) (ρ:=(LI)) (fun(s_78:LI×Int)=>match s_78 with|(l_81,x_86)=>cond (decide (x_86<(a.length:Int))) ((idx a x_86).bind λe_127=>(D.q b e_127).bind λy_133=>cond y_133 ((idx a x_86).bind λe_141=>(AH l_81 ([e_141]:LI)).bind λl_151=>some (.inl (l_151,(IntKind.i64.wrap (x_86+1))))) (some (.inl (l_81,(IntKind.i64.wrap (x_86+1)))))) (some (.inr l_81))) ((a.take i).filter (λx=>decide (x∈b)),(i:Int)))=some y∧y=a.filter λx=>decide (x∈b):=by
  intro k
  induction k with
  |zero=>
   intro i hi
   obtain rfl:i=a.length:=by omega
   rw[List.take_length]
   exact⟨_,AV (by simp only[Bg,cond_false]),rfl⟩
  |succ k ih=>
   intro i hi
   have hil:i<a.length:=by omega
   obtain⟨y,h1,h2⟩:=ih (i+1) (by omega)
   refine⟨y,?_,h2⟩
   rw[Bi]
   ·exact h1
   ·have hlen:((a.take i).filter (λx=>decide (x∈b))).length≤i:=Nat.le_trans (List.length_filter_le _ _) (by simp;omega)
    rw[List.take_succ_eq_append_getElem hil,List.filter_append]
    simp only[dlt hil,cond_true,AB hil,bs,D5 b _ hb,wq i]
    by_cases hc:a[i]∈b
    ·simp only[hc,decide_true,cond_true,List.filter_cons,if_true,List.filter_nil]
     rw[Be (by simp;omega)];rfl
    ·simp[hc]
 obtain⟨y,h1,rfl⟩:=key a.length 0 (by omega)
 simp only[List.take_zero,List.filter_nil] at h1
 rw[show ((0:Nat):Int)=0 from rfl] at h1
 rw[h1];rfl
def withV (bags:LL)(v:Int):LI:=((List.range bags.length).filter λb=>decide (v∈bags.getD b [])).map Int.ofNat
def Lk (links:LL)(x y:Int):Prop:=[x,y]∈links∨[y,x]∈links
structure Closed (links:LL)(sel m:LI):Prop where
 sub:∀x∈m,x∈sel
 first:∀x,sel.head? =some x→x∈m
 step:∀x∈m,∀y∈sel,Lk links x y→y∈m
def Conn (links:LL)(sel:LI):Prop:=∀m,Closed links sel m→∀x∈sel,x∈m
def LinkIn (n:Nat)(l:LI):Prop:=∃a b:Nat,l=[(a:Int),(b:Int)]∧a<b∧b<n
structure TB (g bags links:LL):Prop where
 n1:1≤bags.length
 n16:bags.length≤16
 many:links.length+1=bags.length
 lks:∀l∈links,LinkIn bags.length l
 sets:∀b∈bags,SetOf b g.length
 tree:Conn links ((List.range bags.length).map Int.ofNat)
 edges:∀u v:Nat,u<g.length→adj g u v→∃b∈bags,(u:Int)∈b∧(v:Int)∈b
 some:∀v,v<g.length→withV bags v≠[]
 conn:∀v,v<g.length→Conn links (withV bags v)
theorem GOk.sh2 {g:LL}(hg:GOk g):Sh2 g:=by
 have h16:=hg.n16
 exact⟨by unfold Sh;omega,λr hr=>by have:=(hg.mem0 hr).1;unfold Sh;omega⟩
theorem BY {g:LL}(hg:GOk g):gB g=true:=(gB_iff g).2 hg
theorem nets_graph_eq (F:LI)(h:F.length≤16)(hV:∀u,u<F.length→VS (F.getD u 0)):D.V F=some (grow F):=by
 unfold D.V
 refine(Dr F (λs i=>(i,s)) Am (by omega) (λs i hi _=> ?_) (λs=> ?_)).trans rfl
 ·have:=hV i hi
  rw[Au hi] at this
  simp only[dlt hi,cond_true,AB hi,bs,DW _ this,wq i]
 ·simp only[Bg,cond_false]
theorem OOk.sh {g:LL}{o:LI}(hg:GOk g)(ho:OOk g o):Sh o:=by
 have:=hg.n16;have:=ho.len;unfold Sh;omega
structure Fill (g:LL)(o F L:LI):Prop where
 elim:D.l1 (g.map mk) o=some (F,L)
 f:FOk F g.length
 lenL:L.length=g.length
 vsL:∀u,u<g.length→VS (L.getD u 0)
 mono:∀u w,u<g.length→adj g u w→nb F u w=true
 lat:Lat F L o g.length
 peo:PEO F o
 same:PEO (g.map mk) o→F=g.map mk
 latb:∀(j:Nat) (v:Nat),o[j]? =some (v:Int)→∀w:Nat,nb L v w=true↔(w:Int)∉o.take (j+1)∧Bhd (g.map mk) (λx=>(x:Int)∈o.take j) v w
theorem Dt (F:LI):(grow F).length=F.length:=by simp[grow]
theorem place' {g:LL}{o:LI}(ho:OOk g o){v:Nat}(hv:v<g.length):∃i:Nat,i<g.length∧o[i]? =some (v:Int):=by
 have hsub:∀x∈o,x∈(List.range g.length).map Int.ofNat:=λx hx=>by
  have:=ho.rng x hx
  exact List.mem_map.2 ⟨x.toNat,List.mem_range.2 (by omega),by show ((x.toNat:Nat):Int)=x;omega⟩
 by_cases hm:(v:Int)∈o
 ·obtain⟨i,hi,e⟩:=List.getElem_of_mem hm
  exact⟨i,by have:=ho.len;omega,by rw[List.getElem?_eq_getElem hi,e]⟩
 ·exfalso
  have h1:((v:Int)::o).length≤((List.range g.length).map Int.ofNat).length:=BC (List.nodup_cons.2 ⟨hm,ho.nd⟩) (λx hx=>by
   rcases List.mem_cons.1 hx with rfl|hx
   ·exact List.mem_map.2 ⟨v,List.mem_range.2 hv,rfl⟩
   ·exact hsub x hx)
  have:=ho.len
  simp at h1
  omega
theorem least_of {P:Nat→Prop}(h:∃j,P j):∃j,P j∧∀i,i<j→¬P i:=by
 obtain⟨j,hj⟩:=h
 induction j using Nat.strongRecOn with
 |ind j ih=>
  by_cases hc:∃i,i<j∧P i
  ·obtain⟨i,h1,h2⟩:=hc;exact ih i h1 h2
  ·exact⟨j,hj,λi hi hp=>hc ⟨i,hi,hp⟩⟩
theorem EK {α:Type}(p:α→Bool){l:List α}{i:Nat}(hi:i<l.length):(l.take (i+1)).filter p=(l.take i).filter p++(if p l[i] then [l[i]] else []):=by
 rw[List.take_succ_eq_append_getElem hi,List.filter_append]
 congr 1
 rw[List.filter_cons,List.filter_nil]
def lft (g:LL)(v:Nat)(gone:List Bool):LI:=(row g v).filter λx=> !gone.getD x.toNat false
theorem l7Left_eq (g:LL)(hg:GOk g){v:Nat}(hv:v<g.length)(gone:List Bool)(hl:gone.length=g.length):D.W0 g (v:Int) gone=some (lft g v gone):=by
 have hr:=hg.row_len hv
 unfold D.W0 lft
 refine(C4 (λi=>(((row g v).take i).filter (λx=> !gone.getD x.toNat false),(i:Int))) (row g v).length ((row g v).filter λx=> !gone.getD x.toNat false) (by simp) (λi hi=> ?_) ?_).trans rfl
 ·obtain⟨w,e1,h1,_⟩:=hg.mem hv (List.getElem_mem hi)
  have hlen:(((row g v).take i).filter (λx=> !gone.getD x.toNat false)).length≤16:=Nat.le_trans (List.length_filter_le _ _) (by simp;omega)
  simp only[Cd hv,bs,dlt hi,cond_true,AB hi,e1,AB (show w<gone.length by omega),wq i]
  have e3:=EK (λx:Int=> !gone.getD x.toNat false) hi
  rw[e1] at e3
  simp only[Int.toNat_natCast,Au (show w<gone.length by omega)] at e3
  rw[e3]
  cases hc:gone[w]
  ·rw[Bool.not_false,cond_true,Be (by rw[List.length_singleton];omega),bs];rfl
  ·rw[Bool.not_true,cond_false];simp
 ·simp only[Cd hv,bs,Bg,cond_false,List.take_length]
theorem l1Edge_eq (g:LL)(hg:GOk g){u:Nat}(hu:u<g.length)(w:Int):D.c1 g (u:Int) w=some (decide (w∈row g u)):=by
 unfold D.c1
 rw[Cd hu,bs,D5 _ _ (hg.sh2.row hu)];rfl
def Clq (g:LL)(l:LI)(n:Nat):Prop:=∀i k,i<n→k<i→adj g (l.getD k 0).toNat (l.getD i 0).toNat
theorem l7Missing_ok (g:LL)(hg:GOk g)(l:LI)(hl:l.length≤16)(hr:∀x∈l,0≤x∧x<g.length):
  ∃y,D.U0 g l=some y∧(0≤y∧y≤256∧(y=0↔Clq g l l.length)):=by
 unfold D.U0
 refine AW (λs=>∃i:Nat,s.2=(i:Int)∧i≤l.length∧0≤s.1∧s.1≤16*i∧(s.1=0↔Clq g l i)) (λs=>l.length-s.2.toNat) (λr=>0≤r∧r≤256∧(r=0↔Clq g l l.length)) ?_ ⟨0,rfl,by omega,by simp,by simp,by simp[Clq]⟩ (λr h=>⟨r,rfl,h⟩)
 rintro⟨m,_⟩ ⟨i,rfl,hi,h0,h1,h2⟩
 dsimp only at h0 h1 h2 ⊢
 by_cases hlt:i<l.length
 ·simp only[dlt hlt,cond_true]
  refine AW (λs=>∃k:Nat,s.2=(k:Int)∧k≤i∧0≤s.1∧s.1≤16*i+k∧(s.1=0↔(Clq g l i∧∀k',k'<k→adj g (l.getD k' 0).toNat (l.getD i 0).toNat))) (λs=>i-s.2.toNat)
   (λr=>0≤r∧r≤16*i+i∧(r=0↔Clq g l (i+1))) ?_ ⟨0,rfl,by omega,h0,by omega,by simpa using h2⟩ ?_
  ·rintro⟨m,_⟩ ⟨k,rfl,hk,h0,h1,h2⟩
   dsimp only at h0 h1 h2 ⊢
   by_cases hkl:k<i
   ·have hkk:k<l.length:=by omega
    have r1:=hr _ (List.getElem_mem hkk)
    obtain⟨a,ea⟩:∃a:Nat,l[k]=(a:Int):=⟨l[k].toNat,by omega⟩
    have r2:=hr _ (List.getElem_mem hlt)
    obtain⟨b,eb⟩:∃b:Nat,l[i]=(b:Int):=⟨l[i].toNat,by omega⟩
    have hA:adj g (l.getD k 0).toNat (l.getD i 0).toNat↔(b:Int)∈row g a:=by
     rw[Au hkk,Au hlt,ea,eb];rfl
    simp only[dlt hkl,cond_true,AB hkk,AB hlt,bs,ea,eb,l1Edge_eq g hg (show a<g.length by omega),wq k]
    have hsplit:(∀k',k'<k+1→adj g (l.getD k' 0).toNat (l.getD i 0).toNat)↔((∀k',k'<k→adj g (l.getD k' 0).toNat (l.getD i 0).toNat)∧(b:Int)∈row g a):=by
     rw[←hA]
     constructor
     ·intro h;exact⟨λk' hk'=>h k' (by omega),h k (by omega)⟩
     ·rintro⟨h3,h4⟩ k' hk'
      rcases Nat.lt_or_ge k' k with hc|hc
      ·exact h3 k' hc
      ·obtain rfl:k'=k:=by omega
       exact h4
    by_cases hm:(b:Int)∈row g a
    ·simp only[decide_eq_true hm,Bool.not_true,cond_false]
     refine⟨_,rfl,⟨k+1,rfl,by omega,h0,by dsimp only;omega,?_⟩,by dsimp only;omega⟩
     dsimp only
     rw[hsplit,h2]
     exact⟨fun⟨p,q⟩=>⟨p,q,hm⟩,fun⟨p,q,_⟩=>⟨p,q⟩⟩
    ·simp only[decide_eq_false hm,Bool.not_false,cond_true]
     rw[w64 (show (-9223372036854775808:Int)≤m+1 by omega) (by omega)]
     refine⟨_,rfl,⟨k+1,rfl,by omega,by dsimp only;omega,by dsimp only;omega,?_⟩,by dsimp only;omega⟩
     dsimp only
     rw[hsplit]
     constructor
     ·intro h;omega
     ·rintro⟨_,_,h⟩;exact absurd h hm
   ·obtain rfl:k=i:=by omega
    simp only[Bg,cond_false]
    refine⟨_,rfl,h0,by omega,?_⟩
    rw[h2]
    constructor
    ·rintro⟨h3,h4⟩ i' k' hi' hk'
     rcases Nat.lt_or_ge i' k with hc|hc
     ·exact h3 i' k' hc hk'
     ·obtain rfl:i'=k:=by omega
      exact h4 k' hk'
    ·intro h
     exact⟨λi' k' hi' hk'=>h i' k' (by omega) hk',λk' hk'=>h k k' (by omega) hk'⟩
  ·rintro m ⟨h3,h4,h5⟩
   rw[wq i]
   exact⟨_,rfl,⟨i+1,rfl,by omega,h3,by dsimp only;omega,h5⟩,by dsimp only;omega⟩
 ·obtain rfl:i=l.length:=by omega
  simp only[Bg,cond_false]
  exact⟨_,rfl,h0,by omega,h2⟩
theorem l8Clique_ok (g:LL)(hg:GOk g)(l:LI)(hl:l.length≤16)(hr:∀x∈l,0≤x∧x<g.length):∃b,D.m g l=some b∧(b=true↔Clq g l l.length):=by
 obtain⟨y,e,_,_,h⟩:=l7Missing_ok g hg l hl hr
 unfold D.m
 rw[e,bs]
 exact⟨_,rfl,by rw[beq_iff_eq];exact h⟩
theorem lft_len {g:LL}(hg:GOk g){v:Nat}(hv:v<g.length)(gone:List Bool):(lft g v gone).length≤16:=Nat.le_trans (List.length_filter_le _ _) (hg.row_len hv)
theorem lft_rng {g:LL}(hg:GOk g){v:Nat}(hv:v<g.length)(gone:List Bool):∀x∈lft g v gone,0≤x∧x<g.length:=λx hx=>(hg.rows v hv).2 x (List.mem_filter.1 hx).1
theorem lft_inc {g:LL}(hg:GOk g){v:Nat}(hv:v<g.length)(gone:List Bool):Inc (lft g v gone):=List.Pairwise.filter _ (hg.rows v hv).1
def PEOg (g:LL)(o:LI):Prop:=∀(j:Nat) (v u w:Nat),o[j]? =some (v:Int)→adj g v u→adj g v w→(u:Int)∉o.take (j+1)→(w:Int)∉o.take (j+1)→u≠w→adj g u w
def Bs (f:Nat→Nat):Nat→Nat
 |0=>0
 |n+1=>Bs f n+f n
theorem BW {f g:Nat→Nat}:∀{n:Nat},(∀i,i<n→f i=g i)→Bs f n=Bs g n
 |0,_=>rfl
 |n+1,h=>by simp only[Bs];rw[BW (n:=n) (λi hi=>h i (by omega)),h n (by omega)]
theorem D1 (f g:Nat→Nat):∀n,Bs (λi=>f i+g i) n=Bs f n+Bs g n
 |0=>rfl
 |n+1=>by simp only[Bs];rw[D1 f g n];omega
theorem Ed :∀n,Bs (λ_=>0) n=0
 |0=>rfl
 |n+1=>by simp only[Bs];rw[Ed n]
theorem sumN_swap (f:Nat→Nat→Nat)(m:Nat):∀n,Bs (λi=>Bs (f i) m) n=Bs (λj=>Bs (λi=>f i j) n) m
 |0=>by simp only[Bs];rw[Ed]
 |n+1=>by simp only[Bs];rw[sumN_swap f m n,←D1]
def bit (b:Bool):Nat:=if b then 1 else 0
theorem DY (p:Nat→Bool):∀n,((List.range n).filter p).length=Bs (λi=>bit (p i)) n
 |0=>rfl
 |n+1=>by
  rw[List.range_succ,List.filter_append,List.length_append,DY p n]
  simp only[Bs,bit]
  cases h:p n<;>simp[h]
theorem sumN_tail {f : Nat → Nat} {n m : Nat} (h : n ≤ m) (hz : ∀ i, n ≤ i → f i = 0) : Bs f m = Bs f n := by
  induction m with
  | zero => obtain rfl : n = 0 := by omega
            rfl
  | succ m ih =>
    by_cases hm : n = m + 1
    · rw [hm]
    · simp only [Bs]; rw [ih (by omega), hz m (by omega)]; rfl
theorem elems_sum {s:Int}{n:Nat}(hn:n≤32)(h:∀v,has s v=true→v<n):(Am s).length=Bs (λv=>bit (has s v)) n:=by
 unfold Am
 rw[List.length_map,DY]
 refine sumN_tail hn (λi hi=> ?_)
 unfold bit
 cases hc:has s i
 ·rfl
 ·have:=h i hc;omega
def S2 (n:Nat)(p:Nat→Nat→Bool):Nat:=Bs (λu=>Bs (λw=>bit (p u w)) n) n
theorem S2_congr {n:Nat}{p q:Nat→Nat→Bool}(h:∀u w,u<n→w<n→p u w=q u w):S2 n p=S2 n q:=
 BW λu hu=>BW λw hw=>by rw[h u w hu hw]
theorem S2_swap (n:Nat)(p:Nat→Nat→Bool):S2 n p=S2 n (λu w=>p w u):=by
 unfold S2
 rw[sumN_swap]
theorem S2_or (n:Nat)(p q:Nat→Nat→Bool)(h:∀u w,u<n→w<n→p u w=true→q u w=true→False):S2 n (λu w=>p u w||q u w)=S2 n p+S2 n q:=by
 unfold S2
 rw[←D1]
 refine BW λu hu=> ?_
 rw[←D1]
 refine BW λw hw=> ?_
 have:=h u w hu hw
 unfold bit
 cases h1:p u w<;>cases h2:q u w<;>simp_all
theorem S2_half {n:Nat}{A:Nat→Nat→Bool}{lt:Nat→Nat→Bool}(hs:∀u w,u<n→w<n→A u w=A w u)(h1:∀u w,u<n→w<n→A u w=true→(lt u w=true∨lt w u=true))(h2:∀u w,u<n→w<n→lt u w=true→lt w u=true→False):
  S2 n A=2*S2 n (λu w=>A u w&&lt u w):=by
 have e1:S2 n A=S2 n (λu w=>(A u w&&lt u w)||(A u w&&lt w u)):=S2_congr λu w hu hw=>by
  have:=h1 u w hu hw
  cases ha:A u w
  ·simp
  ·rcases this ha with h|h<;>simp[h]
 have e2:S2 n (λu w=>A u w&&lt w u)=S2 n (λu w=>A u w&&lt u w):=by
  rw[S2_swap]
  exact S2_congr λu w hu hw=>by rw[hs u w hu hw]
 rw[e1,S2_or,e2]
 ·omega
 ·intro u w hu hw h3 h4
  simp only[Bool.and_eq_true] at h3 h4
  exact h2 u w hu hw h3.2 h4.2
theorem EL {s:Int}{n:Nat}(hn:n≤32)(h:∀v,has s v=true→v<n)(p:Int→Bool):((Am s).filter p).length=Bs (λv=>bit (has s v&&p (v:Int))) n:=by
 unfold Am
 rw[List.filter_map,List.length_map,List.filter_filter,DY]
 have e:Bs (λi=>bit ((p∘Int.ofNat) i&&has s i)) 32=Bs (λv=>bit (has s v&&p (v:Int))) 32:=BW λi _=>by
  rw[Bool.and_comm];rfl
 rw[e]
 refine sumN_tail hn (λi hi=> ?_)
 cases hc:has s i
 ·rfl
 ·have:=h i hc;omega
def ast (f:Int→Int)(s:Int×Int)(v:Int):Int×Int:=if s.1<0∨f v<s.2 then(v,f v) else s
def amin (f:Int→Int)(l:LI):Int×Int:=l.foldl (ast f) (-1,0)
theorem ast_run (f:Int→Int):∀(l:LI) (b:Int),0≤b→(∀x∈l,0≤x)→∃c,l.foldl (ast f) (b,f b)=(c,f c)∧(c=b∨c∈l)∧0≤c∧f c≤f b∧∀x∈l,f c≤f x
 |[],b,hb,_=>⟨b,rfl,.inl rfl,hb,Int.le_refl _,by simp⟩
 |x::l,b,hb,hl=>by
  have hx:=hl x (by simp)
  have hl':=λy hy=>hl y (List.mem_cons_of_mem x hy)
  rw[List.foldl_cons]
  by_cases hc:f x<f b
  ·have e:ast f (b,f b) x=(x,f x):=by unfold ast;rw[if_pos (.inr hc)]
   rw[e]
   obtain⟨c,h1,h2,h3,h4,h5⟩:=ast_run f l x hx hl'
   refine⟨c,h1,.inr ?_,h3,by omega,λy hy=> ?_⟩
   ·rcases h2 with rfl|h2
    ·simp
    ·exact List.mem_cons_of_mem _ h2
   ·rcases List.mem_cons.1 hy with rfl|hy
    ·exact h4
    ·exact h5 y hy
  ·have e:ast f (b,f b) x=(b,f b):=by unfold ast;rw[if_neg (λh=>h.elim (λh=>by dsimp only at h;omega) hc)]
   rw[e]
   obtain⟨c,h1,h2,h3,h4,h5⟩:=ast_run f l b hb hl'
   refine⟨c,h1,?_,h3,h4,λy hy=> ?_⟩
   ·rcases h2 with h2|h2
    ·exact .inl h2
    ·exact .inr (List.mem_cons_of_mem _ h2)
   ·rcases List.mem_cons.1 hy with rfl|hy
    ·omega
    ·exact h5 y hy
theorem ast_first (f:Int→Int)(x:Int):ast f (-1,0) x=(x,f x):=by unfold ast;rw[if_pos (.inl (by decide))]
theorem amin_ok (f:Int→Int){l:LI}(hne:l≠[])(hl:∀x∈l,0≤x):∃c,amin f l=(c,f c)∧c∈l∧∀x∈l,f c≤f x:=by
 cases l with
 |nil=>exact absurd rfl hne
 |cons x l=>
  unfold amin
  rw[List.foldl_cons,ast_first]
  obtain⟨c,h1,h2,h3,h4,h5⟩:=ast_run f l x (hl x (by simp)) (λy hy=>hl y (List.mem_cons_of_mem _ hy))
  refine⟨c,h1,?_,λy hy=> ?_⟩
  ·rcases h2 with rfl|h2
   ·simp
   ·exact List.mem_cons_of_mem _ h2
  ·rcases List.mem_cons.1 hy with rfl|hy
   ·exact h4
   ·exact h5 y hy
def els (s:Int)(i:Nat):LI:=((List.range i).filter (has s)).map Int.ofNat
theorem els_succ (s:Int)(i:Nat):els s (i+1)=if has s i then els s i++[(i:Int)] else els s i:=by
 unfold els
 rw[List.range_succ,List.filter_append,List.map_append]
 cases h:has s i<;>simp[h]
theorem els_all {s:Int}{n:Nat}(hn:n≤32)(h:∀v,has s v=true→v<n):els s n=Am s:=by
 unfold els Am
 obtain⟨k,hk⟩:∃k,32=n+k:=⟨32-n,by omega⟩
 rw[hk,List.range_add,List.filter_append]
 have:((List.range k).map (λx=>n+x)).filter (has s)=[]:=by
  rw[List.filter_eq_nil_iff]
  intro x hx hc
  obtain⟨y,_,rfl⟩:=List.mem_map.1 hx
  have:=h _ hc;omega
 rw[this,List.append_nil]
theorem elems_nonneg (s:Int):∀x∈Am s,0≤x:=λx hx=>by
 obtain⟨v,_,_,rfl⟩:=mem_elems.1 hx;omega
theorem elems_rm {s:Int}{b:Nat}(h:VS s)(hb:has s b=true):(Am s).length=(Am (iandNot .u32 s (ishl .u32 1 (b:Int)))).length+1:=by
 have hb32:b<32:=by
  by_cases hv:b<32
  ·exact hv
  ·rw[CZ h (by omega)] at hb;cases hb
 have hm:∀x,x∈Am s↔x∈(b:Int)::Am (iandNot .u32 s (ishl .u32 1 (b:Int))):=λx=>by
  rw[List.mem_cons,mem_elems,mem_elems]
  constructor
  ·rintro⟨v,h1,h2,rfl⟩
   by_cases e:v=b
   ·left;omega
   ·right;exact⟨v,h1,by rw[AX h (VS.ishl _ _),A8 hb32,h2];simp[e],rfl⟩
  ·rintro(rfl|⟨v,h1,h2,rfl⟩)
   ·exact⟨b,hb32,hb,rfl⟩
   ·rw[AX h (VS.ishl _ _),Bool.and_eq_true] at h2
    exact⟨v,h1,h2.1,rfl⟩
 have hn:((b:Int)::Am (iandNot .u32 s (ishl .u32 1 (b:Int)))).Nodup:=by
  refine List.nodup_cons.2 ⟨λhc=> ?_,(Bu _).nodup⟩
  rw[AM (VS.iandNot _ _),AX h (VS.ishl _ _),A8 hb32] at hc
  simp at hc
 have:=nodup_all (Bu s).nodup hn (λx hx=>(hm x).1 hx) (λx hx=>(hm x).2 hx)
 simpa using this
def full (n:Nat):Int:=IntKind.u32.wrap (ishl .u32 1 (n:Int)-1)
theorem CB (n:Nat):VS (full n):=VS.wrap _
theorem Bm {n:Nat}(h:n≤16)(v:Nat):has (full n) v=decide (v<n):=by
 by_cases hv:v<32
 ·exact all_mask ⟨n,by omega⟩ ⟨v,hv⟩
 ·rw[CZ (CB n) (by omega)];symm;simp;omega
theorem nets_all_full (F:LI):D.p F=some (full F.length):=by
 unfold D.p D.u
 have:decide ((F.length:Int)<0)=false:=by simp
 rw[this];rfl
def BD (n:Nat)(s:Int):List Bool:=(List.range n).map λv=> !has s v
theorem DU (n:Nat)(s:Int):(BD n s).length=n:=by simp[BD]
theorem Ek {n:Nat}{s:Int}{v:Nat}(h:v<n){h':v<(BD n s).length}:(BD n s)[v]= !has s v:=by
 simp[BD]
theorem DX {n:Nat}{s:Int}{v:Nat}(h:v<n):(BD n s).getD v false= !has s v:=by
 unfold BD
 rw[Au (by simpa using h)];simp
theorem goneOf_idx {n:Nat}{s:Int}{v:Nat}(h:v<n):idx (BD n s) (v:Int)=some (!has s v):=by
 rw[AB (by rw[DU];exact h),←DX h,Au (by rw[DU];exact h)]
theorem goneOf_set {n b:Nat}{s:Int}(hs:VS s)(hb:b<n)(hn:n≤32):(BD n s).set b true=BD n (iandNot .u32 s (ishl .u32 1 (b:Int))):=by
 apply List.ext_getElem
 ·simp[BD]
 ·intro i h1 h2
  have hi:i<n:=by simpa [BD] using h2
  rw[List.getElem_set,Ek hi,Ek hi,AX hs (VS.ishl _ _),A8 (by omega)]
  by_cases e:b=i
  ·subst e;simp
  ·rw[if_neg e]
   have:decide (i=b)=false:=by simp;omega
   simp[this]
theorem goneOf_full {n:Nat}(h:n≤16):List.replicate n false=BD n (full n):=by
 apply List.ext_getElem
 ·simp[BD]
 ·intro i h1 h2
  have hi:i<n:=by simpa [BD] using h2
  rw[List.getElem_replicate,Ek hi,Bm h]
  simp[hi]
theorem lft_gone {g:LL}(hg:GOk g){s:Int}(hs:VS s){v:Nat}(hv:v<g.length):lft g v (BD g.length s)=Am (iand .u32 (mk (row g v)) s):=by
 have h16:=hg.n16
 refine Inc.ext (lft_inc hg hv _) (Bu _) (λx=> ?_)
 unfold lft
 rw[List.mem_filter,mem_elems]
 constructor
 ·rintro⟨h1,h2⟩
  obtain⟨w,rfl,hw,ha⟩:=hg.mem hv h1
  rw[Int.toNat_natCast,DX hw,Bool.not_not] at h2
  refine⟨w,by omega,?_,rfl⟩
  rw[Cv (VS.mk _) hs,h2,CR (λx hx=>by have:=(hg.rows v hv).2 x hx;omega)]
  simpa using h1
 ·rintro⟨w,_,h2,rfl⟩
  rw[Cv (VS.mk _) hs,CR (λx hx=>by have:=(hg.rows v hv).2 x hx;omega)] at h2
  simp only[Bool.and_eq_true,decide_eq_true_eq] at h2
  have hw:w<g.length:=by have:=(hg.rows v hv).2 _ h2.1;omega
  exact⟨h2.1,by rw[Int.toNat_natCast,DX hw,h2.2];rfl⟩
theorem Ev (x:LI)(h:Sh x):D.q0 x x=some true:=by
 unfold Sh at h
 unfold D.q0
 have e:((x.length:Int) !=(x.length:Int))=false:=by simp
 rw[e,cond_false]
 refine(Cg x.length (λ_=>true) false (λi hi=> ?_) ?_ rfl rfl).trans (by simp)
 ·simp only[dlt hi,cond_true,AB hi,bs,wi' hi (by omega)]
  simp
 ·simp only[Bg,cond_false]
theorem EqualFunc_self (g:LL)(h:Sh2 g):D.l0 g g=some true:=by
 have hl:g.length≤4294967296:=h.1
 unfold D.l0
 have e:((g.length:Int) !=(g.length:Int))=false:=by simp
 rw[e,cond_false]
 refine(Cg g.length (λ_=>true) false (λi hi=> ?_) ?_ rfl rfl).trans (by simp)
 ·simp only[dlt hi,cond_true,AB hi,bs,wi' hi (by omega),Ev _ (h.2 _ (List.getElem_mem hi)),Bool.not_true,cond_false,if_true]
 ·simp only[Bg,cond_false]
theorem SameGraph_self {g:LL}(hg:GOk g):D.p0 g g=some true:=by
 unfold D.p0
 rw[Bz g hg.sh2,BY hg]
 simp only[bs,cond_true,EqualFunc_self g hg.sh2]
section
variable {g : LL} {o : LI} (hg : GOk g) (ho : OOk g o)
include hg ho
end
end Go.Sx

namespace Go.Sx
section
variable {g : LL} {o : LI} (hg : GOk g) (ho : OOk g o)
include hg ho
theorem place {v:Nat}(hv:v<g.length):∃i,∃h:i<o.length,o[i]=(v:Int):=by
 have hsub:∀x∈o,x∈(List.range g.length).map Int.ofNat:=λx hx=>by
  have:=ho.rng x hx
  exact List.mem_map.2 ⟨x.toNat,List.mem_range.2 (by omega),by show ((x.toNat:Nat):Int)=x;omega⟩
 have hm:(v:Int)∈o:=by
  apply Classical.byContradiction
  intro hn
  have h1:((v:Int)::o).Nodup:=List.nodup_cons.2 ⟨hn,ho.nd⟩
  have:=BC h1 (m:=(List.range g.length).map Int.ofNat) (λx hx=>by
   rcases List.mem_cons.1 hx with rfl|hx
   ·exact List.mem_map.2 ⟨v,List.mem_range.2 hv,rfl⟩
   ·exact hsub x hx)
  have:=ho.len
  simp at*
  omega
 obtain⟨i,hi,e⟩:=List.getElem_of_mem hm
 exact⟨i,hi,e⟩
def mx (f:Nat→Int):Nat→Int
 |0=>0
 |n+1=>max (mx f n) (f n)
end
end Go.Sx

namespace Go.Sx
def dg (g:LL)(s:Int)(v:Int):Int:=((Am (iand .u32 (mk (row g v.toNat)) s)).length:Int)
structure SQ (n:Nat)(s:Int)(k:Nat):Prop where
 vs:VS s
 lt:∀v,has s v=true→v<n
 card:(Am s).length=k
theorem SQ.full {n:Nat}(h:n≤16):SQ n (full n) n:=by
 refine⟨CB n,λv hv=>by rw[Bm h] at hv;exact of_decide_eq_true hv,?_⟩
 rw[←els_all (n:=n) (by omega) (λv hv=>by rw[Bm h] at hv;exact of_decide_eq_true hv)]
 unfold els
 rw[List.length_map,List.filter_eq_self.2 (λv hv=>by rw[Bm h];exact decide_eq_true (List.mem_range.1 hv)),List.length_range]
theorem SQ.rm {n k b:Nat}{s:Int}(h:SQ n s (k+1))(hb:has s b=true):SQ n (iandNot .u32 s (ishl .u32 1 (b:Int))) k:=by
 refine⟨VS.iandNot _ _,λv hv=> ?_,?_⟩
 ·rw[AX h.vs (VS.ishl _ _),Bool.and_eq_true] at hv
  exact h.lt v hv.1
 ·have:=elems_rm h.vs hb
  have:=h.card
  omega
theorem SQ.ne {n k:Nat}{s:Int}(h:SQ n s (k+1)):Am s≠[]:=λe=>by have:=h.card;rw[e] at this;simp at this
theorem SQ.nz {n k:Nat}{s:Int}(h:SQ n s (k+1)):s≠0:=λe=>by have:=h.ne;rw[e,D4] at this;exact this rfl
theorem SQ.z {n:Nat}{s:Int}(h:SQ n s 0):s=0:=by
 rw[h.vs.eq_zero]
 intro v hv
 cases hc:has s v
 ·rfl
 ·have:(v:Int)∈Am s:=(AM h.vs).2 hc
  have h0:=h.card
  rw[List.length_eq_zero_iff] at h0
  rw[h0] at this;simp at this
theorem SQ.min {n k:Nat}{s:Int}(h:SQ n s (k+1))(f:Int→Int):∃c:Nat,c<n∧has s c=true∧amin f (Am s)=((c:Int),f c)∧∀v:Nat,has s v=true→f c≤f v:=by
 obtain⟨c,h1,h2,h3⟩:=amin_ok f h.ne (elems_nonneg s)
 obtain⟨v,_,h5,rfl⟩:=mem_elems.1 h2
 exact⟨v,h.lt v h5,h5,h1,λw hw=>h3 w ((AM h.vs).2 hw)⟩
theorem Ei {g g':LL}(hg:GOk g)(hg':GOk g')(hl:g.length=g'.length)(h:∀a b:Nat,a<g.length→(adj g a b↔adj g' a b)):g=g':=by
 apply List.ext_getElem hl
 intro i h1 h2
 rw[←row_eq h1,←row_eq h2]
 refine Inc.ext (hg.rows i h1).1 (hg'.rows i h2).1 (λx=> ?_)
 constructor
 ·intro hx
  obtain⟨w,rfl,_,ha⟩:=hg.mem h1 hx
  exact(h i w h1).1 ha
 ·intro hx
  obtain⟨w,rfl,_,ha⟩:=hg'.mem h2 hx
  exact(h i w h1).2 ha
theorem grow_of {g:LL}(hg:GOk g):grow (g.map mk)=g:=by
 have hf:=FOk.of hg
 refine Ei (GOk.grow hf hg.n1 hg.n16) hg (by rw[Dt,hf.len]) (λa b ha=> ?_)
 rw[Dt,hf.len] at ha
 rw[C1 hf ha,BE hg ha]
noncomputable def elimF (F:LI)(s b:Int):LI:=(D.j1 F s b).getD []
structure GQ (n i:Nat)(F o:LI)(s:Int):Prop where
 f:FOk F n
 left:SQ n s (n-i)
 len:o.length=i
 rng:∀x∈o,∃v:Nat,x=v∧v<n∧has s v=false
 nd:o.Nodup
theorem idx_F {F:LI}{n v:Nat}(h:FOk F n)(hv:v<n):idx F (v:Int)=some (F.getD v 0):=by
 have:=h.len
 rw[AB (by omega),Au (by omega)]
def CQ (F:LI)(K:Int):Prop:=∀u w,has K u=true→has K w=true→u≠w→nb F u w=true
def MX (F:LI)(n:Nat)(K:Int):Prop:=CQ F K∧∀w,w<n→has K w=false→∃u,has K u=true∧nb F u w=false
def In (n:Nat)(K:Int):Prop:=VS K∧∀w,has K w=true→w<n
structure Tgt (F:LI)(n:Nat)(C O K:Int):Prop where
 ok:In n K
 mx:MX F n K
 sup:∀w,has C w=true→has K w=true
 sub:∀w,has K w=true→has C w=true∨has O w=true
theorem In.lt {n:Nat}{K:Int}(h:In n K)(hn:n≤16):0≤K∧K<65536:=by
 obtain⟨m,rfl,hm⟩:=h.1.nat
 refine⟨by omega,?_⟩
 have:m<2^16:=by
  apply Nat.lt_pow_two_of_testBit
  intro i hi
  cases hc:m.testBit i
  ·rfl
  ·have:=h.2 i (by rw[BH];exact hc)
   omega
 omega
theorem Dc {n:Nat}{l:LI}(hn:n≤16)(h:∀K∈l,In n K)(hd:l.Nodup):l.length≤65536:=by
 have:=BC (m:=(List.range 65536).map Int.ofNat) hd (λK hK=>by
  have:=(h K hK).lt hn
  exact List.mem_map.2 ⟨K.toNat,List.mem_range.2 (by omega),by show ((K.toNat:Nat):Int)=K;omega⟩)
 simpa using this
structure BK (F:LI)(n:Nat)(C O S:Int):Prop where
 c:In n C
 o:In n O
 s:In n S
 cq:CQ F C
 cn:∀w,w<n→((has O w=true∨has S w=true)↔∀u,has C u=true→nb F u w=true)
 dis:∀w,has O w=true→has S w=false
theorem BK.notin {F:LI}{n:Nat}{C O S:Int}(hF:FOk F n)(h:BK F n C O S){w:Nat}(hw:has O w=true):has C w=false:=by
 cases hc:has C w
 ·rfl
 ·have:=(h.cn w (h.o.2 w hw)).1 (.inl hw) w hc
  rw[hF.irr w (h.o.2 w hw)] at this;cases this
theorem grow_ok {F:LI}{n:Nat}(hn:n≤16)(hF:FOk F n):∀(fuel:Nat) (C O S:Int) (x4:LI),(Am O).length<fuel→BK F n C O S→x4.Nodup→(∀K∈x4,In n K)→(∀K∈x4,¬Tgt F n C O K)→
  ∃y,D.C fuel F C O S x4=some y∧∃R,y=x4++R∧(x4++R).Nodup∧∀K,K∈R↔Tgt F n C O K
 |0,_,_,_,_,h,_,_,_,_=>by omega
 |fuel+1,C,O,S,x4,hf,hB,hd,hi,ht=>by
  have hlen:=hF.len
  have hx4:=Dc hn hi hd
  unfold D.C
  by_cases hO:O=0
  ·subst hO
   have e0:((0:Int)==0)=true:=rfl
   rw[e0,cond_true]
   by_cases hS:S=0
   ·subst hS
    rw[e0,cond_true,Be (by simp;omega)]
    have hT:Tgt F n C 0 C:=⟨hB.c,⟨hB.cq,λw hw hc=>by
     apply Classical.byContradiction
     intro hne
     have:=(hB.cn w hw).2 (λu hu=>by
      cases h:nb F u w
      ·exact absurd ⟨u,hu,h⟩ hne
      ·rfl)
     simp[AY] at this⟩,λw h=>h,λw h=> .inl h⟩
    refine⟨_,rfl,[C],rfl,?_,λK=> ?_⟩
    ·rw[List.nodup_append]
     refine⟨hd,by simp,λa ha b hb e=> ?_⟩
     rw[List.mem_singleton] at hb
     subst hb;subst e
     exact ht a ha hT
    ·rw[List.mem_singleton]
     constructor
     ·rintro rfl;exact hT
     ·intro h
      refine h.ok.1.ext hB.c.1 (λv _=> ?_)
      rw[Bool.eq_iff_iff]
      refine⟨λhv=> ?_,h.sup v⟩
      rcases h.sub v hv with h|h
      ·exact h
      ·rw[AY] at h;cases h
   ·have e1:(S==0)=false:=by simpa using hS
    rw[e1,cond_false]
    refine⟨_,rfl,[],by simp,by simpa using hd,λK=> ?_⟩
    simp only[List.not_mem_nil,false_iff]
    intro h
    have hK:K=C:=by
     refine h.ok.1.ext hB.c.1 (λv _=> ?_)
     rw[Bool.eq_iff_iff]
     refine⟨λhv=> ?_,h.sup v⟩
     rcases h.sub v hv with h|h
     ·exact h
     ·rw[AY] at h;cases h
    subst hK
    apply hS
    rw[hB.s.1.eq_zero]
    intro w hw
    cases hc:has S w
    ·rfl
    ·have hwn:=hB.s.2 w hc
     have hcn:=(hB.cn w hwn).1 (.inr hc)
     have hKw:has K w=false:=by
      cases hk:has K w
      ·rfl
      ·have:=hcn w hk
       rw[hF.irr w hwn] at this;cases this
     obtain⟨u,h1,h2⟩:=h.mx.2 w hwn hKw
     rw[hcn u h1] at h2;cases h2
  ·have e1:(O==0)=false:=by simpa using hO
   rw[e1,cond_false,Cz O hB.o.1,bs]
   have hel:=Bl O
   refine AW (λst=>∃i:Nat,st.2.2.2=(i:Int)∧i≤(Am O).length∧VS st.1∧VS st.2.1∧(∀w:Nat,has st.1 w=(has O w&&decide ((w:Int)∉(Am O).take i)))∧(∀w:Nat,has st.2.1 w=(has S w||decide ((w:Int)∈(Am O).take i)))∧
     ∃R,st.2.2.1=x4++R∧(x4++R).Nodup∧∀K,K∈R↔Tgt F n C O K∧∃w:Nat,(w:Int)∈(Am O).take i∧has K w=true) (λst=>(Am O).length-st.2.2.2.toNat)
    (λr=>∃R,r=x4++R∧(x4++R).Nodup∧∀K,K∈R↔Tgt F n C O K) ?_ ⟨0,rfl,by omega,hB.o.1,hB.s.1,λw=>by simp,λw=>by simp,[],by simp,by simpa using hd,λK=>by simp⟩ (λr hr=>⟨r,rfl,hr⟩)
   rintro⟨o,s,acc,_⟩ ⟨i,rfl,hil,ho,hs,hho,hhs,R,rfl,hRn,hR⟩
   dsimp only at ho hs hho hhs hRn hR ⊢
   by_cases hlt:i<(Am O).length
   ·obtain⟨v,hv32,hv1,hv2⟩:=mem_elems.1 (List.getElem_mem hlt)
    have hvn:=hB.o.2 v hv1
    have hvC:=hB.notin hF hv1
    have htk:∀w:Nat,((w:Int)∈(Am O).take (i+1))↔((w:Int)∈(Am O).take i∨w=v):=λw=>by
     rw[List.take_succ_eq_append_getElem hlt,List.mem_append,hv2];simp[Int.natCast_inj]
    have hvt:(v:Int)∉(Am O).take i:=by rw[←hv2];exact nodup_iff.1 (Bu O).nodup i hlt
    have hle:∀w:Nat,(w:Int)∈(Am O).take i→has O w=true:=λw hw=>(AM hB.o.1).1 (List.mem_of_mem_take hw)
    simp only[dlt hlt,cond_true,AB hlt,hv2,bs,B5,idx_F hF hvn]
    have hC':∀w,has (ior .u32 C (ishl .u32 1 (v:Int))) w=(has C w||decide (w=v)):=λw=>by rw[Bj hB.c.1 (VS.ishl _ _),A8 hv32]
    have hO':∀w,has (iand .u32 o (F.getD v 0)) w=(has o w&&nb F v w):=λw=>Cv ho (hF.vs v hvn) w
    have hS':∀w,has (iand .u32 s (F.getD v 0)) w=(has s w&&nb F v w):=λw=>Cv hs (hF.vs v hvn) w
    have hB':BK F n (ior .u32 C (ishl .u32 1 (v:Int))) (iand .u32 o (F.getD v 0)) (iand .u32 s (F.getD v 0)):=by
     have hcnv:=(hB.cn v hvn).1 (.inl hv1)
     refine⟨⟨VS.ior _ _,λw hw=> ?_⟩,⟨VS.iand _ _,λw hw=> ?_⟩,⟨VS.iand _ _,λw hw=> ?_⟩,λu w hu hw huw=> ?_,λw hw=> ?_,λw hw=> ?_⟩
     ·rw[hC',Bool.or_eq_true,decide_eq_true_eq] at hw
      rcases hw with h|rfl
      ·exact hB.c.2 w h
      ·exact hvn
     ·rw[hO',Bool.and_eq_true] at hw;exact hF.lt v w hvn hw.2
     ·rw[hS',Bool.and_eq_true] at hw;exact hF.lt v w hvn hw.2
     ·rw[hC',Bool.or_eq_true,decide_eq_true_eq] at hu hw
      rcases hu with hu|rfl
      ·rcases hw with hw|rfl
       ·exact hB.cq u w hu hw huw
       ·exact hcnv u hu
      ·rcases hw with hw|rfl
       ·exact hF.sym w u (hB.c.2 w hw) (hcnv w hw)
       ·exact absurd rfl huw
     ·rw[hO',hS',hho,hhs]
      simp only[Bool.and_eq_true,Bool.or_eq_true,decide_eq_true_eq]
      constructor
      ·intro h u hu
       rw[hC',Bool.or_eq_true,decide_eq_true_eq] at hu
       have hos:has O w=true∨has S w=true:=by
        rcases h with⟨⟨h,_⟩,_⟩|⟨h|h,_⟩
        ·exact .inl h
        ·exact .inr h
        ·exact .inl (hle w h)
       have hvw:nb F v w=true:=by rcases h with⟨_,h⟩|⟨_,h⟩<;>exact h
       rcases hu with hu|rfl
       ·exact(hB.cn w hw).1 hos u hu
       ·exact hvw
      ·intro h
       have hvw:nb F v w=true:=h v (by rw[hC'];simp)
       have hos:=(hB.cn w hw).2 (λu hu=>h u (by rw[hC',hu];rfl))
       by_cases hm:(w:Int)∈(Am O).take i
       ·exact .inr ⟨.inr hm,hvw⟩
       ·rcases hos with hos|hos
        ·exact .inl ⟨⟨hos,hm⟩,hvw⟩
        ·exact .inr ⟨.inl hos,hvw⟩
     ·rw[hO',hho] at hw
      simp only[Bool.and_eq_true,decide_eq_true_eq] at hw
      rw[hS',hhs,hB.dis w hw.1.1,decide_eq_false hw.1.2];rfl
    have hfu:(Am (iand .u32 o (F.getD v 0))).length<fuel:=by
     have h1:((v:Int)::Am (iand .u32 o (F.getD v 0))).length≤(Am O).length:=by
      refine BC (List.nodup_cons.2 ⟨λhc=> ?_,(Bu _).nodup⟩) (λx hx=> ?_)
      ·rw[AM (VS.iand _ _),hO',hF.irr v hvn] at hc;simp at hc
      ·rcases List.mem_cons.1 hx with rfl|hx
       ·exact(AM hB.o.1).2 hv1
       ·obtain⟨w,_,h2,rfl⟩:=mem_elems.1 hx
        rw[hO',hho] at h2
        simp only[Bool.and_eq_true] at h2
        exact(AM hB.o.1).2 h2.1.1
     rw[List.length_cons] at h1;omega
    have hsubT:∀K,Tgt F n (ior .u32 C (ishl .u32 1 (v:Int))) (iand .u32 o (F.getD v 0)) K→Tgt F n C O K∧has K v=true∧∀w:Nat,(w:Int)∈(Am O).take i→has K w=false:=λK hK=>by
     refine⟨⟨hK.ok,hK.mx,λw hw=>hK.sup w (by rw[hC',hw];rfl),λw hw=> ?_⟩,hK.sup v (by rw[hC'];simp),λw hw=> ?_⟩
     ·rcases hK.sub w hw with h|h
      ·rw[hC',Bool.or_eq_true,decide_eq_true_eq] at h
       rcases h with h|rfl
       ·exact .inl h
       ·exact .inr hv1
      ·rw[hO',hho] at h
       simp only[Bool.and_eq_true] at h
       exact .inr h.1.1
     ·cases hk:has K w
      ·rfl
      ·exfalso
       rcases hK.sub w hk with h|h
       ·rw[hC',Bool.or_eq_true,decide_eq_true_eq] at h
        rcases h with h|rfl
        ·rw[hB.notin hF (hle w hw)] at h;cases h
        ·exact hvt hw
       ·rw[hO',hho] at h
        simp only[Bool.and_eq_true,decide_eq_true_eq] at h
        exact h.1.2 hw
    have hRi:∀K∈x4++R,In n K:=λK hK=>by
     rcases List.mem_append.1 hK with h|h
     ·exact hi K h
     ·exact((hR K).1 h).1.ok
    obtain⟨y,e2,R2,rfl,hn2,hm2⟩:=grow_ok hn hF fuel _ _ _ (x4++R) hfu hB' hRn hRi (λK hK hT=>by
     obtain⟨k1,k2,k3⟩:=hsubT K hT
     rcases List.mem_append.1 hK with h|h
     ·exact ht K h k1
     ·obtain⟨_,w,hw1,hw2⟩:=(hR K).1 h
      rw[k3 w hw1] at hw2;cases hw2)
    rw[e2,bs,wq i]
    refine⟨_,rfl,⟨i+1,rfl,by omega,VS.iandNot _ _,VS.ior _ _,λw=> ?_,λw=> ?_,R++R2,by rw[List.append_assoc],by rw[←List.append_assoc];exact hn2,λK=> ?_⟩,by dsimp only;omega⟩
    ·dsimp only
     rw[AX ho (VS.ishl _ _),A8 hv32,hho]
     have:decide ((w:Int)∉(Am O).take (i+1))=(decide ((w:Int)∉(Am O).take i)&& !decide (w=v)):=by
      rw[Bool.eq_iff_iff];simp only[decide_eq_true_eq,Bool.and_eq_true,Bool.not_eq_true',decide_eq_false_iff_not,htk,not_or]
     rw[this,Bool.and_assoc]
    ·dsimp only
     rw[Bj hs (VS.ishl _ _),A8 hv32,hhs]
     have:decide ((w:Int)∈(Am O).take (i+1))=(decide ((w:Int)∈(Am O).take i)||decide (w=v)):=by
      rw[Bool.eq_iff_iff];simp only[decide_eq_true_eq,Bool.or_eq_true,htk]
     rw[this,Bool.or_assoc]
    ·rw[List.mem_append,hR,hm2]
     constructor
     ·rintro(⟨h1,w,hw1,hw2⟩|h)
      ·exact⟨h1,w,(htk w).2 (.inl hw1),hw2⟩
      ·obtain⟨k1,k2,_⟩:=hsubT K h
       exact⟨k1,v,(htk v).2 (.inr rfl),k2⟩
     ·rintro⟨h1,w,hw1,hw2⟩
      by_cases hex:∃w:Nat,(w:Int)∈(Am O).take i∧has K w=true
      ·exact .inl ⟨h1,hex⟩
      ·right
       have hno:∀w:Nat,(w:Int)∈(Am O).take i→has K w=false:=λw hw=>by
        cases hk:has K w
        ·rfl
        ·exact absurd ⟨w,hw,hk⟩ hex
       have hKv:has K v=true:=by
        rcases(htk w).1 hw1 with h|rfl
        ·rw[hno w h] at hw2;cases hw2
        ·exact hw2
       refine⟨h1.ok,h1.mx,λu hu=> ?_,λu hu=> ?_⟩
       ·rw[hC',Bool.or_eq_true,decide_eq_true_eq] at hu
        rcases hu with hu|rfl
        ·exact h1.sup u hu
        ·exact hKv
       ·rw[hC',hO',hho]
        simp only[Bool.or_eq_true,Bool.and_eq_true,decide_eq_true_eq]
        by_cases huv:u=v
        ·exact .inl (.inr huv)
        ·rcases h1.sub u hu with h|h
         ·exact .inl (.inl h)
         ·refine .inr ⟨⟨h,λhm=> ?_⟩,h1.mx.1 v u hKv hu (λe=>huv e.symm)⟩
          rw[hno u hm] at hu;cases hu
   ·obtain rfl:i=(Am O).length:=by omega
    simp only[Bg,cond_false]
    refine⟨_,rfl,R,rfl,hRn,λK=> ?_⟩
    rw[hR,List.take_length]
    constructor
    ·exact λh=>h.1
    ·intro h
     refine⟨h,?_⟩
     obtain⟨b,hb32,hb1,hb2,_⟩:=least_spec hB.o.1 hO
     have hbn:=hB.o.2 b hb1
     apply Classical.byContradiction
     intro hne
     have hKC:∀w,has K w=true→has C w=true:=λw hw=>by
      rcases h.sub w hw with h|h
      ·exact h
      ·exact absurd ⟨w,(AM hB.o.1).2 h,hw⟩ hne
     have hKb:has K b=false:=by
      cases hk:has K b
      ·rfl
      ·have:=hB.notin hF hb1
       rw[hKC b hk] at this;cases this
     obtain⟨u,h1,h2⟩:=h.mx.2 b hbn hKb
     have:=(hB.cn b hbn).1 (.inl hb1) u (hKC u h1)
     rw[this] at h2;cases h2
theorem Dh :33≤Bv:=by have:=Ez;omega
theorem cliquesOf_ok {F:LI}{n:Nat}(h1:1≤n)(hn:n≤16)(hF:FOk F n):∃l,D.t F=some l∧l.Pairwise (λa b=>lkey a<lkey b)∧∀K,K∈l↔In n K∧MX F n K:=by
 have hlen:=hF.len
 unfold D.t D.i
 rw[nets_all_full,bs,hlen]
 have hel:=Bl (full n)
 have h33:=Dh
 obtain⟨y,e,R,hy,hd,hR⟩:=grow_ok hn hF Bv 0 (full n) 0 [] (by omega) ⟨⟨VS.zero,λw hw=>by rw[AY] at hw;cases hw⟩,⟨CB n,λw hw=>by rw[Bm hn] at hw;exact of_decide_eq_true hw⟩,⟨VS.zero,λw hw=>by rw[AY] at hw;cases hw⟩,
  λu w hu=>(by rw[AY] at hu;cases hu),λw hw=>⟨λ_ u hu=>(by rw[AY] at hu;cases hu),λ_=> .inl (by rw[Bm hn];exact decide_eq_true hw)⟩,λw _=>AY w⟩ (by simp) (by simp) (by simp)
 rw[List.nil_append] at hd hy
 subst hy
 have hT:∀K,Tgt F n 0 (full n) K↔In n K∧MX F n K:=λK=>⟨λh=>⟨h.ok,h.mx⟩,fun⟨h1,h2⟩=>⟨h1,h2,λw hw=>(by rw[AY] at hw;cases hw),λw hw=> .inr (by rw[Bm hn];exact decide_eq_true (h1.2 w hw))⟩⟩
 rw[e,bs,CX]
 obtain⟨l',e2,hp,hs⟩:=sorted_rise byLex (λx y=>lkey_inj) y (λK hK=>((hT K).1 ((hR K).1 hK)).1.1) hd (by
  have:=Dc hn (λK hK=>((hT K).1 ((hR K).1 hK)).1) hd
  omega)
 refine⟨l',by rw[show DG.Sort D.a y=some l' from e2];rfl,hs,λK=> ?_⟩
 rw[hp.mem_iff,hR,hT]
theorem Dl {k:Int→Int}{l:LI}(h:l.Pairwise (λa b=>k a<k b)):l.Nodup:=List.Pairwise.imp (λh e=>by subst e;omega) h
def Dw {α:Type}(b:LI)(P:α→Prop)(e:Option (α×LI×Int×Int)):Prop:=∃y,e=some y∧(P y.1∧y.2.1=b∧DK b y.2.2.1)
theorem Dw.then {α β:Type}{b:LI}{P:α→Prop}{e:Option (α×LI×Int×Int)}{k:α×LI×Int×Int→Option β}{Q:β→Prop}(h:Dw b P e)
  (hk:∀a i z,P a→DK b i→∃y,k (a,b,i,z)=some y∧Q y):∃y,e.bind k=some y∧Q y:=by
 obtain⟨⟨a,b',i,z⟩,rfl,h1,h2,h3⟩:=h
 dsimp only at h1 h2 h3
 subst h2
 exact hk a i z h1 h3
def Few (g:LL):Prop:=g.length≤17∧∀r∈g,r.length≤17
theorem Few.sh2 {g:LL}(h:Few g):Sh2 g:=⟨by have:=h.1;unfold Sh;omega,λr hr=>by have:=h.2 r hr;unfold Sh;omega⟩
theorem Few.set {g:LL}(h:Few g)(k:Nat){r:LI}(hr:r.length≤17):Few (g.set k r):=by
 refine⟨by have:=h.1;simpa using this,λx hx=> ?_⟩
 rcases List.mem_or_eq_of_mem_set hx with hx|rfl
 ·exact h.2 x hx
 ·exact hr
theorem elems_mk {n:Nat}{x:LI}(hn:n≤16)(hi:Inc x)(hr:∀z∈x,0≤z∧z<n):Am (mk x)=x:=by
 have h32:∀z∈x,0≤z∧z<32:=λz hz=>by have:=hr z hz;omega
 refine Inc.ext (Bu _) hi (λz=> ?_)
 rw[mem_elems]
 constructor
 ·rintro⟨v,_,h,rfl⟩
  rw[CR h32] at h
  exact of_decide_eq_true h
 ·intro hz
  have:=h32 z hz
  refine⟨z.toNat,by omega,?_,by omega⟩
  rw[CR h32,show ((z.toNat:Nat):Int)=z by omega]
  exact decide_eq_true hz
theorem cz_app :∀s a b:LI,cz (s++a) (s++b)=cz a b
 |[],_,_=>rfl
 |c::s,a,b=>by
  rw[List.cons_append,List.cons_append,cz,if_neg (by omega),if_neg (by omega),cz_app s a b]
theorem cz_head {a b:Int}(x y:LI)(h:a<b):cz (a::x) (b::y)<0:=by
 rw[cz,if_pos h];decide
theorem cz_nodup {L:LL}(h:L.Pairwise λa b=>cz a b<0):L.Nodup:=List.Pairwise.imp (λh e=>by
 subst e
 rw[(cz_zero _ _).2 rfl] at h;omega) h
def Cq (g:LL)(x:LI):Prop:=∀u w:Nat,(u:Int)∈x→(w:Int)∈x→u≠w→adj g u w
structure Fin' (g:LL)(x:LI):Prop where
 inc:Inc x
 rng:∀z∈x,0≤z∧z<g.length
 cq:Cq g x
 mx:∀w,w<g.length→∃u:Nat,(u:Int)∈x∧¬adj g u w
def Sol (g:LL)(set left x:LI):Prop:=∃y,x=set++y∧(∀z∈y,z∈left)∧Fin' g x
structure SK (g:LL)(set left out:LI):Prop where
 inc:Inc (set++left)
 r1:∀z∈set++left,0≤z∧z<g.length
 r2:∀z∈out,0≤z∧z<g.length
 cq:Cq g set
 cn:∀w:Nat,w<g.length→(((w:Int)∈left∨(w:Int)∈out)↔∀u:Nat,(u:Int)∈set→adj g u w)
 len:out.length+left.length≤16
theorem inc_len {n:Nat}{x:LI}(hi:Inc x)(hr:∀z∈x,0≤z∧z<n):x.length≤n:=by
 have:=BC (m:=(List.range n).map Int.ofNat) hi.nodup (λz hz=>by
  have:=hr z hz
  exact List.mem_map.2 ⟨z.toNat,List.mem_range.2 (by omega),by show ((z.toNat:Nat):Int)=z;omega⟩)
 simpa using this
theorem sols_len {g:LL}(hn:g.length≤16){L:LL}(h:∀x∈L,Fin' g x)(hp:L.Pairwise λa b=>cz a b<0):L.length≤65536:=by
 have h1:(L.map mk).Nodup:=by
  unfold List.Nodup
  rw[List.pairwise_map]
  refine List.Pairwise.imp_of_mem (fun{a b} ha hb hab e=>hab ?_) (cz_nodup hp)
  rw[←elems_mk hn (h a ha).inc (h a ha).rng,←elems_mk hn (h b hb).inc (h b hb).rng,e]
 have h2:=Dc (n:=g.length) (l:=L.map mk) hn (λK hK=>by
  obtain⟨x,hx,rfl⟩:=List.mem_map.1 hK
  refine⟨VS.mk _,λw hw=> ?_⟩
  rw[CR (λz hz=>by have:=(h x hx).rng z hz;omega)] at hw
  have:=(h x hx).rng _ (of_decide_eq_true hw)
  omega) h1
 simpa using h2
theorem SK.next {g:LL}(hg:GOk g){set left out:LI}(h:SK g set left out){i v:Nat}(hi:i<left.length)(hv:left[i]=(v:Int)):
  SK g (set++[(v:Int)]) ((left.drop (i+1)).filter λx=>decide (x∈row g v)) ((out++left.take i).filter λx=>decide (x∈row g v))∧
  (∀x,Sol g (set++[(v:Int)]) ((left.drop (i+1)).filter λx=>decide (x∈row g v)) x↔∃y,x=set++(v:Int)::y∧(∀z∈y,z∈left)∧Fin' g x):=by
 have hvm:(v:Int)∈left:=by rw[←hv];exact List.getElem_mem hi
 have hvr:=h.r1 _ (List.mem_append.2 (.inr hvm))
 have hvn:v<g.length:=by omega
 have hinc:=List.pairwise_append.1 h.inc
 have hsplit:left=left.take i++(v:Int)::left.drop (i+1):=by
  rw[←hv,List.getElem_cons_drop,List.take_append_drop]
 have hdrop:∀z,z∈left.drop (i+1)↔z∈left∧(v:Int)<z:=λz=>by
  have h2:=hinc.2.1
  rw[hsplit] at h2
  have h3:=List.pairwise_append.1 h2
  have h4:=List.pairwise_cons.1 h3.2.1
  constructor
  ·intro hz
   exact⟨List.mem_of_mem_drop hz,h4.1 z hz⟩
  ·rintro⟨h5,h6⟩
   rw[hsplit] at h5
   rcases List.mem_append.1 h5 with h5|h5
   ·have:=h3.2.2 z h5 (v:Int) (by simp);omega
   ·rcases List.mem_cons.1 h5 with rfl|h5
    ·omega
    ·exact h5
 refine⟨⟨?_,?_,?_,?_,?_,?_⟩,λx=> ?_⟩
 ·rw[List.append_assoc]
  refine List.pairwise_append.2 ⟨hinc.1,?_,λa ha b hb=> ?_⟩
  ·rw[List.singleton_append]
   refine List.pairwise_cons.2 ⟨λz hz=>((hdrop z).1 (List.mem_filter.1 hz).1).2,?_⟩
   exact List.Pairwise.filter _ (List.Pairwise.sublist (List.drop_sublist _ _) hinc.2.1)
  ·refine hinc.2.2 a ha b ?_
   rw[List.singleton_append] at hb
   rcases List.mem_cons.1 hb with rfl|hb
   ·exact hvm
   ·exact((hdrop b).1 (List.mem_filter.1 hb).1).1
 ·intro z hz
  rcases List.mem_append.1 hz with hz|hz
  ·rcases List.mem_append.1 hz with hz|hz
   ·exact h.r1 z (List.mem_append.2 (.inl hz))
   ·simp at hz;subst hz;exact hvr
  ·exact h.r1 z (List.mem_append.2 (.inr ((hdrop z).1 (List.mem_filter.1 hz).1).1))
 ·intro z hz
  rcases List.mem_append.1 (List.mem_filter.1 hz).1 with hz|hz
  ·exact h.r2 z hz
  ·exact h.r1 z (List.mem_append.2 (.inr (List.mem_of_mem_take hz)))
 ·intro u w hu hw hne
  have key:∀a:Nat,(a:Int)∈set→adj g a v:=λa ha=>(h.cn v hvn).1 (.inl hvm) a ha
  rcases List.mem_append.1 hu with hu1|hu1<;>rcases List.mem_append.1 hw with hw1|hw1
  ·exact h.cq u w hu1 hw1 hne
  ·have e:w=v:=by simp at hw1;omega
   rw[e];exact key u hu1
  ·have e:u=v:=by simp at hu1;omega
   rw[e]
   have:=h.r1 _ (List.mem_append.2 (.inl hw1))
   exact hg.sym w v (by omega) (key w hw1)
  ·simp at hu1 hw1;omega
 ·intro w hw
  have h1:=h.cn w hw
  have hself:(w:Int)∈row g v→w≠v:=λha e=>by subst e;exact hg.irr w hw ha
  constructor
  ·intro hm u hu
   have hm':((w:Int)∈left∨(w:Int)∈out)∧(w:Int)∈row g v:=by
    rcases hm with hm|hm
    ·obtain⟨a1,a2⟩:=List.mem_filter.1 hm
     exact⟨.inl ((hdrop _).1 a1).1,of_decide_eq_true a2⟩
    ·obtain⟨a1,a2⟩:=List.mem_filter.1 hm
     refine⟨?_,of_decide_eq_true a2⟩
     rcases List.mem_append.1 a1 with a1|a1
     ·exact .inr a1
     ·exact .inl (List.mem_of_mem_take a1)
   rcases List.mem_append.1 hu with hu|hu
   ·exact h1.1 hm'.1 u hu
   ·have:u=v:=by simp at hu;omega
    subst this;exact hm'.2
  ·intro hA
   have hav:(w:Int)∈row g v:=hA v (by simp)
   have hne:=hself hav
   rcases h1.2 (λu hu=>hA u (List.mem_append.2 (.inl hu))) with hm|hm
   ·rw[hsplit] at hm
    rcases List.mem_append.1 hm with hm|hm
    ·exact .inr (List.mem_filter.2 ⟨List.mem_append.2 (.inr hm),decide_eq_true hav⟩)
    ·rcases List.mem_cons.1 hm with hm|hm
     ·omega
     ·exact .inl (List.mem_filter.2 ⟨hm,decide_eq_true hav⟩)
   ·exact .inr (List.mem_filter.2 ⟨List.mem_append.2 (.inl hm),decide_eq_true hav⟩)
 ·have a1:((left.drop (i+1)).filter λx=>decide (x∈row g v)).length≤(left.drop (i+1)).length:=List.length_filter_le _ _
  have a2:((out++left.take i).filter λx=>decide (x∈row g v)).length≤(out++left.take i).length:=List.length_filter_le _ _
  have:=h.len
  simp only[List.length_drop,List.length_append,List.length_take] at a1 a2
  omega
 ·constructor
  ·rintro⟨y,rfl,hy,hf⟩
   exact⟨y,by simp,λz hz=>((hdrop z).1 (List.mem_filter.1 (hy z hz)).1).1,hf⟩
  ·rintro⟨y,rfl,hy,hf⟩
   refine⟨y,by simp,λz hz=> ?_,hf⟩
   have hz2:=hf.rng z (by simp[hz])
   have h6:=(List.pairwise_cons.1 (List.pairwise_append.1 hf.inc).2.1).1 z hz
   refine List.mem_filter.2 ⟨(hdrop z).2 ⟨hy z hz,h6⟩,decide_eq_true ?_⟩
   have:=hf.cq v z.toNat (by simp) (by rw[show ((z.toNat:Nat):Int)=z by omega];simp[hz]) (by omega)
   unfold adj at this
   rwa [show ((z.toNat:Nat):Int)=z by omega] at this
theorem l8R_ok {g:LL}(hg:GOk g):∀(fuel:Nat) (set left out:LI),left.length<fuel→SK g set left out→
  ∃L,D.Z0 fuel g set left out=some L∧(∀x,x∈L↔Sol g set left x)∧L.Pairwise λa b=>cz a b<0
 |0,_,left,_,h,_=>by omega
 |fuel+1,set,left,out,hfu,h=>by
  have h16:=hg.n16
  unfold D.Z0
  have hsl:=inc_len (n:=g.length) h.inc h.r1
  rw[List.length_append] at hsl
  have hol:=h.len
  by_cases hb:left=[]∧out=[]
  ·obtain⟨rfl,rfl⟩:=hb
   refine⟨[set],rfl,λx=> ?_,by simp⟩
   rw[List.mem_singleton]
   have hf:Fin' g set:=by
    refine⟨by have:=h.inc;rwa [List.append_nil] at this,λz hz=>h.r1 z (by simp[hz]),h.cq,λw hw=> ?_⟩
    apply Classical.byContradiction
    intro hc
    have:=(h.cn w hw).2 (λu hu=>Classical.byContradiction λhn=>hc ⟨u,hu,hn⟩)
    simp at this
   constructor
   ·rintro rfl;exact⟨[],by simp,by simp,hf⟩
   ·rintro⟨y,rfl,hy,_⟩
    cases y with
    |nil=>simp
    |cons z y=>have:=hy z (by simp);simp at this
  ·have e0:(((left.length:Int)==0)&&((out.length:Int)==0))=false:=by
    rw[Bool.eq_false_iff]
    intro hc
    simp only[Bool.and_eq_true,beq_iff_eq] at hc
    exact hb ⟨List.length_eq_zero_iff.1 (by omega),List.length_eq_zero_iff.1 (by omega)⟩
   rw[e0,cond_false]
   have hnot:∀x,Sol g set left x↔∃j,∃hj:j<left.length,∃y,x=set++left[j]::y∧(∀z∈y,z∈left)∧Fin' g x:=λx=>by
    constructor
    ·rintro⟨y,rfl,hy,hf⟩
     cases y with
     |nil=>
      exfalso
      have hex:∃w:Nat,w<g.length∧((w:Int)∈left∨(w:Int)∈out):=by
       cases hl:left with
       |cons a l=>
        have:=h.r1 a (by simp[hl])
        exact⟨a.toNat,by omega,.inl (by rw[show ((a.toNat:Nat):Int)=a by omega];simp)⟩
       |nil=>
        cases ho:out with
        |nil=>exact absurd ⟨hl,ho⟩ hb
        |cons a l=>
         have:=h.r2 a (by simp[ho])
         exact⟨a.toNat,by omega,.inr (by rw[show ((a.toNat:Nat):Int)=a by omega];simp)⟩
      obtain⟨w,hw,hm⟩:=hex
      obtain⟨u,hu,hn⟩:=hf.mx w hw
      rw[List.append_nil] at hu
      exact hn ((h.cn w hw).1 hm u hu)
     |cons z y=>
      obtain⟨j,hj,e⟩:=List.getElem_of_mem (hy z (by simp))
      exact⟨j,hj,y,by rw[e],λt ht=>hy t (by simp[ht]),hf⟩
    ·rintro⟨j,hj,y,rfl,hy,hf⟩
     refine⟨_,rfl,λz hz=> ?_,hf⟩
     rcases List.mem_cons.1 hz with rfl|hz
     ·exact List.getElem_mem hj
     ·exact hy z hz
   refine AW (λs=>∃i:Nat,s.2=(i:Int)∧i≤left.length∧(∀x,x∈s.1↔∃j,∃hj:j<left.length,j<i∧∃y,x=set++left[j]::y∧(∀z∈y,z∈left)∧Fin' g x)∧s.1.Pairwise λa b=>cz a b<0)
    (λs=>left.length-s.2.toNat) (λL=>(∀x,x∈L↔Sol g set left x)∧L.Pairwise λa b=>cz a b<0) ?_ ⟨0,rfl,by omega,λx=>⟨λhx=>by simp at hx,fun⟨j,_,hj,_⟩=>by omega⟩,by simp⟩ (λL hL=>⟨L,rfl,hL⟩)
   rintro⟨fd,_⟩ ⟨i,rfl,hi,hfd,hpw⟩
   dsimp only at hfd hpw ⊢
   by_cases hil:i<left.length
   ·have hr:=h.r1 _ (List.mem_append.2 (.inr (List.getElem_mem hil)))
    obtain⟨v,hv⟩:∃v:Nat,left[i]=(v:Int):=⟨left[i].toNat,by omega⟩
    have hvn:v<g.length:=by omega
    obtain⟨hsk,hsol⟩:=h.next hg hil hv
    have hdl:((left.drop (i+1)).filter λx=>decide (x∈row g v)).length≤(left.drop (i+1)).length:=List.length_filter_le _ _
    rw[List.length_drop] at hdl
    obtain⟨L,e1,hL,hLp⟩:=l8R_ok hg fuel _ _ _ (by omega) hsk
    have hrow:=hg.row_len hvn
    have hS:∀l:LI,l.length≤64→Sh l:=λl hl=>by unfold Sh;omega
    have c1:D.N0 set=some set:=l1Copy_eq _ (hS _ (by omega))
    have c2:D.N0 out=some out:=l1Copy_eq _ (hS _ (by omega))
    have c3:AH set [(v:Int)]=some (set++[(v:Int)]):=Be (by simp;omega)
    have c4:AH out (left.take i)=some (out++left.take i):=Be (by simp;omega)
    have c5:=l8Meet_eq (left.drop (i+1)) (row g v) (hS _ (by simp;omega)) (hS _ (by omega))
    have c6:=l8Meet_eq (out++left.take i) (row g v) (hS _ (by simp;omega)) (hS _ (by omega))
    have hfdF:∀x∈fd,Fin' g x:=λx hx=>by
     obtain⟨_,_,_,_,_,_,hf⟩:=(hfd x).1 hx
     exact hf
    have hLF:∀x∈L,Fin' g x:=λx hx=>by
     obtain⟨_,_,_,hf⟩:=(hL x).1 hx
     exact hf
    have n1:=sols_len h16 hfdF hpw
    have n2:=sols_len h16 hLF hLp
    have c7:AH fd L=some (fd++L):=Be (by omega)
    simp only[dlt hil,cond_true,AB hil,hv,bs,wq i,sliceD_post (show i+1≤left.length by omega),sliceD_pre (show i≤left.length by omega),Cd hvn,c1,c2,c3,c4,c5,c6,e1,c7]
    refine⟨_,rfl,⟨i+1,rfl,by omega,λx=> ?_,?_⟩,by dsimp only;omega⟩
    ·dsimp only
     rw[List.mem_append,hfd,hL,hsol]
     constructor
     ·rintro(⟨j,hj,hji,hx⟩|hx)
      ·exact⟨j,hj,by omega,hx⟩
      ·exact⟨i,hil,by omega,by rw[hv];exact hx⟩
     ·rintro⟨j,hj,hji,hx⟩
      by_cases he:j=i
      ·subst he
       rw[hv] at hx
       exact .inr hx
      ·exact .inl ⟨j,hj,by omega,hx⟩
    ·dsimp only
     refine List.pairwise_append.2 ⟨hpw,hLp,λa ha b hb'=> ?_⟩
     obtain⟨j,hj,hji,y,rfl,_⟩:=(hfd a).1 ha
     obtain⟨y',rfl,_⟩:=(hsol b).1 ((hL b).1 hb')
     rw[cz_app]
     refine cz_head _ _ ?_
     rw[←hv]
     exact List.pairwise_iff_getElem.1 (List.pairwise_append.1 h.inc).2.1 j i hj hil hji
   ·obtain rfl:i=left.length:=by omega
    simp only[Bg,cond_false]
    refine⟨_,rfl,λx=> ?_,hpw⟩
    rw[hfd,hnot]
    exact⟨fun⟨j,hj,_,hx⟩=>⟨j,hj,hx⟩,fun⟨j,hj,hx⟩=>⟨j,hj,hj,hx⟩⟩
theorem fin_mx {g:LL}(hg:GOk g){x:LI}(h:Fin' g x):In g.length (mk x)∧MX (g.map mk) g.length (mk x):=by
 have h16:=hg.n16
 have hm:∀w:Nat,has (mk x) w=true↔(w:Int)∈x:=λw=>by
  rw[CR (λz hz=>by have:=h.rng z hz;omega)];simp
 have hl:∀w:Nat,(w:Int)∈x→w<g.length:=λw hw=>by have:=h.rng _ hw;omega
 refine⟨⟨VS.mk _,λw hw=>hl w ((hm w).1 hw)⟩,λu w hu hw hne=> ?_,λw hw _=> ?_⟩
 ·exact(BE hg (hl u ((hm u).1 hu))).2 (h.cq u w ((hm u).1 hu) ((hm w).1 hw) hne)
 ·obtain⟨u,hu,hn⟩:=h.mx w hw
  refine⟨u,(hm u).2 hu,?_⟩
  rw[Bool.eq_false_iff]
  intro hc
  exact hn ((BE hg (hl u hu)).1 hc)
theorem mx_fin {g:LL}(hg:GOk g){K:Int}(hI:In g.length K)(h:MX (g.map mk) g.length K):Fin' g (Am K):=by
 have hm:∀w:Nat,(w:Int)∈Am K↔has K w=true:=λw=>AM hI.1
 refine⟨Bu _,λz hz=> ?_,λu w hu hw hne=> ?_,λw hw=> ?_⟩
 ·obtain⟨v,_,h2,rfl⟩:=mem_elems.1 hz
  have:=hI.2 v h2
  omega
 ·have hu':=(hm u).1 hu
  exact(BE hg (hI.2 u hu')).1 (h.1 u w hu' ((hm w).1 hw) hne)
 ·cases hc:has K w
  ·obtain⟨u,hu,hn⟩:=h.2 w hw hc
   refine⟨u,(hm u).2 hu,λha=> ?_⟩
   rw[(BE hg (hI.2 u hu)).2 ha] at hn;cases hn
  ·exact⟨w,(hm w).2 hc,hg.irr w hw⟩
structure GC (g:LL)(l:LI):Prop where
 up:l.Pairwise λa b=>lkey a<lkey b
 mem:∀K,K∈l↔In g.length K∧MX (g.map mk) g.length K
theorem CliquesOf_all {g:LL}(hg:GOk g):∃l,D.t (g.map mk)=some l∧l.length≤65536∧D.h1 g=some (l.map Am)∧D.i1 g=some (l.map Am)∧GC g l:=by
 have h16:=hg.n16
 obtain⟨l,e1,hup,hmem⟩:=cliquesOf_ok hg.n1 h16 (FOk.of hg)
 have hGC:GC g l:=⟨hup,hmem⟩
 have hvs:∀s∈l,VS s:=λs hs=>((hmem s).1 hs).1.1
 have hll:=Dc h16 (λK hK=>((hmem K).1 hK).1) (Dl hup)
 refine⟨l,e1,by omega,?_,?_,hGC⟩
 ·unfold D.h1
  rw[Bz g hg.sh2,BY hg,bs,Bool.not_true,cond_false,Cy g hg,bs,e1,bs,results_eq l (by unfold Sh;omega) hvs];rfl
 ·unfold D.i1 D.d D.h0
  rw[B1 g hg.sh2,BY hg,bs,Bool.not_true,cond_false,bs,l1All_eq g.length (by omega),bs]
  have hrg:∀z,z∈(List.range g.length).map Int.ofNat↔0≤z∧z<g.length:=λz=>by
   rw[List.mem_map]
   constructor
   ·rintro⟨v,hv,rfl⟩
    have:=List.mem_range.1 hv
    exact⟨Int.natCast_nonneg v,by show (v:Int)<_;omega⟩
   ·intro h
    exact⟨z.toNat,List.mem_range.2 (by omega),by show ((z.toNat:Nat):Int)=z;omega⟩
  have hinc:Inc ((List.range g.length).map Int.ofNat):=by
   unfold Inc
   rw[List.pairwise_map]
   exact List.Pairwise.imp (fun{a b} h=>by show (a:Int)<(b:Int);omega) List.pairwise_lt_range
  have h33:=Dh
  obtain⟨L,e2,hL,hLp⟩:=l8R_ok hg Bv [] ((List.range g.length).map Int.ofNat) [] (by simp;omega) ⟨hinc,λz hz=>(hrg z).1 hz,by simp,λu w hu=>by simp at hu,λw hw=>⟨λ_ u hu=>by simp at hu,λ_=> .inl ((hrg _).2 (by omega))⟩,by simp;omega⟩
  have hLF:∀x,x∈L↔Fin' g x:=λx=>by
   rw[hL]
   constructor
   ·rintro⟨y,rfl,_,hf⟩;exact hf
   ·intro hf
    exact⟨x,rfl,λz hz=>(hrg z).2 (hf.rng z hz),hf⟩
  have hem:∀x∈L,Am (mk x)=x:=λx hx=>elems_mk h16 ((hLF x).1 hx).inc ((hLF x).1 hx).rng
  have hLm:L.map mk=l:=by
   refine Ey (k:=lkey) ?_ hup (λK=> ?_)
   ·rw[List.pairwise_map]
    refine List.Pairwise.imp_of_mem (fun{a b} ha hb hab=> ?_) hLp
    have fa:=(hLF a).1 ha;have fb:=(hLF b).1 hb
    have la:=inc_len fa.inc fa.rng;have lb:=inc_len fb.inc fb.rng
    unfold lkey
    rw[hem a ha,hem b hb]
    exact(lk_cmp 32 a b (by omega) (by omega) (λz hz=>by have:=fa.rng z hz;omega) (λz hz=>by have:=fb.rng z hz;omega)).1 hab
   ·rw[List.mem_map,hmem]
    constructor
    ·rintro⟨x,hx,rfl⟩
     exact fin_mx hg ((hLF x).1 hx)
    ·rintro⟨hI,hM⟩
     exact⟨Am K,(hLF _).2 (mx_fin hg hI hM),mk_elems hI.1⟩
  have hLe:L=l.map Am:=by
   rw[←hLm,List.map_map]
   have:L.map (Am∘mk)=L.map id:=List.map_congr_left (λx hx=>hem x hx)
   rw[this,List.map_id]
  rw[e2,bs,bs,hLe]
def BM (f:Int→Nat):LI→Nat
 |[]=>0
 |x::l=>f x+BM f l
theorem isum_app (f:Int→Nat):∀l l',BM f (l++l')=BM f l+BM f l'
 |[],l'=>by simp[BM]
 |x::l,l'=>by simp only[List.cons_append,BM];rw[isum_app f l l'];omega
theorem Eh (f:Int→Nat)(l:LI)(x:Int):BM f (l++[x])=BM f l+f x:=by rw[isum_app];simp[BM]
theorem isum_els (f:Int→Nat)(s:Int):∀n,BM f (els s n)=Bs (λv=>if has s v then f (v:Int) else 0) n
 |0=>rfl
 |n+1=>by
  rw[els_succ]
  simp only[Bs]
  rw[←isum_els f s n]
  cases has s n
  ·simp
  ·simp only[if_true];rw[Eh]
theorem Dk (f:Int→Nat){s:Int}{n:Nat}(hn:n≤32)(h:∀v,has s v=true→v<n):BM f (Am s)=Bs (λv=>if has s v then f (v:Int) else 0) n:=by
 rw[←els_all hn h,isum_els]
theorem isum_le (f:Int→Nat)(b:Nat):∀(l:LI),(∀x∈l,f x≤b)→BM f l≤l.length*b
 |[],_=>by simp[BM]
 |x::l,h=>by
  have h1:=isum_le f b l (λy hy=>h y (List.mem_cons_of_mem _ hy))
  have h2:=h x (by simp)
  simp only[BM,List.length_cons,Nat.succ_mul]
  omega
theorem sum_bit (c:Bool)(p:Nat→Bool)(n:Nat):Bs (λw=>bit (c&&p w)) n=if c then Bs (λw=>bit (p w)) n else 0:=by
 cases c
 ·simp only[Bool.false_and];exact Ed n
 ·simp
def mis (F:LI)(n:Nat)(S:Int):Nat:=S2 n (λu w=>has S u&&(has S w&&(decide (w<u)&& !nb F w u)))
theorem DE {F:LI}{n:Nat}{S:Int}(h16:n≤16)(h:FOk F n)(hS:VS S)(hlt:∀v,has S v=true→v<n):D.r F S=some (mis F n S:Int):=by
 have hel:=Bl S
 have hf:∀(S':Int),(Am S').length≤32:=Bl
 have hb:∀i,BM (λu=>(Am (iandNot .u32 (iandNot .u32 S (F.getD u.toNat 0)) (ishl .u32 1 u))).length) ((Am S).take i)≤1024:=λi=>by
  have:=isum_le (λu=>(Am (iandNot .u32 (iandNot .u32 S (F.getD u.toNat 0)) (ishl .u32 1 u))).length) 32 ((Am S).take i) (λx _=>hf _)
  have h2:((Am S).take i).length≤32:=by rw[List.length_take];omega
  have:=Nat.mul_le_mul_right 32 h2
  omega
 have hsum:BM (λu=>(Am (iandNot .u32 (iandNot .u32 S (F.getD u.toNat 0)) (ishl .u32 1 u))).length) (Am S)=2*mis F n S:=by
  rw[Dk _ (n:=n) (by omega) hlt]
  have e1:S2 n (λu w=>has S u&&(has S w&&(!nb F u w&&decide (w≠u))))=Bs (λv=>if has S v then(Am (iandNot .u32 (iandNot .u32 S (F.getD v 0)) (ishl .u32 1 (v:Int)))).length else 0) n:=by
   unfold S2
   refine BW λu hu=> ?_
   rw[sum_bit]
   have hh:∀w,has (iandNot .u32 (iandNot .u32 S (F.getD u 0)) (ishl .u32 1 (u:Int))) w=(has S w&&(!nb F u w&&decide (w≠u))):=λw=>by
    rw[AX (VS.iandNot _ _) (VS.ishl _ _),AX hS (h.vs u hu),A8 (by omega)]
    unfold nb
    by_cases e:w=u<;>simp[e]
   rw[elems_sum (n:=n) (by omega) (λv hv=>by rw[hh,Bool.and_eq_true] at hv;exact hlt v hv.1)]
   simp only[hh]
  have e2:(λv:Nat=>if has S v then(λu:Int=>(Am (iandNot .u32 (iandNot .u32 S (F.getD u.toNat 0)) (ishl .u32 1 u))).length) (v:Int) else 0)=(λv:Nat=>if has S v then(Am (iandNot .u32 (iandNot .u32 S (F.getD v 0)) (ishl .u32 1 (v:Int)))).length else 0):=by
   funext v;simp only[Int.toNat_natCast]
  rw[e2,←e1]
  rw[S2_half (n:=n) (A:=λu w=>has S u&&(has S w&&(!nb F u w&&decide (w≠u)))) (lt:=λu w=>decide (w<u)) ?_ ?_ ?_]
  ·congr 1
   unfold mis
   refine S2_congr λu w hu hw=> ?_
   have hsym:nb F u w=nb F w u:=by
    rw[Bool.eq_iff_iff]
    exact⟨h.sym u w hu,h.sym w u hw⟩
   rw[hsym]
   by_cases e:w<u
   ·have:decide (w≠u)=true:=by simp;omega
    simp[e,this]
   ·simp[e]
  ·intro u w hu hw
   have hsym:nb F u w=nb F w u:=by
    rw[Bool.eq_iff_iff]
    exact⟨h.sym u w hu,h.sym w u hw⟩
   rw[hsym]
   by_cases e:w=u
   ·subst e;rfl
   ·have e':¬u=w:=λx=>e x.symm
    cases has S u<;>cases has S w<;>simp[e,e']
  ·intro u w hu hw ha
   simp only[Bool.and_eq_true,decide_eq_true_eq] at ha ⊢
   omega
  ·intro u w hu hw h1 h2
   simp only[decide_eq_true_eq] at h1 h2
   omega
 unfold D.r
 rw[Cz S hS,bs]
 refine(C4 (λi=>(((BM (λu=>(Am (iandNot .u32 (iandNot .u32 S (F.getD u.toNat 0)) (ishl .u32 1 u))).length) ((Am S).take i):Nat):Int),(i:Int))) (Am S).length ((BM (λu=>(Am (iandNot .u32 (iandNot .u32 S (F.getD u.toNat 0)) (ishl .u32 1 u))).length) (Am S):Nat):Int) (by simp[BM]) (λi hi=> ?_) ?_).trans ?_
 ·obtain⟨v,_,q1,q2⟩:=mem_elems.1 (List.getElem_mem hi)
  have hb1:=hb i
  have hb2:=hf (iandNot .u32 (iandNot .u32 S (F.getD v 0)) (ishl .u32 1 (v:Int)))
  rw[List.take_succ_eq_append_getElem hi,Eh,q2]
  simp only[dlt hi,cond_true,AB hi,q2,bs,idx_F h (hlt v q1),B5,size_eq (VS.iandNot _ _),wq i,Int.toNat_natCast]
  rw[w64 (by omega) (by omega)]
  rfl
 ·simp only[Bg,cond_false,List.take_length]
 ·have:=hb (Am S).length
  rw[List.take_length,hsum] at this
  rw[hsum]
  congr 1
  rw[Int.tdiv_eq_ediv_of_nonneg (by omega)]
  have e:((2*mis F n S:Nat):Int)/2=(mis F n S:Int):=by omega
  rw[e,w64 (by omega) (by omega)]
theorem take_less {l:LI}(h:Inc l){i:Nat}(hi:i<l.length)(q:Int→Bool):(l.take i).filter q=l.filter (λy=>decide (y<l[i])&&q y):=by
 have e:=List.take_append_drop i l
 have h1:∀y∈l.take i,y<l[i]:=λy hy=>by
  obtain⟨k,hk,hki,rfl⟩:=mem_take_iff.1 hy
  exact(List.pairwise_iff_getElem.1 h) k i hk hi hki
 have h2:∀y∈l.drop i,¬y<l[i]:=λy hy=>by
  obtain⟨k,hk,rfl⟩:=List.getElem_of_mem hy
  rw[List.getElem_drop]
  rw[List.length_drop] at hk
  by_cases hk0:k=0
  ·subst hk0;simp
  ·have:=(List.pairwise_iff_getElem.1 h) i (i+k) hi (by omega) (by omega)
   omega
 have h3:l.filter (λy=>decide (y<l[i])&&q y)=(l.take i).filter (λy=>decide (y<l[i])&&q y)++(l.drop i).filter (λy=>decide (y<l[i])&&q y):=by
  rw[←List.filter_append,e]
 have h4:(l.drop i).filter (λy=>decide (y<l[i])&&q y)=[]:=List.filter_eq_nil_iff.2 (λy hy=>by simp[h2 y hy])
 rw[h3,h4,List.append_nil]
 exact List.filter_congr λy hy=>by simp[h1 y hy]
theorem EM {F:LI}{n:Nat}{S:Int}(h1:1≤n)(h16:n≤16)(h:FOk F n)(hS:VS S)(hlt:∀v,has S v=true→v<n):D.U0 (grow F) (Am S)=some (mis F n S:Int):=by
 have hel:=Bl S
 have hG:=GOk.grow h h1 h16
 have hGl:(grow F).length=n:=by rw[Dt,h.len]
 have hsum:BM (λx=>((Am S).filter λy=>decide (y<x)&& !decide (x∈row (grow F) y.toNat)).length) (Am S)=mis F n S:=by
  rw[Dk _ (n:=n) (by omega) hlt]
  unfold mis S2
  refine BW λu hu=> ?_
  rw[sum_bit]
  by_cases hu':has S u=true
  ·rw[if_pos hu',if_pos hu',EL (n:=n) (by omega) hlt]
   refine BW λw hw=> ?_
   congr 2
   have e1:decide ((w:Int)<(u:Int))=decide (w<u):=by simp
   have e2:decide ((u:Int)∈row (grow F) ((w:Int).toNat))=nb F w u:=by
    rw[Bool.eq_iff_iff,decide_eq_true_eq,Int.toNat_natCast]
    exact C1 h hw
   rw[e1,e2]
  ·rw[if_neg hu',if_neg hu']
 have hb:∀i,BM (λx=>((Am S).filter λy=>decide (y<x)&& !decide (x∈row (grow F) y.toNat)).length) ((Am S).take i)≤1024:=λi=>by
  have:=isum_le (λx=>((Am S).filter λy=>decide (y<x)&& !decide (x∈row (grow F) y.toNat)).length) 32 ((Am S).take i) (λx _=>Nat.le_trans (List.length_filter_le _ _) hel)
  have h2:((Am S).take i).length≤32:=by rw[List.length_take];omega
  have:=Nat.mul_le_mul_right 32 h2
  omega
 unfold D.U0
 refine(C4 (λi=>(((BM (λx=>((Am S).filter λy=>decide (y<x)&& !decide (x∈row (grow F) y.toNat)).length) ((Am S).take i):Nat):Int),(i:Int))) (Am S).length (mis F n S:Int) (by simp[BM]) (λi hi=> ?_) ?_).trans rfl
 ·obtain⟨u,_,q1,q2⟩:=mem_elems.1 (List.getElem_mem hi)
  have hb1:=hb i
  simp only[dlt hi,cond_true]
  refine(C4 (λk=>(((BM (λx=>((Am S).filter λy=>decide (y<x)&& !decide (x∈row (grow F) y.toNat)).length) ((Am S).take i)+(((Am S).take k).filter (λy=> !decide ((Am S)[i]∈row (grow F) y.toNat))).length:Nat):Int),(k:Int))) i ((BM (λx=>((Am S).filter λy=>decide (y<x)&& !decide (x∈row (grow F) y.toNat)).length) ((Am S).take (i+1)):Nat):Int) (by simp) (λk hk=> ?_) ?_).trans ?_
  ·have hkl:k<(Am S).length:=by omega
   obtain⟨w,_,p1,p2⟩:=mem_elems.1 (List.getElem_mem hkl)
   have hlen:(((Am S).take k).filter (λy=> !decide ((Am S)[i]∈row (grow F) y.toNat))).length≤32:=Nat.le_trans (List.length_filter_le _ _) (by rw[List.length_take];omega)
   rw[List.take_succ_eq_append_getElem hkl,List.filter_append,List.length_append]
   simp only[dlt hk,cond_true,AB hkl,AB hi,p2,q2,bs,l1Edge_eq (grow F) hG (show w<(grow F).length by rw[hGl];exact hlt w p1),wq k,List.filter_cons,List.filter_nil,Int.toNat_natCast]
   rw[q2] at hlen
   by_cases hm:(u:Int)∈row (grow F) w
   ·simp only[hm,decide_true,Bool.not_true,cond_false,Bool.false_eq_true,if_false,List.length_nil,Nat.add_zero]
   ·simp only[hm,decide_false,Bool.not_false,cond_true,if_true,List.length_singleton]
    rw[w64 (by omega) (by omega)]
    rfl
  ·simp only[Bg,cond_false]
   rw[take_less (Bu S) hi,List.take_succ_eq_append_getElem hi,Eh]
  ·rw[wq i]
 ·simp only[Bg,cond_false,List.take_length,hsum]
def cd (F:LI)(s v:Int):Int:=((Am (iand .u32 (F.getD v.toNat 0) s)).length:Int)
def cf (n:Nat)(F:LI)(s v:Int):Int:=(mis F n (iand .u32 (F.getD v.toNat 0) s):Int)
section
variable {g : LL} (hg : GOk g)
include hg
theorem DQ {F:LI}{s:Int}{v:Nat}(h:FOk F g.length)(hs:VS s)(hv:v<g.length):∀w,has (iand .u32 (F.getD v 0) s) w=true→w<g.length:=λw hw=>by
 rw[Cv (h.vs v hv) hs,Bool.and_eq_true] at hw
 exact h.lt v w hv hw.1
theorem OOk.shl {o:LI}(ho:OOk g o):Sh o:=ho.sh hg
end
end Go.Sx

namespace Go.Sx
def S16 (s:Int):Prop:=0≤s∧s<65536
theorem S16.vs {s:Int}(h:S16 s):VS s:=⟨h.1,by have:=h.2;omega⟩
theorem S16.nat {s:Int}(h:S16 s):∃n:Nat,s=n∧n<65536:=⟨s.toNat,by have:=h.1;omega,by have:=h.1;have:=h.2;omega⟩
theorem S16.lt {s:Int}(h:S16 s){v:Nat}(hv:has s v=true):v<16:=by
 obtain⟨n,rfl,hn⟩:=h.nat
 rw[BH] at hv
 have:=Nat.ge_two_pow_of_testBit hv
 apply Classical.byContradiction
 intro hc
 have h2:2^16≤2^v:=Nat.pow_le_pow_right (by omega) (by omega)
 omega
theorem In.of {n i:Nat}(h:i<2^n)(hn:n≤16):In n (i:Int):=by
 have:2^n≤2^16:=Nat.pow_le_pow_right (by omega) hn
 refine⟨⟨by omega,by omega⟩,λw hw=> ?_⟩
 rw[BH] at hw
 have:=Nat.ge_two_pow_of_testBit hw
 apply Classical.byContradiction
 intro hc
 have h2:2^n≤2^w:=Nat.pow_le_pow_right (by omega) (by omega)
 omega
theorem clq_pairs {g:LL}(hg:GOk g){l:LI}(hr:∀x∈l,0≤x∧x<g.length)(h:Clq g l l.length):∀u w:Nat,(u:Int)∈l→(w:Int)∈l→u≠w→adj g u w:=by
 intro u w hu hw hne
 obtain⟨i,hi,ei⟩:=List.getElem_of_mem hu
 obtain⟨k,hk,ek⟩:=List.getElem_of_mem hw
 have ru:=hr _ hu;have rw':=hr _ hw
 rcases Nat.lt_trichotomy i k with c|c|c
 ·have:=h k i hk c
  rw[Au hi,Au hk,ei,ek,Int.toNat_natCast,Int.toNat_natCast] at this
  exact this
 ·subst c;rw[ei] at ek;omega
 ·have:=h i k hi c
  rw[Au hi,Au hk,ei,ek,Int.toNat_natCast,Int.toNat_natCast] at this
  exact hg.sym w u (by omega) this
theorem Ew {g:LL}(hg:GOk g):∃y,D.a1 g=some y∧(y.2=true→OOk g y.1∧PEOg g y.1):=by
 have h16:=hg.n16
 unfold D.a1 D.d
 rw[B1 g hg.sh2,BY hg]
 simp only[bs,Bool.not_true,cond_false]
 rw[makeD_ok (by omega) (by omega),bs]
 refine AW
  (λs=>s.1.length=g.length∧s.2.length≤g.length∧s.2.Nodup∧(∀x∈s.2,0≤x∧x<g.length)∧(∀v,v<g.length→(s.1.getD v false=true↔(v:Int)∈s.2))∧PEOg g s.2) (λs=>g.length-s.2.length)
  (λr=>(∃l,r= .inl l∧OOk g l∧PEOg g l)∨∃l,r= .inr (l,false)) ?_ ?_ ?_
 ·rintro⟨gone,out⟩ ⟨hgl,hol,hnd,hrg,hm,hpe⟩
  dsimp only at hgl hol hnd hrg hm hpe ⊢
  by_cases hlt:out.length<g.length
  ·simp only[dlt hlt,cond_true]
   refine AW (λx=>∃v:Nat,x=(v:Int)∧v≤g.length) (λx=>g.length-x.toNat) (λr=>∃v:Nat,r=(v:Int)∧v≤g.length∧(v<g.length→gone.getD v false=false∧Clq g (lft g v gone) (lft g v gone).length)) ?_ ⟨0,rfl,by omega⟩ ?_
   ·rintro _ ⟨v,rfl,hv⟩
    by_cases hvn:v<g.length
    ·have hgv:gone[v]'(by omega)=gone.getD v false:=(Au (by omega) _).symm
     simp only[dlt hvn,cond_true,AB (show v<gone.length by omega),bs,wq v]
     cases hc:gone[v]'(by omega)
     ·rw[cond_false,l7Left_eq g hg hvn gone hgl,bs]
      obtain⟨b,e1,h1⟩:=l8Clique_ok g hg (lft g v gone) (lft_len hg hvn _) (lft_rng hg hvn _)
      rw[e1,bs]
      cases b
      ·rw[Bool.not_false,cond_true]
       exact⟨_,rfl,⟨v+1,rfl,by omega⟩,by simp;omega⟩
      ·rw[Bool.not_true,cond_false]
       exact⟨_,rfl,v,rfl,by omega,λ_=>⟨by rw[←hgv,hc],h1.1 rfl⟩⟩
     ·rw[cond_true]
      exact⟨_,rfl,⟨v+1,rfl,by omega⟩,by simp;omega⟩
    ·obtain rfl:v=g.length:=by omega
     simp only[Bg,cond_false]
     exact⟨_,rfl,_,rfl,by omega,λh=>by omega⟩
   ·rintro _ ⟨v,rfl,hvl,hv⟩
    by_cases hvn:v<g.length
    ·obtain⟨hgf,hq⟩:=hv hvn
     have hvo:(v:Int)∉out:=λhc=>by
      have:=(hm v hvn).2 hc
      rw[hgf] at this;cases this
     have e1:(((v:Nat):Int)==(g.length:Int))=false:=by simp;omega
     rw[e1,cond_false,AB (show v<gone.length by omega),bs,Be (by simp;omega),bs]
     refine⟨_,rfl,⟨by simp[hgl],by simp;omega,?_,?_,λx hx=> ?_,?_⟩,by simp;omega⟩
     ·rw[List.nodup_append]
      exact⟨hnd,by simp,λa ha b hb=>by simp at hb;subst hb;exact λe=>hvo (e▸ha)⟩
     ·intro x hx
      rcases List.mem_append.1 hx with hx|hx
      ·exact hrg x hx
      ·simp at hx;omega
     ·rw[Int.toNat_natCast,List.mem_append,List.mem_singleton]
      by_cases hxv:x=v
      ·subst hxv;simp[List.getD_eq_getElem?_getD,hgl,hx]
      ·have:(gone.set v true).getD x false=gone.getD x false:=by
        simp only[List.getD_eq_getElem?_getD,List.getElem?_set]
        rw[if_neg (λe=>hxv e.symm)]
       rw[this,hm x hx]
       exact⟨.inl,λh=>h.elim id (λe=>absurd (by omega) hxv)⟩
     ·intro j a u w hj hau haw hu hw hne
      dsimp only at hj hu hw
      by_cases hjl:j<out.length
      ·rw[List.getElem?_append_left hjl] at hj
       rw[List.take_append_of_le_length (by omega)] at hu hw
       exact hpe j a u w hj hau haw hu hw hne
      ·have hje:j=out.length:=by
        have:=(List.getElem?_eq_some_iff.1 hj).1
        simp at this;omega
       subst hje
       have hav:a=v:=by
        rw[List.getElem?_append_right (by omega)] at hj
        simp at hj;omega
       subst hav
       rw[List.take_of_length_le (by simp)] at hu hw
       have hin:∀x:Nat,adj g a x→(x:Int)∉out++[(a:Int)]→(x:Int)∈lft g a gone:=λx hx hxo=>by
        have hxn:=hg.lt hvn hx
        refine List.mem_filter.2 ⟨hx,?_⟩
        rw[Int.toNat_natCast]
        cases hc:gone.getD x false
        ·rfl
        ·exact absurd (List.mem_append.2 (.inl ((hm x hxn).1 hc))) hxo
       exact clq_pairs hg (lft_rng hg hvn gone) hq u w (hin u hau hu) (hin w haw hw) hne
    ·obtain rfl:v=g.length:=by omega
     simp only[beq_self_eq_true,cond_true]
     exact⟨_,rfl,.inr ⟨_,rfl⟩⟩
  ·have e1:decide ((out.length:Int)<(g.length:Int))=false:=decide_eq_false (by omega)
   rw[e1,cond_false]
   exact⟨_,rfl,.inl ⟨_,rfl,⟨by omega,hrg,hnd⟩,hpe⟩⟩
 ·refine⟨by simp,by simp,by simp,by simp,λv hv=> ?_,λj a u w hj=>by simp at hj⟩
  simp[List.getD_eq_getElem?_getD,List.getElem?_replicate,hv]
 ·rintro _ (⟨l,rfl,h1,h2⟩|⟨l,rfl⟩)
  ·exact⟨_,rfl,λ_=>⟨h1,h2⟩⟩
  ·exact⟨_,rfl,λh=>by cases h⟩
theorem chordal_few {g:LL}{o l:LI}(hg:GOk g)(ho:OOk g o)(hp:PEOg g o)(hl:GC g l):l.length≤g.length:=by
 classical
 have h16:=hg.n16
 let Bp:Nat→Nat→Prop:=λj w=>o[j]? =some (w:Int)∨∃v:Nat,o[j]? =some (v:Int)∧adj g v w∧(w:Int)∉o.take (j+1)
 let B:Nat→Int:=λj=>mk (((List.range g.length).filter λw=>decide (Bp j w)).map Int.ofNat)
 have hB:∀j w,has (B j) w=decide (w<g.length∧Bp j w):=λj w=>by
  show has (mk _) w=_
  rw[CR]
  ·rw[Bool.eq_iff_iff,decide_eq_true_eq,decide_eq_true_eq,List.mem_map]
   constructor
   ·rintro⟨x,hx,e⟩
    have e':(x:Int)=(w:Int):=e
    obtain rfl:x=w:=by omega
    have:=List.mem_filter.1 hx
    exact⟨List.mem_range.1 this.1,of_decide_eq_true this.2⟩
   ·rintro⟨h1,h2⟩
    exact⟨w,List.mem_filter.2 ⟨List.mem_range.2 h1,decide_eq_true h2⟩,rfl⟩
  ·intro z hz
   obtain⟨x,hx,rfl⟩:=List.mem_map.1 hz
   have:=List.mem_range.1 (List.mem_filter.1 hx).1
   exact⟨Int.natCast_nonneg x,by show (x:Int)<32;omega⟩
 have key:=BC (m:=(List.range g.length).map B) (Dl hl.up) (λK hK=>by
  obtain⟨hI,hM⟩:=(hl.mem K).1 hK
  have hne:∃v,has K v=true:=by
   cases hc:has K 0
   ·obtain⟨u,hu,_⟩:=hM.2 0 (by have:=hg.n1;omega) hc
    exact⟨u,hu⟩
   ·exact⟨0,hc⟩
  obtain⟨j,⟨v,hj,hv⟩,hmin⟩:=least_of (P:=λj=>∃v:Nat,o[j]? =some (v:Int)∧has K v=true) (by
   obtain⟨v,hv⟩:=hne
   obtain⟨i,_,e⟩:=place' ho (hI.2 v hv)
   exact⟨i,v,e,hv⟩)
  have hjl:j<g.length:=by
   have:=(List.getElem?_eq_some_iff.1 hj).1
   have:=ho.len
   omega
  have hvn:=hI.2 v hv
  have hlate:∀w,has K w=true→w≠v→(w:Int)∉o.take (j+1):=λw hw hwv hm=>by
   obtain⟨i,hi,hij,e⟩:=mem_take_iff.1 hm
   rcases Nat.lt_or_ge i j with c|c
   ·exact hmin i c ⟨w,by rw[List.getElem?_eq_getElem hi,e],hw⟩
   ·obtain rfl:i=j:=by omega
    rw[List.getElem?_eq_getElem hi,e] at hj
    have:(w:Int)=v:=Option.some.inj hj
    omega
  refine List.mem_map.2 ⟨j,List.mem_range.2 hjl,(VS.ext (VS.mk _) hI.1 (λw _=> ?_))⟩
  show has (B j) w=_
  rw[hB,Bool.eq_iff_iff,decide_eq_true_eq]
  constructor
  ·rintro⟨hwn,hb⟩
   rcases hb with hb|⟨v',hj',ha,hn⟩
   ·rw[hb] at hj
    have:(w:Int)=v:=Option.some.inj hj
    obtain rfl:w=v:=by omega
    exact hv
   ·rw[hj'] at hj
    have:(v':Int)=v:=Option.some.inj hj
    obtain rfl:v'=v:=by omega
    cases hc:has K w
    ·exfalso
     obtain⟨u,hu,hnu⟩:=hM.2 w hwn hc
     have hun:=hI.2 u hu
     have hadj:adj g u w:=by
      by_cases huv:u=v'
      ·rw[huv];exact ha
      ·have h1:=(BE hg hvn).1 (hM.1 v' u hv hu (λe=>huv e.symm))
       exact hp j v' u w hj' h1 ha (hlate u hu huv) hn (λe=>by subst e;rw[hc] at hu;cases hu)
     rw[(BE hg hun).2 hadj] at hnu;cases hnu
    ·rfl
  ·intro hw
   refine⟨hI.2 w hw,?_⟩
   by_cases hwv:w=v
   ·subst hwv;exact .inl hj
   ·exact .inr ⟨v,hj,(BE hg hvn).1 (hM.1 v w hv hw (λe=>hwv e.symm)),hlate w hw hwv⟩)
 simpa using key
theorem sumN_zero_iff {f:Nat→Nat}:∀{n:Nat},Bs f n=0↔∀i,i<n→f i=0
 |0=>⟨λ_ i hi=>by omega,λ_=>rfl⟩
 |n+1=>by
  simp only[Bs]
  constructor
  ·intro h i hi
   by_cases e:i=n
   ·subst e;omega
   ·exact sumN_zero_iff.1 (show Bs f n=0 by omega) i (by omega)
  ·intro h
   have h1:=h n (by omega)
   have h2:=(sumN_zero_iff (f:=f) (n:=n)).2 (λi hi=>h i (by omega))
   omega
theorem S2_zero_iff {n:Nat}{p:Nat→Nat→Bool}:S2 n p=0↔∀u w,u<n→w<n→p u w=false:=by
 unfold S2
 rw[sumN_zero_iff]
 constructor
 ·intro h u w hu hw
  have:=sumN_zero_iff.1 (h u hu) w hw
  unfold bit at this
  cases hc:p u w
  ·rfl
  ·rw[hc] at this;simp at this
 ·intro h u hu
  exact sumN_zero_iff.2 λw hw=>by rw[h u w hu hw];rfl
theorem mis_zero {F:LI}{n:Nat}{S:Int}(hF:FOk F n)(hS:In n S):mis F n S=0↔CQ F S:=by
 unfold mis
 rw[S2_zero_iff]
 constructor
 ·intro h u w hu hw hne
  have hun:=hS.2 u hu;have hwn:=hS.2 w hw
  rcases Nat.lt_or_gt_of_ne hne with c|c
  ·have:=h w u hwn hun
   simpa [hu,hw,c] using this
  ·have:=h u w hun hwn
   have h2:nb F w u=true:=by simpa [hu,hw,c] using this
   exact hF.sym w u hwn h2
 ·intro h u w hu hw
  cases h1:has S u
  ·simp
  ·cases h2:has S w
   ·simp
   ·by_cases hlt:w<u
    ·simp[h w u h2 h1 (by omega)]
    ·simp[hlt]
def ch (cs:LI)(i v:Nat):Bool:=has (cs.getD i 0) v
def Opn (cs:LI)(p:Int)(v:Nat):Prop:=(∃i,i<cs.length∧has p i=true∧ch cs i v=true)∧∃i,i<cs.length∧has p i=false∧ch cs i v=true
def Ft (cs:LI)(p:Int)(k:Nat):Prop:=k<cs.length∧has p k=false∧∀v,Opn cs p v→ch cs k v=true
inductive Ends (cs:LI):Int→Prop
 |all {p:Int}:(∀i,i<cs.length→has p i=true)→Ends cs p
 |go {p:Int} {k:Nat}:Ft cs p k→Ends cs (ior .u32 p (ishl .u32 1 (k:Int)))→Ends cs p
def Goes (cs:LI):Int→LI→Prop
 |p,[]=>∀i,i<cs.length→has p i=true
 |p,x::l=>∃k:Nat,x=(k:Int)∧Ft cs p k∧Goes cs (ior .u32 p (ishl .u32 1 (k:Int))) l
theorem Goes.ends {cs:LI}:∀{l:LI} {p:Int},Goes cs p l→Ends cs p
 |[],_,h=> .all h
 |_::_,_,⟨_,_,h1,h2⟩=> .go h1 h2.ends
theorem firstOf_eq (n:Nat):D.u (n:Int)=some (full n):=by
 unfold D.u full
 have:decide ((n:Int)<0)=false:=by simp
 rw[this,cond_false]
theorem DJ {f:Int→Int}(v:Nat):∀(xs:LI) (a:Int),VS a→(∀x∈xs,VS (f x))→VS (xs.foldl (λa x=>ior .u32 a (f x)) a)∧(has (xs.foldl (λa x=>ior .u32 a (f x)) a) v=true↔has a v=true∨∃x∈xs,has (f x) v=true)
 |[],a,ha,_=>⟨ha,by simp⟩
 |x::xs,a,ha,hf=>by
  have hx:=hf x (by simp)
  obtain⟨h1,h2⟩:=DJ v xs (ior .u32 a (f x)) (VS.ior _ _) (λy hy=>hf y (by simp[hy]))
  refine⟨h1,?_⟩
  rw[List.foldl_cons,h2,Bj ha hx,Bool.or_eq_true]
  simp only[List.mem_cons,exists_eq_or_imp,or_assoc]
section
variable {cs : LI} (hvs : ∀ s ∈ cs, VS s) (hm : cs.length ≤ 16)
include hvs hm
theorem clUnion_ok {p:Int}(hp:In cs.length p):∃u,D.M0 cs p=some u∧VS u∧∀v,has u v=true↔∃i,i<cs.length∧has p i=true∧ch cs i v=true:=by
 have hel:∀x∈Am p,∃i:Nat,x=(i:Int)∧i<cs.length∧has p i=true:=λx hx=>by
  obtain⟨i,_,h2,rfl⟩:=mem_elems.1 hx
  exact⟨i,rfl,hp.2 i h2,h2⟩
 have hvx:∀x∈Am p,VS (cs.getD x.toNat 0):=λx hx=>by
  obtain⟨i,rfl,hi,_⟩:=hel x hx
  rw[Int.toNat_natCast,Au hi]
  exact hvs _ (List.getElem_mem hi)
 have hlen:=Bl p
 have hl:=loop_list (step:=D.V0 cs (Am p)) (Am p) (λa i=>(a,i)) (λa x=>ior .u32 a (cs.getD x.toNat 0)) (λa=>a) (λ_=>True) 0 trivial
  (λs i hi _=>by
   refine⟨?_,trivial⟩
   obtain⟨k,e,hk,_⟩:=hel _ (List.getElem_mem hi)
   unfold D.V0
   simp only[dlt hi,cond_true,AB hi,bs,e,AB hk,Int.toNat_natCast,wq i,Au hk])
  (λs _=>by unfold D.V0;simp only[Bg,cond_false])
 refine⟨_,?_,(DJ 0 (Am p) 0 VS.zero hvx).1,λv=> ?_⟩
 ·unfold D.M0
  rw[Cz p hp.1,bs]
  exact hl.1
 ·rw[(DJ v (Am p) 0 VS.zero hvx).2,AY]
  constructor
  ·rintro(h|⟨x,hx,h⟩)
   ·cases h
   ·obtain⟨i,rfl,hi,hpi⟩:=hel x hx
    exact⟨i,hi,hpi,by simpa [ch] using h⟩
  ·rintro⟨i,hi,hpi,h⟩
   exact .inr ⟨(i:Int),(AM hp.1).2 hpi,by simpa [ch] using h⟩
theorem D3 {p:Int}(hp:In cs.length p):p=full cs.length↔∀i,i<cs.length→has p i=true:=by
 constructor
 ·rintro rfl i hi
  rw[Bm (by omega)];exact decide_eq_true hi
 ·intro h
  refine VS.ext hp.1 (CB _) (λv _=> ?_)
  rw[Bm (by omega)]
  by_cases hv:v<cs.length
  ·rw[h v hv];simp[hv]
  ·have:has p v=false:=by
    cases hh:has p v
    ·rfl
    ·exact absurd (hp.2 v hh) hv
   rw[this];simp[hv]
theorem Ft.in {p:Int}{k:Nat}(hp:In cs.length p)(h:Ft cs p k):In cs.length (ior .u32 p (ishl .u32 1 (k:Int)))∧∀v,has (ior .u32 p (ishl .u32 1 (k:Int))) v=(has p v||decide (v=k)):=by
 have hk:=h.1
 have he:∀v,has (ior .u32 p (ishl .u32 1 (k:Int))) v=(has p v||decide (v=k)):=λv=>by
  rw[Bj hp.1 (VS.ishl _ _),A8 (by omega)]
 refine⟨⟨VS.ior _ _,λv hv=> ?_⟩,he⟩
 rw[he,Bool.or_eq_true,decide_eq_true_eq] at hv
 rcases hv with hv|rfl
 ·exact hp.2 v hv
 ·exact hk
theorem clGrow_ok :∀(d fuel:Nat) (p:Int),d≤1000→In cs.length p→(Am (iandNot .u32 (full cs.length) p)).length≤d→d<fuel→∃r,D.e fuel cs p=some r∧(r=none→¬Ends cs p)∧∀l,r=some l→Goes cs p l∧l.length≤d:=by
 intro d
 induction d with
 |zero=>
  intro fuel p hd32 hp hd hf
  obtain⟨f,rfl⟩:∃f,fuel=f+1:=⟨fuel-1,by omega⟩
  have:p=full cs.length:=by
   rw[D3 hvs hm hp]
   intro i hi
   cases hh:has p i
   ·have:(i:Int)∈Am (iandNot .u32 (full cs.length) p):=(AM (VS.iandNot _ _)).2 (by rw[AX (CB _) hp.1,Bm (by omega),hh];simp[hi])
    have:=List.length_pos_of_mem this
    omega
   ·rfl
  refine⟨some [],?_,by simp,λl hl=> ?_⟩
  ·unfold D.e
   rw[firstOf_eq,bs,this]
   simp
  ·obtain rfl:=Option.some.inj hl
   exact⟨(D3 hvs hm hp).1 this,by simp⟩
 |succ d ih=>
  intro fuel p hd32 hp hd hf
  obtain⟨f,rfl⟩:∃f,fuel=f+1:=⟨fuel-1,by omega⟩
  unfold D.e
  rw[firstOf_eq,bs]
  by_cases hall:p=full cs.length
  ·have:(p==full cs.length)=true:=by simpa using hall
   rw[this,cond_true]
   refine⟨_,rfl,by simp,λl hl=> ?_⟩
   obtain rfl:=Option.some.inj hl
   exact⟨(D3 hvs hm hp).1 hall,by simp⟩
  ·have:(p==full cs.length)=false:=by simpa using hall
   rw[this,cond_false]
   have hfv:=CB cs.length
   have hq:In cs.length (iandNot .u32 (full cs.length) p):=⟨VS.iandNot _ _,λv hv=>by
    rw[AX hfv hp.1,Bm (by omega),Bool.and_eq_true,decide_eq_true_eq] at hv
    exact hv.1⟩
   have hqh:∀i,i<cs.length→(has (iandNot .u32 (full cs.length) p) i=true↔has p i=false):=λi hi=>by
    rw[AX hfv hp.1,Bm (by omega)];simp[hi]
   obtain⟨a,e1,va,ha⟩:=clUnion_ok hvs hm hp
   obtain⟨b,e2,vb,hb⟩:=clUnion_ok hvs hm hq
   rw[e1,bs,e2,bs,Cz _ hq.1,bs]
   have hopn:∀v,has (iand .u32 a b) v=true↔Opn cs p v:=λv=>by
    rw[Cv va vb,Bool.and_eq_true,ha,hb]
    unfold Opn
    refine and_congr Iff.rfl ⟨?_,?_⟩
    ·rintro⟨i,h1,h2,h3⟩;exact⟨i,h1,(hqh i h1).1 h2,h3⟩
    ·rintro⟨i,h1,h2,h3⟩;exact⟨i,h1,(hqh i h1).2 h2,h3⟩
   generalize hus:Am (iandNot .u32 (full cs.length) p)=us at hd ⊢
   have hmem:∀x,x∈us↔∃i:Nat,x=(i:Int)∧i<cs.length∧has p i=false:=λx=>by
    rw[←hus,mem_elems]
    constructor
    ·rintro⟨i,_,h2,rfl⟩;exact⟨i,rfl,hq.2 i h2,(hqh i (hq.2 i h2)).1 h2⟩
    ·rintro⟨i,rfl,h1,h2⟩;exact⟨i,by omega,(hqh i h1).2 h2,rfl⟩
   have hul:us.length≤32:=by rw[←hus];exact Bl _
   have key:∀(m i:Nat),i+m=us.length→(∀j (hj:j<us.length),j<i→∀k:Nat,us[j]=(k:Int)→Ft cs p k→¬Ends cs (ior .u32 p (ishl .u32 1 (k:Int))))→
     ∃r,Ao (D.z (D.e f cs) cs (iand .u32 a b) p us) (i:Int)=some r∧(r=none→¬Ends cs p)∧∀l,r=some l→Goes cs p l∧l.length≤d+1:=by
    intro m
    induction m with
    |zero=>
     intro i hi hno
     obtain rfl:i=us.length:=by omega
     refine⟨none,AV (by unfold D.z;simp only[Bg,cond_false]),λ_ he=> ?_,by simp⟩
     cases he with
     |all h=>exact hall ((D3 hvs hm hp).2 h)
     | @go _ k h1 h2=>
      obtain⟨j,hj,e⟩:=List.getElem_of_mem ((hmem _).2 ⟨k,rfl,h1.1,h1.2.1⟩)
      exact hno j hj hj k e h1 h2
    |succ m ihm=>
     intro i hi hno
     have hil:i<us.length:=by omega
     obtain⟨k,ek,hk,hpk⟩:=(hmem _).1 (List.getElem_mem hil)
     have vk:VS (cs.getD k 0):=by rw[Au hk];exact hvs _ (List.getElem_mem hk)
     have hnext:(¬Ft cs p k∨¬Ends cs (ior .u32 p (ishl .u32 1 (k:Int))))→∃r,Ao (D.z (D.e f cs) cs (iand .u32 a b) p us) ((i+1:Nat):Int)=some r∧(r=none→¬Ends cs p)∧∀l,r=some l→Goes cs p l∧l.length≤d+1:=λhh=>
      ihm (i+1) (by omega) (λj hj hji k' e' hF hE=>by
       by_cases hji':j<i
       ·exact hno j hj hji' k' e' hF hE
       ·obtain rfl:j=i:=by omega
        have:k'=k:=by rw[e'] at ek;omega
        subst this
        exact hh.elim (λh=>h hF) (λh=>h hE))
     have hstep0:D.z (D.e f cs) cs (iand .u32 a b) p us (i:Int)=cond (iandNot .u32 (iand .u32 a b) (cs.getD k 0) !=0) (some (.inl ((i+1:Nat):Int))) ((D.e f cs (ior .u32 p (ishl .u32 1 (k:Int)))).bind λr=>D.b1 (k:Int) (i:Int) r):=by
      unfold D.z
      simp only[dlt hil,cond_true,AB hil,bs,ek,AB hk,B5,wq i,Au hk]
     by_cases hfit:∀v,Opn cs p v→ch cs k v=true
     ·have hF:Ft cs p k:=⟨hk,hpk,hfit⟩
      have hz:(iandNot .u32 (iand .u32 a b) (cs.getD k 0) !=0)=false:=by
       have:iandNot .u32 (iand .u32 a b) (cs.getD k 0)=0:=by
        rw[VS.eq_zero (VS.iandNot _ _)]
        intro v _
        rw[AX (VS.iand _ _) vk]
        by_cases ho:Opn cs p v
        ·have:=hfit v ho
         unfold ch at this
         rw[this];simp
        ·have:has (iand .u32 a b) v=false:=by
          cases hh:has (iand .u32 a b) v
          ·rfl
          ·exact absurd ((hopn v).1 hh) ho
         rw[this];rfl
       simpa using this
      obtain⟨hin,hhas⟩:=Ft.in hvs hm hp hF
      have hdd:(Am (iandNot .u32 (full cs.length) (ior .u32 p (ishl .u32 1 (k:Int))))).length≤d:=by
       have h1:∀x,x∈(k:Int)::Am (iandNot .u32 (full cs.length) (ior .u32 p (ishl .u32 1 (k:Int))))→x∈us:=λx hx=>by
        rcases List.mem_cons.1 hx with rfl|hx
        ·exact(hmem _).2 ⟨k,rfl,hk,hpk⟩
        ·obtain⟨w,_,h2,rfl⟩:=mem_elems.1 hx
         rw[AX hfv (VS.ior _ _),Bm (by omega),hhas] at h2
         simp at h2
         exact(hmem _).2 ⟨w,rfl,h2.1,h2.2.1⟩
       have h2:((k:Int)::Am (iandNot .u32 (full cs.length) (ior .u32 p (ishl .u32 1 (k:Int))))).Nodup:=by
        refine List.nodup_cons.2 ⟨λhx=> ?_,List.Pairwise.imp (λh e=>by omega) (Bu _)⟩
        rw[AM (VS.iandNot _ _),AX hfv (VS.ior _ _),hhas] at hx
        simp at hx
       have:=BC h2 h1
       simp at this
       omega
      obtain⟨r,e,hr1,hr2⟩:=ih f _ (by omega) hin hdd (by omega)
      rw[hz,cond_false,e,bs] at hstep0
      cases r with
      |none=>
       rw[Bi (s':=((i+1:Nat):Int)) (by rw[hstep0];unfold D.b1;rw[wq i])]
       exact hnext (.inr (hr1 rfl))
      |some l=>
       obtain⟨hg,hgl⟩:=hr2 l rfl
       refine⟨some ((k:Int)::l),AV (by rw[hstep0];show ((AH [(k:Int)] l).bind λl=>some (Sum.inr (α:=Int) (some l)))=_;rw[Be (by simp;omega)];rfl),by simp,λl' hl'=> ?_⟩
       obtain rfl:=Option.some.inj hl'
       exact⟨⟨k,rfl,hF,hg⟩,by simp;omega⟩
     ·have hz:(iandNot .u32 (iand .u32 a b) (cs.getD k 0) !=0)=true:=by
       rw[bne_iff_ne]
       intro h0
       apply hfit
       intro v hv
       have h1:=(VS.eq_zero (VS.iandNot _ _)).1 h0
       unfold ch
       have hv32:v<32:=by
        by_cases h:v<32
        ·exact h
        ·have:=CZ (VS.iand a b) (show 32≤v by omega)
         rw[(hopn v).2 hv] at this;cases this
       have h2:=h1 v hv32
       rw[AX (VS.iand _ _) vk,(hopn v).2 hv] at h2
       simpa using h2
      rw[hz,cond_true] at hstep0
      rw[Bi hstep0]
      exact hnext (.inl (λh=>hfit h.2.2))
   exact key us.length 0 (by omega) (λj _ h=>by omega)
end
end Go.Sx

namespace Go.Sx
theorem Goes.mid {cs:LI}{v:Nat}:∀{l1:LI} {p:Int} {x:Nat} {l2:LI},cs.length≤16→In cs.length p→Goes cs p (l1++(x:Int)::l2)→((∃i,i<cs.length∧has p i=true∧ch cs i v=true)∨∃y:Nat,(y:Int)∈l1∧ch cs y v=true)→(∃z:Nat,(z:Int)∈l2∧ch cs z v=true)→ch cs x v=true
 |[],p,x,l2,hm,hp,⟨k,e,hF,hG⟩,h1,⟨z,hz,hzv⟩=>by
  obtain rfl:k=x:=by omega
  refine hF.2.2 v ⟨h1.elim id (fun⟨y,hy,_⟩=>by simp at hy),?_⟩
  have:∀(l:LI) (q:Int),In cs.length q→Goes cs q l→(z:Int)∈l→z<cs.length∧has q z=false:=by
   intro l
   induction l with
   |nil=>intro q _ _ h;simp at h
   |cons y l ih=>
    rintro q hq ⟨k',e',hF',hG'⟩ hzl
    rcases List.mem_cons.1 hzl with h|h
    ·obtain rfl:k'=z:=by omega
     exact⟨hF'.1,hF'.2.1⟩
    ·have hk':=hF'.1
     have he:∀w,has (ior .u32 q (ishl .u32 1 (k':Int))) w=(has q w||decide (w=k')):=λw=>by rw[Bj hq.1 (VS.ishl _ _),A8 (by omega)]
     have hin:In cs.length (ior .u32 q (ishl .u32 1 (k':Int))):=⟨VS.ior _ _,λw hw=>by
      rw[he,Bool.or_eq_true,decide_eq_true_eq] at hw
      rcases hw with hw|rfl
      ·exact hq.2 w hw
      ·exact hk'⟩
     obtain⟨a,b⟩:=ih _ hin hG' h
     rw[he,Bool.or_eq_false_iff] at b
     exact⟨a,b.1⟩
  obtain⟨h3,h4⟩:=this ((k:Int)::l2) p hp ⟨k,rfl,hF,hG⟩ (List.mem_cons_of_mem _ hz)
  exact⟨z,h3,h4,hzv⟩
 |y::l1,p,x,l2,hm,hp,⟨k,e,hF,hG⟩,h1,h2=>by
  subst e
  have hk:=hF.1
  have he:∀w,has (ior .u32 p (ishl .u32 1 (k:Int))) w=(has p w||decide (w=k)):=λw=>by rw[Bj hp.1 (VS.ishl _ _),A8 (by omega)]
  refine Goes.mid (l1:=l1) hm ⟨VS.ior _ _,λw hw=> ?_⟩ hG ?_ h2
  ·rw[he,Bool.or_eq_true,decide_eq_true_eq] at hw
   rcases hw with hw|rfl
   ·exact hp.2 w hw
   ·exact hk
  ·rcases h1 with⟨i,h3,h4,h5⟩|⟨i,h3,h5⟩
   ·exact .inl ⟨i,h3,by rw[he,h4];rfl,h5⟩
   ·rcases List.mem_cons.1 h3 with h|h
    ·obtain rfl:i=k:=by omega
     exact .inl ⟨i,hk,by rw[he];simp,h5⟩
    ·exact .inr ⟨i,h,h5⟩
theorem ends_of_line {cs:LI}(hm:cs.length≤16)(pt:Nat→Int)(hd:∀i j,i<cs.length→j<cs.length→pt i=pt j→i=j)
  (hc:∀v i j k,i<cs.length→j<cs.length→k<cs.length→pt i<pt j→pt j<pt k→ch cs i v=true→ch cs k v=true→ch cs j v=true):
  ∀(d:Nat) (p:Int),In cs.length p→(Am (iandNot .u32 (full cs.length) p)).length≤d→(∀i j,i<cs.length→j<cs.length→has p i=true→has p j=false→pt i<pt j)→Ends cs p:=by
 have hfv:=CB cs.length
 intro d
 induction d with
 |zero=>
  intro p hp hl _
  refine .all (λi hi=> ?_)
  cases hh:has p i
  ·have:(i:Int)∈Am (iandNot .u32 (full cs.length) p):=(AM (VS.iandNot _ _)).2 (by rw[AX hfv hp.1,Bm (by omega),hh];simp[hi])
   have:=List.length_pos_of_mem this
   omega
  ·rfl
 |succ d ih=>
  intro p hp hl hdown
  by_cases hall:∀i,i<cs.length→has p i=true
  ·exact .all hall
  have hex:∃k,k<cs.length∧has p k=false:=by
   apply Classical.byContradiction
   intro hno
   apply hall
   intro i hi
   cases hh:has p i
   ·exact absurd ⟨i,hi,hh⟩ hno
   ·rfl
  have hmin:∃k,k<cs.length∧has p k=false∧∀j,j<cs.length→has p j=false→pt k≤pt j:=by
   have:∀m,(∃k,k<m∧k<cs.length∧has p k=false)→∃k,k<cs.length∧has p k=false∧∀j,j<m→j<cs.length→has p j=false→pt k≤pt j:=by
    intro m
    induction m with
    |zero=>rintro⟨k,hk,_⟩;omega
    |succ m ihm=>
     rintro⟨k,hk,hk1,hk2⟩
     by_cases hprev:∃k,k<m∧k<cs.length∧has p k=false
     ·obtain⟨q,h1,h2,h3⟩:=ihm hprev
      by_cases hmm:m<cs.length∧has p m=false∧pt m<pt q
      ·refine⟨m,hmm.1,hmm.2.1,λj hj hj1 hj2=> ?_⟩
       by_cases hjm:j<m
       ·have:=h3 j hjm hj1 hj2;omega
       ·obtain rfl:j=m:=by omega
        omega
      ·refine⟨q,h1,h2,λj hj hj1 hj2=> ?_⟩
       by_cases hjm:j<m
       ·exact h3 j hjm hj1 hj2
       ·obtain rfl:j=m:=by omega
        by_cases hlt:pt j<pt q
        ·exact absurd ⟨hj1,hj2,hlt⟩ hmm
        ·omega
     ·have:k=m:=by
       by_cases h:k<m
       ·exact absurd ⟨k,h,hk1,hk2⟩ hprev
       ·omega
      subst this
      refine⟨k,hk1,hk2,λj hj hj1 hj2=> ?_⟩
      by_cases hjm:j<k
      ·exact absurd ⟨j,hjm,hj1,hj2⟩ hprev
      ·obtain rfl:j=k:=by omega
       omega
   obtain⟨k,h1,h2⟩:=hex
   obtain⟨q,h3,h4,h5⟩:=this cs.length ⟨k,h1,h1,h2⟩
   exact⟨q,h3,h4,λj hj=>h5 j hj hj⟩
  obtain⟨k,hk,hpk,hkm⟩:=hmin
  have hF:Ft cs p k:=⟨hk,hpk,λv ⟨⟨i,hi,hpi,hiv⟩,⟨j,hj,hpj,hjv⟩⟩=>by
   by_cases hjk:pt j=pt k
   ·rw[←hd j k hj hk hjk];exact hjv
   ·have h1:=hdown i k hi hk hpi hpk
    have h2:=hkm j hj hpj
    exact hc v i k j hi hk hj h1 (by omega) hiv hjv⟩
  have he:∀w,has (ior .u32 p (ishl .u32 1 (k:Int))) w=(has p w||decide (w=k)):=λw=>by rw[Bj hp.1 (VS.ishl _ _),A8 (by omega)]
  have hin:In cs.length (ior .u32 p (ishl .u32 1 (k:Int))):=⟨VS.ior _ _,λw hw=>by
   rw[he,Bool.or_eq_true,decide_eq_true_eq] at hw
   rcases hw with hw|rfl
   ·exact hp.2 w hw
   ·exact hk⟩
  refine .go hF (ih _ hin ?_ ?_)
  ·have h1:∀x,x∈(k:Int)::Am (iandNot .u32 (full cs.length) (ior .u32 p (ishl .u32 1 (k:Int))))→x∈Am (iandNot .u32 (full cs.length) p):=λx hx=>by
    rcases List.mem_cons.1 hx with rfl|hx
    ·exact(AM (VS.iandNot _ _)).2 (by rw[AX hfv hp.1,Bm (by omega),hpk];simp[hk])
    ·obtain⟨w,hw,h2,rfl⟩:=mem_elems.1 hx
     rw[AX hfv (VS.ior _ _),Bm (by omega),he] at h2
     simp at h2
     exact(AM (VS.iandNot _ _)).2 (by rw[AX hfv hp.1,Bm (by omega),h2.2.1];simp[h2.1])
   have h2:((k:Int)::Am (iandNot .u32 (full cs.length) (ior .u32 p (ishl .u32 1 (k:Int))))).Nodup:=by
    refine List.nodup_cons.2 ⟨λhx=> ?_,List.Pairwise.imp (λh e=>by omega) (Bu _)⟩
    rw[AM (VS.iandNot _ _),AX hfv (VS.ior _ _),he] at hx
    simp at hx
   have:=BC h2 h1
   simp at this
   omega
  ·intro i j hi hj h1 h2
   rw[he,Bool.or_eq_false_iff,decide_eq_false_iff_not] at h2
   rw[he,Bool.or_eq_true,decide_eq_true_eq] at h1
   rcases h1 with h1|rfl
   ·exact hdown i j hi hj h1 h2.1
   ·have h3:=hkm j hj h2.1
    by_cases h4:pt i=pt j
    ·exact absurd (hd i j hi hj h4).symm h2.2
    ·omega
theorem loop_first {ρ:Type}{step:Int→Option (Int ⊕ ρ)}(xs:LI)(p:Int→Bool)(mkr:Int→ρ)(fin:ρ)
  (hstep:∀i (h:i<xs.length),step (i:Int)=if p xs[i] then some (.inr (mkr xs[i])) else some (.inl ((i+1:Nat):Int))) (hend:step (xs.length:Int)=some (.inr fin)):
  Ao step 0=some (match xs.find? p with|some x=>mkr x|none=>fin):=by
 have key:∀(k i:Nat),i+k=xs.length→Ao step (i:Int)=some (match(xs.drop i).find? p with|some x=>mkr x|none=>fin):=by
  intro k
  induction k with
  |zero=>
   intro i hi
   obtain rfl:i=xs.length:=by omega
   rw[AV hend,List.drop_length];rfl
  |succ k ih=>
   intro i hi
   have hil:i<xs.length:=by omega
   rw[List.drop_eq_getElem_cons hil,List.find?_cons]
   by_cases hp:p xs[i]=true
   ·rw[AV (r:=mkr xs[i]) (by rw[hstep i hil,if_pos hp]),hp]
   ·rw[Bi (s':=((i+1:Nat):Int)) (by rw[hstep i hil,if_neg hp]),ih (i+1) (by omega)]
    have:p xs[i]=false:=by simpa using hp
    rw[this]
 exact key xs.length 0 (by omega)
def okv (F:LI)(n:Nat)(s v:Int):Bool:=decide (mis F n (iand .u32 (F.getD v.toNat 0) s)=0)
def pk (F:LI)(n:Nat):Nat→Int→Option LI
 |0,_=>some []
 |k+1,s=>match(Am s).find? (okv F n s) with
  |none=>none
  |some v=>(pk F n k (iandNot .u32 s (ishl .u32 1 v))).map (v::·)
theorem pk_len {F:LI}{n:Nat}:∀{k:Nat} {s:Int} {l:LI},pk F n k s=some l→l.length=k
 |0,s,l,h=>by simp[pk] at h;subst h;rfl
 |k+1,s,l,h=>by
  unfold pk at h
  split at h
  ·cases h
  ·rename_i v hv
   rw[Option.map_eq_some_iff] at h
   obtain⟨t,ht,rfl⟩:=h
   simp[pk_len ht]
section
variable {g : LL} (hg : GOk g)
include hg
theorem impl_pk :∀(k:Nat) (s:Int) (out:LI),SQ g.length s k→out.length+k≤1000000→
  Ao (σ:=LI×Int) (ρ:=(LI) ⊕ ((LI))) (fun(s_279:LI×Int)=>match s_279 with|(l_282,x_287)=>cond (x_287 !=0) ((D.c x_287).bind λy_425=>(Ao (σ:=Int) (ρ:=(Int)) (fun(x_487:Int)=>cond (decide (x_487<(y_425.length:Int))) ((idx y_425 x_487).bind λe_514=>(idx (g.map mk) e_514).bind λe_520=>(D.r (g.map mk) (iand .u32 e_520 x_287)).bind λy_526=>cond (y_526==0) (some (.inr e_514)) (some (.inl (IntKind.i64.wrap (x_487+1))))) (some (.inr (-1)))) 0).bind λx_511=>cond (decide (x_511<0)) (some (.inr (.inr ([]:LI)))) ((D.b x_511).bind λy_538=>(AH l_282 ([x_511]:LI)).bind λl_549=>some (.inl (l_549,(iandNot .u32 x_287 y_538))))) (some (.inr (.inl l_282)))) (out,s)=
  some (match pk (g.map mk) g.length k s with|none=> .inr []|some l=> .inl (out++l))
 |0,s,out,hs,_=>by
  rw[hs.z,AV (r:= .inl out) (by simp)];simp[pk]
 |k+1,s,out,hs,hk=>by
  have h16:=hg.n16
  have hnz:(s !=0)=true:=by simpa using hs.nz
  have hF:=FOk.of hg
  have hin:=loop_first (step:=fun(x_487:Int)=>cond (decide (x_487<((Am s).length:Int))) ((idx (Am s) x_487).bind λe_514=>(idx (g.map mk) e_514).bind λe_520=>(D.r (g.map mk) (iand .u32 e_520 s)).bind λy_526=>cond (y_526==0) (some (.inr e_514)) (some (.inl (IntKind.i64.wrap (x_487+1))))) (some (.inr (-1)))) (Am s) (okv (g.map mk) g.length s) (λx=>x) (-1) (λi hi=>by
   have hel:=Bl s
   obtain⟨v,_,h2,h3⟩:=mem_elems.1 (List.getElem_mem hi)
   have hvn:=hs.lt v h2
   have hidx:idx (g.map mk) (v:Int)=some ((g.map mk).getD v 0):=by rw[AB (by simpa using hvn),Au (by simpa using hvn)]
   simp only[dlt hi,cond_true,AB hi,bs,h3,hidx,DE h16 hF (VS.iand _ _) (λw hw=>DQ hg hF hs.vs hvn w hw),wq i,okv,Int.toNat_natCast]
   by_cases hz:mis (g.map mk) g.length (iand .u32 ((g.map mk).getD v 0) s)=0
   ·have:((mis (g.map mk) g.length (iand .u32 ((g.map mk).getD v 0) s):Int)==0)=true:=by simpa using hz
    rw[this,cond_true,if_pos (decide_eq_true hz)]
   ·have:((mis (g.map mk) g.length (iand .u32 ((g.map mk).getD v 0) s):Int)==0)=false:=by simpa using hz
    rw[this,cond_false,if_neg (by simpa using hz)]) (by simp only[Bg,cond_false])
  unfold pk
  cases hf:(Am s).find? (okv (g.map mk) g.length s) with
  |none=>
   rw[hf] at hin
   rw[AV (r:= .inr [])]
   simp only[hnz,cond_true,Cz s hs.vs,bs,hin]
   rfl
  |some x=>
   rw[hf] at hin
   obtain⟨v,_,h2,rfl⟩:=mem_elems.1 (List.mem_of_find?_eq_some hf)
   have hn0:decide ((v:Int)<0)=false:=by simp
   rw[Bi (s':=(out++[(v:Int)],iandNot .u32 s (ishl .u32 1 (v:Int))))]
   ·rw[impl_pk k _ (out++[(v:Int)]) (hs.rm h2) (by simp;omega)]
    cases hq:pk (g.map mk) g.length k (iandNot .u32 s (ishl .u32 1 (v:Int))) with
    |none=>simp[hq]
    |some l=>simp[hq]
   ·simp only[hnz,cond_true,Cz s hs.vs,bs,hin,hn0,cond_false,B5]
    rw[Be (by simp;omega),bs]
theorem find_all {s:Int}{k:Nat}(hs:SQ g.length s k)(p:Int→Bool):((List.range g.length).map Int.ofNat).find? (λx=>has s x.toNat&&p x)=(Am s).find? p:=by
 have h16:=hg.n16
 have e:=els_all (s:=s) (n:=g.length) (by omega) hs.lt
 rw[←e]
 unfold els
 rw[List.find?_map,List.find?_map,List.find?_filter]
 congr 2
 funext a
 simp only[Function.comp]
 have:(Int.ofNat a).toNat=a:=by simp
 rw[this]
 cases has s a<;>simp
theorem spec_pk :∀(k:Nat) (s:Int) (out:LI),SQ g.length s k→out.length+k=g.length→
  Ao (σ:=(List Bool)×LI) (ρ:=(LI) ⊕ ((LI)×Bool)) (fun(s_529:(List Bool)×LI)=>match s_529 with|(l_532,l_535)=>(D.d g).bind λy_790=>cond (decide ((l_535.length:Int)<y_790)) ((Ao (σ:=Int) (ρ:=(Int)) (fun(x_903:Int)=>(D.d g).bind λy_956=>cond (decide (x_903<y_956)) ((idx l_532 x_903).bind λe_960=>cond e_960 (some (.inl (IntKind.i64.wrap (x_903+1)))) ((D.W0 g x_903 l_532).bind λy_970=>(D.m g y_970).bind λy_987=>cond (!y_987) (some (.inl (IntKind.i64.wrap (x_903+1)))) (some (.inr x_903)))) (some (.inr x_903))) 0).bind λx_954=>(D.d g).bind λy_1004=>cond (x_954==y_1004) (some (.inr (.inr (([]:LI),false)))) ((idx l_532 x_954).bind λe_1016=>(AH l_535 ([x_954]:LI)).bind λl_1026=>some (.inl ((l_532.set (Int.toNat x_954) true),l_1026)))) (some (.inr (.inl l_535)))) (BD g.length s,out)=
  some (match pk (g.map mk) g.length k s with|none=> .inr ([],false)|some l=> .inl (out++l))
 |0,s,out,hs,hk=>by
  have e:decide ((out.length:Int)<(g.length:Int))=false:=by simp;omega
  rw[AV (r:= .inl out) (by unfold D.d;simp only[bs,e,cond_false])];simp[pk]
 |k+1,s,out,hs,hk=>by
  have h16:=hg.n16;have hn1:=hg.n1
  have hF:=FOk.of hg
  have hlt:decide ((out.length:Int)<(g.length:Int))=true:=by simp;omega
  have hin:=loop_first (step:=fun(x_903:Int)=>(D.d g).bind λy_956=>cond (decide (x_903<y_956)) ((idx (BD g.length s) x_903).bind λe_960=>cond e_960 (some (.inl (IntKind.i64.wrap (x_903+1)))) ((D.W0 g x_903 (BD g.length s)).bind λy_970=>(D.m g y_970).bind λy_987=>cond (!y_987) (some (.inl (IntKind.i64.wrap (x_903+1)))) (some (.inr x_903)))) (some (.inr x_903))) ((List.range g.length).map Int.ofNat) (λx=>has s x.toNat&&okv (g.map mk) g.length s x) (λx=>x) (g.length:Int) (λi hi=>by
   have hin:i<g.length:=by simpa using hi
   have hgi:((List.range g.length).map Int.ofNat)[i]=(i:Int):=by simp
   rw[hgi]
   unfold D.d
   simp only[bs,dlt hin,cond_true,goneOf_idx hin,Int.toNat_natCast,wq i]
   by_cases hh:has s i=true
   case neg=>
    have hh:has s i=false:=by simpa using hh
    simp[hh]
   case pos=>
    simp only[hh,Bool.not_true,cond_false,Bool.true_and]
    rw[l7Left_eq g hg hin _ (by rw[DU]),bs,lft_gone hg hs.vs hin]
    have hmis:=EM hn1 h16 hF (VS.iand (mk (row g i)) s) (λw hw=>by
     have:=DQ hg (v:=i) hF hs.vs hin w
     rw[Db] at this
     exact this hw)
    rw[grow_of hg] at hmis
    unfold D.m
    rw[hmis]
    simp only[bs]
    have eo:okv (g.map mk) g.length s (i:Int)=decide (mis (g.map mk) g.length (iand .u32 (mk (row g i)) s)=0):=by
     unfold okv;rw[Int.toNat_natCast,Db]
    rw[eo]
    by_cases hz:mis (g.map mk) g.length (iand .u32 (mk (row g i)) s)=0
    ·simp[hz]
    ·have:((mis (g.map mk) g.length (iand .u32 (mk (row g i)) s):Int)==0)=false:=by simpa using hz
     simp only[this,Bool.not_false,cond_true];simp[hz]) (by unfold D.d;simp)
  rw[find_all hg hs] at hin
  unfold pk
  cases hf:(Am s).find? (okv (g.map mk) g.length s) with
  |none=>
   rw[hf] at hin
   rw[AV (r:= .inr ([],false))]
   unfold D.d at hin ⊢
   simp only[bs] at hin
   simp only[bs,hlt,cond_true,hin,beq_self_eq_true]
  |some x=>
   rw[hf] at hin
   obtain⟨v,_,h2,rfl⟩:=mem_elems.1 (List.mem_of_find?_eq_some hf)
   have hvn:=hs.lt v h2
   have hne:(((v:Nat):Int)==(g.length:Int))=false:=by simp;omega
   rw[Bi (s':=(BD g.length (iandNot .u32 s (ishl .u32 1 (v:Int))),out++[(v:Int)]))]
   ·rw[spec_pk k _ (out++[(v:Int)]) (hs.rm h2) (by simp;omega)]
    cases hq:pk (g.map mk) g.length k (iandNot .u32 s (ishl .u32 1 (v:Int))) with
    |none=>simp[hq]
    |some l=>simp[hq]
   ·unfold D.d at hin ⊢
    simp only[bs] at hin
    simp only[bs,hlt,cond_true,hin,hne,cond_false,goneOf_idx hvn,Int.toNat_natCast,goneOf_set hs.vs hvn (show g.length≤32 by omega)]
    rw[Be (by simp;omega),bs]
theorem En :∃b,D.X0 g=some b∧D.J0 g=some b:=by
 have h16:=hg.n16;have hn1:=hg.n1
 refine⟨(pk (g.map mk) g.length g.length (full g.length)).isSome,?_,?_⟩
 ·unfold D.X0 D.E
  have hlm:(g.map mk).length=g.length:=by simp
  obtain⟨s,e1,hs1,hs2⟩:=ED (g.map mk) (by omega)
  have hsf:s=full g.length:=hs1.ext (CB _) (λw _=>by rw[hs2,Bm h16,hlm])
  rw[Bz g hg.sh2,BY hg,bs,cond_true,Cy g hg,bs,e1,bs,hsf,impl_pk hg g.length (full g.length) [] (SQ.full h16) (by simp;omega),bs]
  cases hp:pk (g.map mk) g.length g.length (full g.length) with
  |none=>rfl
  |some l=>
   have:=pk_len hp
   cases l with
   |nil=>simp at this;omega
   |cons x t=>rfl
 ·unfold D.J0 D.a1
  rw[B1 g hg.sh2,BY hg,bs,Bool.not_true,cond_false]
  have:=spec_pk hg g.length (full g.length) [] (SQ.full h16) (by simp)
  unfold D.d at this ⊢
  simp only[bs] at this ⊢
  rw[makeD_ok (by omega) (by omega),bs,goneOf_full h16,this,bs]
  cases hp:pk (g.map mk) g.length g.length (full g.length) with
  |none=>rfl
  |some l=>rfl
end
end Go.Sx

namespace Go.Sx
theorem DF {g:LL}(hg:GOk g):D.E (g.map mk)=some ((pk (g.map mk) g.length g.length (full g.length)).getD []):=by
 have h16:=hg.n16;have hn1:=hg.n1
 unfold D.E
 have hlm:(g.map mk).length=g.length:=by simp
 obtain⟨s,e1,hs1,hs2⟩:=ED (g.map mk) (by omega)
 have hsf:s=full g.length:=hs1.ext (CB _) (λw _=>by rw[hs2,Bm h16,hlm])
 rw[e1,bs,hsf,impl_pk hg g.length (full g.length) [] (SQ.full h16) (by simp;omega),bs]
 cases hp:pk (g.map mk) g.length g.length (full g.length) with
 |none=>rfl
 |some l=>
  have:=pk_len hp
  cases l with
  |nil=>simp at this;omega
  |cons x t=>rfl
structure Iv (g:LL)(L R:Nat→Int):Prop where
 le:∀v,v<g.length→L v≤R v
 ad:∀u v,u<g.length→v<g.length→(adj g u v↔u≠v∧L u≤R v∧L v≤R u)
theorem leastI (f:Nat→Int)(P:Nat→Prop):∀n,(∃v,v<n∧P v)→∃v,v<n∧P v∧∀w,w<n→P w→f v≤f w:=by
 intro n
 induction n with
 |zero=>rintro⟨v,h,_⟩;omega
 |succ n ih=>
  rintro⟨v,hv,hP⟩
  by_cases hprev:∃v,v<n∧P v
  ·obtain⟨q,h1,h2,h3⟩:=ih hprev
   by_cases hn:P n∧f n<f q
   ·refine⟨n,by omega,hn.1,λw hw hPw=> ?_⟩
    by_cases hwn:w<n
    ·have:=h3 w hwn hPw;omega
    ·obtain rfl:w=n:=by omega
     exact Int.le_refl _
   ·refine⟨q,by omega,h2,λw hw hPw=> ?_⟩
    by_cases hwn:w<n
    ·exact h3 w hwn hPw
    ·obtain rfl:w=n:=by omega
     by_cases hlt:f w<f q
     ·exact absurd ⟨hPw,hlt⟩ hn
     ·omega
  ·have hvn:v=n:=by
    by_cases h:v<n
    ·exact absurd ⟨v,h,hP⟩ hprev
    ·omega
   subst hvn
   refine⟨v,hv,hP,λw hw hPw=> ?_⟩
   by_cases hwn:w<v
   ·exact absurd ⟨w,hwn,hPw⟩ hprev
   ·obtain rfl:w=v:=by omega
    exact Int.le_refl _
section
variable {g : LL} (hg : GOk g)
include hg
theorem pk_some (hs:∀s,VS s→(∀v,has s v=true→v<g.length)→s≠0→∃v,v<g.length∧has s v=true∧CQ (g.map mk) (iand .u32 ((g.map mk).getD v 0) s)):
  ∀(k:Nat) (s:Int),SQ g.length s k→∃l,pk (g.map mk) g.length k s=some l
 |0,_,_=>⟨[],rfl⟩
 |k+1,s,h=>by
  unfold pk
  obtain⟨v,hv,hsv,hc⟩:=hs s h.vs (λv hv=>h.lt v hv) h.nz
  have hF:=FOk.of hg
  have hin:In g.length (iand .u32 ((g.map mk).getD v 0) s):=⟨VS.iand _ _,DQ hg hF h.vs hv⟩
  have hok:okv (g.map mk) g.length s (v:Int)=true:=by
   unfold okv
   rw[Int.toNat_natCast,decide_eq_true_eq,mis_zero hF hin]
   exact hc
  cases hf:(Am s).find? (okv (g.map mk) g.length s) with
  |none=>
   rw[List.find?_eq_none] at hf
   exact absurd hok (hf _ ((AM h.vs).2 hsv))
  |some x=>
   obtain⟨w,_,hw,rfl⟩:=mem_elems.1 (List.mem_of_find?_eq_some hf)
   obtain⟨l,hl⟩:=pk_some hs k _ (h.rm hw)
   exact⟨(w:Int)::l,by dsimp only;rw[hl];rfl⟩
variable {L R : Nat → Int} (hI : Iv g L R)
include hI
theorem ivPk :∃l,pk (g.map mk) g.length g.length (full g.length)=some l:=by
 refine pk_some hg (λs hs hlt h0=> ?_) g.length _ (SQ.full hg.n16)
 have hex:∃v,v<g.length∧has s v=true:=by
  apply Classical.byContradiction
  intro hno
  apply h0
  rw[VS.eq_zero hs]
  intro v _
  cases hh:has s v
  ·rfl
  ·exact absurd ⟨v,hlt v hh,hh⟩ hno
 obtain⟨v,hv,hsv,hmin⟩:=leastI R (λv=>has s v=true) g.length hex
 refine⟨v,hv,hsv,λu w hu hw huw=> ?_⟩
 have hF:=FOk.of hg
 have vF:VS ((g.map mk).getD v 0):=hF.vs v hv
 have hu':=hu;have hw':=hw
 rw[Cv vF hs,Bool.and_eq_true] at hu hw
 have hun:=DQ hg hF hs hv u hu';have hwn:=DQ hg hF hs hv w hw'
 have au:=(BE hg hv).1 hu.1;have aw:=(BE hg hv).1 hw.1
 obtain⟨_,u1,u2⟩:=(hI.ad v u hv hun).1 au
 obtain⟨_,w1,w2⟩:=(hI.ad v w hv hwn).1 aw
 have m1:=hmin u hun hu.2;have m2:=hmin w hwn hw.2
 exact(BE hg hun).2 ((hI.ad u w hun hwn).2 ⟨huw,by omega,by omega⟩)
def AtL (g:LL)(L R:Nat→Int)(K x:Int):Prop:=∀w,has K w=true↔w<g.length∧L w≤x∧x≤R w
theorem ivAt {K:Int}(hK:In g.length K)(hM:MX (g.map mk) g.length K):∃x,AtL g L R K x:=by
 have hex:∃v,v<g.length∧has K v=true:=by
  apply Classical.byContradiction
  intro hno
  have h0:has K 0=false:=by
   cases hh:has K 0
   ·rfl
   ·exact absurd ⟨0,hK.2 0 hh,hh⟩ hno
  obtain⟨u,hu,_⟩:=hM.2 0 hg.n1 h0
  exact hno ⟨u,hK.2 u hu,hu⟩
 obtain⟨t,ht,hKt,hmax⟩:=leastI (λv=> -L v) (λv=>has K v=true) g.length hex
 have hle:∀u,has K u=true→L u≤L t∧L t≤R u:=λu hu=>by
  have hun:=hK.2 u hu
  have:=hmax u hun hu
  refine⟨by omega,?_⟩
  by_cases hut:u=t
  ·rw[hut];exact hI.le t ht
  ·have:=(hI.ad u t hun ht).1 ((BE hg hun).1 (hM.1 u t hu hKt hut))
   exact this.2.2
 refine⟨L t,λw=>⟨λh=>⟨hK.2 w h,hle w h⟩,fun⟨hwn,h1,h2⟩=> ?_⟩⟩
 cases hw:has K w
 ·obtain⟨u,hu,hn⟩:=hM.2 w hwn hw
  have hun:=hK.2 u hu
  have huw:u≠w:=λe=>by rw[e,hw] at hu;cases hu
  have:=hle u hu
  rw[(BE hg hun).2 ((hI.ad u w hun hwn).2 ⟨huw,by omega,by omega⟩)] at hn
  cases hn
 ·rfl
theorem ivEnds {l:LI}(hl:GC g l)(h16:l.length≤16):Ends l 0:=by
 have hat:∀i:Nat,∃x,i<l.length→AtL g L R (l.getD i 0) x:=λi=>by
  by_cases hi:i<l.length
  ·have hm:=(hl.mem (l.getD i 0)).1 (by rw[Au hi];exact List.getElem_mem hi)
   obtain⟨x,hx⟩:=ivAt hg hI hm.1 hm.2
   exact⟨x,λ_=>hx⟩
  ·exact⟨0,λh=>absurd h hi⟩
 obtain⟨pt,hpt⟩:=Classical.axiomOfChoice hat
 have hnd:l.Nodup:=Dl hl.up
 refine ends_of_line h16 pt (λi j hi hj e=> ?_) (λv i j k hi hj hk h1 h2 h3 h4=> ?_) 32 0 ⟨VS.zero,λv hv=>by rw[AY] at hv;cases hv⟩ (Bl _) (λi j _ _ h=>by rw[AY] at h;cases h)
 ·have:l.getD i 0=l.getD j 0:=by
   have a:=hpt i hi;have b:=hpt j hj
   refine VS.ext ((hl.mem _).1 (by rw[Au hi];exact List.getElem_mem hi)).1.1 ((hl.mem _).1 (by rw[Au hj];exact List.getElem_mem hj)).1.1 (λw _=> ?_)
   exact Bool.eq_iff_iff.2 (by rw[a w,b w,e])
  rw[Au hi,Au hj] at this
  exact(List.getElem_inj hnd).1 this
 ·unfold ch at*
  have a:=(hpt i hi v).1 h3;have b:=(hpt k hk v).1 h4
  exact(hpt j hj v).2 ⟨a.1,by omega,by omega⟩
end
end Go.Sx

namespace Go.Sx
structure Un (cs:LI)(m:Nat)(U:LI):Prop where
 len:U.length=2^m
 vs:∀b,b<2^m→VS (U.getD b 0)
 hs:∀b,b<2^m→∀v,has (U.getD b 0) v=true↔∃i,i<m∧b.testBit i=true∧ch cs i v=true
section
variable {cs U : LI} (hs : ∀ s ∈ cs, VS s) (hm : cs.length ≤ 16) (hU : Un cs cs.length U)
include hs hm hU
end
end Go.Sx

namespace Go.Sx
theorem l1Same_eq (x y:LI)(hx:Sh x):D.l x y=some (decide (x=y)):=by
 unfold Sh at hx
 unfold D.l
 by_cases hl:x.length=y.length
 ·have e:((x.length:Int) !=(y.length:Int))=false:=by simp[hl]
  rw[e,cond_false]
  refine(Cg x.length (λi=>x.getD i 0==y.getD i 0) false (λi hi=> ?_) ?_ rfl rfl).trans ?_
  ·have hi':i<y.length:=by omega
   simp only[dlt hi,cond_true,AB hi,AB hi',bs,Au hi,Au hi',wq i]
   by_cases h:x[i]=y[i]
   ·have:(x[i] !=y[i])=false:=by simp[h]
    rw[this,cond_false,if_pos (by simp[h])]
   ·have:(x[i] !=y[i])=true:=by simp[h]
    rw[this,cond_true,if_neg (by simp[h])]
  ·simp only[Bg,cond_false]
  ·congr 1
   rw[Bool.eq_iff_iff,Df,decide_eq_true_eq]
   constructor
   ·intro h
    exact ext_getD hl (λj hj=>by have:=h j hj;simpa using this)
   ·rintro rfl i _;simp
 ·have e:((x.length:Int) !=(y.length:Int))=true:=by simp;omega
  rw[e,cond_true,decide_eq_false (λh=>hl (by rw[h]))]
abbrev Pr :=Int×Int×Int
def Dg (n:Nat)(F:LI)(v:Nat)(S:Int):LI:=(List.range n).map λu=>ior .u32 (ior .u32 (F.getD u 0) (if u=v then S else 0)) (if has S u then ishl .u32 1 (v:Int) else 0)
theorem joinF_get {n:Nat}{F:LI}{v u:Nat}{S:Int}(hu:u<n):(Dg n F v S).getD u 0=ior .u32 (ior .u32 (F.getD u 0) (if u=v then S else 0)) (if has S u then ishl .u32 1 (v:Int) else 0):=by
 unfold Dg
 rw[Au (by simpa using hu)];simp
theorem vs_ite {c:Prop}[Decidable c]{a b:Int}(ha:VS a)(hb:VS b):VS (if c then a else b):=by split<;>assumption
theorem C2 {n:Nat}{F:LI}{v u:Nat}{S:Int}(hn:n≤16)(hF:FOk F n)(hS:In n S)(hv:v<n)(hu:u<n)(w:Nat):nb (Dg n F v S) u w=(nb F u w||(decide (u=v)&&has S w)||(has S u&&decide (w=v))):=by
 unfold nb
 rw[joinF_get hu,Bj (VS.ior _ _) (vs_ite (VS.ishl _ _) VS.zero),Bj (hF.vs u hu) (vs_ite hS.1 VS.zero)]
 congr 1
 ·congr 1
  by_cases h:u=v
  ·rw[if_pos h,decide_eq_true h];simp
  ·rw[if_neg h,decide_eq_false h,AY];simp
 ·cases hc:has S u
  ·rw[if_neg (by simp),AY];simp
  ·rw[if_pos rfl,A8 (by omega)];simp
theorem joinF_ok {n:Nat}{F:LI}{v:Nat}{S:Int}(hn:n≤16)(hF:FOk F n)(hS:In n S)(hv:v<n)(hSv:has S v=false):FOk (Dg n F v S) n:=by
 refine⟨by simp[Dg],λu hu=>by rw[joinF_get hu];exact VS.ior _ _,λu w hu h=> ?_,λu hu=> ?_,λu w hu h=> ?_⟩
 ·rw[C2 hn hF hS hv hu] at h
  simp only[Bool.or_eq_true,Bool.and_eq_true,decide_eq_true_eq] at h
  rcases h with(h|h)|h
  ·exact hF.lt u w hu h
  ·exact hS.2 w h.2
  ·omega
 ·rw[C2 hn hF hS hv hu,hF.irr u hu]
  by_cases h:u=v
  ·subst h;simp[hSv]
  ·simp[h]
 ·have hw:w<n:=by
   rw[C2 hn hF hS hv hu] at h
   simp only[Bool.or_eq_true,Bool.and_eq_true,decide_eq_true_eq] at h
   rcases h with(h|h)|h
   ·exact hF.lt u w hu h
   ·exact hS.2 w h.2
   ·omega
  rw[C2 hn hF hS hv hu] at h
  rw[C2 hn hF hS hv hw]
  simp only[Bool.or_eq_true,Bool.and_eq_true,decide_eq_true_eq] at h ⊢
  rcases h with(h|h)|h
  ·exact .inl (.inl (hF.sym u w hu h))
  ·exact .inr ⟨h.2,h.1⟩
  ·exact .inl (.inr ⟨h.2,h.1⟩)
structure PK (n:Nat)(o:LI):Prop where
 len:o.length=n
 rng:∀x∈o,0≤x∧x<n
 nd:o.Nodup
def pl (o:LI)(v:Nat):Nat:=o.idxOf (v:Int)
theorem PK.mem {n:Nat}{o:LI}(h:PK n o){v:Nat}(hv:v<n):(v:Int)∈o:=by
 by_cases hc:(v:Int)∈o
 ·exact hc
 ·have:=BC (l:=(v:Int)::o) (m:=(List.range n).map Int.ofNat) (List.nodup_cons.2 ⟨hc,h.nd⟩) (λx hx=>by
   have hx':0≤x∧x<n:=by
    rcases List.mem_cons.1 hx with rfl|hx
    ·omega
    ·exact h.rng x hx
   exact List.mem_map.2 ⟨x.toNat,List.mem_range.2 (by omega),by show ((x.toNat:Nat):Int)=x;omega⟩)
  have hl:=h.len
  simp at this;omega
theorem PK.pl_lt {n:Nat}{o:LI}(h:PK n o){v:Nat}(hv:v<n):pl o v<n:=by
 have:=List.idxOf_lt_length_iff.2 (h.mem hv)
 have hl:=h.len
 unfold pl;omega
theorem PK.pl_get {n:Nat}{o:LI}(h:PK n o){v:Nat}(hv:v<n)(hl:pl o v<o.length):o[pl o v]=(v:Int):=by
 unfold pl;exact List.getElem_idxOf _
theorem PK.pl_of {n:Nat}{o:LI}(h:PK n o){i v:Nat}(hi:i<o.length)(e:o[i]=(v:Int)):pl o v=i:=by
 have hv:v<n:=by have:=h.rng _ (List.getElem_mem hi);omega
 have hl:=h.pl_lt hv
 have h2:=h.pl_get hv (by rw[h.len];exact hl)
 have hl':pl o v<o.length:=by rw[h.len];exact hl
 have hnd:=List.pairwise_iff_getElem.1 h.nd
 rcases Nat.lt_trichotomy (pl o v) i with c|c|c
 ·exact absurd (h2.trans e.symm) (hnd _ _ hl' hi c)
 ·exact c
 ·exact absurd (h2.trans e.symm).symm (hnd _ _ hi hl' c)
theorem PK.at {n:Nat}{o:LI}(h:PK n o){i:Nat}(hi:i<o.length):∃v:Nat,o[i]=(v:Int)∧v<n∧pl o v=i:=by
 have:=h.rng _ (List.getElem_mem hi)
 have e:o[i]=((o[i].toNat:Nat):Int):=by omega
 exact⟨o[i].toNat,e,by omega,h.pl_of hi e⟩
structure Ris (n:Nat)(R:Int→Int→Prop)(rk:Int→Nat):Prop where
 up:∀x y,R x y→rk x<rk y
 lt:∀v:Nat,v<n→rk v<n
 tr:∀x y z,R x y→R y z→R x z
structure Ch (n:Nat)(R:Int→Int→Prop)(v:Int)(l:LI):Prop where
 hd:∃t,l=v::t
 pw:l.Pairwise R
 rng:∀x∈l,0≤x∧x<n
 mx:∀t:LI,(v::t).Pairwise R→(∀x∈t,0≤x∧x<n)→t.length+1≤l.length
theorem Ris.nodup {n:Nat}{R:Int→Int→Prop}{rk:Int→Nat}(h:Ris n R rk){l:LI}(hp:l.Pairwise R):l.Nodup:=
 List.Pairwise.imp (fun{x y} hxy e=>by subst e;have:=h.up x x hxy;omega) hp
theorem rng_len {n:Nat}{l:LI}(hd:l.Nodup)(hr:∀x∈l,0≤x∧x<n):l.length≤n:=by
 have:=BC (m:=(List.range n).map Int.ofNat) hd (λx hx=>by
  have:=hr x hx
  exact List.mem_map.2 ⟨x.toNat,List.mem_range.2 (by omega),by show ((x.toNat:Nat):Int)=x;omega⟩)
 simpa using this
theorem Ch.len {n:Nat}{R:Int→Int→Prop}{rk:Int→Nat}(h:Ris n R rk){v:Int}{l:LI}(hc:Ch n R v l):l.length≤n:=rng_len (h.nodup hc.pw) hc.rng
def Mon (ks ks':List (Option LI)):Prop:=∀(v:Nat) (l:LI),ks[v]? =some (some l)→ks'[v]? =some (some l)
theorem Mon.refl (ks:List (Option LI)):Mon ks ks:=λ_ _ h=>h
theorem CQ_ext {F:LI}{n:Nat}(hn:n≤16)(hF:FOk F n):∀(k:Nat) (K:Int),32-(Am K).length≤k→In n K→CQ F K→∃K',In n K'∧MX F n K'∧∀w,has K w=true→has K' w=true:=by
 intro k
 induction k with
 |zero=>
  intro K hk hI hC
  have:(Am K).length≤n:=rng_len (List.Pairwise.imp (λh e=>by omega) (Bu K)) (λx hx=>by
   obtain⟨w,_,h2,rfl⟩:=mem_elems.1 hx
   have:=hI.2 w h2;omega)
  omega
 |succ k ih=>
  intro K hk hI hC
  by_cases hM:MX F n K
  ·exact⟨K,hI,hM,λw h=>h⟩
  ·have:∃w,w<n∧has K w=false∧∀u,has K u=true→nb F u w=true:=by
    refine Classical.byContradiction λhc=>hM ⟨hC,λw hw hk=> ?_⟩
    refine Classical.byContradiction λhc2=>hc ⟨w,hw,hk,λu hu=> ?_⟩
    cases h:nb F u w
    ·exact absurd ⟨u,hu,h⟩ hc2
    ·rfl
   obtain⟨w,hw,hKw,hall⟩:=this
   have hh:∀u,has (ior .u32 K (ishl .u32 1 (w:Int))) u=(has K u||decide (u=w)):=λu=>by rw[Bj hI.1 (VS.ishl _ _),A8 (by omega)]
   obtain⟨K',h1,h2,h3⟩:=ih (ior .u32 K (ishl .u32 1 (w:Int))) (by
    have hnd:((w:Int)::Am K).Nodup:=List.nodup_cons.2 ⟨(λh=>by rw[AM hI.1,hKw] at h;cases h),List.Pairwise.imp (λh e=>by omega) (Bu K)⟩
    have:=BC (m:=Am (ior .u32 K (ishl .u32 1 (w:Int)))) hnd (λx hx=>by
     rcases List.mem_cons.1 hx with rfl|hx
     ·rw[AM (VS.ior _ _),hh];simp
     ·obtain⟨u,_,h2,rfl⟩:=mem_elems.1 hx
      rw[AM (VS.ior _ _),hh,h2];rfl)
    simp only[List.length_cons] at this
    omega) ⟨VS.ior _ _,λu hu=>by
     rw[hh,Bool.or_eq_true,decide_eq_true_eq] at hu
     rcases hu with hu|rfl
     ·exact hI.2 u hu
     ·exact hw⟩ (λu v hu hv huv=>by
     rw[hh,Bool.or_eq_true,decide_eq_true_eq] at hu hv
     rcases hu with hu|rfl
     ·rcases hv with hv|rfl
      ·exact hC u v hu hv huv
      ·exact hall u hu
     ·rcases hv with hv|rfl
      ·exact hF.sym v u (hI.2 v hv) (hall v hv)
      ·exact absurd rfl huv)
   exact⟨K',h1,h2,λu hu=>h3 u (by rw[hh,hu];rfl)⟩
structure CL (g:LL)(x:LI):Prop where
 nd:x.Nodup
 rng:∀z∈x,0≤z∧z<g.length
 cq:∀u w:Nat,(u:Int)∈x→(w:Int)∈x→u≠w→adj g u w
theorem Goes.nat {cs:LI}:∀{o:LI} {p:Int},Goes cs p o→∀x∈o,∃k:Nat,x=(k:Int)∧k<cs.length
 |[],_,_,x,hx=>by simp at hx
 |y::o,p,⟨k,e,hF,hG⟩,x,hx=>by
  rcases List.mem_cons.1 hx with rfl|hx
  ·exact⟨k,e,hF.1⟩
  ·exact Goes.nat hG x hx
theorem Goes.mem {cs:LI}(hm:cs.length≤16):∀{o:LI} {p:Int},VS p→Goes cs p o→∀i,i<cs.length→has p i=true∨(i:Int)∈o
 |[],_,_,h,i,hi=> .inl (h i hi)
 |y::o,p,hp,⟨k,e,hF,hG⟩,i,hi=>by
  have hk:=hF.1
  rcases Goes.mem hm (VS.ior _ _) hG i hi with h|h
  ·rw[Bj hp (VS.ishl _ _),A8 (by omega),Bool.or_eq_true,decide_eq_true_eq] at h
   rcases h with h|rfl
   ·exact .inl h
   ·exact .inr (by rw[e];simp)
  ·exact .inr (List.mem_cons_of_mem _ h)
def atp (cs o:LI)(k v:Nat):Bool:=ch cs (o.getD k 0).toNat v
theorem Goes.conv {cs o:LI}{v i j k:Nat}(hm:cs.length≤16)(h:Goes cs 0 o)(hij:i<j)(hjk:j<k)(hk:k<o.length)(h1:atp cs o i v=true)(h2:atp cs o k v=true):atp cs o j v=true:=by
 have hj:j<o.length:=by omega
 have hi:i<o.length:=by omega
 obtain⟨a,ea,_⟩:=h.nat _ (List.getElem_mem hi)
 obtain⟨b,eb,_⟩:=h.nat _ (List.getElem_mem hj)
 obtain⟨c,ec,_⟩:=h.nat _ (List.getElem_mem hk)
 unfold atp at*
 rw[Au hi,ea,Int.toNat_natCast] at h1
 rw[Au hk,ec,Int.toNat_natCast] at h2
 rw[Au hj,eb,Int.toNat_natCast]
 have e:o=o.take j++(b:Int)::o.drop (j+1):=by
  rw[←eb,←List.drop_eq_getElem_cons hj,List.take_append_drop]
 rw[e] at h
 refine h.mid hm ⟨VS.zero,λv hv=>by rw[AY] at hv;cases hv⟩ (.inr ⟨a,?_,h1⟩) ⟨c,?_,h2⟩
 ·rw[←ea]
  exact List.mem_take_iff_getElem.2 ⟨i,by omega,rfl⟩
 ·rw[←ec,List.mem_drop_iff_getElem]
  exact⟨k-(j+1),by omega,by congr 1;omega⟩
structure Told (cs o:LI)(v:Nat)(a b:Int):Prop where
 ex:∃i j:Nat,a=(i:Int)∧b=(j:Int)∧i≤j∧j<o.length∧atp cs o i v=true∧atp cs o j v=true∧∀k,k<o.length→atp cs o k v=true→i≤k∧k≤j
theorem Told.at {cs o:LI}{v:Nat}{a b:Int}(hm:cs.length≤16)(h:Goes cs 0 o)(ht:Told cs o v a b){k:Nat}(h1:a≤k)(h2:(k:Int)≤b):k<o.length∧atp cs o k v=true:=by
 obtain⟨i,j,rfl,rfl,hij,hj,hi1,hj1,_⟩:=ht.ex
 refine⟨by omega,?_⟩
 by_cases e1:k=i
 ·rw[e1];exact hi1
 by_cases e2:k=j
 ·rw[e2];exact hj1
 exact h.conv hm (show i<k by omega) (show k<j by omega) hj hi1 hj1
section
variable {g : LL} (hg : GOk g) {l o : LI} (hl : GC g l) (h16 : l.length ≤ 16) (ho : Goes l 0 o)
include hg hl
theorem clique_of {u v:Nat}(hu:u<g.length)(hv:v<g.length)(h:u=v∨adj g u v):∃i,i<l.length∧ch l i u=true∧ch l i v=true:=by
 have hF:=FOk.of hg
 have h16':=hg.n16
 have hK:∀w,has (ior .u32 (ishl .u32 1 (u:Int)) (ishl .u32 1 (v:Int))) w=true↔w=u∨w=v:=λw=>by
  rw[Bj (VS.ishl _ _) (VS.ishl _ _),A8 (by omega),A8 (by omega)];simp
 obtain⟨K',h1,h2,h3⟩:=CQ_ext hg.n16 hF 32 (ior .u32 (ishl .u32 1 (u:Int)) (ishl .u32 1 (v:Int))) (by omega) ⟨VS.ior _ _,λw hw=>by rcases(hK w).1 hw with rfl|rfl<;>assumption⟩ (λa b ha hb hab=>by
  rcases(hK a).1 ha with rfl|rfl<;>rcases(hK b).1 hb with rfl|rfl
  ·exact absurd rfl hab
  ·exact(BE hg hu).2 (h.elim (λe=>absurd e hab) id)
  ·exact(BE hg hv).2 (hg.sym _ _ hu (h.elim (λe=>absurd e.symm hab) id))
  ·exact absurd rfl hab)
 obtain⟨i,hi,e⟩:=List.getElem_of_mem ((hl.mem K').2 ⟨h1,h2⟩)
 refine⟨i,hi,?_,?_⟩
 ·unfold ch;rw[Au hi,e];exact h3 u ((hK u).2 (.inl rfl))
 ·unfold ch;rw[Au hi,e];exact h3 v ((hK v).2 (.inr rfl))
include h16 ho
theorem place_of {i v:Nat}(hi:i<l.length)(h:ch l i v=true):∃k,k<o.length∧(o.getD k 0)=(i:Int)∧atp l o k v=true:=by
 rcases ho.mem h16 VS.zero i hi with hz|hm
 ·rw[AY] at hz;cases hz
 ·obtain⟨k,hk,e⟩:=List.getElem_of_mem hm
  refine⟨k,hk,by rw[Au hk,e],?_⟩
  unfold atp
  rw[Au hk,e,Int.toNat_natCast];exact h
theorem told_adj {u v:Nat}(hu:u<g.length)(hv:v<g.length)(huv:u≠v){a b c d:Int}(h1:Told l o u a b)(h2:Told l o v c d):adj g u v↔a≤d∧c≤b:=by
 constructor
 ·intro h
  obtain⟨i,hi,i1,i2⟩:=clique_of hg hl hu hv (.inr h)
  obtain⟨k,hk,ek,k1⟩:=place_of hg hl h16 ho hi i1
  have k2:atp l o k v=true:=by unfold atp;rw[ek,Int.toNat_natCast];exact i2
  obtain⟨i',j',rfl,rfl,_,_,_,_,q1⟩:=h1.ex
  obtain⟨i'',j'',rfl,rfl,_,_,_,_,q2⟩:=h2.ex
  have:=q1 k hk k1;have:=q2 k hk k2
  omega
 ·rintro⟨had,hcb⟩
  have hk:∃k:Nat,a≤k∧(k:Int)≤b∧c≤k∧(k:Int)≤d:=by
   obtain⟨i',j',rfl,rfl,_,_,_,_,_⟩:=h1.ex
   obtain⟨i'',j'',rfl,rfl,_,_,_,_,_⟩:=h2.ex
   by_cases h:i'≤i''
   ·exact⟨i'',by omega,by omega,by omega,by omega⟩
   ·exact⟨i',by omega,by omega,by omega,by omega⟩
  obtain⟨k,k1,k2,k3,k4⟩:=hk
  obtain⟨hk,c1⟩:=h1.at h16 ho k1 k2
  obtain⟨_,c2⟩:=h2.at h16 ho k3 k4
  obtain⟨i,ei,hi⟩:=ho.nat _ (List.getElem_mem hk)
  unfold atp ch at c1 c2
  rw[Au hk,ei,Int.toNat_natCast] at c1 c2
  have hm:=(hl.mem (l.getD i 0)).1 (by rw[Au hi];exact List.getElem_mem hi)
  exact(BE hg hu).1 (hm.2.1 u v c1 c2 huv)
theorem told_ex {v:Nat}(hv:v<g.length):∃k,k<o.length∧atp l o k v=true:=by
 obtain⟨i,hi,i1,_⟩:=clique_of hg hl hv hv (.inl rfl)
 obtain⟨k,hk,_,k1⟩:=place_of hg hl h16 ho hi i1
 exact⟨k,hk,k1⟩
end
end Go.Sx

namespace Go.Sx
section
variable {g l : LL} {cs : LI} (hg : GOk g)
include hg
theorem EE {b:Bool}{l:LI}(hc:D.J0 g=some b)(hb:b=true)(hl:GC g l):l.length≤g.length:=by
 obtain⟨y,e,hy⟩:=Ew hg
 unfold D.J0 at hc
 rw[e,bs] at hc
 obtain rfl:=Option.some.inj hc
 obtain⟨h1,h2⟩:=hy hb
 exact chordal_few hg h1 h2 hl
theorem impl_cO {b:Bool}{l:LI}(hc:D.J0 g=some b)(hcl:D.t (g.map mk)=some l)(hl:GC g l):∃y,D.F (g.map mk)=some y∧((y.1=[]∧¬(b=true∧Ends l 0))∨(b=true∧Goes l 0 y.1∧y.2=l∧y.1≠[]∧y.1.length≤32)):=by
 have h16:=hg.n16
 have hn1:=hg.n1
 obtain⟨b',c1,c2⟩:=En hg
 rw[hc] at c2
 obtain rfl:=Option.some.inj c2
 unfold D.X0 at c1
 rw[Bz g hg.sh2,BY hg,bs,cond_true,Cy g hg,bs] at c1
 unfold D.F
 rw[DF hg] at c1 ⊢
 simp only[bs] at c1 ⊢
 generalize (pk (g.map mk) g.length g.length (full g.length)).getD []=po at c1 ⊢
 have hpb:po.isEmpty= !b:=by
  have:=Option.some.inj c1
  rw[←this,Bool.not_not]
 rw[hpb]
 cases b
 ·simp only[Bool.not_false,cond_true]
  exact⟨_,rfl,.inl ⟨rfl,by simp⟩⟩
 ·have hlen:=EE hg hc rfl hl
  have hvs:∀s∈l,VS s:=λs hs=>((hl.mem s).1 hs).1.1
  have hz:In l.length 0:=⟨VS.zero,λv hv=>by rw[AY] at hv;cases hv⟩
  have h33:=Dh
  obtain⟨r,e,h1,h2⟩:=clGrow_ok hvs (by omega) 32 Bv 0 (by omega) hz (Bl _) (by omega)
  simp only[Bool.not_true,cond_false,hcl,bs,e]
  cases r with
  |none=>exact⟨_,rfl,.inl ⟨rfl,λh=>h1 rfl h.2⟩⟩
  |some o=>
   obtain⟨hgo,hol⟩:=h2 o rfl
   have hne:o≠[]:=by
    rintro rfl
    obtain⟨K',g1,g2,_⟩:=CQ_ext h16 (FOk.of hg) 32 0 (by omega) ⟨VS.zero,λv hv=>by rw[AY] at hv;cases hv⟩ (λu w hu=>by rw[AY] at hu;cases hu)
    have:=List.length_pos_of_mem ((hl.mem K').2 ⟨g1,g2⟩)
    have:=hgo 0 this
    rw[AY] at this;cases this
   refine⟨(o,l),?_,.inr ⟨trivial,hgo,rfl,hne,hol⟩⟩
   unfold D.g1
   cases o with
   |nil=>exact absurd rfl hne
   |cons x t=>rfl
theorem impl_CO {b:Bool}{l:LI}(hc:D.J0 g=some b)(hcl:D.t (g.map mk)=some l)(hl:GC g l):∃r,D.c0 g=some r∧(r.2=true↔b=true∧Ends l 0):=by
 obtain⟨y,e,hy⟩:=impl_cO hg hc hcl hl
 unfold D.c0
 rw[Bz g hg.sh2,BY hg,bs,Bool.not_true,cond_false,Cy g hg,bs,e,bs]
 rcases hy with⟨h1,h2⟩|⟨h1,h2,_,h4,h5⟩
 ·rw[h1]
  exact⟨_,rfl,by simpa using h2⟩
 ·have:y.1.isEmpty=false:=by
   cases hh:y.1 with
   |nil=>exact absurd hh h4
   |cons x t=>rfl
  rw[this,cond_false,wide_eq _ (by unfold Sh;omega),bs]
  exact⟨_,rfl,λ_=>⟨h1,h2.ends⟩,λ_=>rfl⟩
end
end Go.Sx

namespace Go.Sx
inductive Pick (n:Nat):Nat→Nat→Int→Int→Prop
 |done {a:Nat} {c:Int}:Pick n a 0 c c
 |more {a k v:Nat} {c t:Int}:a≤v→v<n→Pick n (v+1) k (ior .u32 c (ishl .u32 1 (v:Int))) t→Pick n a (k+1) c t
theorem Pick.le {n a k:Nat}{c t:Int}(h:Pick n a k c t):k=0∨a+k≤n:=by
 induction h with
 |done=>exact .inl rfl
 |more h1 h2 _ ih=>right;rcases ih with h|h<;>omega
theorem chR_ok {f:Int→Int→Option (Bool×Int)}{n:Nat}(hn:n≤16)(F:Int→Bool)(hf:∀c s,VS c→(∀v,has c v=true→v<n)→f c s=some (F c,c)):
  ∀(k fuel a:Nat) (c s:Int),k<fuel→k≤16→VS c→(∀v,has c v=true→v<n)→a≤n+1→∃r,D.s f fuel (n:Int) (a:Int) (k:Int) c s=some r∧(r.1=true↔∃t,Pick n a k c t∧F t=true)∧(r.1=true→Pick n a k c r.2∧F r.2=true):=by
 intro k
 induction k with
 |zero=>
  intro fuel a c s hk _ hc hcn _
  obtain⟨m,rfl⟩:∃m,fuel=m+1:=⟨fuel-1,by omega⟩
  refine⟨(F c,c),?_,⟨λh=>⟨c,.done,h⟩,?_⟩,λh=>⟨.done,h⟩⟩
  ·unfold D.s
   simp only[Int.natCast_zero,beq_self_eq_true,cond_true,hf c s hc hcn]
  ·rintro⟨t,ht,h⟩
   cases ht
   exact h
 |succ k ih=>
  intro fuel a c s hk hk16 hc hcn ha
  obtain⟨m,rfl⟩:∃m,fuel=m+1:=⟨fuel-1,by omega⟩
  unfold D.s
  have h0:(((k+1:Nat):Int)==0)=false:=by rw[beq_eq_false_iff_ne];omega
  rw[h0,cond_false]
  have key:∀(d a:Nat) (s:Int),a+d=n+1→∃r,Ao (D.k0 (D.s f m) (n:Int) ((k+1:Nat):Int) c) (s,(a:Int))=some r∧(r.1=true↔∃t,Pick n a (k+1) c t∧F t=true)∧(r.1=true→Pick n a (k+1) c r.2∧F r.2=true):=by
   intro d
   induction d with
   |zero=>
    intro a s hd
    refine⟨(false,s),AV ?_,⟨by simp,?_⟩,by simp⟩
    ·unfold D.k0
     have:decide (IntKind.i64.wrap ((a:Int)+((k+1:Nat):Int))≤(n:Int))=false:=by rw[w64 (by omega) (by omega)];simp;omega
     simp only[this,cond_false]
    ·rintro⟨t,ht,_⟩
     have:=ht.le
     omega
   |succ d ihd=>
    intro a s hd
    by_cases hle:a+(k+1)≤n
    ·have hdec:decide (IntKind.i64.wrap ((a:Int)+((k+1:Nat):Int))≤(n:Int))=true:=by rw[w64 (by omega) (by omega)];simp;omega
     have hone:=A8 (v:=a) (by omega)
     have hc':VS (ior .u32 c (ishl .u32 1 (a:Int))):=VS.ior _ _
     have hcn':∀v,has (ior .u32 c (ishl .u32 1 (a:Int))) v=true→v<n:=λv hv=>by
      rw[Bj hc (VS.ishl _ _),hone,Bool.or_eq_true,decide_eq_true_eq] at hv
      rcases hv with hv|rfl
      ·exact hcn v hv
      ·omega
     obtain⟨r,e,hr1,hr2⟩:=ih m (a+1) _ s (by omega) (by omega) hc' hcn' (by omega)
     have ek:IntKind.i64.wrap (((k+1:Nat):Int)-1)=(k:Int):=by rw[w64 (by omega) (by omega)];omega
     have hst:D.k0 (D.s f m) (n:Int) ((k+1:Nat):Int) c (s,(a:Int))=cond r.1 (some (.inr (true,r.2))) (some (.inl (r.2,((a+1:Nat):Int)))):=by
      unfold D.k0
      simp only[hdec,cond_true,B5,bs,wq a,ek,e]
     cases hb:r.1
     ·rw[hb,cond_false] at hst
      obtain⟨r',e',h1,h2⟩:=ihd (a+1) r.2 (by omega)
      refine⟨r',by rw[Bi hst,e'],?_,λhr=> ?_⟩
      ·rw[h1]
       constructor
       ·rintro⟨t,ht,hF⟩
        cases ht with
        |more p1 p2 p3=>exact⟨t,.more (by omega) p2 p3,hF⟩
       ·rintro⟨t,ht,hF⟩
        cases ht with
        | @more _ _ v _ _ p1 p2 p3=>
         by_cases hva:v=a
         ·subst hva
          have:=hr1.2 ⟨t,p3,hF⟩
          rw[hb] at this;cases this
         ·exact⟨t,.more (by omega) p2 p3,hF⟩
      ·obtain⟨p,hF⟩:=h2 hr
       cases p with
       |more p1 p2 p3=>exact⟨.more (by omega) p2 p3,hF⟩
     ·rw[hb,cond_true] at hst
      obtain⟨p,hF⟩:=hr2 hb
      exact⟨(true,r.2),AV hst,⟨λ_=>⟨r.2,.more (Nat.le_refl _) (by omega) p,hF⟩,λ_=>rfl⟩,λ_=>⟨.more (Nat.le_refl _) (by omega) p,hF⟩⟩
    ·refine⟨(false,s),AV ?_,⟨by simp,?_⟩,by simp⟩
     ·unfold D.k0
      have:decide (IntKind.i64.wrap ((a:Int)+((k+1:Nat):Int))≤(n:Int))=false:=by rw[w64 (by omega) (by omega)];simp;omega
      simp only[this,cond_false]
     ·rintro⟨t,ht,_⟩
      have:=ht.le
      omega
  exact key (n+1-a) a s (by omega)
theorem Pick.three {n:Nat}{t:Int}(hn:n≤16):Pick n 0 3 0 t↔∃a b c:Nat,a<b∧b<c∧c<n∧VS t∧∀v,has t v=true↔(v=a∨v=b∨v=c):=by
 have hh:∀{a b c:Nat},a<n→b<n→c<n→∀v,has (ior .u32 (ior .u32 (ior .u32 0 (ishl .u32 1 (a:Int))) (ishl .u32 1 (b:Int))) (ishl .u32 1 (c:Int))) v=true↔(v=a∨v=b∨v=c):=fun{a b c} ha hb hc v=>by
  rw[Bj (VS.ior _ _) (VS.ishl _ _),Bj (VS.ior _ _) (VS.ishl _ _),Bj VS.zero (VS.ishl _ _),AY,A8 (by omega),A8 (by omega),A8 (by omega)]
  simp[or_assoc]
 constructor
 ·intro h
  cases h with
  | @more _ _ a _ _ h1 h2 h=>
   cases h with
   | @more _ _ b _ _ h3 h4 h=>
    cases h with
    | @more _ _ c _ _ h5 h6 h=>
     cases h
     exact⟨a,b,c,by omega,by omega,h6,VS.ior _ _,hh h2 h4 h6⟩
 ·rintro⟨a,b,c,hab,hbc,hc,ht,h⟩
  have:t=ior .u32 (ior .u32 (ior .u32 0 (ishl .u32 1 (a:Int))) (ishl .u32 1 (b:Int))) (ishl .u32 1 (c:Int)):=VS.ext ht (VS.ior _ _) (λv _=>by
   have:=h v;rw[←hh (by omega) (by omega) hc v] at this
   exact Bool.eq_iff_iff.2 this)
  subst this
  exact .more (by omega) (by omega) (.more (by omega) (by omega) (.more (by omega) (by omega) .done))
noncomputable def ef (g:LL)(o:LI):Nat→LI×LI×Int
 |0=>(g.map mk,List.replicate g.length 0,full g.length)
 |i+1=>(elimF (ef g o i).1 (ef g o i).2.2 (o.getD i 0),(ef g o i).2.1.set (o.getD i 0).toNat (iand .u32 ((ef g o i).1.getD (o.getD i 0).toNat 0) (iandNot .u32 (ef g o i).2.2 (ishl .u32 1 (o.getD i 0)))),
   iandNot .u32 (ef g o i).2.2 (ishl .u32 1 (o.getD i 0)))
section
variable {g : LL} {o : LI} (hg : GOk g) (ho : OOk g o)
include hg ho
end
end Go.Sx

namespace Go.Sx
def Do (a b:Int):LI:=[min a b,max a b]
structure Net (A:LI)(n:Nat):Prop where
 len:A.length=n
 vs:∀u,u<n→VS (A.getD u 0)
 lt:∀u w,u<n→nb A u w=true→w<n
structure Rch (A:LI)(W:Int)(v:Nat)(S:Int):Prop where
 vs:VS S
 me:has S v=true
 step:∀x y,has S x=true→nb A x y=true→has W y=true→has S y=true
 least:∀T:Nat→Prop,T v→(∀x y,T x→nb A x y=true→has W y=true→T y)→∀x,has S x=true→T x
theorem join_net {n:Nat}(hn:n≤16){X:LI}(hX:Net X n){v t:Nat}(hv:v<n)(ht:t<n)(hvt:v≠t):
  ∃y,D.I X (v:Int) (t:Int)=some y∧Net y n∧∀u w,u<n→nb y u w=(nb X u w||(decide (u=v)&&decide (w=t))||(decide (u=t)&&decide (w=v))):=by
 have hl:=hX.len;have hV:=hX.vs
 have hx:∀k,k<n→idx X (k:Int)=some (X.getD k 0):=λk hk=>by rw[AB (by omega),Au (by omega)]
 have hform:∀u w,u<n→nb ((X.set v (ior .u32 (X.getD v 0) (ishl .u32 1 (t:Int)))).set t (ior .u32 (X.getD t 0) (ishl .u32 1 (v:Int)))) u w=(nb X u w||(decide (u=v)&&decide (w=t))||(decide (u=t)&&decide (w=v))):=λu w hu=>by
  unfold nb
  rw[List.getD_eq_getElem?_getD,List.getElem?_set]
  by_cases h:t=u
  ·subst h
   rw[if_pos rfl,if_pos (by simp;omega),Option.getD_some,Bj (hV _ hu) (VS.ishl _ _),A8 (by omega)]
   have:decide (t=v)=false:=decide_eq_false (λe=>hvt e.symm)
   rw[this];simp
  ·rw[if_neg h,List.getElem?_set]
   have e2:decide (u=t)=false:=decide_eq_false (λe=>h e.symm)
   by_cases h2:v=u
   ·subst h2
    rw[if_pos rfl,if_pos (by omega),Option.getD_some,Bj (hV _ hu) (VS.ishl _ _),A8 (by omega),e2]
    simp
   ·have e3:decide (u=v)=false:=decide_eq_false (λe=>h2 e.symm)
    rw[if_neg h2,←List.getD_eq_getElem?_getD,e2,e3];simp
 refine⟨(X.set v (ior .u32 (X.getD v 0) (ishl .u32 1 (t:Int)))).set t (ior .u32 (X.getD t 0) (ishl .u32 1 (v:Int))),?_,⟨by simp[hl],λu hu=> ?_,λu w hu hw=> ?_⟩,hform⟩
 ·unfold D.I
  have e1:idx (X.set v (ior .u32 (X.getD v 0) (ishl .u32 1 (t:Int)))) (t:Int)=some (X.getD t 0):=by
   rw[AB (by simp;omega),List.getElem_set_ne hvt]
   exact congrArg some (Au (by omega) 0).symm
  simp only[hx v hv,bs,B5,Int.toNat_natCast,e1]
 ·rw[List.getD_eq_getElem?_getD,List.getElem?_set]
  by_cases h:t=u
  ·rw[if_pos h,if_pos (by simp;omega)];exact VS.ior _ _
  ·rw[if_neg h,List.getElem?_set]
   by_cases h2:v=u
   ·rw[if_pos h2,if_pos (by omega)];exact VS.ior _ _
   ·rw[if_neg h2,←List.getD_eq_getElem?_getD];exact hV u hu
 ·rw[hform u w hu] at hw
  simp only[Bool.or_eq_true,Bool.and_eq_true,decide_eq_true_eq] at hw
  rcases hw with(h|h)|h
  ·exact hX.lt u w hu h
  ·omega
  ·omega
structure KOk (n:Nat)(K:LL):Prop where
 nd:K.Nodup
 lk:∀l∈K,LinkIn n l
theorem LinkIn.good {n:Nat}(hn:n≤1000){l:LI}(h:LinkIn n l):rowGood l:=by
 obtain⟨a,b,rfl,h1,h2⟩:=h
 refine⟨rfl,?_⟩
 simp only[List.getD_cons_zero,List.getD_cons_succ]
 omega
theorem KOk.len {n:Nat}(hn:n≤16){K:LL}(h:KOk n K):K.length≤256:=by
 have h1:(K.map rowKey).Nodup:=by
  unfold List.Nodup
  rw[List.pairwise_map]
  refine List.Pairwise.imp_of_mem (fun{a b} ha hb hab e=> ?_) h.nd
  exact hab (row_inj ((h.lk a ha).good (by omega)) ((h.lk b hb).good (by omega)) e)
 have h2:=BC (m:=(List.range 16).flatMap (λa=>(List.range 16).map λb=>((a:Nat):Int)*1048576+((b:Nat):Int))) h1 (λx hx=>by
  obtain⟨l,hl,rfl⟩:=List.mem_map.1 hx
  obtain⟨a,b,rfl,h3,h4⟩:=h.lk l hl
  exact List.mem_flatMap.2 ⟨a,List.mem_range.2 (by omega),List.mem_map.2 ⟨b,List.mem_range.2 (by omega),rfl⟩⟩)
 have h3:((List.range 16).flatMap (λa=>(List.range 16).map λb=>((a:Nat):Int)*1048576+((b:Nat):Int))).length=256:=by decide+kernel
 rw[h3,List.length_map] at h2
 exact h2
def WayP (K:LL)(a b:Int):Prop:=∀T:Int→Prop,T a→(∀x y,T x→Lk K x y→T y)→T b
theorem Lk.perm {K K':LL}(h:K.Perm K'){x y:Int}:Lk K x y↔Lk K' x y:=by
 unfold Lk;rw[h.mem_iff,h.mem_iff]
theorem WayP.perm {K K':LL}(h:K.Perm K'){a b:Int}:WayP K a b↔WayP K' a b:=by
 unfold WayP
 constructor
 ·intro hh T h1 h2;exact hh T h1 (λx y hx hl=>h2 x y hx ((Lk.perm h).1 hl))
 ·intro hh T h1 h2;exact hh T h1 (λx y hx hl=>h2 x y hx ((Lk.perm h).2 hl))
structure NetL (A:LI)(n:Nat)(K:LL):Prop where
 net:Net A n
 nb:∀x y,x<n→y<n→(nb A x y=true↔Lk K (x:Int) (y:Int))
end Go.Sx



namespace Go.Sx
theorem Ee {i k:Nat}(h:i<k):Do (i:Int) (k:Int)=[(i:Int),(k:Int)]:=by
 unfold Do
 rw[show min (i:Int) (k:Int)=i by omega,show max (i:Int) (k:Int)=k by omega]
theorem KOk.add {n i k:Nat}{K:LL}(h:KOk n K)(hik:i<k)(hk:k<n)(hw:¬WayP K (i:Int) (k:Int)):KOk n (K++[Do (i:Int) (k:Int)]):=by
 have hnot:Do (i:Int) (k:Int)∉K:=λhm=>hw (λT h1 h2=>h2 _ _ h1 (.inl (by rw[Ee hik] at hm;exact hm)))
 refine⟨?_,λl hl=> ?_⟩
 ·have hp:(K++[Do (i:Int) (k:Int)]).Perm (Do (i:Int) (k:Int)::K):=List.perm_append_comm
  exact hp.nodup_iff.2 (List.nodup_cons.2 ⟨hnot,h.nd⟩)
 ·rcases List.mem_append.1 hl with hl|hl
  ·exact h.lk l hl
  ·simp at hl;subst hl
   exact⟨i,k,Ee hik,hik,hk⟩
theorem NetL.add {A A':LI}{n i k:Nat}{K:LL}(h:NetL A n K)(hik:i<k)(hk:k<n)(hA:Net A' n)(hnb:∀u w,u<n→Sx.nb A' u w=(Sx.nb A u w||(decide (u=i)&&decide (w=k))||(decide (u=k)&&decide (w=i)))):NetL A' n (K++[Do (i:Int) (k:Int)]):=by
 refine⟨hA,λx y hx hy=> ?_⟩
 rw[hnb x y hx,Ee hik]
 simp only[Bool.or_eq_true,Bool.and_eq_true,decide_eq_true_eq]
 rw[h.nb x y hx hy]
 unfold Lk
 simp only[List.mem_append,List.mem_singleton,List.cons.injEq,and_true,Int.natCast_inj]
 constructor
 ·rintro((h1|h1)|⟨h1,h2⟩)
  ·exact h1.elim (λh=> .inl (.inl h)) (λh=> .inr (.inl h))
  ·exact .inl (.inr h1)
  ·exact .inr (.inr ⟨h2,h1⟩)
 ·rintro((h1|h1)|(h1|⟨h1,h2⟩))
  ·exact .inl (.inl (.inl h1))
  ·exact .inl (.inr h1)
  ·exact .inl (.inl (.inr h1))
  ·exact .inr ⟨h2,h1⟩
section
variable {l : LI} (hn : l.length ≤ 16) (hvs : ∀ s ∈ l, VS s)
include hn hvs
end
section
variable {g : LL} (hg : GOk g)
include hg
end
end Go.Sx

namespace Go.Sx
def Claw (g:LL)(v:Nat):Prop:=∃a b c:Nat,a<b∧b<c∧adj g v a∧adj g v b∧adj g v c∧¬adj g a b∧¬adj g a c∧¬adj g b c
theorem mis_three {F:LI}{n a b c:Nat}{S:Int}(hn:n≤32)(hS:VS S)(hab:a<b)(hbc:b<c)(hc:c<n)(h:∀v,has S v=true↔(v=a∨v=b∨v=c)):mis F n S=bit (!nb F a b)+bit (!nb F a c)+bit (!nb F b c):=by
 have he:Am S=[(a:Int),(b:Int),(c:Int)]:=by
  refine Inc.ext (Bu S) (by simp[Inc];omega) (λx=> ?_)
  rw[mem_elems]
  constructor
  ·rintro⟨v,_,h2,rfl⟩
   rcases(h v).1 h2 with rfl|rfl|rfl<;>simp
  ·intro hx
   simp at hx
   rcases hx with rfl|rfl|rfl
   ·exact⟨a,by omega,(h a).2 (.inl rfl),rfl⟩
   ·exact⟨b,by omega,(h b).2 (.inr (.inl rfl)),rfl⟩
   ·exact⟨c,by omega,(h c).2 (.inr (.inr rfl)),rfl⟩
 have hlt:∀v,has S v=true→v<n:=λv hv=>by rcases(h v).1 hv with rfl|rfl|rfl<;>omega
 have hin:∀q:Nat→Bool,Bs (λw=>bit (has S w&&q w)) n=bit (q a)+bit (q b)+bit (q c):=λq=>by
  have e1:=Dk (λx:Int=>bit (q x.toNat)) hn hlt
  rw[he] at e1
  simp only[BM,Int.toNat_natCast] at e1
  have e2:(λw=>bit (has S w&&q w))=(λv=>if has S v then bit (q v) else 0):=by
   funext w
   cases has S w<;>simp[bit]
  rw[e2]
  omega
 unfold mis S2
 have e3:(λu=>Bs (λw=>bit (has S u&&(has S w&&(decide (w<u)&& !nb F w u)))) n)=(λu=>if has S u then bit (decide (a<u)&& !nb F a u)+bit (decide (b<u)&& !nb F b u)+bit (decide (c<u)&& !nb F c u) else 0):=by
  funext u
  cases has S u
  ·simp only[Bool.false_and]
   have:=hin (λ_=>false)
   have e4:(λw:Nat=>bit false)=λw=>bit (has S w&&(λ_=>false) w):=by funext w;simp
   rw[e4,this];rfl
  ·simp only[Bool.true_and,if_true]
   exact hin (λw=>decide (w<u)&& !nb F w u)
 rw[e3]
 have e5:=Dk (λx:Int=>bit (decide (a<x.toNat)&& !nb F a x.toNat)+bit (decide (b<x.toNat)&& !nb F b x.toNat)+bit (decide (c<x.toNat)&& !nb F c x.toNat)) hn hlt
 simp only[Int.toNat_natCast] at e5
 rw[←e5,he]
 have d1:decide (a<a)=false:=by simp
 have d2:decide (b<a)=false:=by simp;omega
 have d3:decide (c<a)=false:=by simp;omega
 have d4:decide (a<b)=true:=by simp;omega
 have d5:decide (b<b)=false:=by simp
 have d6:decide (c<b)=false:=by simp;omega
 have d7:decide (a<c)=true:=by simp;omega
 have d8:decide (b<c)=true:=by simp;omega
 have d9:decide (c<c)=false:=by simp
 have d0:bit false=0:=rfl
 simp only[BM,Int.toNat_natCast,d1,d2,d3,d4,d5,d6,d7,d8,d9,Bool.false_and,Bool.true_and,d0]
 omega
section
variable {g : LL} (hg : GOk g)
include hg
theorem impl_Claw :∃r,D.L g=some r∧(r.2=true↔∃v,v<g.length∧Claw g v):=by
 have h16:=hg.n16
 have hF:=FOk.of hg
 have hlF:(g.map mk).length=g.length:=by simp
 unfold D.L
 rw[Bz g hg.sh2,BY hg,bs,Bool.not_true,cond_false,Cy g hg,bs]
 have hrow:∀i,i<g.length→∃r,D.s (D.A0 (g.map mk) ((g.map mk).getD i 0)) Bv (((g.map mk).length:Nat):Int) 0 3 0 0=some r∧(r.1=true↔Claw g i)∧(r.1=true→VS r.2):=λi hi=>by
  have vn:=hF.vs i hi
  have h33:=Dh
  obtain⟨r,e,h1,h2⟩:=chR_ok (f:=D.A0 (g.map mk) ((g.map mk).getD i 0)) h16 (λc=>(iandNot .u32 c ((g.map mk).getD i 0)==0)&&((mis (g.map mk) g.length c:Int)==3)) (λc s hc hlt=>by
   unfold D.A0
   cases hb:(iandNot .u32 c ((g.map mk).getD i 0)==0)
   ·simp only[cond_false,bs,Bool.false_and]
   ·simp only[cond_true,DE h16 hF hc hlt,bs,Bool.true_and]) 3 Bv 0 0 0 (by omega) (by omega) VS.zero (λv hv=>by rw[AY] at hv;cases hv) (by omega)
  rw[hlF]
  refine⟨r,e,?_,λhr=> ?_⟩
  ·rw[h1]
   constructor
   ·rintro⟨t,ht,hc⟩
    obtain⟨a,b,c,hab,hbc,hcn,vt,hh⟩:=(Pick.three h16).1 ht
    rw[Bool.and_eq_true,beq_iff_eq,beq_iff_eq] at hc
    have hsub:∀v,has t v=true→adj g i v:=λv hv=>by
     have hv32:v<32:=by rcases(hh v).1 hv with rfl|rfl|rfl<;>omega
     have:=(VS.eq_zero (VS.iandNot _ _)).1 hc.1 v hv32
     rw[AX vt vn,hv] at this
     exact(BE hg hi).1 (by simpa [nb] using this)
    have hm:=mis_three (F:=g.map mk) (n:=g.length) (by omega) vt hab hbc hcn hh
    have h3:mis (g.map mk) g.length t=3:=by omega
    rw[h3] at hm
    have hb:nb (g.map mk) a b=false∧nb (g.map mk) a c=false∧nb (g.map mk) b c=false:=by
     revert hm
     cases nb (g.map mk) a b<;>cases nb (g.map mk) a c<;>cases nb (g.map mk) b c<;>simp[bit]
    have hna:∀{x y:Nat},x<g.length→nb (g.map mk) x y=false→¬adj g x y:=λhx h ha=>by
     rw[(BE hg hx).2 ha] at h;cases h
    exact⟨a,b,c,hab,hbc,hsub a ((hh a).2 (.inl rfl)),hsub b ((hh b).2 (.inr (.inl rfl))),hsub c ((hh c).2 (.inr (.inr rfl))),hna (by omega) hb.1,hna (by omega) hb.2.1,hna (by omega) hb.2.2⟩
   ·rintro⟨a,b,c,hab,hbc,ha,hb,hc,n1,n2,n3⟩
    have hcn:=hg.lt hi hc
    have hex:∀v,has (ior .u32 (ior .u32 (ishl .u32 1 (a:Int)) (ishl .u32 1 (b:Int))) (ishl .u32 1 (c:Int))) v=true↔(v=a∨v=b∨v=c):=λv=>by
     rw[Bj (VS.ior _ _) (VS.ishl _ _),Bj (VS.ishl _ _) (VS.ishl _ _),A8 (by omega),A8 (by omega),A8 (by omega)]
     simp[or_assoc]
    refine⟨_,(Pick.three h16).2 ⟨a,b,c,hab,hbc,hcn,VS.ior _ _,hex⟩,?_⟩
    rw[Bool.and_eq_true,beq_iff_eq,beq_iff_eq]
    constructor
    ·rw[VS.eq_zero (VS.iandNot _ _)]
     intro v _
     rw[AX (VS.ior _ _) vn]
     cases hv:has (ior .u32 (ior .u32 (ishl .u32 1 (a:Int)) (ishl .u32 1 (b:Int))) (ishl .u32 1 (c:Int))) v
     ·rfl
     ·have hav:adj g i v:=by rcases(hex v).1 hv with rfl|rfl|rfl<;>assumption
      have:=(BE hg hi).2 hav
      unfold nb at this
      rw[this];rfl
    ·have hm:=mis_three (F:=g.map mk) (n:=g.length) (by omega) (VS.ior _ _) hab hbc hcn hex
     have hna:∀{x y:Nat},x<g.length→¬adj g x y→nb (g.map mk) x y=false:=λhx h=>by
      cases hh:nb (g.map mk) _ _
      ·rfl
      ·exact absurd ((BE hg hx).1 hh) h
     rw[hm,hna (by omega) n1,hna (by omega) n2,hna (by omega) n3];rfl
  ·obtain⟨hp,_⟩:=h2 hr
   obtain⟨_,_,_,_,_,_,vt,_⟩:=(Pick.three h16).1 hp
   exact vt
 have key:∀(d i:Nat),i+d=g.length→∃r,Ao (D.P0 (g.map mk)) (i:Int)=some r∧(r.2=true↔∃v,i≤v∧v<g.length∧Claw g v):=by
  intro d
  induction d with
  |zero=>
   intro i hi
   obtain rfl:i=g.length:=by omega
   refine⟨([],false),AV ?_,⟨λh=>(by cases h),fun⟨v,h1,h2,_⟩=>(by omega)⟩⟩
   unfold D.P0
   have:decide ((g.length:Int)<((g.map mk).length:Int))=false:=by simp
   simp only[this,cond_false]
  |succ d ih=>
   intro i hi
   have hil:i<g.length:=by omega
   obtain⟨r,e,h1,h2⟩:=hrow i hil
   have hd:decide ((i:Int)<((g.map mk).length:Int))=true:=by simp;omega
   have hidx:idx (g.map mk) (i:Int)=some ((g.map mk).getD i 0):=by rw[AB (by simpa using hil),Au (by simpa using hil)]
   have hst:D.P0 (g.map mk) (i:Int)=cond r.1 ((D.x r.2).bind λl=>(AH [(i:Int)] l).bind λo=>some (.inr (o,true))) (some (.inl ((i+1:Nat):Int))):=by
    unfold D.P0
    simp only[hd,cond_true,hidx,bs,e,wq i]
   cases hb:r.1
   ·rw[hb,cond_false] at hst
    obtain⟨r',e',h'⟩:=ih (i+1) (by omega)
    refine⟨r',by rw[Bi hst,e'],?_⟩
    rw[h']
    constructor
    ·rintro⟨v,a,b,c⟩;exact⟨v,by omega,b,c⟩
    ·rintro⟨v,a,b,c⟩
     by_cases hvi:v=i
     ·subst hvi
      rw[h1.2 c] at hb;cases hb
     ·exact⟨v,by omega,b,c⟩
   ·have hel:=Bl r.2
    rw[hb,cond_true,DW _ (h2 hb),bs,Be (by simp;omega),bs] at hst
    exact⟨_,AV hst,λ_=>⟨i,Nat.le_refl _,hil,h1.1 hb⟩,λ_=>rfl⟩
 obtain⟨r,e,h⟩:=key g.length 0 (by omega)
 refine⟨r,e,?_⟩
 rw[h]
 exact exists_congr λv=>⟨λh=>h.2,λh=>⟨Nat.zero_le _,h⟩⟩
end
end Go.Sx

namespace Go.Sx
def canR (R:Nat→Nat→Prop)(S:Nat→Prop)(v:Nat):Prop:=
 (∀w,S w→¬R v w)∨∃u,u≠v∧S u∧((∀w,S w→(R v w↔w=u))∨(¬R v u∧∀w,S w→(R v w↔R u w))∨(R v u∧∀w,S w→w≠u→w≠v→(R v w↔R u w)))
def Elim (R:Nat→Nat→Prop):Nat→(Nat→Prop)→Prop
 |0,S=>∀w,¬S w
 |k+1,S=>∃v,S v∧canR R S v∧Elim R k (λw=>S w∧w≠v)
theorem Elim.iso {R R':Nat→Nat→Prop}(f:Nat→Nat):∀(k:Nat) (S S':Nat→Prop),Elim R k S→(∀w,S w→S' (f w))→(∀w',S' w'→∃w,S w∧f w=w')→(∀u w,S u→S w→f u=f w→u=w)→(∀u w,S u→S w→(R' (f u) (f w)↔R u w))→Elim R' k S'
 |0,S,S',h,_,h2,_,_=>λw' hw'=>by
  obtain⟨w,hw,_⟩:=h2 w' hw'
  exact h w hw
 |k+1,S,S',h,h1,h2,h3,h4=>by
  obtain⟨v,hv,hc,he⟩:=h
  refine⟨f v,h1 v hv,?_,Elim.iso f k _ _ he (λw hw=>⟨h1 w hw.1,λe=>hw.2 (h3 w v hw.1 hv e)⟩) (λw' hw'=> ?_) (λu w hu hw=>h3 u w hu.1 hw.1) (λu w hu hw=>h4 u w hu.1 hw.1)⟩
  ·rcases hc with hc|⟨u,hu,hSu,hc⟩
   ·refine .inl λw' hw'=> ?_
    obtain⟨w,hw,rfl⟩:=h2 w' hw'
    rw[h4 v w hv hw];exact hc w hw
   ·refine .inr ⟨f u,λe=>hu (h3 u v hSu hv e),h1 u hSu,?_⟩
    rcases hc with hc|⟨hn,hc⟩|⟨hn,hc⟩
    ·refine .inl λw' hw'=> ?_
     obtain⟨w,hw,rfl⟩:=h2 w' hw'
     rw[h4 v w hv hw,hc w hw]
     exact⟨λe=>by rw[e],λe=>h3 w u hw hSu e⟩
    ·refine .inr (.inl ⟨λh=>hn ((h4 v u hv hSu).1 h),λw' hw'=> ?_⟩)
     obtain⟨w,hw,rfl⟩:=h2 w' hw'
     rw[h4 v w hv hw,h4 u w hSu hw];exact hc w hw
    ·refine .inr (.inr ⟨(h4 v u hv hSu).2 hn,λw' hw' hwu hwv=> ?_⟩)
     obtain⟨w,hw,rfl⟩:=h2 w' hw'
     rw[h4 v w hv hw,h4 u w hSu hw]
     exact hc w hw (λe=>hwu (by rw[e])) (λe=>hwv (by rw[e]))
  ·obtain⟨w,hw,rfl⟩:=h2 w' hw'.1
   exact⟨w,⟨hw,λe=>hw'.2 (by rw[e])⟩,rfl⟩
theorem Elim.congr {R R':Nat→Nat→Prop}{k:Nat}{S S':Nat→Prop}(h:Elim R k S)(hS:∀w,S w↔S' w)(hR:∀u w,S u→S w→(R' u w↔R u w)):Elim R' k S':=
 Elim.iso id k S S' h (λw hw=>(hS w).1 hw) (λw hw=>⟨w,(hS w).2 hw,rfl⟩) (λ_ _ _ _ e=>e) hR
def Da (F:LI)(p:Pr):Int:=if p.2.2=2 then ishl .u32 1 p.2.1 else if p.2.2=3 then F.getD p.2.1.toNat 0 else if p.2.2=4 then ior .u32 (F.getD p.2.1.toNat 0) (ishl .u32 1 p.2.1) else 0
def Fs (n:Nat):List Pr→LI
 |[]=>List.replicate n 0
 |p::l=>Dg n (Fs n l) p.1.toNat (Da (Fs n l) p)
def vsOf (l:List Pr):LI:=l.map (·.1)
structure GI (n:Nat)(l:List Pr)(s:Int):Prop where
 f:FOk (Fs n l) n
 i:In n s
 mem:∀w:Nat,has s w=true↔(w:Int)∈vsOf l
 thr:∀u w,u<n→nb (Fs n l) u w=true→has s u=true∧has s w=true
 nonneg:∀x∈vsOf l,0≤x
theorem GI.nil (n:Nat):GI n [] 0:=by
 have hz:∀u,(List.replicate n (0:Int)).getD u 0=0:=λu=>by
  rw[List.getD_eq_getElem?_getD,List.getElem?_replicate];split<;>rfl
 have hn:∀u w,nb (List.replicate n (0:Int)) u w=false:=λu w=>by unfold nb;rw[hz,AY]
 exact⟨⟨by simp[Fs],λu _=>by show VS ((List.replicate n (0:Int)).getD u 0);rw[hz];exact VS.zero,λu w _ h=>(by rw[show nb (Fs n []) u w=false from hn u w] at h;cases h),λu _=>hn u u,λu w _ h=>(by rw[show nb (Fs n []) u w=false from hn u w] at h;cases h)⟩,
  ⟨VS.zero,λw h=>(by rw[AY] at h;cases h)⟩,λw=>(by rw[AY];simp[vsOf]),λu w _ h=>(by rw[show nb (Fs n []) u w=false from hn u w] at h;cases h),by simp[vsOf]⟩
def needs (k:Int):Prop:=k=2∨k=3∨k=4
theorem near_ok {n:Nat}(hn:n≤16){l:List Pr}{s:Int}(h:GI n l s){p:Pr}(hby:needs p.2.2→∃b:Nat,p.2.1=b∧has s b=true):In n (Da (Fs n l) p)∧∀w,has (Da (Fs n l) p) w=true→has s w=true:=by
 have key:VS (Da (Fs n l) p)∧∀w,has (Da (Fs n l) p) w=true→has s w=true:=by
  unfold Da
  by_cases k2:p.2.2=2
  ·obtain⟨b,e,hb⟩:=hby (.inl k2)
   have:=h.i.2 b hb
   rw[if_pos k2,e]
   refine⟨VS.ishl _ _,λw hw=> ?_⟩
   rw[A8 (by omega)] at hw
   rw[of_decide_eq_true hw];exact hb
  ·rw[if_neg k2]
   by_cases k3:p.2.2=3
   ·obtain⟨b,e,hb⟩:=hby (.inr (.inl k3))
    have hbn:=h.i.2 b hb
    rw[if_pos k3,e,Int.toNat_natCast]
    exact⟨h.f.vs b hbn,λw hw=>(h.thr b w hbn hw).2⟩
   ·rw[if_neg k3]
    by_cases k4:p.2.2=4
    ·obtain⟨b,e,hb⟩:=hby (.inr (.inr k4))
     have hbn:=h.i.2 b hb
     rw[if_pos k4,e,Int.toNat_natCast]
     refine⟨VS.ior _ _,λw hw=> ?_⟩
     rw[Bj (h.f.vs b hbn) (VS.ishl _ _),A8 (by omega),Bool.or_eq_true] at hw
     rcases hw with hw|hw
     ·exact(h.thr b w hbn hw).2
     ·rw[of_decide_eq_true hw];exact hb
    ·rw[if_neg k4]
     exact⟨VS.zero,λw hw=>by rw[AY] at hw;cases hw⟩
 exact⟨⟨key.1,λw hw=>h.i.2 w (key.2 w hw)⟩,key.2⟩
theorem GI.step {n:Nat}(hn:n≤16){l:List Pr}{s:Int}(h:GI n l s){p:Pr}{v:Nat}(e:p.1=v)(hv:v<n)(hsv:has s v=false)(hby:needs p.2.2→∃b:Nat,p.2.1=b∧has s b=true):
  GI n (p::l) (ior .u32 s (ishl .u32 1 (v:Int)))∧Fs n (p::l)=Dg n (Fs n l) v (Da (Fs n l) p)∧has (Da (Fs n l) p) v=false∧∀w,nb (Fs n l) v w=false:=by
 obtain⟨hS,hSs⟩:=near_ok hn h hby
 have hSv:has (Da (Fs n l) p) v=false:=by
  rw[Bool.eq_false_iff];intro hc;rw[hSs v hc] at hsv;cases hsv
 have eF:Fs n (p::l)=Dg n (Fs n l) v (Da (Fs n l) p):=by
  show Dg n (Fs n l) p.1.toNat _=_
  rw[e,Int.toNat_natCast]
 have hh:∀w,has (ior .u32 s (ishl .u32 1 (v:Int))) w=(has s w||decide (w=v)):=λw=>by rw[Bj h.i.1 (VS.ishl _ _),A8 (by omega)]
 refine⟨⟨by rw[eF];exact joinF_ok hn h.f hS hv hSv,⟨VS.ior _ _,λw hw=> ?_⟩,λw=> ?_,λu w hu hw=> ?_,λx hx=> ?_⟩,eF,hSv,λw=> ?_⟩
 ·rw[hh,Bool.or_eq_true,decide_eq_true_eq] at hw
  rcases hw with hw|hw
  ·exact h.i.2 w hw
  ·omega
 ·rw[hh,Bool.or_eq_true,decide_eq_true_eq,h.mem]
  unfold vsOf
  rw[List.map_cons,List.mem_cons,e]
  constructor
  ·rintro(hw|hw)
   ·exact .inr hw
   ·exact .inl (by omega)
  ·rintro(hw|hw)
   ·exact .inr (by omega)
   ·exact .inl hw
 ·rw[eF,C2 hn h.f hS hv hu] at hw
  simp only[hh,Bool.or_eq_true,Bool.and_eq_true,decide_eq_true_eq] at hw ⊢
  rcases hw with(hw|hw)|hw
  ·have:=h.thr u w hu hw
   exact⟨.inl this.1,.inl this.2⟩
  ·exact⟨.inr hw.1,.inl (hSs w hw.2)⟩
  ·exact⟨.inl (hSs u hw.1),.inr hw.2⟩
 ·unfold vsOf at hx
  rw[List.map_cons,List.mem_cons,e] at hx
  rcases hx with rfl|hx
  ·omega
  ·exact h.nonneg x hx
 ·rw[Bool.eq_false_iff];intro hc
  rw[(h.thr v w hv hc).1] at hsv;cases hsv
def Lsts (g:LL)(K:Int):Prop:=In g.length K∧(∀u w,has K u=true→has K w=true→¬adj g u w)∧∀w,w<g.length→has K w=true∨∃v,has K v=true∧adj g v w
structure LSt (g:LL)(l:LI):Prop where
 up:l.Pairwise (λa b=>skey a<skey b)
 mem:∀K,K∈l↔Lsts g K
theorem LSt.vs {g:LL}{l:LI}(h:LSt g l):∀s∈l,VS s:=λs hs=>((h.mem s).1 hs).1.1
theorem LSt.len {g:LL}{l:LI}(hg:GOk g)(h:LSt g l):l.length≤65536:=Dc hg.n16 (λK hK=>((h.mem K).1 hK).1) (Dl h.up)
theorem row_more (g:LL)(v:Nat):row (g++[[]]) v=row g v:=by
 unfold row
 rw[List.getD_eq_getElem?_getD,List.getD_eq_getElem?_getD]
 by_cases h:v<g.length
 ·rw[List.getElem?_append_left h]
 ·rw[List.getElem?_append_right (by omega),List.getElem?_eq_none (show g.length≤v by omega)]
  by_cases h2:v-g.length=0
  ·rw[h2];rfl
  ·rw[List.getElem?_eq_none (by simp;omega)]
theorem GOk.more {g:LL}(hg:GOk g)(h16:g.length<16):GOk (g++[[]]):=by
 have hl:(g++[[]]).length=g.length+1:=by simp
 have hadj:∀u v,adj (g++[[]]) u v↔adj g u v:=λu v=>by unfold adj;rw[row_more]
 have hn:∀u v,adj g u v→u<g.length:=λu v h=>by
  apply Classical.byContradiction
  intro hc
  unfold adj row at h
  rw[List.getD_eq_getElem?_getD,List.getElem?_eq_none (by omega)] at h
  simp at h
 refine⟨by omega,by omega,λv _=> ?_,λv _ h=> ?_,λu v _ h=> ?_⟩
 ·rw[row_more]
  by_cases hv:v<g.length
  ·exact⟨(hg.rows v hv).1,λx hx=>by have:=(hg.rows v hv).2 x hx;omega⟩
  ·unfold row
   rw[List.getD_eq_getElem?_getD,List.getElem?_eq_none (by omega)]
   exact⟨by simp[Inc],by simp⟩
 ·rw[hadj] at h;exact hg.irr v (hn v v h) h
 ·rw[hadj] at h ⊢;exact hg.sym u v (hn u v h) h
def AllGo (g:LL):Prop:=Elim (adj g) g.length (λw=>w<g.length)
theorem AllGo.add {g y:LL}(hg:GOk g)(h:AllGo g){x:LI}(hx:SetOf x (g.length:Int))(hl:y.length=g.length+1)
  (hA:∀u w:Nat,adj y u w↔adj g u w∨(u=g.length∧(w:Int)∈x)∨(w=g.length∧(u:Int)∈x)) (hc:canR (adj y) (λw=>w<g.length+1) g.length):AllGo y:=by
 unfold AllGo
 rw[hl]
 refine⟨g.length,by omega,hc,h.congr (λw=>⟨λh=>⟨by omega,by omega⟩,λh=>by omega⟩) (λu w hu hw=> ?_)⟩
 rw[hA]
 constructor
 ·rintro(h|⟨h,_⟩|⟨h,_⟩)
  ·exact h
  ·omega
  ·omega
 ·exact .inl
theorem Eb {g:LL}(hg:GOk g):D.s0 g g=some true:=by
 unfold D.s0 D.S0
 have e:((g.length:Int) !=(g.length:Int))=false:=by simp
 rw[B1 g hg.sh2,BY hg]
 simp only[bs,cond_true,e,cond_false]
 rw[Cg g.length (λ_=>true) false (λi hi=> ?_) ?_ rfl rfl]
 ·simp
 ·simp only[Bg,cond_false]
 ·have h16:=hg.n16
  rw[dlt hi,cond_true,AB hi,bs,bs,l1Same_eq _ _ (hg.sh2.2 _ (List.getElem_mem hi)),decide_eq_true rfl,bs,Bool.not_true,cond_false,wi (by omega),if_pos rfl]
def lf (xs:List (Int×Int))(v:Nat):Int:=(xs.getD v (0,0)).1
def rt (xs:List (Int×Int))(v:Nat):Int:=(xs.getD v (0,0)).2
def BF (xs:List (Int×Int))(u v:Nat):Bool:=decide (lf xs u≤rt xs v)&&decide (lf xs v≤rt xs u)
structure IvL (xs:List (Int×Int)):Prop where
 n1:1≤xs.length
 n16:xs.length≤16
 ok:∀x∈xs,0≤x.1∧x.1≤x.2∧x.2≤100
def CM (xs:List (Int×Int))(v m:Nat):LI:=((List.range m).filter λu=>decide (u≠v)&&BF xs u v).map Int.ofNat
def gI (xs:List (Int×Int)):LL:=(List.range xs.length).map λv=>CM xs v xs.length
theorem gI_len (xs:List (Int×Int)):(gI xs).length=xs.length:=by simp[gI]
theorem mem_rowI {xs:List (Int×Int)}{v m:Nat}{x:Int}:x∈CM xs v m↔∃u:Nat,x=(u:Int)∧u<m∧u≠v∧BF xs u v=true:=by
 unfold CM
 simp only[List.mem_map,List.mem_filter,List.mem_range,Bool.and_eq_true,decide_eq_true_eq]
 constructor
 ·rintro⟨u,⟨h1,h2,h3⟩,rfl⟩;exact⟨u,rfl,h1,h2,h3⟩
 ·rintro⟨u,rfl,h1,h2,h3⟩;exact⟨u,⟨h1,h2,h3⟩,rfl⟩
theorem row_gI {xs:List (Int×Int)}{v:Nat}(hv:v<xs.length):row (gI xs) v=CM xs v xs.length:=by
 unfold row gI
 rw[Au (by simpa using hv)];simp
theorem DP {xs:List (Int×Int)}{v u:Nat}(hv:v<xs.length):adj (gI xs) v u↔u<xs.length∧u≠v∧BF xs u v=true:=by
 unfold adj
 rw[row_gI hv,mem_rowI]
 constructor
 ·rintro⟨w,e,h⟩
  obtain rfl:u=w:=by omega
  exact h
 ·intro h;exact⟨u,rfl,h⟩
theorem CS (xs:List (Int×Int))(u v:Nat):BF xs u v=BF xs v u:=by unfold BF;exact Bool.and_comm _ _
theorem rowI_inc (xs:List (Int×Int))(v m:Nat):Inc (CM xs v m):=by
 unfold Inc CM
 rw[List.pairwise_map]
 refine List.Pairwise.imp (fun{a b} h=>by show (a:Int)<(b:Int);omega) (List.Pairwise.filter _ List.pairwise_lt_range)
theorem gI_ok {xs:List (Int×Int)}(h1:1≤xs.length)(h16:xs.length≤16):GOk (gI xs):=by
 have hl:=gI_len xs
 refine⟨by omega,by omega,λv hv=> ?_,λv hv ha=> ?_,λu v hu ha=> ?_⟩
 ·rw[hl] at hv ⊢
  rw[row_gI hv]
  refine⟨rowI_inc _ _ _,λx hx=> ?_⟩
  obtain⟨u,rfl,h2,_⟩:=mem_rowI.1 hx
  omega
 ·rw[hl] at hv
  exact((DP hv).1 ha).2.1 rfl
 ·rw[hl] at hu
  obtain⟨a,b,c⟩:=(DP hu).1 ha
  exact(DP a).2 ⟨hu,λe=>b e.symm,by rw[CS];exact c⟩
theorem IvL.g {xs:List (Int×Int)}(h:IvL xs):GOk (gI xs):=gI_ok h.n1 h.n16
theorem IvL.at {xs:List (Int×Int)}(h:IvL xs){v:Nat}(hv:v<xs.length):0≤lf xs v∧lf xs v≤rt xs v∧rt xs v≤100:=by
 unfold lf rt
 rw[Au hv]
 exact h.ok _ (List.getElem_mem hv)
theorem IvL.iv {xs:List (Int×Int)}(h:IvL xs):Iv (gI xs) (lf xs) (rt xs):=by
 have hl:=gI_len xs
 refine⟨λv hv=>(h.at (by omega)).2.1,λu v hu hv=> ?_⟩
 rw[hl] at hu hv
 rw[DP hu]
 unfold BF
 rw[Bool.and_eq_true,decide_eq_true_eq,decide_eq_true_eq]
 constructor
 ·rintro⟨_,a,b,c⟩;exact⟨λe=>a e.symm,c,b⟩
 ·rintro⟨a,b,c⟩;exact⟨hv,λe=>a e.symm,c,b⟩
theorem idx_iv {xs:List (Int×Int)}{v:Nat}(hv:v<xs.length):idx xs (v:Int)=some (lf xs v,rt xs v):=by
 unfold lf rt
 rw[AB hv,Au hv]
section
variable {xs : List (Int × Int)} (h : IvL xs)
include h
theorem l14All_eq :D.j0 xs=some true:=by
 have h1:=h.n1;have h16:=h.n16
 unfold D.j0
 have e1:(decide ((1:Int)≤(xs.length:Int))&&decide ((xs.length:Int)≤16))=true:=by simp;omega
 rw[Eu,e1,bs,Bool.not_true,cond_false]
 refine(C4 (λi=>((i:Nat):Int)) xs.length (.inl ()) rfl (λi hi=> ?_) (by simp only[Bg,cond_false])).trans rfl
 obtain⟨a,b,c⟩:=h.at hi
 have e2:(decide ((0:Int)≤lf xs i)&&decide (lf xs i≤100))=true:=by simp;omega
 have e3:(decide (lf xs i≤rt xs i)&&decide (rt xs i≤100))=true:=by simp;omega
 simp only[dlt hi,cond_true,idx_iv hi,bs,D.C0,Eu,e2,e3,Bool.not_true,cond_false,wq i]
omit h in
theorem l14Graph_eq (h16:xs.length≤16):D.u0 xs=some (gI xs):=by
 unfold D.u0
 refine(Dr (List.range xs.length) (λl i=>(i,l)) (λv=>CM xs v xs.length) (by simp;omega) (λl i hi _=> ?_) (λl=> ?_)).trans rfl
 ·have hi':i<xs.length:=by simpa using hi
  simp only[dlt hi',cond_true,List.getElem_range,wq i]
  have key:=loop_nat (step:=fun(s_754:LI×Int)=>match s_754 with|(l_757,x_762)=>cond (decide (x_762<(xs.length:Int))) ((cond (x_762 !=(i:Int)) ((idx xs x_762).bind λe_827=>(idx xs (i:Int)).bind λe_831=>(D.e0 e_827.1 e_827.2 e_831.1 e_831.2).bind λy_835=>some y_835) (some false)).bind λb_825=>cond b_825 ((AH l_757 ([x_762]:LI)).bind λl_845=>some (.inl (l_845,(IntKind.i64.wrap (x_762+1))))) (some (.inl (l_757,(IntKind.i64.wrap (x_762+1)))))) (some (.inr l_757)))
   xs.length (λs k=>(s,k)) (λs u=>if u≠i∧BF xs u i=true then s++[(u:Int)] else s) (λs=>s) (λk s=>s=CM xs i k) [] (by simp[CM]) (λs k hk hs=>by
    subst hs
    have hlen:(CM xs i k).length≤k:=by
     unfold CM
     rw[List.length_map]
     exact Nat.le_trans (List.length_filter_le _ _) (by simp)
    have hnext:CM xs i (k+1)=if k≠i∧BF xs k i=true then CM xs i k++[(k:Int)] else CM xs i k:=by
     unfold CM
     rw[List.range_succ,List.filter_append,List.map_append]
     by_cases hc:k≠i∧BF xs k i=true
     ·rw[if_pos hc]
      have:(decide (k≠i)&&BF xs k i)=true:=by simp[hc.1,hc.2]
      have e5:List.filter (λu=>decide (u≠i)&&BF xs u i) [k]=[k]:=List.filter_cons_of_pos (p:=λu=>decide (u≠i)&&BF xs u i) this
      rw[e5];rfl
     ·rw[if_neg hc]
      have:(decide (k≠i)&&BF xs k i)=false:=by
       cases hb:(decide (k≠i)&&BF xs k i)
       ·rfl
       ·rw[Bool.and_eq_true,decide_eq_true_eq] at hb;exact absurd hb hc
      rw[List.filter_cons_of_neg (by rw[this];simp)];simp
    refine⟨?_,hnext.symm⟩
    simp only[dlt hk,cond_true,wq k]
    by_cases hki:k=i
    ·subst hki
     have e:((k:Int) !=(k:Int))=false:=by simp
     rw[e,cond_false,if_neg (λh=>h.1 rfl)];rfl
    ·have e:((k:Int) !=(i:Int))=true:=by rw[bne_iff_ne];omega
     simp only[e,cond_true,idx_iv hk,idx_iv hi',bs,D.e0]
     by_cases hm:BF xs k i=true
     ·rw[if_pos ⟨hki,hm⟩]
      unfold BF at hm
      rw[hm,cond_true,Be (by simp;omega)];rfl
     ·rw[if_neg (λh=>hm h.2)]
      unfold BF at hm
      have:(decide (lf xs k≤rt xs i)&&decide (lf xs i≤rt xs k))=false:=by simpa using hm
      rw[this];rfl)
   (λs _=>by simp only[Bg,cond_false])
  rw[show ((0:Int))=((0:Nat):Int) from rfl] at key ⊢
  rw[key.1,bs,key.2]
 ·have:decide (((List.range xs.length).length:Int)<(xs.length:Int))=false:=by simp
  simp only[this,cond_false]
theorem spec_IvOk {g:LL}(hg:g=gI xs):D.O g xs=some true:=by
 subst hg
 have hG:=h.g
 unfold D.O
 rw[B1 _ hG.sh2,BY hG,bs,cond_true,l14All_eq h,bs,bs,cond_true,l14Graph_eq h.n16,bs,Eb hG,bs]
theorem impl_GoI :D.h xs=some (gI xs,true):=by
 have h1:=h.n1;have h16:=h.n16
 unfold D.h
 have d1:decide ((xs.length:Int)<1)=false:=by simp;omega
 have d2:decide ((16:Int)<(xs.length:Int))=false:=by simp;omega
 have hcf:D.m0 xs=some false:=by
  have hif:D.T xs=some (-1):=by
   unfold D.T
   refine(C4 (λi=>((i:Nat):Int)) xs.length (.inl ()) rfl (λi hi=> ?_) (by simp only[Bg,cond_false])).trans rfl
   obtain⟨a,b,c⟩:=h.at hi
   have e2:((decide ((0:Int)≤lf xs i)&&decide (lf xs i≤rt xs i))&&decide (rt xs i≤100))=true:=by simp;omega
   simp only[dlt hi,cond_true,idx_iv hi,bs,D.F0,D.y0,e2,Bool.not_true,cond_false,wq i]
  unfold D.m0
  rw[hif];rfl
 simp only[d1,d2,Bool.or_self,cond_false,hcf,bs]
 rw[makeD_ok (by omega) (by omega),bs]
 have hz:∀u,(List.replicate xs.length (0:Int)).getD u 0=0:=λu=>by
  rw[List.getD_eq_getElem?_getD,List.getElem?_replicate];split<;>rfl
 let RelO:Nat→LI→Prop:=λi A=>Net A xs.length∧∀u w,u<xs.length→(nb A u w=true↔u≠w∧u<i∧w<i∧BF xs u w=true)
 have hfin:∃A,RelO xs.length A∧Ao (σ:=LI×Int) (ρ:=(LI)) (fun(s_279:LI×Int)=>match s_279 with|(l_282,x_285)=>cond (decide (x_285<(xs.length:Int))) ((idx xs x_285).bind λe_406=>(B4 xs 0 x_285).bind λl_412=>(Ao (σ:=LI×Int) (ρ:=(LI)) (fun(s_465:LI×Int)=>match s_465 with|(l_468,x_471)=>cond (decide (x_471<(l_412.length:Int))) ((idx l_412 x_471).bind λe_499=>cond ((decide (e_406.1≤e_499.2))&&(decide (e_499.1≤e_406.2))) ((D.I l_468 x_285 x_471).bind λy_509=>some (.inl (y_509,(IntKind.i64.wrap (x_471+1))))) (some (.inl (l_468,(IntKind.i64.wrap (x_471+1)))))) (some (.inr l_468))) (l_282,0)).bind λl_494=>some (.inl (l_494,(IntKind.i64.wrap (x_285+1))))) (some (.inr l_282))) (List.replicate xs.length 0,0)=some A:=by
  have main:=AW (k:=λA=>some A) (Q:=λA=>RelO xs.length A) (step:=fun(s_279:LI×Int)=>match s_279 with|(l_282,x_285)=>cond (decide (x_285<(xs.length:Int))) ((idx xs x_285).bind λe_406=>(B4 xs 0 x_285).bind λl_412=>(Ao (σ:=LI×Int) (ρ:=(LI)) (fun(s_465:LI×Int)=>match s_465 with|(l_468,x_471)=>cond (decide (x_471<(l_412.length:Int))) ((idx l_412 x_471).bind λe_499=>cond ((decide (e_406.1≤e_499.2))&&(decide (e_499.1≤e_406.2))) ((D.I l_468 x_285 x_471).bind λy_509=>some (.inl (y_509,(IntKind.i64.wrap (x_471+1))))) (some (.inl (l_468,(IntKind.i64.wrap (x_471+1)))))) (some (.inr l_468))) (l_282,0)).bind λl_494=>some (.inl (l_494,(IntKind.i64.wrap (x_285+1))))) (some (.inr l_282)))
   (s:=(List.replicate xs.length 0,0)) (λq=>∃i:Nat,q.2=(i:Int)∧i≤xs.length∧RelO i q.1) (λq=>xs.length-q.2.toNat) (λA=>RelO xs.length A) ?_ ⟨0,rfl,by omega,⟨by simp,λu _=>by rw[hz];exact VS.zero,λu w _ h=>by unfold nb at h;rw[hz,AY] at h;cases h⟩,λu w _=>by unfold nb;rw[hz,AY];simp⟩ (λr hr=>⟨r,rfl,hr⟩)
  ·obtain⟨A,e,hA⟩:=main
   refine⟨A,hA,?_⟩
   simpa using e
  ·rintro⟨A,_⟩ ⟨i,rfl,hi,hA,hn⟩
   dsimp only at hA hn ⊢
   by_cases hlt:i<xs.length
   ·simp only[dlt hlt,cond_true,idx_iv hlt,bs,sliceD_pre (show i≤xs.length by omega)]
    refine AW (λq=>∃k:Nat,q.2=(k:Int)∧k≤i∧Net q.1 xs.length∧∀u w,u<xs.length→(nb q.1 u w=true↔u≠w∧BF xs u w=true∧((u<i∧w<i)∨(u=i∧w<k)∨(w=i∧u<k)))) (λq=>i-q.2.toNat) (λA=>RelO (i+1) A) ?_ ⟨0,rfl,by omega,hA,λu w hu=> ?_⟩ (λr hr=>⟨_,rfl,⟨i+1,wi (by omega),by omega,hr⟩,by dsimp only;rw[wi (by omega)];omega⟩)
    ·rintro⟨B,_⟩ ⟨k,rfl,hk,hB,hbn⟩
     dsimp only at hB hbn ⊢
     have htl:(xs.take i).length=i:=by simp;omega
     rw[htl]
     by_cases hki:k<i
     ·have hidx:idx (xs.take i) (k:Int)=some (lf xs k,rt xs k):=by
       rw[AB (by omega),List.getElem_take]
       unfold lf rt
       rw[Au (by omega)]
      simp only[dlt hki,cond_true,hidx,bs,wq k]
      have hmm:(decide (lf xs i≤rt xs k)&&decide (lf xs k≤rt xs i))=BF xs i k:=rfl
      rw[hmm]
      cases hm:BF xs i k
      ·rw[cond_false]
       refine⟨_,rfl,⟨k+1,rfl,by omega,hB,λu w hu=> ?_⟩,by simp;omega⟩
       dsimp only
       rw[hbn u w hu]
       constructor
       ·rintro⟨a,b,c⟩;exact⟨a,b,by omega⟩
       ·rintro⟨a,b,c⟩
        refine⟨a,b,?_⟩
        rcases c with c|⟨rfl,c⟩|⟨rfl,c⟩
        ·exact .inl c
        ·by_cases hwk:w=k
         ·subst hwk;rw[hm] at b;cases b
         ·exact .inr (.inl ⟨rfl,by omega⟩)
        ·by_cases huk:u=k
         ·subst huk;rw[CS,hm] at b;cases b
         ·exact .inr (.inr ⟨rfl,by omega⟩)
      ·rw[cond_true]
       obtain⟨B',e,hB',hnb⟩:=join_net h16 hB hlt (show k<xs.length by omega) (show i≠k by omega)
       rw[e,bs]
       refine⟨_,rfl,⟨k+1,rfl,by omega,hB',λu w hu=> ?_⟩,by simp;omega⟩
       dsimp only
       rw[hnb u w hu,Bool.or_eq_true,Bool.or_eq_true,Bool.and_eq_true,Bool.and_eq_true,decide_eq_true_eq,decide_eq_true_eq,decide_eq_true_eq,decide_eq_true_eq,hbn u w hu]
       constructor
       ·rintro((⟨a,b,c⟩|⟨rfl,rfl⟩)|⟨rfl,rfl⟩)
        ·exact⟨a,b,by omega⟩
        ·exact⟨by omega,hm,.inr (.inl ⟨rfl,by omega⟩)⟩
        ·exact⟨by omega,by rw[CS];exact hm,.inr (.inr ⟨rfl,by omega⟩)⟩
       ·rintro⟨a,b,c⟩
        by_cases q1:u=i∧w=k
        ·exact .inl (.inr q1)
        ·by_cases q2:u=k∧w=i
         ·exact .inr q2
         ·exact .inl (.inl ⟨a,b,by omega⟩)
     ·obtain rfl:k=i:=by omega
      simp only[Bg,cond_false]
      refine⟨_,rfl,hB,λu w hu=> ?_⟩
      rw[hbn u w hu]
      constructor
      ·rintro⟨a,b,c⟩;exact⟨a,by omega,by omega,b⟩
      ·rintro⟨a,b,c,d⟩;exact⟨a,d,by omega⟩
    ·dsimp only
     rw[hn u w hu]
     constructor
     ·rintro⟨a,b,c,d⟩;exact⟨a,d,.inl ⟨b,c⟩⟩
     ·rintro⟨a,d,c⟩;exact⟨a,by omega,by omega,d⟩
   ·obtain rfl:i=xs.length:=by omega
    simp only[Bg,cond_false]
    exact⟨_,rfl,hA,hn⟩
 obtain⟨A,⟨hA,hn⟩,e⟩:=hfin
 rw[e,bs]
 have hF:FOk A xs.length:=⟨hA.len,hA.vs,hA.lt,λu hu=>by
  cases hh:nb A u u
  ·rfl
  ·exact absurd rfl ((hn u u hu).1 hh).1,λu w hu hh=>by
  have:=(hn u w hu).1 hh
  exact(hn w u this.2.2.1).2 ⟨λe=>this.1 e.symm,this.2.2.1,this.2.1,by rw[CS];exact this.2.2.2⟩⟩
 rw[nets_graph_eq A (by rw[hA.len];exact h16) (λu hu=>hA.vs u (by rw[←hA.len];exact hu)),bs]
 have:grow A=gI xs:=Ei (GOk.grow hF h1 h16) h.g (by rw[Dt,hA.len,gI_len]) (λa b ha=>by
  rw[Dt,hA.len] at ha
  rw[C1 hF ha,hn a b ha,DP ha,CS]
  constructor
  ·rintro⟨p,_,q,r⟩;exact⟨q,λe=>p e.symm,r⟩
  ·rintro⟨q,p,r⟩;exact⟨λe=>p e.symm,ha,q,r⟩)
 rw[this]
theorem impl_IvOk {g:LL}(hg:g=gI xs):D.r0 g xs=some true:=by
 subst hg
 unfold D.r0
 rw[impl_GoI h,bs]
 simp only[cond_true,SameGraph_self h.g,bs]
end
end Go.Sx

namespace Go.Sx
theorem bind_some_eq {α β:Type}{e:Option α}{a:α}{k:α→Option β}(h:e=some a):e.bind k=k a:=by rw[h];rfl
theorem has_at {s:Int}{v:Nat}(hs:VS s)(hv:v<32):D.v s (v:Int)=some (has s v):=by
 unfold D.v
 have:decide ((v:Int)<0)=false:=by simp
 rw[this,cond_false,bitAt_eq hs hv]
section
variable {g : LL} (hg : GOk g) {l o : LI} (hl : GC g l) (h16 : l.length ≤ 16) (ho : Goes l 0 o) (hol : o.length ≤ 32)
include hg hl h16 ho hol
theorem told_loop {v:Nat}(hv:v<g.length):∃p:Int×Int,Ao (σ:=Int×Int×Int) (ρ:=(Int×Int)) (fun(s_597:Int×Int×Int)=>match s_597 with|(x_600,x_601,x_602)=>cond (decide (x_600<(o.length:Int))) ((idx o x_600).bind λe_631=>(idx l e_631).bind λe_637=>(D.v e_637 (v:Int)).bind λy_643=>cond (!y_643) (some (.inl ((IntKind.i64.wrap (x_600+1)),x_601,x_602))) (cond (decide (x_601<0)) (some (.inl ((IntKind.i64.wrap (x_600+1)),x_600,x_600))) (some (.inl ((IntKind.i64.wrap (x_600+1)),x_601,x_600))))) (some (.inr (x_601,x_602)))) (0,(-1),0)=some p∧Told l o v p.1 p.2:=by
 have hn16:=hg.n16
 have main:=AW (k:=λp=>some p) (Q:=λp=>Told l o v p.1 p.2) (step:=fun(s_597:Int×Int×Int)=>match s_597 with|(x_600,x_601,x_602)=>cond (decide (x_600<(o.length:Int))) ((idx o x_600).bind λe_631=>(idx l e_631).bind λe_637=>(D.v e_637 (v:Int)).bind λy_643=>cond (!y_643) (some (.inl ((IntKind.i64.wrap (x_600+1)),x_601,x_602))) (cond (decide (x_601<0)) (some (.inl ((IntKind.i64.wrap (x_600+1)),x_600,x_600))) (some (.inl ((IntKind.i64.wrap (x_600+1)),x_601,x_600))))) (some (.inr (x_601,x_602))))
  (s:=(0,(-1),0)) (fun(q:Int×Int×Int)=>∃p:Nat,q.1=(p:Int)∧p≤o.length∧((q.2.1= -1∧∀k,k<p→atp l o k v=false)∨∃i j:Nat,q.2.1=(i:Int)∧q.2.2=(j:Int)∧i≤j∧j<p∧atp l o i v=true∧atp l o j v=true∧∀k,k<p→atp l o k v=true→i≤k∧k≤j))
  (λq=>o.length-q.1.toNat) (λp=>Told l o v p.1 p.2) ?_ ⟨0,rfl,by omega,.inl ⟨rfl,λk hk=>by omega⟩⟩ (λr hr=>⟨r,rfl,hr⟩)
 ·obtain⟨p,e,hp⟩:=main
  exact⟨p,by simpa using e,hp⟩
 ·rintro⟨_,a,b⟩ ⟨p,rfl,hp,hinv⟩
  dsimp only at hinv ⊢
  by_cases hlt:p<o.length
  ·obtain⟨k,ek,hk⟩:=ho.nat _ (List.getElem_mem hlt)
   have vk:VS (l.getD k 0):=((hl.mem _).1 (by rw[Au hk];exact List.getElem_mem hk)).1.1
   have eidx:idx l (k:Int)=some (l.getD k 0):=by rw[AB hk,Au hk]
   have hatp:atp l o p v=has (l.getD k 0) v:=by
    unfold atp ch
    rw[Au hlt,ek,Int.toNat_natCast]
   simp only[dlt hlt,cond_true,AB hlt,ek,bs,eidx,has_at vk (show v<32 by omega),wq p]
   rw[←hatp]
   cases hb:atp l o p v
   ·simp only[Bool.not_false,cond_true]
    refine⟨_,rfl,⟨p+1,rfl,by omega,?_⟩,by simp;omega⟩
    rcases hinv with⟨h1,h2⟩|⟨i,j,h1,h2,h3,h4,h5,h6,h7⟩
    ·refine .inl ⟨h1,λk hk=> ?_⟩
     by_cases hkp:k=p
     ·rw[hkp];exact hb
     ·exact h2 k (by omega)
    ·refine .inr ⟨i,j,h1,h2,h3,by omega,h5,h6,λk hk hka=> ?_⟩
     by_cases hkp:k=p
     ·rw[hkp,hb] at hka;cases hka
     ·exact h7 k (by omega) hka
   ·simp only[Bool.not_true,cond_false]
    rcases hinv with⟨h1,h2⟩|⟨i,j,h1,h2,h3,h4,h5,h6,h7⟩
    ·have hd:decide (a<0)=true:=by simp;omega
     simp only[hd,cond_true]
     refine⟨_,rfl,⟨p+1,rfl,by omega,.inr ⟨p,p,rfl,rfl,Nat.le_refl _,by omega,hb,hb,λk hk hka=> ?_⟩⟩,by simp;omega⟩
     by_cases hkp:k=p
     ·omega
     ·rw[h2 k (by omega)] at hka;cases hka
    ·have hd:decide (a<0)=false:=by simp;omega
     simp only[hd,cond_false]
     refine⟨_,rfl,⟨p+1,rfl,by omega,.inr ⟨i,p,h1,rfl,by omega,by omega,h5,hb,λk hk hka=> ?_⟩⟩,by simp;omega⟩
     by_cases hkp:k=p
     ·omega
     ·have:=h7 k (by omega) hka;omega
  ·obtain rfl:p=o.length:=by omega
   simp only[Bg,cond_false]
   refine⟨_,rfl,?_⟩
   rcases hinv with⟨h1,h2⟩|⟨i,j,h1,h2,h3,h4,h5,h6,h7⟩
   ·obtain⟨k,hk,hka⟩:=told_ex hg hl h16 ho hv
    rw[h2 k hk] at hka;cases hka
   ·exact⟨i,j,h1,h2,h3,h4,h5,h6,h7⟩
theorem told_list :∃t,Ao (σ:=(List (Int×Int))×Int) (ρ:=((List (Int×Int)))) (fun(s_353:(List (Int×Int))×Int)=>match s_353 with|(l_356,x_361)=>cond (decide (x_361<(g.length:Int))) ((Ao (σ:=Int×Int×Int) (ρ:=(Int×Int)) (fun(s_597:Int×Int×Int)=>match s_597 with|(x_600,x_601,x_602)=>cond (decide (x_600<(o.length:Int))) ((idx o x_600).bind λe_631=>(idx l e_631).bind λe_637=>(D.v e_637 x_361).bind λy_643=>cond (!y_643) (some (.inl ((IntKind.i64.wrap (x_600+1)),x_601,x_602))) (cond (decide (x_601<0)) (some (.inl ((IntKind.i64.wrap (x_600+1)),x_600,x_600))) (some (.inl ((IntKind.i64.wrap (x_600+1)),x_601,x_600))))) (some (.inr (x_601,x_602)))) (0,(-1),0)).bind fun(x_627,x_628)=>(AH l_356 ([(x_627,x_628)]:List (Int×Int))).bind λl_656=>some (.inl (l_656,(IntKind.i64.wrap (x_361+1))))) (some (.inr l_356))) (([]:List (Int×Int)),0)=some t∧t.length=g.length∧∀u,u<g.length→Told l o u (lf t u) (rt t u):=by
 have hn16:=hg.n16
 have main:=AW (k:=λp=>some p) (Q:=λt=>t.length=g.length∧∀u,u<g.length→Told l o u (lf t u) (rt t u)) (step:=fun(s_353:(List (Int×Int))×Int)=>match s_353 with|(l_356,x_361)=>cond (decide (x_361<(g.length:Int))) ((Ao (σ:=Int×Int×Int) (ρ:=(Int×Int)) (fun(s_597:Int×Int×Int)=>match s_597 with|(x_600,x_601,x_602)=>cond (decide (x_600<(o.length:Int))) ((idx o x_600).bind λe_631=>(idx l e_631).bind λe_637=>(D.v e_637 x_361).bind λy_643=>cond (!y_643) (some (.inl ((IntKind.i64.wrap (x_600+1)),x_601,x_602))) (cond (decide (x_601<0)) (some (.inl ((IntKind.i64.wrap (x_600+1)),x_600,x_600))) (some (.inl ((IntKind.i64.wrap (x_600+1)),x_601,x_600))))) (some (.inr (x_601,x_602)))) (0,(-1),0)).bind fun(x_627,x_628)=>(AH l_356 ([(x_627,x_628)]:List (Int×Int))).bind λl_656=>some (.inl (l_656,(IntKind.i64.wrap (x_361+1))))) (some (.inr l_356)))
  (s:=(([]:List (Int×Int)),0)) (λq=>∃v:Nat,q.2=(v:Int)∧v≤g.length∧q.1.length=v∧∀u,u<v→Told l o u (lf q.1 u) (rt q.1 u)) (λq=>g.length-q.2.toNat) (λt=>t.length=g.length∧∀u,u<g.length→Told l o u (lf t u) (rt t u)) ?_ ⟨0,rfl,by omega,rfl,λu hu=>by omega⟩ (λr hr=>⟨r,rfl,hr⟩)
 ·obtain⟨t,e,ht⟩:=main
  exact⟨t,by simpa using e,ht⟩
 ·rintro⟨t,_⟩ ⟨v,rfl,hv,htl,hT⟩
  dsimp only at htl hT ⊢
  by_cases hlt:v<g.length
  ·obtain⟨p,e,hp⟩:=told_loop hg hl h16 ho hol hlt
   simp only[dlt hlt,cond_true]
   refine bind_eq e ?_
   rw[Be (by simp;omega),bs]
   refine⟨_,rfl,⟨v+1,wi (by omega),by omega,by simp;omega,λu hu=> ?_⟩,by dsimp only;rw[wi (by omega)];omega⟩
   dsimp only
   by_cases huv:u=v
   ·have e1:(t++[(p.1,p.2)]).getD u (0,0)=(p.1,p.2):=by
     rw[Au (by simp;omega),List.getElem_append_right (by omega)];simp
    unfold lf rt
    rw[e1,huv];exact hp
   ·have e1:(t++[(p.1,p.2)]).getD u (0,0)=t.getD u (0,0):=by
     rw[Au (by simp;omega),List.getElem_append_left (by omega),Au (by omega)]
    have:=hT u (by omega)
    unfold lf rt at this ⊢
    rw[e1];exact this
  ·obtain rfl:v=g.length:=by omega
   simp only[Bg,cond_false]
   exact⟨_,rfl,htl,hT⟩
theorem told_ok {t:List (Int×Int)}(htl:t.length=g.length)(hT:∀u,u<g.length→Told l o u (lf t u) (rt t u)):IvL t∧g=gI t:=by
 have hn1:=hg.n1;have hn16:=hg.n16
 refine⟨⟨by omega,by omega,λx hx=> ?_⟩,?_⟩
 ·obtain⟨u,hu,rfl⟩:=List.getElem_of_mem hx
  obtain⟨i,j,h1,h2,h3,h4,_⟩:=(hT u (by omega)).ex
  unfold lf at h1
  unfold rt at h2
  rw[Au hu] at h1 h2
  omega
 ·refine Ei hg (gI_ok (by omega) (by omega)) (by rw[gI_len,htl]) (λa b ha=> ?_)
  rw[DP (by omega)]
  constructor
  ·intro h
   have hb:=hg.lt ha h
   have hab:a≠b:=λe=>hg.irr a ha (by rw[←e] at h;exact h)
   obtain⟨p,q⟩:=(told_adj hg hl h16 ho ha hb hab (hT a ha) (hT b hb)).1 h
   refine⟨by omega,λe=>hab e.symm,?_⟩
   unfold BF
   rw[Bool.and_eq_true,decide_eq_true_eq,decide_eq_true_eq]
   exact⟨q,p⟩
  ·rintro⟨hb,hab,hm⟩
   unfold BF at hm
   rw[Bool.and_eq_true,decide_eq_true_eq,decide_eq_true_eq] at hm
   exact(told_adj hg hl h16 ho ha (by omega) (λe=>hab e.symm) (hT a ha) (hT b (by omega))).2 ⟨hm.2,hm.1⟩
end
theorem D7 {xs:List (Int×Int)}(h:IvL xs):D.M (gI xs)=some true∧∃t,D.Y (gI xs)=some (t,true)∧IvL t∧gI xs=gI t:=by
 have hg:=h.g
 have hI:=h.iv
 obtain⟨b,c1,c2⟩:=En hg
 obtain⟨l,m1,m2,m3,m4,hGC⟩:=CliquesOf_all hg
 have hb:b=true:=by
  obtain⟨po,hpo⟩:=ivPk hg hI
  have hpl:=pk_len hpo
  have hn1:=hg.n1
  unfold D.X0 at c1
  rw[Bz _ hg.sh2,BY hg,bs,cond_true,Cy _ hg,bs,DF hg,hpo,bs,bs] at c1
  rw[←Option.some.inj c1]
  cases po with
  |nil=>simp at hpl;omega
  |cons x t=>rfl
 have hlen:=EE hg c2 hb hGC
 have hn16:=hg.n16
 have hE:=ivEnds hg hI hGC (by omega)
 obtain⟨r,e,hr⟩:=impl_CO hg c2 m1 hGC
 refine⟨?_,?_⟩
 ·unfold D.M
  rw[e,bs,hr.2 ⟨hb,hE⟩]
 ·obtain⟨y,ey,hy⟩:=impl_cO hg c2 m1 hGC
  rcases hy with⟨_,hn⟩|⟨_,h2,h3,h4,h5⟩
  ·exact absurd ⟨hb,hE⟩ hn
  ·obtain⟨y1,y2⟩:=y
   dsimp only at h2 h3 h4 h5
   subst h3
   obtain⟨t,et,htl,hT⟩:=told_list hg hGC (by omega) h2 h5
   obtain⟨k1,k2⟩:=told_ok hg hGC (by omega) h2 h5 htl hT
   refine⟨t,?_,k1,k2⟩
   unfold D.Y
   have hne:y1.isEmpty=false:=by
    cases y1 with
    |nil=>exact absurd rfl h4
    |cons x t=>rfl
   rw[Bz _ hg.sh2,BY hg,bs,Bool.not_true,cond_false,Cy _ hg,bs,ey,bs]
   dsimp only
   rw[hne,cond_false]
   exact bind_some_eq et
theorem unit_proper {xs:List (Int×Int)}(h:IvL xs)(hu:∀x∈xs,x.2=x.1+2):D.n0 (gI xs)=some true:=by
 have hg:=h.g
 have hI:=h.iv
 obtain⟨r,e,hr⟩:=impl_Claw hg
 have hn:r.2=false:=by
  cases hb:r.2
  ·rfl
  ·obtain⟨v,hv,a,b,c,hab,hbc,ha,hb',hc,n1,n2,n3⟩:=hr.1 hb
   have la:=hg.lt hv ha;have lb:=hg.lt hv hb';have lc:=hg.lt hv hc
   have hR:∀w,w<(gI xs).length→rt xs w=lf xs w+2:=λw hw=>by
    rw[gI_len] at hw
    unfold rt lf
    rw[Au hw]
    exact hu _ (List.getElem_mem hw)
   have a1:=(hI.ad v a hv la).1 ha
   have a2:=(hI.ad v b hv lb).1 hb'
   have a3:=(hI.ad v c hv lc).1 hc
   have b1:¬(lf xs a≤rt xs b∧lf xs b≤rt xs a):=λq=>n1 ((hI.ad a b la lb).2 ⟨by omega,q⟩)
   have b2:¬(lf xs a≤rt xs c∧lf xs c≤rt xs a):=λq=>n2 ((hI.ad a c la lc).2 ⟨by omega,q⟩)
   have b3:¬(lf xs b≤rt xs c∧lf xs c≤rt xs b):=λq=>n3 ((hI.ad b c lb lc).2 ⟨by omega,q⟩)
   have r0:=hR v hv;have r1:=hR a la;have r2:=hR b lb;have r3:=hR c lc
   omega
 unfold D.n0
 rw[e,bs,(D7 h).1,bs,hn];rfl
theorem EJ (code:LI)(hb:∀x∈code,0≤x∧x≤255):D.T0 code=some true:=by
 unfold D.T0 D.B0
 simp only[bs]
 by_cases hl:(4096:Int)<code.length
 ·simp only[hl,decide_true,cond_true]
 ·simp only[hl,decide_false,cond_false]
  obtain⟨z,e0,hDK⟩:=roll_ok code 1007 hb (by omega)
  rw[e0,bs]
  suffices hs:∃y,_=some y∧y=true by
   obtain⟨y,e,rfl⟩:=hs
   exact e
  refine BR _ (Di hDK z 2 (by omega)) (λy hy=> ?_)
  obtain⟨yl,yh,yb,yD⟩:=hy
  refine BR _ (by rw[yb];exact Di yD y.2.2.2 6 (by omega)) (λp hp=> ?_)
  obtain⟨pl,ph,pb,pD⟩:=hp
  have ew:IntKind.i64.wrap (1+p.1)=1+p.1:=w64 (by omega) (by omega)
  rw[ew,pb]
  refine AW (fun(q:List (Int×Int)×Int×LI×Int×Int)=>∃k:Nat,q.2.1=(k:Int)∧(q.1.length:Int)+k=1+p.1∧q.2.2.1=code∧DK code q.2.2.2.1∧∀x∈q.1,(0≤x.1∧x.1≤x.2∧x.2≤100)∧((y.1==0)=true→x.2=x.1+2)) (λq=>q.2.1.toNat) (λxs=>IvL xs∧((y.1==0)=true→∀x∈xs,x.2=x.1+2)) ?_ ⟨(1+p.1).toNat,by dsimp only;omega,by simp;omega,rfl,pD,by simp⟩ ?_
  ·rintro⟨xs,_,_,i,z⟩ ⟨k,rfl,hk,rfl,hD,hx⟩
   dsimp only at hk hD hx ⊢
   by_cases hk0:k=0
   ·subst hk0
    have hd:decide ((0:Int)<((0:Nat):Int))=false:=by simp
    rw[hd,cond_false]
    exact⟨_,rfl,⟨by omega,by omega,λx hxm=>(hx x hxm).1⟩,λh x hxm=>(hx x hxm).2 h⟩
   ·have hd:decide ((0:Int)<(k:Int))=true:=by simp;omega
    rw[hd,cond_true]
    refine BR _ (Di hD z 9 (by omega)) (λa ha=> ?_)
    obtain⟨al,ah,ab,aD⟩:=ha
    refine BR _ (by rw[ab];exact Di aD a.2.2.2 5 (by omega)) (λc hc=> ?_)
    obtain⟨cl,ch',cb,cD⟩:=hc
    have e1:IntKind.i64.wrap (a.1+2)=a.1+2:=w64 (by omega) (by omega)
    have e2:IntKind.i64.wrap (a.1+c.1)=a.1+c.1:=w64 (by omega) (by omega)
    have e3:IntKind.i64.wrap ((k:Int)-1)=((k-1:Nat):Int):=by rw[w64 (by omega) (by omega)];omega
    have hxl:xs.length≤6:=by omega
    rw[e1,e2,e3]
    cases hyb:(y.1==0)
    ·rw[cond_false,Be (by simp;omega),bs]
     refine⟨_,rfl,⟨k-1,rfl,by simp;omega,cb,by rw[←cb];exact cb▸cD,λx hxm=> ?_⟩,by simp;omega⟩
     rcases List.mem_append.1 hxm with h|h
     ·exact⟨(hx x h).1,λh'=>by cases h'⟩
     ·simp at h;subst h
      exact⟨⟨by dsimp only;omega,by dsimp only;omega,by dsimp only;omega⟩,λh'=>by cases h'⟩
    ·rw[cond_true,Be (by simp;omega),bs]
     refine⟨_,rfl,⟨k-1,rfl,by simp;omega,cb,by rw[←cb];exact cb▸cD,λx hxm=> ?_⟩,by simp;omega⟩
     rcases List.mem_append.1 hxm with h|h
     ·exact⟨(hx x h).1,λh'=>(hx x h).2 hyb⟩
     ·simp at h;subst h
      exact⟨⟨by dsimp only;omega,by dsimp only;omega,by dsimp only;omega⟩,λ_=>rfl⟩
  ·rintro xs ⟨hxs,hsame⟩
   obtain⟨i1,t,i2,i3,i4⟩:=D7 hxs
   have s1:=spec_IvOk hxs rfl
   have s2:=spec_IvOk i3 i4
   have s3:=impl_IvOk i3 i4
   simp only[impl_GoI hxs,bs,Bool.not_true,cond_false,s1,i1,i2,cond_true,s2,s3]
   cases hyb:(y.1==0)
   ·simp only[Bool.not_false,cond_true,bs]
    exact⟨_,rfl,rfl⟩
   ·simp only[Bool.not_true,cond_false,unit_proper hxs (hsame hyb),bs]
    exact⟨_,rfl,rfl⟩
end Go.Sx
