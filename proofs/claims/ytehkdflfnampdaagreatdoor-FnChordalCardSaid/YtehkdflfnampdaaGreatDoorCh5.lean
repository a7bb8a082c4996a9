/- Parts. -/
import Derived.Test.YtehkdflfnampdaaGreatDoorCh4
import Derived.KernelRfl
set_option linter.unusedVariables false
set_option linter.unusedSimpArgs false
set_option linter.unusedSectionVars false
namespace Go.Sx
def nb (F:LI)(u w:Nat):Bool:=has (F.getD u 0) w
structure FOk (F:LI)(n:Nat):Prop where
 len:F.length=n
 vs:∀u,u<n→VS (F.getD u 0)
 lt:∀u w,u<n→nb F u w=true→w<n
 irr:∀u,u<n→nb F u u=false
 sym:∀u w,u<n→nb F u w=true→nb F w u=true
theorem FOk.ext {F F':LI}{n:Nat}(h:F.length=n)(h':F'.length=n)(v:∀u,u<n→VS (F.getD u 0))(v':∀u,u<n→VS (F'.getD u 0))(e:∀u w,u<n→nb F u w=nb F' u w):F=F':=by
 refine ext_getD (by omega) (λj hj=> ?_)
 exact(v j (by omega)).ext (v' j (by omega)) (λw _=>e j w (by omega))
theorem Ds (g:LL)(u:Nat):(g.map mk).getD u 0=mk (row g u):=by
 unfold row
 simp only[List.getD_eq_getElem?_getD,List.getElem?_map]
 cases g[u]? with
 |none=>simp[mk]
 |some r=>rfl
theorem BZ {g:LL}(hg:GOk g){u w:Nat}(hu:u<g.length):nb (g.map mk) u w=true↔adj g u w:=by
 have h16:=hg.n16
 unfold nb
 rw[Ds,Ee (λx hx=>by have:=(hg.rows u hu).2 x hx;omega)]
 simp[adj]
theorem FOk.of {g:LL}(hg:GOk g):FOk (g.map Sx.mk) g.length:=by
 refine⟨by simp,λu _=>by rw[Ds];exact VS.mk _,λu w hu h=>hg.lt hu ((BZ hg hu).1 h),λu hu=> ?_,λu w hu h=> ?_⟩
 ·cases h:nb (g.map Sx.mk) u u
  ·rfl
  ·exact absurd ((BZ hg hu).1 h) (hg.irr u hu)
 ·have ha:=(BZ hg hu).1 h
  exact(BZ hg (hg.lt hu ha)).2 (hg.sym u w hu ha)
def grow (F:LI):LL:=F.map Aw
theorem row_grow (F:LI)(u:Nat):row (grow F) u=Aw (F.getD u 0):=by
 unfold row grow
 simp only[List.getD_eq_getElem?_getD,List.getElem?_map]
 cases F[u]? with
 |none=>simp[Et]
 |some r=>rfl
theorem Db {F:LI}{n u w:Nat}(h:FOk F n)(hu:u<n):adj (grow F) u w↔nb F u w=true:=by
 unfold adj nb
 rw[row_grow,Be (h.vs u hu)]
theorem GOk.grow {F:LI}{n:Nat}(h:FOk F n)(h1:1≤n)(h16:n≤16):GOk (grow F):=by
 have hl:(Sx.grow F).length=n:=by unfold Sx.grow;rw[List.length_map,h.len]
 refine⟨by omega,by omega,λv hv=> ?_,λv hv ha=> ?_,λu v hu ha=> ?_⟩
 ·rw[row_grow,hl]
  refine⟨Ck _,λx hx=> ?_⟩
  obtain⟨w,_,h2,rfl⟩:=mem_elems.1 hx
  have:=h.lt v w (by omega) h2
  omega
 ·rw[Db h (by omega)] at ha
  rw[h.irr v (by omega)] at ha;cases ha
 ·rw[Db h (by omega)] at ha
  have:=h.lt u v (by omega) ha
  rw[Db h (by omega)]
  exact h.sym u v (by omega) ha
theorem mk_elems {s:Int}(h:VS s):mk (Aw s)=s:=by
 refine(VS.mk _).ext h (λv hv=> ?_)
 rw[Ee (λx hx=>by obtain⟨w,h1,_,rfl⟩:=mem_elems.1 hx;omega),Bool.eq_iff_iff,decide_eq_true_eq,Be h]
theorem all_mask :∀n:Fin 17,∀v:Fin 32,has (IntKind.u32.wrap (ishl .u32 1 (n.val:Int)-1)) v.val=decide (v.val<n.val):=by decide+kernel
theorem Dq (F:LI)(h:F.length≤16):∃s,D.u F=some s∧VS s∧∀v,has s v=decide (v<F.length):=by
 refine⟨IntKind.u32.wrap (ishl .u32 1 (F.length:Int)-1),?_,VS.wrap _,λv=> ?_⟩
 ·unfold D.u D.i1
  have:decide ((F.length:Int)<0)=false:=by simp
  rw[this];rfl
 ·by_cases hv:v<32
  ·exact all_mask ⟨F.length,by omega⟩ ⟨v,hv⟩
  ·rw[DI (VS.wrap _) (by omega)];symm;simp;omega
theorem inner_ok {n v:Nat}(F L:LI)(S:Int)(h16:n≤16)(hF:F.length=n)(hV:∀u,u<n→VS (F.getD u 0))(hS:VS S)(hSn:∀w,has S w=true→w<n)(hL:idx L (v:Int)=some S):
  ∃F',(Ay (σ:=LI×Int) (ρ:=(LI)) (fun(s_776:LI×Int)=>match s_776 with|(l_779,x_782)=>cond (decide (x_782<((Aw S).length:Int))) ((idx (Aw S) x_782).bind λe_820=>(idx l_779 e_820).bind λe_826=>(idx L (v:Int)).bind λe_832=>(D.a e_820).bind λy_838=>(idx l_779 e_820).bind λe_841=>some (.inl ((l_779.set (Int.toNat e_820) (ior .u32 e_826 (iandNot .u32 e_832 y_838))),(IntKind.i64.wrap (x_782+1))))) (some (.inr l_779))) (F,0))=some F'∧
   (F'.length=n∧(∀u,u<n→VS (F'.getD u 0))∧∀u w,u<n→nb F' u w=(nb F u w||(has S u&&has S w&&decide (w≠u)))):=by
 have key:=A3 (k:=λr=>some r) (Q:=λF':LI=>F'.length=n∧(∀u,u<n→VS (F'.getD u 0))∧∀u w,u<n→nb F' u w=(nb F u w||(has S u&&has S w&&decide (w≠u))))
  (step:=(fun(s_776:LI×Int)=>match s_776 with|(l_779,x_782)=>cond (decide (x_782<((Aw S).length:Int))) ((idx (Aw S) x_782).bind λe_820=>(idx l_779 e_820).bind λe_826=>(idx L (v:Int)).bind λe_832=>(D.a e_820).bind λy_838=>(idx l_779 e_820).bind λe_841=>some (.inl ((l_779.set (Int.toNat e_820) (ior .u32 e_826 (iandNot .u32 e_832 y_838))),(IntKind.i64.wrap (x_782+1))))) (some (.inr l_779)))) (s:=(F,0))
  (λs=>∃i:Nat,s.2=(i:Int)∧i≤(Aw S).length∧s.1.length=n∧(∀u,u<n→VS (s.1.getD u 0))∧∀u w,u<n→nb s.1 u w=(nb F u w||(decide ((u:Int)∈(Aw S).take i)&&has S w&&decide (w≠u)))) (λs=>(Aw S).length-s.2.toNat)
  (λF'=>F'.length=n∧(∀u,u<n→VS (F'.getD u 0))∧∀u w,u<n→nb F' u w=(nb F u w||(has S u&&has S w&&decide (w≠u)))) ?_ ⟨0,rfl,by omega,hF,hV,λu w _=>by simp⟩ (λr hr=>⟨r,rfl,hr⟩)
 ·obtain⟨y,hy,hq⟩:=key
  rw[Option.bind_eq_some_iff] at hy
  obtain⟨a,ha,hb⟩:=hy
  cases hb
  exact⟨_,ha,hq⟩
 ·rintro⟨l,_⟩ ⟨i,rfl,hi,hl,hv,hh⟩
  dsimp only at hl hv hh ⊢
  have hle:=BX S
  by_cases hlt:i<(Aw S).length
  ·obtain⟨u0,h1,h2,h3⟩:=mem_elems.1 (List.getElem_mem hlt)
   have h4:=hSn u0 h2
   simp only[dlt hlt,cond_true,AN hlt,bs,h3,AN (show u0<l.length by omega),hL,BE,wq i,Int.toNat_natCast]
   refine⟨_,rfl,⟨i+1,rfl,by omega,by simp[hl],λu hu=> ?_,λu w hu=> ?_⟩,by dsimp only;omega⟩
   ·rw[C8 _ _ _ _ (by omega)]
    split
    ·exact VS.ior _ _
    ·exact hv u hu
   ·have hmem:((u:Int)∈(Aw S).take (i+1))↔((u:Int)∈(Aw S).take i∨u=u0):=by
     rw[List.take_succ_eq_append_getElem hlt,List.mem_append,h3]
     simp[Int.natCast_inj]
    unfold nb
    rw[C8 _ _ _ _ (by omega)]
    by_cases hc:u=u0
    ·subst hc
     rw[if_pos rfl]
     have hg:l[u]=l.getD u 0:=(AX (by omega) 0).symm
     rw[hg,Cz (hv u hu) (VS.iandNot _ _),Bi hS (VS.ishl _ _),BA (by omega)]
     have:=hh u w hu
     unfold nb at this
     rw[this,decide_eq_true (hmem.2 (.inr rfl))]
     cases has (F.getD u 0) w<;>cases has S w<;>by_cases hw:w=u<;>simp[hw]
    ·rw[if_neg hc]
     have:=hh u w hu
     unfold nb at this
     rw[this]
     have:decide ((u:Int)∈(Aw S).take (i+1))=decide ((u:Int)∈(Aw S).take i):=by
      rw[Bool.eq_iff_iff,decide_eq_true_eq,decide_eq_true_eq,hmem];simp[hc]
     rw[this]
  ·obtain rfl:i=(Aw S).length:=by omega
   simp only[Bn,cond_false]
   refine⟨_,rfl,hl,hv,λu w hu=> ?_⟩
   rw[hh u w hu,List.take_length]
   congr 3
   rw[Bool.eq_iff_iff,decide_eq_true_eq,Be hS]
def PEO (F:LI)(o:LI):Prop:=∀(j:Nat) (v u w:Nat),o[j]? =some (v:Int)→nb F v u=true→nb F v w=true→(u:Int)∉o.take (j+1)→(w:Int)∉o.take (j+1)→u≠w→nb F u w=true
def Lat (F L:LI)(o:LI)(i:Nat):Prop:=∀(j:Nat) (v:Nat),j<i→o[j]? =some (v:Int)→∀w,nb L v w=(nb F v w&&decide ((w:Int)∉o.take (j+1)))
inductive Via (F:LI)(gone:Nat→Prop)(u:Nat):Nat→Prop
 |me:Via F gone u u
 |step {x y:Nat}:Via F gone u x→nb F x y=true→gone y→Via F gone u y
theorem Via.mono {F:LI}{g g':Nat→Prop}{u x:Nat}(h:Via F g u x)(hg:∀y,g y→g' y):Via F g' u x:=by
 induction h with
 |me=>exact .me
 |step _ h1 h2 ih=>exact .step ih h1 (hg _ h2)
theorem Via.end_ {F:LI}{g:Nat→Prop}{u x:Nat}(h:Via F g u x):x=u∨g x:=by
 cases h with
 |me=>exact .inl rfl
 |step _ _ h2=>exact .inr h2
theorem Via.lt {F:LI}{n:Nat}(hF:FOk F n){g:Nat→Prop}{u x:Nat}(hu:u<n)(h:Via F g u x):x<n:=by
 induction h with
 |me=>exact hu
 |step _ h1 _ ih=>exact hF.lt _ _ ih h1
theorem Via.back {F:LI}{n:Nat}(hF:FOk F n){g g':Nat→Prop}(hg:∀y,g y→g' y){v x:Nat}(hv:v<n)(hgv:g' v)(h:Via F g v x):∀z,Via F g' z x→Via F g' z v:=by
 induction h with
 |me=>exact λz h=>h
 |step hx h1 h2 ih=>
  intro z hz
  have hxn:=Via.lt hF hv hx
  refine ih z (.step hz (hF.sym _ _ hxn h1) ?_)
  rcases hx.end_ with e|e
  ·rw[e];exact hgv
  ·exact hg _ e
def Bhd (F:LI)(gone:Nat→Prop)(v w:Nat):Prop:=∃x,Via F gone v x∧nb F x w=true
structure EInv (n:Nat)(F0 o:LI)(i:Nat)(F L:LI)(left:Int):Prop where
 f:FOk F n
 lenL:L.length=n
 vsL:∀u,u<n→VS (L.getD u 0)
 vsl:VS left
 left:∀v,has left v=decide (v<n∧(v:Int)∉o.take i)
 mono:∀u w,u<n→nb F0 u w=true→nb F u w=true
 lat:Lat F L o i
 peo:∀(j:Nat) (v u w:Nat),j<i→o[j]? =some (v:Int)→nb F v u=true→nb F v w=true→(u:Int)∉o.take (j+1)→(w:Int)∉o.take (j+1)→u≠w→nb F u w=true
 same:PEO F0 o→F=F0
 via:∀u w:Nat,u<n→(u:Int)∉o.take i→(w:Int)∉o.take i→u≠w→(nb F u w=true↔Bhd F0 (λx=>(x:Int)∈o.take i) u w)
 latb:∀(j:Nat) (v:Nat),j<i→o[j]? =some (v:Int)→∀w:Nat,nb L v w=true↔(w:Int)∉o.take (j+1)∧Bhd F0 (λx=>(x:Int)∈o.take j) v w
theorem C4 {o:LI}{j i:Nat}(h:j≤i){x:Int}(hx:x∈o.take j):x∈o.take i:=by
 rw[mem_take_iff] at hx ⊢
 obtain⟨k,h1,h2,h3⟩:=hx
 exact⟨k,h1,by omega,h3⟩
theorem EInv.step {n:Nat}{F0 o F L:LI}{i v:Nat}{left:Int}(h16:n≤16)(h0:FOk F0 n)(hn:∀x∈o,0≤x∧x<n)(hnd:o.Nodup)(hi:i<o.length)(hv:o[i]=(v:Int))(h:EInv n F0 o i F L left){F':LI}
  (hl':F'.length=n) (hv':∀u,u<n→VS (F'.getD u 0)) (h':∀u w,u<n→nb F' u w=(nb F u w||(has (iand .u32 (F.getD v 0) (iandNot .u32 left (ishl .u32 1 (v:Int)))) u&&has (iand .u32 (F.getD v 0) (iandNot .u32 left (ishl .u32 1 (v:Int)))) w&&decide (w≠u)))):
  EInv n F0 o (i+1) F' (L.set v (iand .u32 (F.getD v 0) (iandNot .u32 left (ishl .u32 1 (v:Int))))) (iandNot .u32 left (ishl .u32 1 (v:Int))):=by
 have hvn:v<n:=by have:=hn _ (List.getElem_mem hi);omega
 have hvt:(v:Int)∉o.take i:=by rw[←hv];exact nodup_iff.1 hnd i hi
 have htk:∀x:Nat,((x:Int)∈o.take (i+1))↔((x:Int)∈o.take i∨x=v):=λx=>by
  rw[List.take_succ_eq_append_getElem hi,List.mem_append,hv];simp[Int.natCast_inj]
 have hleft:∀w,has (iandNot .u32 left (ishl .u32 1 (v:Int))) w=decide (w<n∧(w:Int)∉o.take (i+1)):=λw=>by
  rw[Bi h.vsl (VS.ishl _ _),BA (by omega),h.left,Bool.eq_iff_iff]
  simp only[Bool.and_eq_true,decide_eq_true_eq,Bool.not_eq_true',decide_eq_false_iff_not,htk]
  constructor
  ·rintro⟨⟨a,b⟩,c⟩;exact⟨a,λhh=>hh.elim b c⟩
  ·rintro⟨a,b⟩;exact⟨⟨a,λhh=>b (.inl hh)⟩,λhh=>b (.inr hh)⟩
 have hS:∀w,has (iand .u32 (F.getD v 0) (iandNot .u32 left (ishl .u32 1 (v:Int)))) w=(nb F v w&&decide ((w:Int)∉o.take (i+1))):=λw=>by
  rw[BP (h.f.vs v hvn) (VS.iandNot _ _),hleft,Bool.eq_iff_iff]
  show (nb F v w&&_)=true↔_
  simp only[Bool.and_eq_true,decide_eq_true_eq]
  exact⟨fun⟨a,b,c⟩=>⟨a,c⟩,fun⟨a,c⟩=>⟨a,h.f.lt v w hvn a,c⟩⟩
 have hlV:VS (iandNot .u32 left (ishl .u32 1 (v:Int))):=VS.iandNot _ _
 generalize iandNot .u32 left (ishl .u32 1 (v:Int))=left' at*
 generalize hSS:iand .u32 (F.getD v 0) left'=S at*
 have hSV:VS S:=by rw[←hSS];exact VS.iand _ _
 have hSlt:∀w,has S w=true→w<n∧(w:Int)∉o.take (i+1):=λw hw=>by
  rw[hS] at hw
  simp only[Bool.and_eq_true,decide_eq_true_eq] at hw
  exact⟨h.f.lt v w hvn hw.1,hw.2⟩
 have hmono:∀u w,u<n→nb F u w=true→nb F' u w=true:=λu w hu hh=>by rw[h' u w hu,hh];rfl
 have hold:∀x:Nat,x<n→(x:Int)∈o.take (i+1)→∀w,nb F' x w=nb F x w:=λx hx hm w=>by
  rw[h' x w hx]
  have:has S x=false:=by
   cases hc:has S x
   ·rfl
   ·exact absurd hm (hSlt x hc).2
  simp[this]
 have hf':FOk F' n:=by
  refine⟨hl',hv',λu w hu hh=> ?_,λu hu=> ?_,λu w hu hh=> ?_⟩
  ·rw[h' u w hu] at hh
   simp only[Bool.or_eq_true,Bool.and_eq_true] at hh
   rcases hh with hh|⟨⟨_,hh⟩,_⟩
   ·exact h.f.lt u w hu hh
   ·exact(hSlt w hh).1
  ·rw[h' u u hu,h.f.irr u hu];simp
  ·rw[h' u w hu] at hh
   simp only[Bool.or_eq_true,Bool.and_eq_true,decide_eq_true_eq] at hh
   rcases hh with hh|⟨⟨h1,h2⟩,h3⟩
   ·exact hmono w u (h.f.lt u w hu hh) (h.f.sym u w hu hh)
   ·rw[h' w u (hSlt w h2).1,h1,h2]
    have:decide (u≠w)=true:=by simpa using λe=>h3 e.symm
    simp[this]
 have hjv:∀j (x:Nat),o[j]? =some (x:Int)→j<o.length∧x<n∧(x:Int)∈o.take (j+1):=λj x hx=>by
  obtain⟨h1,h2⟩:=List.getElem?_eq_some_iff.1 hx
  have:=hn _ (List.getElem_mem h1)
  refine⟨h1,by omega,?_⟩
  rw[mem_take_iff];exact⟨j,h1,by omega,h2⟩
 refine⟨hf',by simp[h.lenL],λu hu=> ?_,hlV,hleft,λu w hu hh=>hmono u w hu (h.mono u w hu hh),λj x hj hx w=> ?_,λj x u w hj hx h1 h2 h3 h4 h5=> ?_,λhp=> ?_,λu w hu k1 k2 huw=> ?_,λj x hj hx w=> ?_⟩
 ·rw[C8 _ _ _ _ (by rw[h.lenL];exact hvn)]
  split
  ·exact hSV
  ·exact h.vsL u hu
 ·obtain⟨k1,k2,k3⟩:=hjv j x hx
  have k4:=C4 (show j+1≤i+1 by omega) k3
  rw[hold x k2 k4 w]
  unfold nb
  rw[C8 _ _ _ _ (by rw[h.lenL];exact hvn)]
  by_cases hji:j=i
  ·subst hji
   rw[List.getElem?_eq_getElem hi,hv] at hx
   have:x=v:=by
    have:(v:Int)=(x:Int):=by simpa using hx
    omega
   subst this
   rw[if_pos rfl,hS];rfl
  ·have hne:x≠v:=λe=>by
    subst e
    exact hvt (C4 (show j+1≤i by omega) k3)
   rw[if_neg hne]
   exact h.lat j x (by omega) hx w
 ·obtain⟨k1,k2,k3⟩:=hjv j x hx
  have k4:=C4 (show j+1≤i+1 by omega) k3
  rw[hold x k2 k4] at h1 h2
  by_cases hji:j=i
  ·subst hji
   rw[List.getElem?_eq_getElem hi,hv] at hx
   have:x=v:=by
    have:(v:Int)=(x:Int):=by simpa using hx
    omega
   subst this
   have hu:has S u=true:=by rw[hS,h1];simpa using h3
   have hw:has S w=true:=by rw[hS,h2];simpa using h4
   rw[h' u w (hSlt u hu).1,hu,hw]
   have:decide (w≠u)=true:=by simpa using λe=>h5 e.symm
   simp[this]
  ·exact hmono u w (h.f.lt x u k2 h1) (h.peo j x u w (by omega) hx h1 h2 h3 h4 h5)
 ·have hFF:=h.same hp
  subst hFF
  refine FOk.ext hl' h.f.len hv' h.f.vs (λu w hu=> ?_)
  rw[h' u w hu,Bool.eq_iff_iff]
  simp only[Bool.or_eq_true,Bool.and_eq_true,decide_eq_true_eq]
  constructor
  ·rintro(hh|⟨⟨h1,h2⟩,h3⟩)
   ·exact hh
   ·have k1:=(hSlt u h1).2;have k2:=(hSlt w h2).2
    rw[hS] at h1 h2
    simp only[Bool.and_eq_true] at h1 h2
    exact hp i v u w (by rw[List.getElem?_eq_getElem hi,hv]) h1.1 h2.1 k1 k2 (λe=>h3 e.symm)
  ·exact .inl
 ·have q1:(u:Int)∉o.take i:=λe=>k1 ((htk u).2 (.inl e))
  have q2:(w:Int)∉o.take i:=λe=>k2 ((htk w).2 (.inl e))
  have huv:u≠v:=λe=>k1 ((htk u).2 (.inr e))
  have hwv:w≠v:=λe=>k2 ((htk w).2 (.inr e))
  have hgg:∀y:Nat,(y:Int)∈o.take i→(y:Int)∈o.take (i+1):=λy hy=>(htk y).2 (.inl hy)
  rw[h' u w hu]
  simp only[Bool.or_eq_true,Bool.and_eq_true,decide_eq_true_eq]
  constructor
  ·rintro(hh|⟨⟨a1,a2⟩,_⟩)
   ·obtain⟨x,hx,e⟩:=(h.via u w hu q1 q2 huw).1 hh
    exact⟨x,hx.mono hgg,e⟩
   ·rw[hS] at a1 a2
    simp only[Bool.and_eq_true,decide_eq_true_eq] at a1 a2
    obtain⟨x,hx,ex⟩:=(h.via v u hvn hvt q1 (λe=>huv e.symm)).1 a1.1
    obtain⟨y,hy,ey⟩:=(h.via v w hvn hvt q2 (λe=>hwv e.symm)).1 a2.1
    have hvg:(v:Int)∈o.take (i+1):=(htk v).2 (.inr rfl)
    have hxn:=Via.lt h0 hvn hx
    have hxg:(x:Int)∈o.take (i+1):=by
     rcases hx.end_ with e|e
     ·rw[e];exact hvg
     ·exact hgg x e
    have hux:Via F0 (λx=>(x:Int)∈o.take (i+1)) u x:= .step .me (h0.sym x u hxn ex) hxg
    have huv':=Via.back h0 (g':=λx=>(x:Int)∈o.take (i+1)) hgg hvn hvg hx u hux
    have hgo:∀y,Via F0 (λx=>(x:Int)∈o.take i) v y→Via F0 (λx=>(x:Int)∈o.take (i+1)) u y:=λy hy=>by
     induction hy with
     |me=>exact huv'
     |step _ b1 b2 ih=>exact .step ih b1 (hgg _ b2)
    exact⟨y,hgo y hy,ey⟩
  ·rintro⟨x,hx,ex⟩
   have hcl:∀x,Via F0 (λx=>(x:Int)∈o.take (i+1)) u x→Via F0 (λx=>(x:Int)∈o.take i) u x∨(Bhd F0 (λx=>(x:Int)∈o.take i) u v∧Via F0 (λx=>(x:Int)∈o.take i) v x):=λx hx=>by
    induction hx with
    |me=>exact .inl .me
    | @step a b _ b1 b2 ih=>
     rcases(htk b).1 b2 with b2|b2
     ·rcases ih with ih|⟨ih1,ih2⟩
      ·exact .inl (.step ih b1 b2)
      ·exact .inr ⟨ih1,.step ih2 b1 b2⟩
     ·rcases ih with ih|⟨ih1,ih2⟩
      ·subst b2;exact .inr ⟨⟨a,ih,b1⟩,.me⟩
      ·subst b2;exact .inr ⟨ih1,.me⟩
   rcases hcl x hx with hx|⟨hx1,hx2⟩
   ·exact .inl ((h.via u w hu q1 q2 huw).2 ⟨x,hx,ex⟩)
   ·right
    have a1:=(h.via u v hu q1 hvt huv).2 hx1
    have a2:=(h.via v w hvn hvt q2 (λe=>hwv e.symm)).2 ⟨x,hx2,ex⟩
    refine⟨⟨?_,?_⟩,λe=>huw e.symm⟩
    ·rw[hS,h.f.sym u v hu a1];simpa using k1
    ·rw[hS,a2];simpa using k2
 ·obtain⟨k1,k2,k3⟩:=hjv j x hx
  unfold nb
  rw[C8 _ _ _ _ (by rw[h.lenL];exact hvn)]
  by_cases hji:j=i
  ·subst hji
   rw[List.getElem?_eq_getElem hi,hv] at hx
   have:x=v:=by
    have:(v:Int)=(x:Int):=by simpa using hx
    omega
   subst this
   rw[if_pos rfl,hS,Bool.and_eq_true,decide_eq_true_eq]
   constructor
   ·rintro⟨b1,b2⟩
    have b3:(w:Int)∉o.take j:=λe=>b2 ((htk w).2 (.inl e))
    have b4:x≠w:=λe=>b2 ((htk w).2 (.inr e.symm))
    exact⟨b2,(h.via x w hvn hvt b3 b4).1 b1⟩
   ·rintro⟨b2,b1⟩
    have b3:(w:Int)∉o.take j:=λe=>b2 ((htk w).2 (.inl e))
    have b4:x≠w:=λe=>b2 ((htk w).2 (.inr e.symm))
    exact⟨(h.via x w hvn hvt b3 b4).2 b1,b2⟩
  ·have hne:x≠v:=λe=>by
    subst e
    exact hvt (C4 (show j+1≤i by omega) k3)
   rw[if_neg hne]
   exact h.latb j x (by omega) hx w
theorem elim_ok {n:Nat}{F0 o:LI}(h16:n≤16)(h0:FOk F0 n)(hl:o.length=n)(hn:∀x∈o,0≤x∧x<n)(hnd:o.Nodup):
  ∃y,D.R F0 o=some y∧∃left,EInv n F0 o n y.1 y.2 left:=by
 have hlen:=h0.len
 unfold D.R
 rw[Br (by simp;omega),bs]
 obtain⟨s,e1,hs1,hs2⟩:=Dq F0 (by omega)
 rw[e1,bs,C9 (by omega) (by omega),bs]
 simp only[bs,List.nil_append]
 refine A3 (λst=>∃i:Nat,st.2.2.2=(i:Int)∧i≤n∧EInv n F0 o i st.1 st.2.1 st.2.2.1) (λst=>n-st.2.2.2.toNat) (λr=>∃left,EInv n F0 o n r.1 r.2 left) ?_ ?_ ?_
 ·rintro⟨F,L,left,_⟩ ⟨i,rfl,hi,h⟩
  dsimp only at h ⊢
  rw[hl]
  by_cases hlt:i<n
  ·have hio:i<o.length:=by omega
   obtain⟨v,hv⟩:∃v:Nat,o[i]=(v:Int):=⟨(o[i]).toNat,by have:=hn _ (List.getElem_mem hio);omega⟩
   have hvn:v<n:=by have:=hn _ (List.getElem_mem hio);omega
   have hFv:idx F (v:Int)=some (F.getD v 0):=by rw[AN (by rw[h.f.len];omega),AX (by rw[h.f.len];omega)]
   have hLs:idx (L.set v (iand .u32 (F.getD v 0) (iandNot .u32 left (ishl .u32 1 (v:Int))))) (v:Int)=some (iand .u32 (F.getD v 0) (iandNot .u32 left (ishl .u32 1 (v:Int)))):=by
    rw[AN (by simp[h.lenL];omega)];simp
   simp only[dlt hlt,cond_true,AN hio,hv,bs,BE,hFv,AN (show v<L.length by rw[h.lenL];omega),Int.toNat_natCast]
   rw[hLs]
   simp only[bs,CR _ (VS.iand _ _)]
   have hSlt:∀w,has (iand .u32 (F.getD v 0) (iandNot .u32 left (ishl .u32 1 (v:Int)))) w=true→w<n:=λw hw=>by
    rw[BP (h.f.vs v hvn) (VS.iandNot _ _)] at hw
    simp only[Bool.and_eq_true] at hw
    exact h.f.lt v w hvn hw.1
   obtain⟨F',e2,k1,k2,k3⟩:=inner_ok F _ _ h16 h.f.len h.f.vs (VS.iand _ _) hSlt hLs
   rw[hLs] at e2
   refine bind_eq (x:=F') e2 ?_
   rw[wq i]
   exact⟨_,rfl,⟨i+1,rfl,by omega,h.step h16 h0 hn hnd hio hv k1 k2 k3⟩,by dsimp only;omega⟩
  ·obtain rfl:i=n:=by omega
   simp only[Bn,cond_false]
   exact⟨_,rfl,_,h⟩
 ·refine⟨0,rfl,by omega,h0,by simp[hlen],λu hu=> ?_,hs1,λv=>by rw[hs2,hlen];simp,λu w _ h=>h,λj v hj=>by omega,λj v u w hj=>by omega,λ_=>rfl,λu w hu _ _ _=>⟨λhh=>⟨u,.me,hh⟩,fun⟨x,hx,e⟩=> ?_⟩,λj v hj=>by omega⟩
  ·rw[List.getD_eq_getElem?_getD,List.getElem?_replicate]
   split<;>exact VS.zero
  ·rcases hx.end_ with e2|e2
   ·rw[←e2];exact e
   ·simp at e2
 ·rintro⟨F,L⟩ h
  exact⟨_,rfl,h⟩
def cnt (n k:Nat):Nat:=((List.range k).filter (λi=>n.testBit i)).length
theorem cnt_add (n a b:Nat):cnt n (a+b)=cnt n a+cnt (n>>>a) b:=by
 unfold cnt
 rw[List.range_add,List.filter_append,List.length_append,List.filter_map,List.length_map]
 congr 2
 apply List.filter_congr
 intro i _
 simp[Nat.testBit_shiftRight]
theorem cnt_mod (n k:Nat):cnt (n%2^k) k=cnt n k:=by
 unfold cnt
 congr 1
 apply List.filter_congr
 intro i hi
 have:=List.mem_range.1 hi
 rw[Nat.testBit_mod_two_pow];simp[this]
theorem elems_length (n:Nat):(Aw (n:Int)).length=cnt n 32:=by
 unfold Aw cnt
 rw[List.length_map]
 rfl
theorem pop_all :∀b:Fin 256,D1 Eb (b.val:Int)=some ((cnt b.val 8:Nat):Int):=by decide+kernel
theorem pop_at {b:Nat}(h:b<256):D1 Eb (b:Int)=some ((cnt b 8:Nat):Int):=pop_all ⟨b,h⟩
theorem cnt_le (n k:Nat):cnt n k≤k:=by
 unfold cnt
 exact Nat.le_trans (List.length_filter_le _ _) (by simp)
theorem wrap8 {x:Int}(h0:0≤x)(h:x<256):IntKind.u8.wrap x=x:=by
 simp[IntKind.wrap,IntKind.signed,IntKind.bits];omega
theorem OnesCount32_eq {s:Int}(h:VS s):D.d1 s=some ((Aw s).length:Int):=by
 obtain⟨n,rfl,hn⟩:=h.nat
 have s24:BC .u32 (n:Int) 24=((n>>>24:Nat):Int):=shr_eq (n:Int) 24 h (by omega)
 have s16:BC .u32 (n:Int) 16=((n>>>16:Nat):Int):=shr_eq (n:Int) 16 h (by omega)
 have s8:BC .u32 (n:Int) 8=((n>>>8:Nat):Int):=shr_eq (n:Int) 8 h (by omega)
 have lt:∀k,n>>>k<4294967296:=λk=>by
  rw[Nat.shiftRight_eq_div_pow];exact Nat.lt_of_le_of_lt (Nat.div_le_self _ _) hn
 have a255:∀m:Nat,m<4294967296→iand .u32 (m:Int) 255=((m%256:Nat):Int):=λm hm=>by
  have:=DR hm (show (255:Nat)<4294967296 by omega)
  rw[show ((255:Nat):Int)=255 from rfl] at this
  rw[this]
  congr 1
  exact Nat.and_two_pow_sub_one_eq_mod (n:=8) m
 have h24:n>>>24<256:=by rw[Nat.shiftRight_eq_div_pow];exact Nat.div_lt_of_lt_mul (by simpa using hn)
 have ec:cnt n 32=cnt (n%256) 8+cnt (n>>>8%256) 8+cnt (n>>>16%256) 8+cnt (n>>>24) 8:=by
  rw[show (32:Nat)=8+(8+(8+8)) from rfl,cnt_add n 8,cnt_add _ 8,cnt_add _ 8]
  have e1:=cnt_mod n 8;have e2:=cnt_mod (n>>>8) 8;have e3:=cnt_mod (n>>>16) 8
  simp only[show (2:Nat)^8=256 from rfl] at e1 e2 e3
  rw[e1,e2,e3]
  simp only[←Nat.shiftRight_add,Nat.reduceAdd]
  omega
 unfold D.d1
 rw[s24,s16,s8,a255 _ (lt 16),a255 _ (lt 8),a255 n hn,pop_at h24,pop_at (Nat.mod_lt _ (by omega)),pop_at (Nat.mod_lt _ (by omega)),pop_at (Nat.mod_lt _ (by omega))]
 simp only[bs]
 have c1:=cnt_le (n>>>24) 8;have c2:=cnt_le (n>>>16%256) 8;have c3:=cnt_le (n>>>8%256) 8;have c4:=cnt_le (n%256) 8
 generalize cnt (n>>>24) 8=a at*;generalize cnt (n>>>16%256) 8=b at*;generalize cnt (n>>>8%256) 8=c at*;generalize cnt (n%256) 8=d at*
 rw[wrap8 (x:=(a:Int)+b) (by omega) (by omega),wrap8 (x:=(a:Int)+b+c) (by omega) (by omega),wrap8 (x:=(a:Int)+b+c+d) (by omega) (by omega),w64 (by omega) (by omega),elems_length,ec]
 congr 1
 omega
theorem size_eq {s:Int}(h:VS s):D.h0 s=some ((Aw s).length:Int):=by
 unfold D.h0;rw[OnesCount32_eq h];rfl
theorem B4 :∀{l m:LI},l.Nodup→(∀x∈l,x∈m)→l.length≤m.length
 |[],_,_,_=>by simp
 |x::l,m,h,hs=>by
  have h':=List.nodup_cons.1 h
  have hx:=hs x (by simp)
  have:=B4 (l:=l) (m:=m.erase x) h'.2 (λy hy=>by
   have hne:y≠x:=λe=>h'.1 (e▸hy)
   exact(List.mem_erase_of_ne hne).2 (hs y (by simp[hy])))
  rw[List.length_erase_of_mem hx] at this
  have hp:0<m.length:=List.length_pos_of_mem hx
  simp;omega
theorem nodup_all {l m:LI}(hl:l.Nodup)(hm:m.Nodup)(h:∀x∈l,x∈m)(h':∀x∈m,x∈l):l.length=m.length:=
 Nat.le_antisymm (B4 hl h) (B4 hm h')
theorem Inc.nodup {l:LI}(h:Inc l):l.Nodup:=List.Pairwise.imp (λh e=>by omega) h
theorem l1All_eq (n:Nat)(hn:n≤4294967295):D.N0 (n:Int)=some ((List.range n).map Int.ofNat):=by
 unfold D.N0
 refine(B7 (λi=>((List.range i).map Int.ofNat,(i:Int))) n ((List.range n).map Int.ofNat) (by simp) (λi hi=> ?_) ?_).trans rfl
 ·simp only[dlt hi,cond_true,wq i]
  rw[Br (by simp;omega),bs,List.range_succ,List.map_append];rfl
 ·simp only[Bn,cond_false]
def withV (bags:LL)(v:Int):LI:=((List.range bags.length).filter λb=>decide (v∈bags.getD b [])).map Int.ofNat
def Lk (links:LL)(x y:Int):Prop:=[x,y]∈links∨[y,x]∈links
structure Closed (links:LL)(sel m:LI):Prop where
 sub:∀x∈m,x∈sel
 first:∀x,sel.head? =some x→x∈m
 step:∀x∈m,∀y∈sel,Lk links x y→y∈m
def Conn (links:LL)(sel:LI):Prop:=∀m,Closed links sel m→∀x∈sel,x∈m
def LinkIn (n:Nat)(l:LI):Prop:=∃a b:Nat,l=[(a:Int),(b:Int)]∧a<b∧b<n
structure TB (g bags links:LL):Prop where
 n1:1≤bags.length
 n16:bags.length≤16
 many:links.length+1=bags.length
 lks:∀l∈links,LinkIn bags.length l
 sets:∀b∈bags,SetOf b g.length
 tree:Conn links ((List.range bags.length).map Int.ofNat)
 edges:∀u v:Nat,u<g.length→adj g u v→∃b∈bags,(u:Int)∈b∧(v:Int)∈b
 some:∀v,v<g.length→withV bags v≠[]
 conn:∀v,v<g.length→Conn links (withV bags v)
def rowF (r:LI)(u:Nat)(s:LL):LL:=(List.range r.length).foldl (λs i=>if(u:Int)<r.getD i 0 then s++[[(u:Int),r.getD i 0]] else s) s
theorem E2 (r:LI)(u:Nat)(s0:LL)(h:s0.length+r.length≤4294967296){step:LL×Int→Option ((LL×Int) ⊕ LL)}
  (hstep:∀s (i:Nat) (hi:i<r.length),step (s,(i:Int))=cond (decide ((u:Int)<r[i])) ((AY s [[(u:Int),r[i]]]).bind λl=>some (.inl (l,((i+1:Nat):Int)))) (some (.inl (s,((i+1:Nat):Int)))))
  (hend:∀s,step (s,(r.length:Int))=some (.inr s)):Ay step (s0,0)=some (rowF r u s0)∧(rowF r u s0).length≤s0.length+r.length:=by
 have key:=loop_nat (step:=step) r.length (λs i=>(s,i)) (λs i=>if(u:Int)<r.getD i 0 then s++[[(u:Int),r.getD i 0]] else s) (λs=>s) (λi s=>s.length≤s0.length+i) s0 (by omega)
  (λs i hi hs=> ?_) (λs _=>hend s)
 ·exact key
 ·have hg:r.getD i 0=r[i]:=AX hi 0
  refine⟨?_,?_⟩
  ·rw[hstep s i hi,hg]
   by_cases hc:(u:Int)<r[i]
   ·rw[decide_eq_true hc,cond_true,Br (by simp;omega),if_pos hc];rfl
   ·rw[decide_eq_false hc,cond_false,if_neg hc]
  ·rw[hg]
   split
   ·rw[List.length_append,List.length_singleton];omega
   ·omega
def D9 (g:LL):LL:=(List.range g.length).foldl (λs u=>rowF (row g u) u s) []
theorem Fi (g:LL)(hg:GOk g):D.a1 g=some (D9 g):=by
 have h16:=hg.n16
 unfold D.a1
 have key:=loop_nat (ρ:=LL) (step:=(fun(s_288:LL×Int)=>match s_288 with|(l_291,x_296)=>cond (decide (x_296<(g.length:Int))) ((idx g x_296).bind λe_441=>(Ay (σ:=LL×Int) (ρ:=(LL)) (fun(s_508:LL×Int)=>match s_508 with|(l_511,x_516)=>cond (decide (x_516<(e_441.length:Int))) ((idx e_441 x_516).bind λe_551=>cond (decide (x_296<e_551)) ((AY l_511 ([([x_296,e_551]:LI)]:LL)).bind λl_569=>some (.inl (l_569,(IntKind.i64.wrap (x_516+1))))) (some (.inl (l_511,(IntKind.i64.wrap (x_516+1)))))) (some (.inr l_511))) (l_291,0)).bind λl_544=>some (.inl (l_544,(IntKind.i64.wrap (x_296+1))))) (some (.inr l_291))))
  g.length (λs i=>(s,i)) (λs u=>rowF (row g u) u s) (λs=>s) (λi s=>s.length≤16*i) [] (by simp) (λs u hu hs=> ?_) (λs _=> ?_)
 ·exact congrArg (λz=>Option.bind z λl=>some l) key.1
 ·have hr:=hg.row_len hu
  obtain⟨k1,k2⟩:=E2 (row g u) u s (by omega) (step:=(fun(s_508:LL×Int)=>match s_508 with|(l_511,x_516)=>cond (decide (x_516<((row g u).length:Int))) ((idx (row g u) x_516).bind λe_551=>cond (decide ((u:Int)<e_551)) ((AY l_511 ([([(u:Int),e_551]:LI)]:LL)).bind λl_569=>some (.inl (l_569,(IntKind.i64.wrap (x_516+1))))) (some (.inl (l_511,(IntKind.i64.wrap (x_516+1)))))) (some (.inr l_511)))) (λs i hi=>by
    simp only[dlt hi,cond_true,AN hi,bs,wq i]) (λs=>by simp only[Bn,cond_false])
  refine⟨?_,by omega⟩
  simp only[dlt hu,cond_true,BW hu,bs,wq u]
  exact(congrArg (λz=>Option.bind z _) k1).trans rfl
 ·simp only[Bn,cond_false]
theorem l1Edges_eq (g:LL)(hg:GOk g):D.w0 g=some (D9 g):=by
 have h16:=hg.n16
 unfold D.w0 D.b
 have key:=loop_nat (ρ:=LL) (step:=(fun(s_482:LL×Int)=>match s_482 with|(l_485,x_490)=>(some (g.length:Int)).bind λy_731=>cond (decide (x_490<y_731)) ((Ay (σ:=LL×Int) (ρ:=(LL)) (fun(s_848:LL×Int)=>match s_848 with|(l_851,x_856)=>(idx g x_490).bind λe_914=>cond (decide (x_856<(e_914.length:Int))) ((idx g x_490).bind λe_921=>(idx e_921 x_856).bind λe_927=>cond (decide (x_490<e_927)) ((idx g x_490).bind λe_934=>(idx e_934 x_856).bind λe_940=>(AY l_851 ([([x_490,e_940]:LI)]:LL)).bind λl_957=>some (.inl (l_957,(IntKind.i64.wrap (x_856+1))))) (some (.inl (l_851,(IntKind.i64.wrap (x_856+1)))))) (some (.inr l_851))) (l_485,0)).bind λl_908=>some (.inl (l_908,(IntKind.i64.wrap (x_490+1))))) (some (.inr l_485))))
  g.length (λs i=>(s,i)) (λs u=>rowF (row g u) u s) (λs=>s) (λi s=>s.length≤16*i) [] (by simp) (λs u hu hs=> ?_) (λs _=> ?_)
 ·exact congrArg (λz=>Option.bind z λl=>some l) key.1
 ·have hr:=hg.row_len hu
  obtain⟨k1,k2⟩:=E2 (row g u) u s (by omega) (step:=(fun(s_848:LL×Int)=>match s_848 with|(l_851,x_856)=>(idx g (u:Int)).bind λe_914=>cond (decide (x_856<(e_914.length:Int))) ((idx g (u:Int)).bind λe_921=>(idx e_921 x_856).bind λe_927=>cond (decide ((u:Int)<e_927)) ((idx g (u:Int)).bind λe_934=>(idx e_934 x_856).bind λe_940=>(AY l_851 ([([(u:Int),e_940]:LI)]:LL)).bind λl_957=>some (.inl (l_957,(IntKind.i64.wrap (x_856+1))))) (some (.inl (l_851,(IntKind.i64.wrap (x_856+1)))))) (some (.inr l_851)))) (λs i hi=>by
    simp only[BW hu,dlt hi,cond_true,AN hi,bs,wq i]) (λs=>by simp only[BW hu,bs,Bn,cond_false])
  refine⟨?_,by omega⟩
  simp only[bs,dlt hu,cond_true,wq u]
  exact(congrArg (λz=>Option.bind z _) k1).trans rfl
 ·simp only[bs,Bn,cond_false]
theorem GOk.sh2 {g:LL}(hg:GOk g):Sh2 g:=by
 have h16:=hg.n16
 exact⟨by unfold Sh;omega,λr hr=>by have:=(hg.mem0 hr).1;unfold Sh;omega⟩
theorem CC {g:LL}(hg:GOk g):gB g=true:=(gB_iff g).2 hg
theorem DB (g:LL)(hg:GOk g):D.X g=some ((D9 g).length:Int):=by
 unfold D.X D.j1
 rw[BH g hg.sh2,CC hg,bs,Bool.not_true,cond_false,Fi g hg];rfl
theorem EY (g:LL)(hg:GOk g):D.b0 g=some ((D9 g).length:Int):=by
 unfold D.b0
 rw[BI g hg.sh2,CC hg,bs,Bool.not_true,cond_false,l1Edges_eq g hg];rfl
theorem nets_graph_eq (F:LI)(h:F.length≤16)(hV:∀u,u<F.length→VS (F.getD u 0)):D.E0 F=some (grow F):=by
 unfold D.E0
 refine(DL F (λs i=>(i,s)) Aw (by omega) (λs i hi _=> ?_) (λs=> ?_)).trans rfl
 ·have:=hV i hi
  rw[AX hi] at this
  simp only[dlt hi,cond_true,AN hi,bs,numbers_eq _ this,wq i]
 ·simp only[Bn,cond_false]
theorem OOk.sh {g:LL}{o:LI}(hg:GOk g)(ho:OOk g o):Sh o:=by
 have:=hg.n16;have:=ho.len;unfold Sh;omega
theorem EZ {g:LL}{o:LI}(hg:GOk g)(ho:OOk g o):D.n0 g o=some true:=by
 rw[Fh g o hg.sh2 (ho.sh hg),CC hg,(ordB_iff g o).2 ho];rfl
structure Fill (g:LL)(o F L:LI):Prop where
 elim:D.R (g.map mk) o=some (F,L)
 f:FOk F g.length
 lenL:L.length=g.length
 vsL:∀u,u<g.length→VS (L.getD u 0)
 mono:∀u w,u<g.length→adj g u w→nb F u w=true
 lat:Lat F L o g.length
 peo:PEO F o
 same:PEO (g.map mk) o→F=g.map mk
 latb:∀(j:Nat) (v:Nat),o[j]? =some (v:Int)→∀w:Nat,nb L v w=true↔(w:Int)∉o.take (j+1)∧Bhd (g.map mk) (λx=>(x:Int)∈o.take j) v w
theorem fill_ex {g:LL}{o:LI}(hg:GOk g)(ho:OOk g o):∃F L,Fill g o F L:=by
 obtain⟨⟨F,L⟩,e,left,h⟩:=elim_ok hg.n16 (FOk.of hg) ho.len ho.rng ho.nd
 refine⟨F,L,e,h.f,h.lenL,h.vsL,λu w hu ha=>h.mono u w hu ((BZ hg hu).2 ha),h.lat,λj v u w hj=> ?_,h.same,λj v hj=>h.latb j v (by have:=(List.getElem?_eq_some_iff.1 hj).1;have:=ho.len;omega) hj⟩
 have hjl:=(List.getElem?_eq_some_iff.1 hj).1
 have:=ho.len
 exact h.peo j v u w (by omega) hj
theorem Fill.FillOf {g:LL}{o F L:LI}(hg:GOk g)(ho:OOk g o)(h:Fill g o F L):D.D0 g o=some (grow F,true):=by
 have h16:=hg.n16
 unfold D.D0
 rw[EZ hg ho,bs,Bool.not_true,cond_false,Dd g hg,bs,narrow_eq o (ho.sh hg),bs,h.elim,bs,nets_graph_eq F (by rw[h.f.len];omega) (λu hu=>h.f.vs u (by rw[h.f.len] at hu;exact hu))]
 rfl
theorem Fill.gok {g:LL}{o F L:LI}(hg:GOk g)(h:Fill g o F L):GOk (grow F):=GOk.grow h.f hg.n1 hg.n16
theorem CU (F:LI):(grow F).length=F.length:=by simp[grow]
theorem Fb {α:Type}(p:α→Bool){l:List α}{i:Nat}(hi:i<l.length):(l.take (i+1)).filter p=(l.take i).filter p++(if p l[i] then [l[i]] else []):=by
 rw[List.take_succ_eq_append_getElem hi,List.filter_append]
 congr 1
 rw[List.filter_cons,List.filter_nil]
def lft (g:LL)(v:Nat)(gone:List Bool):LI:=(row g v).filter λx=> !gone.getD x.toNat false
theorem D3 (g:LL)(hg:GOk g){v:Nat}(hv:v<g.length)(gone:List Bool)(hl:gone.length=g.length):D.E g (v:Int) gone=some (lft g v gone):=by
 have hr:=hg.row_len hv
 unfold D.E lft
 refine(B7 (λi=>(((row g v).take i).filter (λx=> !gone.getD x.toNat false),(i:Int))) (row g v).length ((row g v).filter λx=> !gone.getD x.toNat false) (by simp) (λi hi=> ?_) ?_).trans rfl
 ·obtain⟨w,e1,h1,_⟩:=hg.mem hv (List.getElem_mem hi)
  have hlen:(((row g v).take i).filter (λx=> !gone.getD x.toNat false)).length≤16:=Nat.le_trans (List.length_filter_le _ _) (by simp;omega)
  simp only[BW hv,bs,dlt hi,cond_true,AN hi,e1,AN (show w<gone.length by omega),wq i]
  have e3:=Fb (λx:Int=> !gone.getD x.toNat false) hi
  rw[e1] at e3
  simp only[Int.toNat_natCast,AX (show w<gone.length by omega)] at e3
  rw[e3]
  cases hc:gone[w]
  ·rw[Bool.not_false,cond_true,Br (by rw[List.length_singleton];omega),bs];rfl
  ·rw[Bool.not_true,cond_false];simp
 ·simp only[BW hv,bs,Bn,cond_false,List.take_length]
theorem Du (g:LL)(hg:GOk g){u:Nat}(hu:u<g.length)(w:Int):D.f g (u:Int) w=some (decide (w∈row g u)):=by
 unfold D.f
 rw[BW hu,bs,DN _ _ (hg.sh2.row hu)];rfl
def Clq (g:LL)(l:LI)(n:Nat):Prop:=∀i k,i<n→k<i→adj g (l.getD k 0).toNat (l.getD i 0).toNat
theorem l7Missing_ok (g:LL)(hg:GOk g)(l:LI)(hl:l.length≤16)(hr:∀x∈l,0≤x∧x<g.length):
  ∃y,D.a0 g l=some y∧(0≤y∧y≤256∧(y=0↔Clq g l l.length)):=by
 unfold D.a0
 refine A3 (λs=>∃i:Nat,s.2=(i:Int)∧i≤l.length∧0≤s.1∧s.1≤16*i∧(s.1=0↔Clq g l i)) (λs=>l.length-s.2.toNat) (λr=>0≤r∧r≤256∧(r=0↔Clq g l l.length)) ?_ ⟨0,rfl,by omega,by simp,by simp,by simp[Clq]⟩ (λr h=>⟨r,rfl,h⟩)
 rintro⟨m,_⟩ ⟨i,rfl,hi,h0,h1,h2⟩
 dsimp only at h0 h1 h2 ⊢
 by_cases hlt:i<l.length
 ·simp only[dlt hlt,cond_true]
  refine A3 (λs=>∃k:Nat,s.2=(k:Int)∧k≤i∧0≤s.1∧s.1≤16*i+k∧(s.1=0↔(Clq g l i∧∀k',k'<k→adj g (l.getD k' 0).toNat (l.getD i 0).toNat))) (λs=>i-s.2.toNat)
   (λr=>0≤r∧r≤16*i+i∧(r=0↔Clq g l (i+1))) ?_ ⟨0,rfl,by omega,h0,by omega,by simpa using h2⟩ ?_
  ·rintro⟨m,_⟩ ⟨k,rfl,hk,h0,h1,h2⟩
   dsimp only at h0 h1 h2 ⊢
   by_cases hkl:k<i
   ·have hkk:k<l.length:=by omega
    have r1:=hr _ (List.getElem_mem hkk)
    obtain⟨a,ea⟩:∃a:Nat,l[k]=(a:Int):=⟨l[k].toNat,by omega⟩
    have r2:=hr _ (List.getElem_mem hlt)
    obtain⟨b,eb⟩:∃b:Nat,l[i]=(b:Int):=⟨l[i].toNat,by omega⟩
    have hA:adj g (l.getD k 0).toNat (l.getD i 0).toNat↔(b:Int)∈row g a:=by
     rw[AX hkk,AX hlt,ea,eb];rfl
    simp only[dlt hkl,cond_true,AN hkk,AN hlt,bs,ea,eb,Du g hg (show a<g.length by omega),wq k]
    have hsplit:(∀k',k'<k+1→adj g (l.getD k' 0).toNat (l.getD i 0).toNat)↔((∀k',k'<k→adj g (l.getD k' 0).toNat (l.getD i 0).toNat)∧(b:Int)∈row g a):=by
     rw[←hA]
     constructor
     ·intro h;exact⟨λk' hk'=>h k' (by omega),h k (by omega)⟩
     ·rintro⟨h3,h4⟩ k' hk'
      rcases Nat.lt_or_ge k' k with hc|hc
      ·exact h3 k' hc
      ·obtain rfl:k'=k:=by omega
       exact h4
    by_cases hm:(b:Int)∈row g a
    ·simp only[decide_eq_true hm,Bool.not_true,cond_false]
     refine⟨_,rfl,⟨k+1,rfl,by omega,h0,by dsimp only;omega,?_⟩,by dsimp only;omega⟩
     dsimp only
     rw[hsplit,h2]
     exact⟨fun⟨p,q⟩=>⟨p,q,hm⟩,fun⟨p,q,_⟩=>⟨p,q⟩⟩
    ·simp only[decide_eq_false hm,Bool.not_false,cond_true]
     rw[w64 (show (-9223372036854775808:Int)≤m+1 by omega) (by omega)]
     refine⟨_,rfl,⟨k+1,rfl,by omega,by dsimp only;omega,by dsimp only;omega,?_⟩,by dsimp only;omega⟩
     dsimp only
     rw[hsplit]
     constructor
     ·intro h;omega
     ·rintro⟨_,_,h⟩;exact absurd h hm
   ·obtain rfl:k=i:=by omega
    simp only[Bn,cond_false]
    refine⟨_,rfl,h0,by omega,?_⟩
    rw[h2]
    constructor
    ·rintro⟨h3,h4⟩ i' k' hi' hk'
     rcases Nat.lt_or_ge i' k with hc|hc
     ·exact h3 i' k' hc hk'
     ·obtain rfl:i'=k:=by omega
      exact h4 k' hk'
    ·intro h
     exact⟨λi' k' hi' hk'=>h i' k' (by omega) hk',λk' hk'=>h k k' (by omega) hk'⟩
  ·rintro m ⟨h3,h4,h5⟩
   rw[wq i]
   exact⟨_,rfl,⟨i+1,rfl,by omega,h3,by dsimp only;omega,h5⟩,by dsimp only;omega⟩
 ·obtain rfl:i=l.length:=by omega
  simp only[Bn,cond_false]
  exact⟨_,rfl,h0,by omega,h2⟩
theorem l8Clique_ok (g:LL)(hg:GOk g)(l:LI)(hl:l.length≤16)(hr:∀x∈l,0≤x∧x<g.length):∃b,D.N g l=some b∧(b=true↔Clq g l l.length):=by
 obtain⟨y,e,_,_,h⟩:=l7Missing_ok g hg l hl hr
 unfold D.N
 rw[e,bs]
 exact⟨_,rfl,by rw[beq_iff_eq];exact h⟩
theorem lft_len {g:LL}(hg:GOk g){v:Nat}(hv:v<g.length)(gone:List Bool):(lft g v gone).length≤16:=Nat.le_trans (List.length_filter_le _ _) (hg.row_len hv)
theorem lft_rng {g:LL}(hg:GOk g){v:Nat}(hv:v<g.length)(gone:List Bool):∀x∈lft g v gone,0≤x∧x<g.length:=λx hx=>(hg.rows v hv).2 x (List.mem_filter.1 hx).1
theorem lft_inc {g:LL}(hg:GOk g){v:Nat}(hv:v<g.length)(gone:List Bool):Inc (lft g v gone):=List.Pairwise.filter _ (hg.rows v hv).1
def PEOg (g:LL)(o:LI):Prop:=∀(j:Nat) (v u w:Nat),o[j]? =some (v:Int)→adj g v u→adj g v w→(u:Int)∉o.take (j+1)→(w:Int)∉o.take (j+1)→u≠w→adj g u w
def BM (f:Nat→Nat):Nat→Nat
 |0=>0
 |n+1=>BM f n+f n
theorem Cx {f g:Nat→Nat}:∀{n:Nat},(∀i,i<n→f i=g i)→BM f n=BM g n
 |0,_=>rfl
 |n+1,h=>by simp only[BM];rw[Cx (n:=n) (λi hi=>h i (by omega)),h n (by omega)]
theorem Eu (f g:Nat→Nat):∀n,BM (λi=>f i+g i) n=BM f n+BM g n
 |0=>rfl
 |n+1=>by simp only[BM];rw[Eu f g n];omega
theorem EM :∀n,BM (λ_=>0) n=0
 |0=>rfl
 |n+1=>by simp only[BM];rw[EM n]
theorem sumN_swap (f:Nat→Nat→Nat)(m:Nat):∀n,BM (λi=>BM (f i) m) n=BM (λj=>BM (λi=>f i j) n) m
 |0=>by simp only[BM];rw[EM]
 |n+1=>by simp only[BM];rw[sumN_swap f m n,←Eu]
def bit (b:Bool):Nat:=if b then 1 else 0
theorem Ew (p:Nat→Bool):∀n,((List.range n).filter p).length=BM (λi=>bit (p i)) n
 |0=>rfl
 |n+1=>by
  rw[List.range_succ,List.filter_append,List.length_append,Ew p n]
  simp only[BM,bit]
  cases h:p n<;>simp[h]
theorem sumN_tail {f : Nat → Nat} {n m : Nat} (h : n ≤ m) (hz : ∀ i, n ≤ i → f i = 0) : BM f m = BM f n := by
  induction m with
  | zero => obtain rfl : n = 0 := by omega
            rfl
  | succ m ih =>
    by_cases hm : n = m + 1
    · rw [hm]
    · simp only [BM]; rw [ih (by omega), hz m (by omega)]; rfl
theorem elems_sum {s:Int}{n:Nat}(hn:n≤32)(h:∀v,has s v=true→v<n):(Aw s).length=BM (λv=>bit (has s v)) n:=by
 unfold Aw
 rw[List.length_map,Ew]
 refine sumN_tail hn (λi hi=> ?_)
 unfold bit
 cases hc:has s i
 ·rfl
 ·have:=h i hc;omega
def S2 (n:Nat)(p:Nat→Nat→Bool):Nat:=BM (λu=>BM (λw=>bit (p u w)) n) n
theorem S2_congr {n:Nat}{p q:Nat→Nat→Bool}(h:∀u w,u<n→w<n→p u w=q u w):S2 n p=S2 n q:=
 Cx λu hu=>Cx λw hw=>by rw[h u w hu hw]
theorem S2_swap (n:Nat)(p:Nat→Nat→Bool):S2 n p=S2 n (λu w=>p w u):=by
 unfold S2
 rw[sumN_swap]
theorem S2_or (n:Nat)(p q:Nat→Nat→Bool)(h:∀u w,u<n→w<n→p u w=true→q u w=true→False):S2 n (λu w=>p u w||q u w)=S2 n p+S2 n q:=by
 unfold S2
 rw[←Eu]
 refine Cx λu hu=> ?_
 rw[←Eu]
 refine Cx λw hw=> ?_
 have:=h u w hu hw
 unfold bit
 cases h1:p u w<;>cases h2:q u w<;>simp_all
theorem S2_half {n:Nat}{A:Nat→Nat→Bool}{lt:Nat→Nat→Bool}(hs:∀u w,u<n→w<n→A u w=A w u)(h1:∀u w,u<n→w<n→A u w=true→(lt u w=true∨lt w u=true))(h2:∀u w,u<n→w<n→lt u w=true→lt w u=true→False):
  S2 n A=2*S2 n (λu w=>A u w&&lt u w):=by
 have e1:S2 n A=S2 n (λu w=>(A u w&&lt u w)||(A u w&&lt w u)):=S2_congr λu w hu hw=>by
  have:=h1 u w hu hw
  cases ha:A u w
  ·simp
  ·rcases this ha with h|h<;>simp[h]
 have e2:S2 n (λu w=>A u w&&lt w u)=S2 n (λu w=>A u w&&lt u w):=by
  rw[S2_swap]
  exact S2_congr λu w hu hw=>by rw[hs u w hu hw]
 rw[e1,S2_or,e2]
 ·omega
 ·intro u w hu hw h3 h4
  simp only[Bool.and_eq_true] at h3 h4
  exact h2 u w hu hw h3.2 h4.2
theorem Fc {s:Int}{n:Nat}(hn:n≤32)(h:∀v,has s v=true→v<n)(p:Int→Bool):((Aw s).filter p).length=BM (λv=>bit (has s v&&p (v:Int))) n:=by
 unfold Aw
 rw[List.filter_map,List.length_map,List.filter_filter,Ew]
 have e:BM (λi=>bit ((p∘Int.ofNat) i&&has s i)) 32=BM (λv=>bit (has s v&&p (v:Int))) 32:=Cx λi _=>by
  rw[Bool.and_comm];rfl
 rw[e]
 refine sumN_tail hn (λi hi=> ?_)
 cases hc:has s i
 ·rfl
 ·have:=h i hc;omega
def ast (f:Int→Int)(s:Int×Int)(v:Int):Int×Int:=if s.1<0∨f v<s.2 then(v,f v) else s
def amin (f:Int→Int)(l:LI):Int×Int:=l.foldl (ast f) (-1,0)
theorem ast_run (f:Int→Int):∀(l:LI) (b:Int),0≤b→(∀x∈l,0≤x)→∃c,l.foldl (ast f) (b,f b)=(c,f c)∧(c=b∨c∈l)∧0≤c∧f c≤f b∧∀x∈l,f c≤f x
 |[],b,hb,_=>⟨b,rfl,.inl rfl,hb,Int.le_refl _,by simp⟩
 |x::l,b,hb,hl=>by
  have hx:=hl x (by simp)
  have hl':=λy hy=>hl y (List.mem_cons_of_mem x hy)
  rw[List.foldl_cons]
  by_cases hc:f x<f b
  ·have e:ast f (b,f b) x=(x,f x):=by unfold ast;rw[if_pos (.inr hc)]
   rw[e]
   obtain⟨c,h1,h2,h3,h4,h5⟩:=ast_run f l x hx hl'
   refine⟨c,h1,.inr ?_,h3,by omega,λy hy=> ?_⟩
   ·rcases h2 with rfl|h2
    ·simp
    ·exact List.mem_cons_of_mem _ h2
   ·rcases List.mem_cons.1 hy with rfl|hy
    ·exact h4
    ·exact h5 y hy
  ·have e:ast f (b,f b) x=(b,f b):=by unfold ast;rw[if_neg (λh=>h.elim (λh=>by dsimp only at h;omega) hc)]
   rw[e]
   obtain⟨c,h1,h2,h3,h4,h5⟩:=ast_run f l b hb hl'
   refine⟨c,h1,?_,h3,h4,λy hy=> ?_⟩
   ·rcases h2 with h2|h2
    ·exact .inl h2
    ·exact .inr (List.mem_cons_of_mem _ h2)
   ·rcases List.mem_cons.1 hy with rfl|hy
    ·omega
    ·exact h5 y hy
theorem ast_first (f:Int→Int)(x:Int):ast f (-1,0) x=(x,f x):=by unfold ast;rw[if_pos (.inl (by decide))]
theorem amin_ok (f:Int→Int){l:LI}(hne:l≠[])(hl:∀x∈l,0≤x):∃c,amin f l=(c,f c)∧c∈l∧∀x∈l,f c≤f x:=by
 cases l with
 |nil=>exact absurd rfl hne
 |cons x l=>
  unfold amin
  rw[List.foldl_cons,ast_first]
  obtain⟨c,h1,h2,h3,h4,h5⟩:=ast_run f l x (hl x (by simp)) (λy hy=>hl y (List.mem_cons_of_mem _ hy))
  refine⟨c,h1,?_,λy hy=> ?_⟩
  ·rcases h2 with rfl|h2
   ·simp
   ·exact List.mem_cons_of_mem _ h2
  ·rcases List.mem_cons.1 hy with rfl|hy
   ·exact h4
   ·exact h5 y hy
def els (s:Int)(i:Nat):LI:=((List.range i).filter (has s)).map Int.ofNat
theorem els_succ (s:Int)(i:Nat):els s (i+1)=if has s i then els s i++[(i:Int)] else els s i:=by
 unfold els
 rw[List.range_succ,List.filter_append,List.map_append]
 cases h:has s i<;>simp[h]
theorem els_all {s:Int}{n:Nat}(hn:n≤32)(h:∀v,has s v=true→v<n):els s n=Aw s:=by
 unfold els Aw
 obtain⟨k,hk⟩:∃k,32=n+k:=⟨32-n,by omega⟩
 rw[hk,List.range_add,List.filter_append]
 have:((List.range k).map (λx=>n+x)).filter (has s)=[]:=by
  rw[List.filter_eq_nil_iff]
  intro x hx hc
  obtain⟨y,_,rfl⟩:=List.mem_map.1 hx
  have:=h _ hc;omega
 rw[this,List.append_nil]
theorem elems_nonneg (s:Int):∀x∈Aw s,0≤x:=λx hx=>by
 obtain⟨v,_,_,rfl⟩:=mem_elems.1 hx;omega
theorem elems_rm {s:Int}{b:Nat}(h:VS s)(hb:has s b=true):(Aw s).length=(Aw (iandNot .u32 s (ishl .u32 1 (b:Int)))).length+1:=by
 have hb32:b<32:=by
  by_cases hv:b<32
  ·exact hv
  ·rw[DI h (by omega)] at hb;cases hb
 have hm:∀x,x∈Aw s↔x∈(b:Int)::Aw (iandNot .u32 s (ishl .u32 1 (b:Int))):=λx=>by
  rw[List.mem_cons,mem_elems,mem_elems]
  constructor
  ·rintro⟨v,h1,h2,rfl⟩
   by_cases e:v=b
   ·left;omega
   ·right;exact⟨v,h1,by rw[Bi h (VS.ishl _ _),BA hb32,h2];simp[e],rfl⟩
  ·rintro(rfl|⟨v,h1,h2,rfl⟩)
   ·exact⟨b,hb32,hb,rfl⟩
   ·rw[Bi h (VS.ishl _ _),Bool.and_eq_true] at h2
    exact⟨v,h1,h2.1,rfl⟩
 have hn:((b:Int)::Aw (iandNot .u32 s (ishl .u32 1 (b:Int)))).Nodup:=by
  refine List.nodup_cons.2 ⟨λhc=> ?_,(Ck _).nodup⟩
  rw[Be (VS.iandNot _ _),Bi h (VS.ishl _ _),BA hb32] at hc
  simp at hc
 have:=nodup_all (Ck s).nodup hn (λx hx=>(hm x).1 hx) (λx hx=>(hm x).2 hx)
 simpa using this
def full (n:Nat):Int:=IntKind.u32.wrap (ishl .u32 1 (n:Int)-1)
theorem DJ (n:Nat):VS (full n):=VS.wrap _
theorem CM {n:Nat}(h:n≤16)(v:Nat):has (full n) v=decide (v<n):=by
 by_cases hv:v<32
 ·exact all_mask ⟨n,by omega⟩ ⟨v,hv⟩
 ·rw[DI (DJ n) (by omega)];symm;simp;omega
def BL (n:Nat)(s:Int):List Bool:=(List.range n).map λv=> !has s v
theorem DD (n:Nat)(s:Int):(BL n s).length=n:=by simp[BL]
theorem EO {n:Nat}{s:Int}{v:Nat}(h:v<n){h':v<(BL n s).length}:(BL n s)[v]= !has s v:=by
 simp[BL]
theorem Ex {n:Nat}{s:Int}{v:Nat}(h:v<n):(BL n s).getD v false= !has s v:=by
 unfold BL
 rw[AX (by simpa using h)];simp
theorem Es {n:Nat}{s:Int}{v:Nat}(h:v<n):idx (BL n s) (v:Int)=some (!has s v):=by
 rw[AN (by rw[DD];exact h),←Ex h,AX (by rw[DD];exact h)]
theorem goneOf_set {n b:Nat}{s:Int}(hs:VS s)(hb:b<n)(hn:n≤32):(BL n s).set b true=BL n (iandNot .u32 s (ishl .u32 1 (b:Int))):=by
 apply List.ext_getElem
 ·simp[BL]
 ·intro i h1 h2
  have hi:i<n:=by simpa [BL] using h2
  rw[List.getElem_set,EO hi,EO hi,Bi hs (VS.ishl _ _),BA (by omega)]
  by_cases e:b=i
  ·subst e;simp
  ·rw[if_neg e]
   have:decide (i=b)=false:=by simp;omega
   simp[this]
theorem E5 {n:Nat}(h:n≤16):List.replicate n false=BL n (full n):=by
 apply List.ext_getElem
 ·simp[BL]
 ·intro i h1 h2
  have hi:i<n:=by simpa [BL] using h2
  rw[List.getElem_replicate,EO hi,CM h]
  simp[hi]
theorem lft_gone {g:LL}(hg:GOk g){s:Int}(hs:VS s){v:Nat}(hv:v<g.length):lft g v (BL g.length s)=Aw (iand .u32 (mk (row g v)) s):=by
 have h16:=hg.n16
 refine Inc.ext (lft_inc hg hv _) (Ck _) (λx=> ?_)
 unfold lft
 rw[List.mem_filter,mem_elems]
 constructor
 ·rintro⟨h1,h2⟩
  obtain⟨w,rfl,hw,ha⟩:=hg.mem hv h1
  rw[Int.toNat_natCast,Ex hw,Bool.not_not] at h2
  refine⟨w,by omega,?_,rfl⟩
  rw[BP (VS.mk _) hs,h2,Ee (λx hx=>by have:=(hg.rows v hv).2 x hx;omega)]
  simpa using h1
 ·rintro⟨w,_,h2,rfl⟩
  rw[BP (VS.mk _) hs,Ee (λx hx=>by have:=(hg.rows v hv).2 x hx;omega)] at h2
  simp only[Bool.and_eq_true,decide_eq_true_eq] at h2
  have hw:w<g.length:=by have:=(hg.rows v hv).2 _ h2.1;omega
  exact⟨h2.1,by rw[Int.toNat_natCast,Ex hw,h2.2];rfl⟩
theorem l1There_eq {g:LL}(hg:GOk g){u:Nat}(hu:u<g.length):D.O g (u:Int)=some true:=by
 have:=hg.n16
 unfold D.O D.b
 simp only[bs,Ei]
 rw[w64 (by omega) (by omega)]
 simp;omega
theorem Fill.many {g:LL}{o F L:LI}(hg:GOk g)(ho:OOk g o)(h:Fill g o F L):D.u0 g o=some (IntKind.i64.wrap (((D9 (grow F)).length:Int)-((D9 g).length:Int))):=by
 unfold D.u0
 rw[h.FillOf hg ho,bs]
 simp only[Bool.not_true,cond_false]
 rw[DB _ (h.gok hg),bs,DB _ hg]
 rfl
section
variable {g : LL} {o : LI} (hg : GOk g) (ho : OOk g o)
include hg ho
end
end Go.Sx

namespace Go.Sx
section
variable {g : LL} {o : LI} (hg : GOk g) (ho : OOk g o)
include hg ho
theorem place {v:Nat}(hv:v<g.length):∃i,∃h:i<o.length,o[i]=(v:Int):=by
 have hsub:∀x∈o,x∈(List.range g.length).map Int.ofNat:=λx hx=>by
  have:=ho.rng x hx
  exact List.mem_map.2 ⟨x.toNat,List.mem_range.2 (by omega),by show ((x.toNat:Nat):Int)=x;omega⟩
 have hm:(v:Int)∈o:=by
  apply Classical.byContradiction
  intro hn
  have h1:((v:Int)::o).Nodup:=List.nodup_cons.2 ⟨hn,ho.nd⟩
  have:=B4 h1 (m:=(List.range g.length).map Int.ofNat) (λx hx=>by
   rcases List.mem_cons.1 hx with rfl|hx
   ·exact List.mem_map.2 ⟨v,List.mem_range.2 hv,rfl⟩
   ·exact hsub x hx)
  have:=ho.len
  simp at*
  omega
 obtain⟨i,hi,e⟩:=List.getElem_of_mem hm
 exact⟨i,hi,e⟩
def mx (f:Nat→Int):Nat→Int
 |0=>0
 |n+1=>max (mx f n) (f n)
end
end Go.Sx

namespace Go.Sx
def dg (g:LL)(s:Int)(v:Int):Int:=((Aw (iand .u32 (mk (row g v.toNat)) s)).length:Int)
structure SQ (n:Nat)(s:Int)(k:Nat):Prop where
 vs:VS s
 lt:∀v,has s v=true→v<n
 card:(Aw s).length=k
theorem SQ.full {n:Nat}(h:n≤16):SQ n (full n) n:=by
 refine⟨DJ n,λv hv=>by rw[CM h] at hv;exact of_decide_eq_true hv,?_⟩
 rw[←els_all (n:=n) (by omega) (λv hv=>by rw[CM h] at hv;exact of_decide_eq_true hv)]
 unfold els
 rw[List.length_map,List.filter_eq_self.2 (λv hv=>by rw[CM h];exact decide_eq_true (List.mem_range.1 hv)),List.length_range]
theorem SQ.rm {n k b:Nat}{s:Int}(h:SQ n s (k+1))(hb:has s b=true):SQ n (iandNot .u32 s (ishl .u32 1 (b:Int))) k:=by
 refine⟨VS.iandNot _ _,λv hv=> ?_,?_⟩
 ·rw[Bi h.vs (VS.ishl _ _),Bool.and_eq_true] at hv
  exact h.lt v hv.1
 ·have:=elems_rm h.vs hb
  have:=h.card
  omega
theorem SQ.ne {n k:Nat}{s:Int}(h:SQ n s (k+1)):Aw s≠[]:=λe=>by have:=h.card;rw[e] at this;simp at this
theorem SQ.nz {n k:Nat}{s:Int}(h:SQ n s (k+1)):s≠0:=λe=>by have:=h.ne;rw[e,Et] at this;exact this rfl
theorem SQ.z {n:Nat}{s:Int}(h:SQ n s 0):s=0:=by
 rw[h.vs.eq_zero]
 intro v hv
 cases hc:has s v
 ·rfl
 ·have:(v:Int)∈Aw s:=(Be h.vs).2 hc
  have h0:=h.card
  rw[List.length_eq_zero_iff] at h0
  rw[h0] at this;simp at this
theorem SQ.min {n k:Nat}{s:Int}(h:SQ n s (k+1))(f:Int→Int):∃c:Nat,c<n∧has s c=true∧amin f (Aw s)=((c:Int),f c)∧∀v:Nat,has s v=true→f c≤f v:=by
 obtain⟨c,h1,h2,h3⟩:=amin_ok f h.ne (elems_nonneg s)
 obtain⟨v,_,h5,rfl⟩:=mem_elems.1 h2
 exact⟨v,h.lt v h5,h5,h1,λw hw=>h3 w ((Be h.vs).2 hw)⟩
theorem graph_ext {g g':LL}(hg:GOk g)(hg':GOk g')(hl:g.length=g'.length)(h:∀a b:Nat,a<g.length→(adj g a b↔adj g' a b)):g=g':=by
 apply List.ext_getElem hl
 intro i h1 h2
 rw[←row_eq h1,←row_eq h2]
 refine Inc.ext (hg.rows i h1).1 (hg'.rows i h2).1 (λx=> ?_)
 constructor
 ·intro hx
  obtain⟨w,rfl,_,ha⟩:=hg.mem h1 hx
  exact(h i w h1).1 ha
 ·intro hx
  obtain⟨w,rfl,_,ha⟩:=hg'.mem h2 hx
  exact(h i w h1).2 ha
theorem ER {g:LL}(hg:GOk g):grow (g.map mk)=g:=by
 have hf:=FOk.of hg
 refine graph_ext (GOk.grow hf hg.n1 hg.n16) hg (by rw[CU,hf.len]) (λa b ha=> ?_)
 rw[CU,hf.len] at ha
 rw[Db hf ha,BZ hg ha]
theorem E8 {g:LL}(hg:GOk g){l:LI}(hi:Inc l)(hr:∀x∈l,0≤x∧x<g.length):
  ∃g',D.o0 g l=some g'∧(GOk g'∧g'.length=g.length∧∀a b:Nat,adj g' a b↔adj g a b∨(a≠b∧(a:Int)∈l∧(b:Int)∈l)):=by
 have h16:=hg.n16
 have hl:=hi.short (n:=g.length) hr
 unfold D.o0
 refine A3 (λs=>∃i:Nat,s.2=(i:Int)∧i≤l.length∧GOk s.1∧s.1.length=g.length∧∀a b:Nat,adj s.1 a b↔adj g a b∨(a≠b∧(a:Int)∈l.take i∧(b:Int)∈l.take i)) (λs=>l.length-s.2.toNat)
  (λr=>GOk r∧r.length=g.length∧∀a b:Nat,adj r a b↔adj g a b∨(a≠b∧(a:Int)∈l∧(b:Int)∈l)) ?_ ⟨0,rfl,by omega,hg,rfl,λa b=>by simp⟩ (λr h=>⟨r,rfl,h⟩)
 rintro⟨G,_⟩ ⟨i,rfl,hil,hG,hGl,hA⟩
 dsimp only at hG hGl hA ⊢
 by_cases hlt:i<l.length
 ·have r1:=hr _ (List.getElem_mem hlt)
  obtain⟨v,ev⟩:∃v:Nat,l[i]=(v:Int):=⟨l[i].toNat,by omega⟩
  simp only[dlt hlt,cond_true]
  refine A3 (λs=>∃k:Nat,s.2=(k:Int)∧k≤i∧GOk s.1∧s.1.length=g.length∧∀a b:Nat,adj s.1 a b↔adj G a b∨(a=v∧(b:Int)∈l.take k)∨(b=v∧(a:Int)∈l.take k)) (λs=>i-s.2.toNat)
   (λr=>GOk r∧r.length=g.length∧∀a b:Nat,adj r a b↔adj G a b∨(a=v∧(b:Int)∈l.take i)∨(b=v∧(a:Int)∈l.take i)) ?_ ⟨0,rfl,by omega,hG,hGl,λa b=>by simp⟩ ?_
  ·rintro⟨G',_⟩ ⟨k,rfl,hk,hG',hGl',hA'⟩
   dsimp only at hG' hGl' hA' ⊢
   by_cases hkl:k<i
   ·have hkk:k<l.length:=by omega
    have r2:=hr _ (List.getElem_mem hkk)
    obtain⟨u,eu⟩:∃u:Nat,l[k]=(u:Int):=⟨l[k].toNat,by omega⟩
    have hne:l[k]<l[i]:=(List.pairwise_iff_getElem.1 hi) k i hkk hlt hkl
    obtain⟨g2,q1,q2,q3,q4⟩:=DU hG' (u:=u) (v:=v) (by omega) (by omega) (by omega)
    simp only[dlt hkl,cond_true,AN hkk,AN hlt,bs,eu,ev,q1,wq k]
    refine⟨_,rfl,⟨k+1,rfl,by omega,q2,by dsimp only;omega,λa b=> ?_⟩,by dsimp only;omega⟩
    dsimp only
    rw[q4,hA',List.take_succ_eq_append_getElem hkk,eu]
    simp only[List.mem_append,List.mem_singleton,Int.natCast_inj]
    constructor
    ·rintro((h|⟨h1,h2⟩|⟨h1,h2⟩)|⟨h1,h2⟩|⟨h1,h2⟩)
     ·exact .inl h
     ·exact .inr (.inl ⟨h1,.inl h2⟩)
     ·exact .inr (.inr ⟨h1,.inl h2⟩)
     ·exact .inr (.inr ⟨h2,.inr h1⟩)
     ·exact .inr (.inl ⟨h1,.inr h2⟩)
    ·rintro(h|⟨h1,h2|h2⟩|⟨h1,h2|h2⟩)
     ·exact .inl (.inl h)
     ·exact .inl (.inr (.inl ⟨h1,h2⟩))
     ·exact .inr (.inr ⟨h1,h2⟩)
     ·exact .inl (.inr (.inr ⟨h1,h2⟩))
     ·exact .inr (.inl ⟨h2,h1⟩)
   ·obtain rfl:k=i:=by omega
    simp only[Bn,cond_false]
    exact⟨_,rfl,hG',hGl',hA'⟩
  ·rintro r ⟨q1,q2,q3⟩
   rw[wq i]
   refine⟨_,rfl,⟨i+1,rfl,by omega,q1,q2,λa b=> ?_⟩,by dsimp only;omega⟩
   dsimp only
   have hvt:(v:Int)∉l.take i:=by
    rw[←ev];exact nodup_iff.1 hi.nodup i hlt
   rw[q3,hA,List.take_succ_eq_append_getElem hlt,ev]
   simp only[List.mem_append,List.mem_singleton,Int.natCast_inj]
   constructor
   ·rintro((h|⟨h0,h1,h2⟩)|⟨h1,h2⟩|⟨h1,h2⟩)
    ·exact .inl h
    ·exact .inr ⟨h0,.inl h1,.inl h2⟩
    ·refine .inr ⟨λe=> ?_,.inr h1,.inl h2⟩
     subst e;subst h1;exact hvt h2
    ·refine .inr ⟨λe=> ?_,.inl h2,.inr h1⟩
     subst e;subst h1;exact hvt h2
   ·rintro(h|⟨h0,h1|h1,h2|h2⟩)
    ·exact .inl (.inl h)
    ·exact .inl (.inr ⟨h0,h1,h2⟩)
    ·exact .inr (.inr ⟨h2,h1⟩)
    ·exact .inr (.inl ⟨h1,h2⟩)
    ·exact absurd (h1.trans h2.symm) h0
 ·obtain rfl:i=l.length:=by omega
  simp only[Bn,cond_false]
  rw[List.take_length] at hA
  exact⟨_,rfl,hG,hGl,hA⟩
theorem FOk.clique {F F':LI}{n:Nat}{S:Int}(h:FOk F n)(hS:∀w,has S w=true→w<n)(hl:F'.length=n)(hv:∀u,u<n→VS (F'.getD u 0))(h':∀u w,u<n→nb F' u w=(nb F u w||(has S u&&has S w&&decide (w≠u)))):FOk F' n:=by
 refine⟨hl,hv,λu w hu hh=> ?_,λu hu=> ?_,λu w hu hh=> ?_⟩
 ·rw[h' u w hu] at hh
  simp only[Bool.or_eq_true,Bool.and_eq_true] at hh
  rcases hh with hh|⟨⟨_,hh⟩,_⟩
  ·exact h.lt u w hu hh
  ·exact hS w hh
 ·rw[h' u u hu,h.irr u hu];simp
 ·rw[h' u w hu] at hh
  simp only[Bool.or_eq_true,Bool.and_eq_true,decide_eq_true_eq] at hh
  rcases hh with hh|⟨⟨h1,h2⟩,h3⟩
  ·rw[h' w u (h.lt u w hu hh),h.sym u w hu hh];rfl
  ·rw[h' w u (hS w h2),h1,h2]
   have:decide (u≠w)=true:=by simpa using λe=>h3 e.symm
   simp[this]
theorem eliminate_ok {F:LI}{n b:Nat}{s:Int}(h16:n≤16)(h:FOk F n)(hs:VS s)(hb:b<n):
  ∃F',D.y1 F s (b:Int)=some F'∧(FOk F' n∧∀u w,u<n→nb F' u w=(nb F u w||((nb F b u&&has s u)&&(nb F b w&&has s w)&&decide (w≠u)))):=by
 have hlen:=h.len
 unfold D.y1
 have hFb:idx F (b:Int)=some (F.getD b 0):=by rw[AN (by omega),AX (by omega)]
 rw[hFb]
 simp only[bs,BE]
 have hSV:VS (iandNot .u32 (iand .u32 (F.getD b 0) s) (ishl .u32 1 (b:Int))):=VS.iandNot _ _
 have hS:∀w,has (iandNot .u32 (iand .u32 (F.getD b 0) s) (ishl .u32 1 (b:Int))) w=(nb F b w&&has s w):=λw=>by
  rw[Bi (VS.iand _ _) (VS.ishl _ _),BP (h.vs b hb) hs,BA (by omega)]
  by_cases e:w=b
  ·subst e
   have:=h.irr w hb
   unfold nb at this ⊢
   rw[this];simp
  ·unfold nb;simp[e]
 have hSn:∀w,has (iandNot .u32 (iand .u32 (F.getD b 0) s) (ishl .u32 1 (b:Int))) w=true→w<n:=λw hw=>by
  rw[hS,Bool.and_eq_true] at hw
  exact h.lt b w hb hw.1
 generalize iandNot .u32 (iand .u32 (F.getD b 0) s) (ishl .u32 1 (b:Int))=S at*
 rw[CR S hSV,bs]
 refine A3 (λst=>∃i:Nat,st.2=(i:Int)∧i≤(Aw S).length∧st.1.length=n∧(∀u,u<n→VS (st.1.getD u 0))∧∀u w,u<n→nb st.1 u w=(nb F u w||(decide ((u:Int)∈(Aw S).take i)&&has S w&&decide (w≠u)))) (λst=>(Aw S).length-st.2.toNat)
  (λF'=>F'.length=n∧(∀u,u<n→VS (F'.getD u 0))∧∀u w,u<n→nb F' u w=(nb F u w||(has S u&&has S w&&decide (w≠u)))) ?_ ⟨0,rfl,by omega,hlen,h.vs,λu w _=>by simp⟩ ?_
 ·rintro⟨l,_⟩ ⟨i,rfl,hi,hl,hv,hh⟩
  dsimp only at hl hv hh ⊢
  have hle:=BX S
  by_cases hlt:i<(Aw S).length
  ·obtain⟨u0,h1,h2,h3⟩:=mem_elems.1 (List.getElem_mem hlt)
   have h4:=hSn u0 h2
   simp only[dlt hlt,cond_true,AN hlt,bs,h3,AN (show u0<l.length by omega),BE,wq i,Int.toNat_natCast]
   refine⟨_,rfl,⟨i+1,rfl,by omega,by simp[hl],λu hu=> ?_,λu w hu=> ?_⟩,by dsimp only;omega⟩
   ·rw[C8 _ _ _ _ (by omega)]
    split
    ·exact VS.ior _ _
    ·exact hv u hu
   ·have hmem:((u:Int)∈(Aw S).take (i+1))↔((u:Int)∈(Aw S).take i∨u=u0):=by
     rw[List.take_succ_eq_append_getElem hlt,List.mem_append,h3]
     simp[Int.natCast_inj]
    unfold nb
    rw[C8 _ _ _ _ (by omega)]
    by_cases hc:u=u0
    ·subst hc
     rw[if_pos rfl]
     have hg:l[u]=l.getD u 0:=(AX (by omega) 0).symm
     rw[hg,Cz (hv u hu) (VS.iandNot _ _),Bi hSV (VS.ishl _ _),BA (by omega)]
     have:=hh u w hu
     unfold nb at this
     rw[this,decide_eq_true (hmem.2 (.inr rfl))]
     cases has (F.getD u 0) w<;>cases has S w<;>by_cases hw:w=u<;>simp[hw]
    ·rw[if_neg hc]
     have:=hh u w hu
     unfold nb at this
     rw[this]
     have:decide ((u:Int)∈(Aw S).take (i+1))=decide ((u:Int)∈(Aw S).take i):=by
      rw[Bool.eq_iff_iff,decide_eq_true_eq,decide_eq_true_eq,hmem];simp[hc]
     rw[this]
  ·obtain rfl:i=(Aw S).length:=by omega
   simp only[Bn,cond_false]
   refine⟨_,rfl,hl,hv,λu w hu=> ?_⟩
   rw[hh u w hu,List.take_length]
   congr 3
   rw[Bool.eq_iff_iff,decide_eq_true_eq,Be hSV]
 ·rintro F' ⟨q1,q2,q3⟩
  refine⟨_,rfl,h.clique hSn q1 q2 q3,λu w hu=> ?_⟩
  rw[q3 u w hu,hS,hS]
noncomputable def D2 (F:LI)(s b:Int):LI:=(D.y1 F s b).getD []
theorem elimF_ok {F:LI}{n b:Nat}{s:Int}(h16:n≤16)(h:FOk F n)(hs:VS s)(hb:b<n):
  D.y1 F s (b:Int)=some (D2 F s b)∧FOk (D2 F s b) n∧∀u w,u<n→nb (D2 F s b) u w=(nb F u w||((nb F b u&&has s u)&&(nb F b w&&has s w)&&decide (w≠u))):=by
 obtain⟨F',e,h1,h2⟩:=eliminate_ok h16 h hs hb
 have:D2 F s b=F':=by unfold D2;rw[e];rfl
 rw[this];exact⟨e,h1,h2⟩
theorem lft_grow {F:LI}{n v:Nat}{s:Int}(h1:1≤n)(h16:n≤16)(h:FOk F n)(hs:VS s)(hv:v<n):lft (grow F) v (BL n s)=Aw (iand .u32 (F.getD v 0) s):=by
 have hl:(grow F).length=n:=by rw[CU,h.len]
 have:=lft_gone (GOk.grow h h1 h16) hs (v:=v) (by omega)
 rw[hl,row_grow,mk_elems (h.vs v hv)] at this
 exact this
theorem clique_grow {F:LI}{n b:Nat}{s:Int}(h1:1≤n)(h16:n≤16)(h:FOk F n)(hs:VS s)(hb:b<n):
  D.o0 (grow F) (lft (grow F) b (BL n (iandNot .u32 s (ishl .u32 1 (b:Int)))))=some (grow (D2 F s b)):=by
 obtain⟨_,e2,e3⟩:=elimF_ok h16 h hs hb
 have hG:=GOk.grow h h1 h16
 have hl:(grow F).length=n:=by rw[CU,h.len]
 rw[lft_grow h1 h16 h (VS.iandNot _ _) hb]
 have hm:∀w:Nat,(w:Int)∈Aw (iand .u32 (F.getD b 0) (iandNot .u32 s (ishl .u32 1 (b:Int))))↔(nb F b w&&has s w)=true:=λw=>by
  rw[Be (VS.iand _ _),BP (h.vs b hb) (VS.iandNot _ _),Bi hs (VS.ishl _ _),BA (by omega)]
  by_cases e:w=b
  ·subst e
   have:=h.irr w hb
   unfold nb at this ⊢
   rw[this];simp
  ·unfold nb;simp[e]
 obtain⟨g',q1,q2,q3,q4⟩:=E8 hG (l:=Aw (iand .u32 (F.getD b 0) (iandNot .u32 s (ishl .u32 1 (b:Int))))) (Ck _) (λx hx=>by
  obtain⟨w,_,_,rfl⟩:=mem_elems.1 hx
  have:=(hm w).1 hx
  rw[Bool.and_eq_true] at this
  have:=h.lt b w hb this.1
  omega)
 rw[q1]
 congr 1
 refine graph_ext q2 (GOk.grow e2 h1 h16) (by rw[q3,CU,CU,h.len,e2.len]) (λu w hu=> ?_)
 have hu':u<n:=by omega
 rw[q4,Db e2 hu',Db h hu',e3 u w hu',hm,hm]
 simp only[Bool.or_eq_true,Bool.and_eq_true,decide_eq_true_eq]
 constructor
 ·rintro(h|⟨h,h1,h2⟩)
  ·exact .inl h
  ·exact .inr ⟨⟨h1,h2⟩,λe=>h e.symm⟩
 ·rintro(h|⟨⟨h1,h2⟩,h⟩)
  ·exact .inl h
  ·exact .inr ⟨λe=>h e.symm,h1,h2⟩
structure GQ (n i:Nat)(F o:LI)(s:Int):Prop where
 f:FOk F n
 left:SQ n s (n-i)
 len:o.length=i
 rng:∀x∈o,∃v:Nat,x=v∧v<n∧has s v=false
 nd:o.Nodup
theorem idx_F {F:LI}{n v:Nat}(h:FOk F n)(hv:v<n):idx F (v:Int)=some (F.getD v 0):=by
 have:=h.len
 rw[AN (by omega),AX (by omega)]
theorem Eo {g:LL}(hg:GOk g):D.M0 g=some g:=by
 have h16:=hg.n16
 unfold D.M0
 refine(DL g (λs i=>(i,s)) (λr=>r) (by omega) (λs i hi _=> ?_) (λs=> ?_)).trans (by simp)
 ·simp only[dlt hi,cond_true,AN hi,bs,EK _ (hg.sh2.2 _ (List.getElem_mem hi)),wq i]
 ·simp only[Bn,cond_false]
noncomputable def ef (g:LL)(o:LI):Nat→LI×LI×Int
 |0=>(g.map mk,List.replicate g.length 0,full g.length)
 |i+1=>(D2 (ef g o i).1 (ef g o i).2.2 (o.getD i 0),(ef g o i).2.1.set (o.getD i 0).toNat (iand .u32 ((ef g o i).1.getD (o.getD i 0).toNat 0) (iandNot .u32 (ef g o i).2.2 (ishl .u32 1 (o.getD i 0)))),
   iandNot .u32 (ef g o i).2.2 (ishl .u32 1 (o.getD i 0)))
section
variable {g : LL} {o : LI} (hg : GOk g) (ho : OOk g o)
include hg ho
theorem ef_inv :∀i,i≤g.length→EInv g.length (g.map mk) o i (ef g o i).1 (ef g o i).2.1 (ef g o i).2.2
 |0,_=>by
  have h16:=hg.n16
  refine⟨FOk.of hg,by simp[ef],λu hu=> ?_,DJ _,λv=> ?_,λu w _ h=>h,λj v hj=>by omega,λj v u w hj=>by omega,λ_=>rfl,λu w hu _ _ _=>⟨λhh=>⟨u,.me,hh⟩,fun⟨x,hx,e⟩=> ?_⟩,λj v hj=>by omega⟩
  ·rw[show (ef g o 0).2.1=List.replicate g.length 0 from rfl,List.getD_eq_getElem?_getD,List.getElem?_replicate]
   split<;>exact VS.zero
  ·rw[show (ef g o 0).2.2=full g.length from rfl,CM h16];simp
  ·rcases hx.end_ with e2|e2
   ·rw[←e2];exact e
   ·simp at e2
 |i+1,hi=>by
  have h16:=hg.n16;have hl:=ho.len
  have ih:=ef_inv i (by omega)
  have hio:i<o.length:=by omega
  have hr:=ho.rng _ (List.getElem_mem hio)
  obtain⟨v,hv⟩:∃v:Nat,o[i]=(v:Int):=⟨o[i].toNat,by omega⟩
  have hvn:v<g.length:=by omega
  have hd:o.getD i 0=(v:Int):=by rw[AX hio,hv]
  obtain⟨_,k1,k2⟩:=elimF_ok (b:=v) h16 ih.f ih.vsl hvn
  simp only[ef,hd,Int.toNat_natCast]
  refine ih.step h16 (FOk.of hg) ho.rng ho.nd hio hv k1.len k1.vs (λu w hu=> ?_)
  rw[k2 u w hu,BP (ih.f.vs v hvn) (VS.iandNot _ _),BP (ih.f.vs v hvn) (VS.iandNot _ _),Bi ih.vsl (VS.ishl _ _),Bi ih.vsl (VS.ishl _ _),BA (by omega),BA (by omega)]
  have hirr:=ih.f.irr v hvn
  have e:∀x,(has ((ef g o i).1.getD v 0) x&&(has (ef g o i).2.2 x&& !decide (x=v)))=(nb (ef g o i).1 v x&&has (ef g o i).2.2 x):=λx=>by
   by_cases e:x=v
   ·subst e;rw[show has ((ef g o i).1.getD x 0) x=nb (ef g o i).1 x x from rfl,hirr];simp
   ·unfold nb;simp[e]
  rw[e,e]
theorem elim_ef :D.R (g.map mk) o=some ((ef g o g.length).1,(ef g o g.length).2.1):=by
 have h16:=hg.n16;have hl:=ho.len
 have hlen:(g.map mk).length=g.length:=by simp
 unfold D.R
 rw[Br (by simp;omega),bs]
 obtain⟨s,e1,hs1,hs2⟩:=Dq (g.map mk) (by omega)
 rw[e1,bs,C9 (by omega) (by omega),bs]
 simp only[bs,List.nil_append]
 have hsf:s=full g.length:=hs1.ext (DJ _) (λw _=>by rw[hs2,CM h16,hlen])
 refine(B7 (λi=>((ef g o i).1,(ef g o i).2.1,(ef g o i).2.2,(i:Int))) g.length ((ef g o g.length).1,(ef g o g.length).2.1) (by simp[ef,hsf]) (λi hi=> ?_) ?_).trans rfl
 ·have h:=ef_inv hg ho i (by omega)
  have h':=ef_inv hg ho (i+1) (by omega)
  have hio:i<o.length:=by omega
  have hr:=ho.rng _ (List.getElem_mem hio)
  obtain⟨v,hv⟩:∃v:Nat,o[i]=(v:Int):=⟨o[i].toNat,by omega⟩
  have hvn:v<g.length:=by omega
  have hd:o.getD i 0=(v:Int):=by rw[AX hio,hv]
  obtain⟨_,q1,q2⟩:=elimF_ok (b:=v) h16 h.f h.vsl hvn
  simp only[ef,hd,Int.toNat_natCast] at h' ⊢
  generalize (ef g o i).1=F at*
  generalize (ef g o i).2.1=L at*
  generalize (ef g o i).2.2=left at*
  have hFv:idx F (v:Int)=some (F.getD v 0):=by rw[AN (by rw[h.f.len];omega),AX (by rw[h.f.len];omega)]
  have hLs:idx (L.set v (iand .u32 (F.getD v 0) (iandNot .u32 left (ishl .u32 1 (v:Int))))) (v:Int)=some (iand .u32 (F.getD v 0) (iandNot .u32 left (ishl .u32 1 (v:Int)))):=by
   rw[AN (by simp[h.lenL];omega)];simp
  simp only[dlt hio,cond_true,AN hio,hv,bs,BE,hFv,AN (show v<L.length by rw[h.lenL];omega),Int.toNat_natCast]
  rw[hLs]
  simp only[bs,CR _ (VS.iand _ _)]
  have hSlt:∀w,has (iand .u32 (F.getD v 0) (iandNot .u32 left (ishl .u32 1 (v:Int)))) w=true→w<g.length:=λw hw=>by
   rw[BP (h.f.vs v hvn) (VS.iandNot _ _)] at hw
   simp only[Bool.and_eq_true] at hw
   exact h.f.lt v w hvn hw.1
  obtain⟨F',e2,k1,k2,k3⟩:=inner_ok F _ _ h16 h.f.len h.f.vs (VS.iand _ _) hSlt hLs
  have hFF:F'=D2 F left (v:Int):=by
   refine FOk.ext k1 q1.len k2 q1.vs (λu w hu=> ?_)
   rw[k3 u w hu,q2 u w hu,BP (h.f.vs v hvn) (VS.iandNot _ _),BP (h.f.vs v hvn) (VS.iandNot _ _),Bi h.vsl (VS.ishl _ _),Bi h.vsl (VS.ishl _ _),BA (by omega),BA (by omega)]
   have hirr:=h.f.irr v hvn
   have e:∀x,(has (F.getD v 0) x&&(has left x&& !decide (x=v)))=(nb F v x&&has left x):=λx=>by
    by_cases e:x=v
    ·subst e;rw[show has (F.getD x 0) x=nb F x x from rfl,hirr];simp
    ·unfold nb;simp[e]
   rw[e,e]
  rw[hLs] at e2
  simp only[bs] at e2
  rw[e2,bs,wq i,hFF]
 ·simp only[hl,Bn,cond_false]
theorem l7Fill_ef :D.x g o=some (grow (ef g o g.length).1):=by
 have h16:=hg.n16;have hl:=ho.len;have hn1:=hg.n1
 unfold D.x D.b
 rw[Eo hg,bs,bs,C9 (by omega) (by omega),bs]
 refine(B7 (λi=>(BL g.length (ef g o i).2.2,(i:Int),grow (ef g o i).1)) g.length (grow (ef g o g.length).1) (by simp only[ef];rw[E5 h16,ER hg];rfl) (λi hi=> ?_) ?_).trans rfl
 ·have h:=ef_inv hg ho i (by omega)
  have hio:i<o.length:=by omega
  have hr:=ho.rng _ (List.getElem_mem hio)
  obtain⟨v,hv⟩:∃v:Nat,o[i]=(v:Int):=⟨o[i].toNat,by omega⟩
  have hvn:v<g.length:=by omega
  have hd:o.getD i 0=(v:Int):=by rw[AX hio,hv]
  simp only[ef,hd]
  generalize (ef g o i).1=F at*
  generalize (ef g o i).2.1=L at*
  generalize (ef g o i).2.2=s at*
  have hG:=GOk.grow h.f hn1 h16
  have hGl:(grow F).length=g.length:=by rw[CU,h.f.len]
  have hl7:=D3 (grow F) hG (show v<(grow F).length by omega) (BL g.length (iandNot .u32 s (ishl .u32 1 (v:Int)))) (by rw[DD];omega)
  simp only[dlt hio,cond_true,AN hio,hv,bs,Es hvn,Int.toNat_natCast,goneOf_set h.vsl hvn (show g.length≤32 by omega),hl7,clique_grow hn1 h16 h.f h.vsl hvn,wq i]
 ·simp only[hl,Bn,cond_false]
end
end Go.Sx

namespace Go.Sx
structure Net (A:LI)(n:Nat):Prop where
 len:A.length=n
 vs:∀u,u<n→VS (A.getD u 0)
 lt:∀u w,u<n→nb A u w=true→w<n
structure Rch (A:LI)(W:Int)(v:Nat)(S:Int):Prop where
 vs:VS S
 me:has S v=true
 step:∀x y,has S x=true→nb A x y=true→has W y=true→has S y=true
 least:∀T:Nat→Prop,T v→(∀x y,T x→nb A x y=true→has W y=true→T y)→∀x,has S x=true→T x
def cz :LI→LI→Int
 |[],[]=>0
 |[],_::_=> -1
 |_::_,[]=>1
 |a::x,b::y=>if a<b then-1 else if b<a then 1 else cz x y
def lk :Nat→LI→Int
 |0,_=>0
 |_+1,[]=>0
 |d+1,a::l=>(a+1)*33^d+lk d l
def lkey (s:Int):Int:=lk 32 (Aw s)
def CQ (F:LI)(K:Int):Prop:=∀u w,has K u=true→has K w=true→u≠w→nb F u w=true
def MX (F:LI)(n:Nat)(K:Int):Prop:=CQ F K∧∀w,w<n→has K w=false→∃u,has K u=true∧nb F u w=false
def In (n:Nat)(K:Int):Prop:=VS K∧∀w,has K w=true→w<n
structure Tgt (F:LI)(n:Nat)(C O K:Int):Prop where
 ok:In n K
 mx:MX F n K
 sup:∀w,has C w=true→has K w=true
 sub:∀w,has K w=true→has C w=true∨has O w=true
theorem In.lt {n:Nat}{K:Int}(h:In n K)(hn:n≤16):0≤K∧K<65536:=by
 obtain⟨m,rfl,hm⟩:=h.1.nat
 refine⟨by omega,?_⟩
 have:m<2^16:=by
  apply Nat.lt_pow_two_of_testBit
  intro i hi
  cases hc:m.testBit i
  ·rfl
  ·have:=h.2 i (by rw[B8];exact hc)
   omega
 omega
structure BK (F:LI)(n:Nat)(C O S:Int):Prop where
 c:In n C
 o:In n O
 s:In n S
 cq:CQ F C
 cn:∀w,w<n→((has O w=true∨has S w=true)↔∀u,has C u=true→nb F u w=true)
 dis:∀w,has O w=true→has S w=false
theorem iand255 (a:Int):0≤iand .i64 a 255∧iand .i64 a 255≤255:=by
 have e:(BitVec.ofInt 64 255).toNat=255:=rfl
 have h:(BitVec.ofInt 64 a&&&BitVec.ofInt 64 255).toNat≤255:=by
  rw[BitVec.toNat_and,e];exact Nat.and_le_right
 have e2:iand .i64 a 255=(((BitVec.ofInt 64 a&&&BitVec.ofInt 64 255).toNat:Nat):Int):=by
  show IntKind.i64.wrap (((BitVec.ofInt 64 a&&&BitVec.ofInt 64 255).toNat:Nat):Int)=_
  exact w64 (by omega) (by omega)
 rw[e2];omega
theorem new_ok (code:LI)(h:∀x∈code,0≤x∧x≤255)(hl:code.length≤4096):∃z,D.I0 code=some (code,0,z)∧DK code 0:=by
 unfold D.I0
 refine⟨_,(loop_listb code (λs i=>(s,i)) (λs e=>iand .i64 (IntKind.i64.wrap ((IntKind.i64.wrap ((IntKind.i64.wrap (s*331))+(IntKind.i64.wrap e)))+11)) 1073741823) (λs=>s) (λ_=>True) _ trivial (λs i hi _=>⟨?_,trivial⟩) (λs _=> ?_)).trans rfl,h,hl,by omega,by omega⟩
 ·simp only[dlt hi,cond_true,AN hi,bs,wq i]
 ·simp only[Bn,cond_false]
def Dw {α:Type}(b:LI)(P:α→Prop)(e:Option (α×LI×Int×Int)):Prop:=∃y,e=some y∧(P y.1∧y.2.1=b∧DK b y.2.2.1)
theorem Dw.then {α β:Type}{b:LI}{P:α→Prop}{e:Option (α×LI×Int×Int)}{k:α×LI×Int×Int→Option β}{Q:β→Prop}(h:Dw b P e)
  (hk:∀a i z,P a→DK b i→∃y,k (a,b,i,z)=some y∧Q y):∃y,e.bind k=some y∧Q y:=by
 obtain⟨⟨a,b',i,z⟩,rfl,h1,h2,h3⟩:=h
 dsimp only at h1 h2 h3
 subst h2
 exact hk a i z h1 h3
theorem Ec {b:LI}{i:Int}(h:DK b i)(z:Int):Dw b (λr=>0≤r∧r≤255) (D.r b i z):=by
 obtain⟨h1,h2,h3,h4⟩:=h
 unfold D.r
 by_cases hi:i<b.length
 ·simp only[hi,decide_true,cond_true,Ea h3 hi,bs]
  rw[w64 (x:=i+1) (by omega) (by omega)]
  exact⟨_,rfl,iand255 _,rfl,h1,h2,by dsimp only;omega,by dsimp only;omega⟩
 ·simp only[hi,decide_false,cond_false]
  exact⟨_,rfl,iand255 _,rfl,h1,h2,h3,h4⟩
theorem DS {b:LI}{i:Int}(h:DK b i)(z n:Int):Dw b (λr=>0≤r∧(0<n→r<n)) (D.c b i z n):=by
 unfold D.c
 by_cases h0:n≤0
 ·simp only[h0,decide_true,cond_true]
  exact⟨_,rfl,⟨by dsimp only;omega,λ_=>by omega⟩,rfl,h⟩
 ·have hn0:(n==0)=false:=by simp;omega
  simp only[h0,decide_false,cond_false,hn0]
  by_cases h1:n≤256
  ·simp only[h1,decide_true,cond_true]
   refine(Ec h z).then λr i1 z1 hr hk=> ?_
   have:=tmod_rng (x:=r) (n:=n) hr.1 (by omega)
   exact⟨_,rfl,⟨this.1,λ_=>this.2⟩,rfl,hk⟩
  ·simp only[h1,decide_false,cond_false]
   refine(Ec h z).then λr i1 z1 hr hk=> ?_
   refine(Ec hk z1).then λr2 i2 z2 hr2 hk=> ?_
   refine(Ec hk z2).then λr3 i3 z3 hr3 hk=> ?_
   refine(Ec hk z3).then λr4 i4 z4 hr4 hk=> ?_
   dsimp only
   rw[w64 (x:=r*16777216) (by omega) (by omega),w64 (x:=r2*65536) (by omega) (by omega),w64 (x:=r3*256) (by omega) (by omega),w64 (x:=r*16777216+r2*65536) (by omega) (by omega),w64 (x:=r*16777216+r2*65536+r3*256) (by omega) (by omega),w64 (x:=r*16777216+r2*65536+r3*256+r4) (by omega) (by omega)]
   have:=tmod_rng (x:=r*16777216+r2*65536+r3*256+r4) (n:=n) (by omega) (by omega)
   exact⟨_,rfl,⟨this.1,λ_=>this.2⟩,rfl,hk⟩
theorem Ca {b:LI}{i:Int}(h:DK b i)(z n:Int)(hn:0<n):Dw b (λr=>0≤r∧r<n) (D.c b i z n):=by
 obtain⟨y,e,h1,h2⟩:=DS h z n
 exact⟨y,e,⟨h1.1,h1.2 hn⟩,h2⟩
theorem Ej {b:LI}{i:Int}(h:DK b i)(z n:Int):Dw b (λ_:Bool=>True) (D.o b i z n):=by
 unfold D.o
 exact(DS h z n).then λr i1 z1 _ hk=>⟨_,rfl,trivial,rfl,hk⟩
theorem from_dw {b:LI}{i:Int}(h:DK b i)(z m n:Int):Dw b (λ_:Int=>True) (D.v0 b i z m n):=by
 unfold D.v0
 exact(DS h z _).then λr i1 z1 _ hk=>⟨_,rfl,trivial,rfl,hk⟩
theorem odd_dw {b:LI}{i:Int}(h:DK b i)(z:Int):Dw b (λ_:Int=>True) (D.Q0 b i z):=by
 unfold D.Q0
 refine(Ca h z 10 (by omega)).then λr i1 z1 hr hk=> ?_
 rw[Ea hr.1 (by simpa using hr.2),bs]
 exact⟨_,rfl,trivial,rfl,hk⟩
theorem min_ok (a b:Int):∃m,D.y0 a b=some m:=by
 unfold D.y0
 by_cases h:a<b
 ·exact⟨a,by simp[h]⟩
 ·exact⟨b,by simp[h]⟩
theorem num_dw {b:LI}{i:Int}(h:DK b i)(z n:Int):Dw b (λ_:Int=>True) (D.Y b i z n):=by
 unfold D.Y
 refine(Ej h z 10).then λr i1 z1 _ hk=> ?_
 dsimp only
 cases r
 ·simp only[cond_false]
  refine(Ej hk z1 2).then λr i1 z1 _ hk=> ?_
  dsimp only
  cases r
  ·simp only[cond_false]
   exact(DS hk z1 _).then λr i1 z1 _ hk=>⟨_,rfl,trivial,rfl,hk⟩
  ·obtain⟨m,e⟩:=min_ok n 4
   simp only[cond_true,e,bs]
   exact(DS hk z1 _).then λr i1 z1 _ hk=>⟨_,rfl,trivial,rfl,hk⟩
 ·simp only[cond_true]
  refine(odd_dw hk z1).then λq i1 z1 _ hk=> ?_
  refine(Ca hk z1 4 (by omega)).then λr i1 z1 hr hk=> ?_
  dsimp only
  rw[Ea hr.1 (by simpa using hr.2),bs]
  exact⟨_,rfl,trivial,rfl,hk⟩
theorem Er (n:Nat)(hn:n≤100):D.F (n:Int)=some (List.replicate n []):=by
 unfold D.F
 refine(B7 (λi=>((i:Int),List.replicate i [])) n (List.replicate n []) (by simp) (λi hi=> ?_) ?_).trans rfl
 ·simp only[dlt hi,cond_true,wq i]
  rw[Br (by simp;omega),bs,←List.replicate_succ']
 ·simp only[Bn,cond_false]
theorem EI :D.K=D.i:=rfl
theorem Of_deep (n:Nat)(h1:1≤n)(h16:n≤16):D.r0 (n:Int)=some (List.replicate n [],true):=by
 unfold D.r0
 have e1:(decide ((1:Int)≤(n:Int))&&decide ((n:Int)≤16))=true:=by simp;omega
 rw[Ei,bs,e1,Bool.not_true,cond_false,Er n (by omega)];rfl
theorem Path_deep (n:Nat)(h1:1≤n)(h16:n≤16):∃y,D.f0 (n:Int)=some y∧(GOk y.1∧y.1.length=n∧y.2=true):=by
 unfold D.f0
 rw[Of_deep n h1 h16,bs]
 simp only[Bool.and_true]
 refine A3 (λs=>∃v:Nat,s.1=(v:Int)∧1≤v∧v≤n∧GOk s.2∧s.2.length=n) (λs=>n-s.1.toNat) (λr=>GOk r∧r.length=n) ?_ ⟨1,rfl,by omega,h1,GOk.empty h1 h16,by simp⟩ ?_
 ·rintro⟨_,l⟩ ⟨v,rfl,hv1,hvn,hg,hl⟩
  dsimp only at hg hl ⊢
  by_cases hv:v<n
  ·obtain⟨g',k1,k2,k3,_⟩:=DU hg (u:=v-1) (v:=v) (by omega) (by omega) (by omega)
   have e:IntKind.i64.wrap ((v:Int)-1)=((v-1:Nat):Int):=by rw[w64 (by omega) (by omega)];omega
   simp only[dlt hv,cond_true,e,EI,k1,bs,wq v]
   exact⟨_,rfl,⟨v+1,rfl,by omega,by omega,k2,by dsimp only;omega⟩,by dsimp only;omega⟩
  ·obtain rfl:v=n:=by omega
   simp only[Bn,cond_false]
   exact⟨_,rfl,hg,hl⟩
 ·rintro r ⟨hg,hl⟩
  exact⟨_,rfl,hg,hl,rfl⟩
theorem Loop_deep (n:Nat)(h1:3≤n)(h16:n≤16):∃y,D.H0 (n:Int)=some y∧(GOk y.1∧y.1.length=n):=by
 unfold D.H0
 refine CD _ (Path_deep n (by omega) h16) ?_
 rintro⟨g,t⟩ ⟨hg,hl,rfl⟩
 dsimp only at hg hl ⊢
 have e3:decide ((n:Int)<3)=false:=by simp;omega
 obtain⟨g',k1,k2,k3,_⟩:=DU hg (u:=0) (v:=n-1) (by omega) (by omega) (by omega)
 have e:IntKind.i64.wrap ((n:Int)-1)=((n-1:Nat):Int):=by rw[w64 (by omega) (by omega)];omega
 rw[show ((0:Nat):Int)=0 from rfl] at k1
 simp only[Bool.not_true,Bool.false_or,e3,cond_false,EI,e,k1,bs]
 exact⟨_,rfl,k2,by dsimp only;omega⟩
theorem DrawOf_deep {b:LI}{i:Int}(h:DK b i)(z:Int)(n:Nat)(h1:1≤n)(h16:n≤16):Dw b (λg=>GOk g∧g.length=n) (D.X0 b i z (n:Int)):=by
 unfold D.X0
 rw[Er n (by omega),bs]
 refine(Ca h z 3 (by omega)).then λq i0 z0 hq k2=> ?_
 dsimp only
 refine A3 (λs=>∃v:Nat,s.1=(v:Int)∧1≤v∧v≤n∧s.2.1=b∧DK b s.2.2.1∧GOk s.2.2.2.2∧s.2.2.2.2.length=n) (λs=>n-s.1.toNat)
  (λr=>r.2.1=b∧DK b r.2.2.1∧GOk r.1∧r.1.length=n) ?_ ⟨1,rfl,by omega,h1,rfl,k2,GOk.empty h1 h16,by simp⟩ ?_
 ·rintro⟨_,b2,i,z,g⟩ ⟨v,rfl,g1,g2,rfl,hk,hg,hl⟩
  dsimp only at hk hg hl ⊢
  by_cases hv:v<n
  ·simp only[dlt hv,cond_true]
   refine A3 (λs=>∃u:Nat,s.1=(u:Int)∧u≤v∧s.2.1=b2∧DK b2 s.2.2.1∧GOk s.2.2.2.2∧s.2.2.2.2.length=n) (λs=>v-s.1.toNat)
    (λr=>r.1=b2∧DK b2 r.2.1∧GOk r.2.2.2∧r.2.2.2.length=n) ?_ ⟨0,rfl,by omega,rfl,hk,hg,hl⟩ ?_
   ·rintro⟨_,b2,i,z,g⟩ ⟨u,rfl,g3,rfl,hk,hg,hl⟩
    dsimp only at hk hg hl ⊢
    by_cases hu:u<v
    ·simp only[dlt hu,cond_true]
     refine(Ca hk z 4 (by omega)).then λt i3 z3 ht hk'=> ?_
     dsimp only
     by_cases hc:t<IntKind.i64.wrap (1+q)
     ·obtain⟨g',k1,k3,k4,_⟩:=DU hg (u:=u) (v:=v) (by omega) (by omega) (by omega)
      simp only[hc,decide_true,cond_true,EI,k1,bs,wq u]
      exact⟨_,rfl,⟨u+1,rfl,by omega,rfl,hk',k3,by dsimp only;omega⟩,by dsimp only;omega⟩
     ·simp only[hc,decide_false,cond_false,wq u]
      exact⟨_,rfl,⟨u+1,rfl,by omega,rfl,hk',hg,hl⟩,by dsimp only;omega⟩
    ·obtain rfl:u=v:=by omega
     simp only[Bn,cond_false]
     exact⟨_,rfl,rfl,hk,hg,hl⟩
   ·rintro⟨b2,i3,z3,g⟩ ⟨rfl,hk',hg',hl'⟩
    dsimp only at hk' hg' hl' ⊢
    simp only[wq v]
    exact⟨_,rfl,⟨v+1,rfl,by omega,by omega,rfl,hk',hg',hl'⟩,by dsimp only;omega⟩
  ·obtain rfl:v=n:=by omega
   simp only[Bn,cond_false]
   exact⟨_,rfl,rfl,hk,hg,hl⟩
 ·rintro⟨g,b2,i3,z3⟩ ⟨rfl,hk,hg,hl⟩
  exact⟨_,rfl,⟨hg,hl⟩,rfl,hk⟩
theorem Draw_deep {b:LI}{i:Int}(h:DK b i)(z:Int):Dw b (λg=>GOk g∧g.length≤7) (D.C0 b i z):=by
 unfold D.C0
 refine(Ca h z 6 (by omega)).then λq i0 z0 hq hk=> ?_
 dsimp only
 by_cases h0:q=0
 ·have e0:(q==0)=true:=by simp[h0]
  simp only[e0,cond_true]
  refine(Ca hk z0 4 (by omega)).then λr i1 z1 hr hk=> ?_
  dsimp only
  have e:IntKind.i64.wrap (3+r)=((3+r.toNat:Nat):Int):=by rw[w64 (by omega) (by omega)];omega
  rw[e]
  refine CD _ (Loop_deep (3+r.toNat) (by omega) (by omega)) ?_
  rintro⟨g,t⟩ ⟨hg,hl⟩
  exact⟨_,rfl,⟨hg,by dsimp only at hl ⊢;omega⟩,rfl,hk⟩
 ·have e0:(q==0)=false:=by simp[h0]
  simp only[e0,cond_false]
  by_cases h1:q=1
  ·have e1:(q==1)=true:=by simp[h1]
   simp only[e1,cond_true]
   refine(Ca hk z0 6 (by omega)).then λr i1 z1 hr hk=> ?_
   dsimp only
   have e:IntKind.i64.wrap (1+r)=((1+r.toNat:Nat):Int):=by rw[w64 (by omega) (by omega)];omega
   rw[e]
   refine CD _ (Path_deep (1+r.toNat) (by omega) (by omega)) ?_
   rintro⟨g,t⟩ ⟨hg,hl,_⟩
   exact⟨_,rfl,⟨hg,by dsimp only at hl ⊢;omega⟩,rfl,hk⟩
  ·have e1:(q==1)=false:=by simp[h1]
   simp only[e1,cond_false]
   refine(Ca hk z0 7 (by omega)).then λr i1 z1 hr hk=> ?_
   dsimp only
   have e:IntKind.i64.wrap (1+r)=((1+r.toNat:Nat):Int):=by rw[w64 (by omega) (by omega)];omega
   rw[e]
   refine(DrawOf_deep hk z1 (1+r.toNat) (by omega) (by omega)).then λg i2 z2 hg hk=> ?_
   exact⟨_,rfl,⟨hg.1,by have:=hg.2;dsimp only;omega⟩,rfl,hk⟩
def Few (g:LL):Prop:=g.length≤17∧∀r∈g,r.length≤17
theorem Few.sh2 {g:LL}(h:Few g):Sh2 g:=⟨by have:=h.1;unfold Sh;omega,λr hr=>by have:=h.2 r hr;unfold Sh;omega⟩
theorem GOk.few {g:LL}(hg:GOk g):Few g:=by
 have h16:=hg.n16
 exact⟨by omega,λr hr=>by have:=(hg.mem0 hr).1;omega⟩
theorem Few.set {g:LL}(h:Few g)(k:Nat){r:LI}(hr:r.length≤17):Few (g.set k r):=by
 refine⟨by have:=h.1;simpa using this,λx hx=> ?_⟩
 rcases List.mem_or_eq_of_mem_set hx with hx|rfl
 ·exact h.2 x hx
 ·exact hr
theorem DrawAny_dw {b:LI}{i:Int}(h:DK b i)(z:Int):Dw b Few (D.k0 b i z):=by
 unfold D.k0
 refine(Draw_deep h z).then λg i0 z0 hg hk=> ?_
 have hn1:=hg.1.n1
 have hf:=hg.1.few
 refine(Ej hk z0 12).then λt i1 z1 _ hk=> ?_
 dsimp only
 cases t
 ·exact⟨_,rfl,hf,rfl,hk⟩
 ·simp only[cond_true]
  refine(Ca hk z1 g.length (by omega)).then λv i2 z2 hv hk=> ?_
  refine(Ca hk z2 5 (by omega)).then λq i3 z3 hq hk=> ?_
  dsimp only
  have hrow:=Ea (xs:=g) hv.1 hv.2
  have hmem:g[v.toNat]'(by omega)∈g:=List.getElem_mem _
  have hrl:=(hg.1.mem0 hmem).1
  rcases(show q=0∨q=1∨q=2∨q=3∨q=4 by omega) with rfl|rfl|rfl|rfl|rfl
  ·simp only[hrow,bs,show ((0:Int)==0)=true from rfl,cond_true]
   refine CD (λy=>Few y.1∧y.2.1=b∧DK b y.2.2.1) ?_ (λy hy=>⟨_,rfl,hy⟩)
   refine(num_dw hk z3 16).then λw i4 z4 _ hk=> ?_
   dsimp only
   rw[Br (by simp;omega),bs]
   exact⟨_,rfl,hf.set _ (by simp;omega),rfl,hk⟩
  ·simp only[hrow,bs,show ((1:Int)==0)=false from rfl,show ((1:Int)==1)=true from rfl,cond_true,cond_false]
   exact⟨_,rfl,hf.set _ (by simp),rfl,hk⟩
  ·simp only[show ((2:Int)==0)=false from rfl,show ((2:Int)==1)=false from rfl,show ((2:Int)==2)=true from rfl,cond_true,cond_false]
   refine(Ca hk z3 2 (by omega)).then λw i4 z4 hw hk=> ?_
   dsimp only
   have e:IntKind.i64.wrap (16+w)=((16+w.toNat:Nat):Int):=by rw[w64 (by omega) (by omega)];omega
   rw[e,Er _ (by omega),bs]
   exact⟨_,rfl,⟨by simp;omega,λr hr=>by have:=List.eq_of_mem_replicate hr;subst this;simp⟩,rfl,hk⟩
  ·simp only[show ((3:Int)==0)=false from rfl,show ((3:Int)==1)=false from rfl,show ((3:Int)==2)=false from rfl,show ((3:Int)==3)=true from rfl,cond_true,cond_false]
   exact⟨_,rfl,⟨by simp,by simp⟩,rfl,hk⟩
  ·simp only[hrow,bs,show ((4:Int)==0)=false from rfl,show ((4:Int)==1)=false from rfl,show ((4:Int)==2)=false from rfl,show ((4:Int)==3)=false from rfl,show ((4:Int)==4)=true from rfl,cond_true,cond_false]
   exact⟨_,rfl,hf.set _ (by simp),rfl,hk⟩
theorem DrawOrder_dw {b:LI}{i:Int}(h:DK b i)(z:Int){g:LL}(hg:Few g):Dw b (λo:LI=>o.length≤17) (D.Q b i z g):=by
 have hgl:=hg.1
 unfold D.Q
 rw[l1All_eq g.length (by omega),bs]
 refine A3 (λs=>s.1.length+s.2.1.length=g.length∧s.2.2.1=b∧DK b s.2.2.2.1) (λs=>s.1.length) (λr=>r.1.length≤17∧r.2.1=b∧DK b r.2.2.1) ?_ ⟨by simp,rfl,h⟩ ?_
 ·rintro⟨l,o,b2,i,z⟩ ⟨hl,rfl,hk⟩
  dsimp only at hl hk ⊢
  by_cases h0:0<l.length
  ·have e:decide ((0:Int)<(l.length:Int))=true:=by simp;omega
   simp only[e,cond_true]
   refine(Ca hk z l.length (by omega)).then λv i2 z2 hv hk=> ?_
   dsimp only
   obtain⟨k,rfl⟩:∃k:Nat,v=k:=⟨v.toNat,by omega⟩
   have hkl:k<l.length:=by omega
   rw[AN hkl,bs,Br (by simp;omega),bs,CX (by omega),bs,wq k,E9 (by omega),bs,
    EK _ (show Sh (l.take k) by unfold Sh;rw[List.length_take];omega),bs,Br (by simp;omega),bs]
   refine⟨_,rfl,⟨by simp;omega,rfl,hk⟩,by simp;omega⟩
  ·have e:decide ((0:Int)<(l.length:Int))=false:=decide_eq_false (by omega)
   simp only[e,cond_false]
   exact⟨_,rfl,by dsimp only;omega,rfl,hk⟩
 ·rintro⟨o,b2,i2,z2⟩ ⟨ho,rfl,hk⟩
  dsimp only at ho hk ⊢
  refine(Ej hk z2 15).then λt i3 z3 _ hk=> ?_
  dsimp only
  by_cases hc:(t&&decide ((0:Int)<(o.length:Int)))=true
  ·rw[hc,cond_true]
   have h0:0<o.length:=by simp at hc;omega
   refine(Ca hk z3 o.length (by omega)).then λv i4 z4 hv hk=> ?_
   refine(from_dw hk z4 (-1) 7).then λw i5 z5 _ hk=> ?_
   dsimp only
   rw[Ea hv.1 hv.2,bs]
   exact⟨_,rfl,by simpa using ho,rfl,hk⟩
  ·rw[Bool.not_eq_true] at hc
   rw[hc,cond_false]
   exact⟨_,rfl,ho,rfl,hk⟩
def Cq (g:LL)(x:LI):Prop:=∀u w:Nat,(u:Int)∈x→(w:Int)∈x→u≠w→adj g u w
structure Fin' (g:LL)(x:LI):Prop where
 inc:Inc x
 rng:∀z∈x,0≤z∧z<g.length
 cq:Cq g x
 mx:∀w,w<g.length→∃u:Nat,(u:Int)∈x∧¬adj g u w
structure SK (g:LL)(set left out:LI):Prop where
 inc:Inc (set++left)
 r1:∀z∈set++left,0≤z∧z<g.length
 r2:∀z∈out,0≤z∧z<g.length
 cq:Cq g set
 cn:∀w:Nat,w<g.length→(((w:Int)∈left∨(w:Int)∈out)↔∀u:Nat,(u:Int)∈set→adj g u w)
 len:out.length+left.length≤16
structure GC (g:LL)(l:LI):Prop where
 up:l.Pairwise λa b=>lkey a<lkey b
 mem:∀K,K∈l↔In g.length K∧MX (g.map mk) g.length K
def Cu (f:Int→Nat):LI→Nat
 |[]=>0
 |x::l=>f x+Cu f l
theorem isum_app (f:Int→Nat):∀l l',Cu f (l++l')=Cu f l+Cu f l'
 |[],l'=>by simp[Cu]
 |x::l,l'=>by simp only[List.cons_append,Cu];rw[isum_app f l l'];omega
theorem EJ (f:Int→Nat)(l:LI)(x:Int):Cu f (l++[x])=Cu f l+f x:=by rw[isum_app];simp[Cu]
theorem isum_els (f:Int→Nat)(s:Int):∀n,Cu f (els s n)=BM (λv=>if has s v then f (v:Int) else 0) n
 |0=>rfl
 |n+1=>by
  rw[els_succ]
  simp only[BM]
  rw[←isum_els f s n]
  cases has s n
  ·simp
  ·simp only[if_true];rw[EJ]
theorem isum_elems (f:Int→Nat){s:Int}{n:Nat}(hn:n≤32)(h:∀v,has s v=true→v<n):Cu f (Aw s)=BM (λv=>if has s v then f (v:Int) else 0) n:=by
 rw[←els_all hn h,isum_els]
theorem isum_le (f:Int→Nat)(b:Nat):∀(l:LI),(∀x∈l,f x≤b)→Cu f l≤l.length*b
 |[],_=>by simp[Cu]
 |x::l,h=>by
  have h1:=isum_le f b l (λy hy=>h y (List.mem_cons_of_mem _ hy))
  have h2:=h x (by simp)
  simp only[Cu,List.length_cons,Nat.succ_mul]
  omega
theorem sum_bit (c:Bool)(p:Nat→Bool)(n:Nat):BM (λw=>bit (c&&p w)) n=if c then BM (λw=>bit (p w)) n else 0:=by
 cases c
 ·simp only[Bool.false_and];exact EM n
 ·simp
def mis (F:LI)(n:Nat)(S:Int):Nat:=S2 n (λu w=>has S u&&(has S w&&(decide (w<u)&& !nb F w u)))
theorem DY {F:LI}{n:Nat}{S:Int}(h16:n≤16)(h:FOk F n)(hS:VS S)(hlt:∀v,has S v=true→v<n):D.A F S=some (mis F n S:Int):=by
 have hel:=BX S
 have hf:∀(S':Int),(Aw S').length≤32:=BX
 have hb:∀i,Cu (λu=>(Aw (iandNot .u32 (iandNot .u32 S (F.getD u.toNat 0)) (ishl .u32 1 u))).length) ((Aw S).take i)≤1024:=λi=>by
  have:=isum_le (λu=>(Aw (iandNot .u32 (iandNot .u32 S (F.getD u.toNat 0)) (ishl .u32 1 u))).length) 32 ((Aw S).take i) (λx _=>hf _)
  have h2:((Aw S).take i).length≤32:=by rw[List.length_take];omega
  have:=Nat.mul_le_mul_right 32 h2
  omega
 have hsum:Cu (λu=>(Aw (iandNot .u32 (iandNot .u32 S (F.getD u.toNat 0)) (ishl .u32 1 u))).length) (Aw S)=2*mis F n S:=by
  rw[isum_elems _ (n:=n) (by omega) hlt]
  have e1:S2 n (λu w=>has S u&&(has S w&&(!nb F u w&&decide (w≠u))))=BM (λv=>if has S v then(Aw (iandNot .u32 (iandNot .u32 S (F.getD v 0)) (ishl .u32 1 (v:Int)))).length else 0) n:=by
   unfold S2
   refine Cx λu hu=> ?_
   rw[sum_bit]
   have hh:∀w,has (iandNot .u32 (iandNot .u32 S (F.getD u 0)) (ishl .u32 1 (u:Int))) w=(has S w&&(!nb F u w&&decide (w≠u))):=λw=>by
    rw[Bi (VS.iandNot _ _) (VS.ishl _ _),Bi hS (h.vs u hu),BA (by omega)]
    unfold nb
    by_cases e:w=u<;>simp[e]
   rw[elems_sum (n:=n) (by omega) (λv hv=>by rw[hh,Bool.and_eq_true] at hv;exact hlt v hv.1)]
   simp only[hh]
  have e2:(λv:Nat=>if has S v then(λu:Int=>(Aw (iandNot .u32 (iandNot .u32 S (F.getD u.toNat 0)) (ishl .u32 1 u))).length) (v:Int) else 0)=(λv:Nat=>if has S v then(Aw (iandNot .u32 (iandNot .u32 S (F.getD v 0)) (ishl .u32 1 (v:Int)))).length else 0):=by
   funext v;simp only[Int.toNat_natCast]
  rw[e2,←e1]
  rw[S2_half (n:=n) (A:=λu w=>has S u&&(has S w&&(!nb F u w&&decide (w≠u)))) (lt:=λu w=>decide (w<u)) ?_ ?_ ?_]
  ·congr 1
   unfold mis
   refine S2_congr λu w hu hw=> ?_
   have hsym:nb F u w=nb F w u:=by
    rw[Bool.eq_iff_iff]
    exact⟨h.sym u w hu,h.sym w u hw⟩
   rw[hsym]
   by_cases e:w<u
   ·have:decide (w≠u)=true:=by simp;omega
    simp[e,this]
   ·simp[e]
  ·intro u w hu hw
   have hsym:nb F u w=nb F w u:=by
    rw[Bool.eq_iff_iff]
    exact⟨h.sym u w hu,h.sym w u hw⟩
   rw[hsym]
   by_cases e:w=u
   ·subst e;rfl
   ·have e':¬u=w:=λx=>e x.symm
    cases has S u<;>cases has S w<;>simp[e,e']
  ·intro u w hu hw ha
   simp only[Bool.and_eq_true,decide_eq_true_eq] at ha ⊢
   omega
  ·intro u w hu hw h1 h2
   simp only[decide_eq_true_eq] at h1 h2
   omega
 unfold D.A
 rw[CR S hS,bs]
 refine(B7 (λi=>(((Cu (λu=>(Aw (iandNot .u32 (iandNot .u32 S (F.getD u.toNat 0)) (ishl .u32 1 u))).length) ((Aw S).take i):Nat):Int),(i:Int))) (Aw S).length ((Cu (λu=>(Aw (iandNot .u32 (iandNot .u32 S (F.getD u.toNat 0)) (ishl .u32 1 u))).length) (Aw S):Nat):Int) (by simp[Cu]) (λi hi=> ?_) ?_).trans ?_
 ·obtain⟨v,_,q1,q2⟩:=mem_elems.1 (List.getElem_mem hi)
  have hb1:=hb i
  have hb2:=hf (iandNot .u32 (iandNot .u32 S (F.getD v 0)) (ishl .u32 1 (v:Int)))
  rw[List.take_succ_eq_append_getElem hi,EJ,q2]
  simp only[dlt hi,cond_true,AN hi,q2,bs,idx_F h (hlt v q1),BE,size_eq (VS.iandNot _ _),wq i,Int.toNat_natCast]
  rw[w64 (by omega) (by omega)]
  rfl
 ·simp only[Bn,cond_false,List.take_length]
 ·have:=hb (Aw S).length
  rw[List.take_length,hsum] at this
  rw[hsum]
  congr 1
  rw[Int.tdiv_eq_ediv_of_nonneg (by omega)]
  have e:((2*mis F n S:Nat):Int)/2=(mis F n S:Int):=by omega
  rw[e,w64 (by omega) (by omega)]
theorem take_less {l:LI}(h:Inc l){i:Nat}(hi:i<l.length)(q:Int→Bool):(l.take i).filter q=l.filter (λy=>decide (y<l[i])&&q y):=by
 have e:=List.take_append_drop i l
 have h1:∀y∈l.take i,y<l[i]:=λy hy=>by
  obtain⟨k,hk,hki,rfl⟩:=mem_take_iff.1 hy
  exact(List.pairwise_iff_getElem.1 h) k i hk hi hki
 have h2:∀y∈l.drop i,¬y<l[i]:=λy hy=>by
  obtain⟨k,hk,rfl⟩:=List.getElem_of_mem hy
  rw[List.getElem_drop]
  rw[List.length_drop] at hk
  by_cases hk0:k=0
  ·subst hk0;simp
  ·have:=(List.pairwise_iff_getElem.1 h) i (i+k) hi (by omega) (by omega)
   omega
 have h3:l.filter (λy=>decide (y<l[i])&&q y)=(l.take i).filter (λy=>decide (y<l[i])&&q y)++(l.drop i).filter (λy=>decide (y<l[i])&&q y):=by
  rw[←List.filter_append,e]
 have h4:(l.drop i).filter (λy=>decide (y<l[i])&&q y)=[]:=List.filter_eq_nil_iff.2 (λy hy=>by simp[h2 y hy])
 rw[h3,h4,List.append_nil]
 exact List.filter_congr λy hy=>by simp[h1 y hy]
theorem Fk {F:LI}{n:Nat}{S:Int}(h1:1≤n)(h16:n≤16)(h:FOk F n)(hS:VS S)(hlt:∀v,has S v=true→v<n):D.a0 (grow F) (Aw S)=some (mis F n S:Int):=by
 have hel:=BX S
 have hG:=GOk.grow h h1 h16
 have hGl:(grow F).length=n:=by rw[CU,h.len]
 have hsum:Cu (λx=>((Aw S).filter λy=>decide (y<x)&& !decide (x∈row (grow F) y.toNat)).length) (Aw S)=mis F n S:=by
  rw[isum_elems _ (n:=n) (by omega) hlt]
  unfold mis S2
  refine Cx λu hu=> ?_
  rw[sum_bit]
  by_cases hu':has S u=true
  ·rw[if_pos hu',if_pos hu',Fc (n:=n) (by omega) hlt]
   refine Cx λw hw=> ?_
   congr 2
   have e1:decide ((w:Int)<(u:Int))=decide (w<u):=by simp
   have e2:decide ((u:Int)∈row (grow F) ((w:Int).toNat))=nb F w u:=by
    rw[Bool.eq_iff_iff,decide_eq_true_eq,Int.toNat_natCast]
    exact Db h hw
   rw[e1,e2]
  ·rw[if_neg hu',if_neg hu']
 have hb:∀i,Cu (λx=>((Aw S).filter λy=>decide (y<x)&& !decide (x∈row (grow F) y.toNat)).length) ((Aw S).take i)≤1024:=λi=>by
  have:=isum_le (λx=>((Aw S).filter λy=>decide (y<x)&& !decide (x∈row (grow F) y.toNat)).length) 32 ((Aw S).take i) (λx _=>Nat.le_trans (List.length_filter_le _ _) hel)
  have h2:((Aw S).take i).length≤32:=by rw[List.length_take];omega
  have:=Nat.mul_le_mul_right 32 h2
  omega
 unfold D.a0
 refine(B7 (λi=>(((Cu (λx=>((Aw S).filter λy=>decide (y<x)&& !decide (x∈row (grow F) y.toNat)).length) ((Aw S).take i):Nat):Int),(i:Int))) (Aw S).length (mis F n S:Int) (by simp[Cu]) (λi hi=> ?_) ?_).trans rfl
 ·obtain⟨u,_,q1,q2⟩:=mem_elems.1 (List.getElem_mem hi)
  have hb1:=hb i
  simp only[dlt hi,cond_true]
  refine(B7 (λk=>(((Cu (λx=>((Aw S).filter λy=>decide (y<x)&& !decide (x∈row (grow F) y.toNat)).length) ((Aw S).take i)+(((Aw S).take k).filter (λy=> !decide ((Aw S)[i]∈row (grow F) y.toNat))).length:Nat):Int),(k:Int))) i ((Cu (λx=>((Aw S).filter λy=>decide (y<x)&& !decide (x∈row (grow F) y.toNat)).length) ((Aw S).take (i+1)):Nat):Int) (by simp) (λk hk=> ?_) ?_).trans ?_
  ·have hkl:k<(Aw S).length:=by omega
   obtain⟨w,_,p1,p2⟩:=mem_elems.1 (List.getElem_mem hkl)
   have hlen:(((Aw S).take k).filter (λy=> !decide ((Aw S)[i]∈row (grow F) y.toNat))).length≤32:=Nat.le_trans (List.length_filter_le _ _) (by rw[List.length_take];omega)
   rw[List.take_succ_eq_append_getElem hkl,List.filter_append,List.length_append]
   simp only[dlt hk,cond_true,AN hkl,AN hi,p2,q2,bs,Du (grow F) hG (show w<(grow F).length by rw[hGl];exact hlt w p1),wq k,List.filter_cons,List.filter_nil,Int.toNat_natCast]
   rw[q2] at hlen
   by_cases hm:(u:Int)∈row (grow F) w
   ·simp only[hm,decide_true,Bool.not_true,cond_false,Bool.false_eq_true,if_false,List.length_nil,Nat.add_zero]
   ·simp only[hm,decide_false,Bool.not_false,cond_true,if_true,List.length_singleton]
    rw[w64 (by omega) (by omega)]
    rfl
  ·simp only[Bn,cond_false]
   rw[take_less (Ck S) hi,List.take_succ_eq_append_getElem hi,EJ]
  ·rw[wq i]
 ·simp only[Bn,cond_false,List.take_length,hsum]
def cd (F:LI)(s v:Int):Int:=((Aw (iand .u32 (F.getD v.toNat 0) s)).length:Int)
def cf (n:Nat)(F:LI)(s v:Int):Int:=(mis F n (iand .u32 (F.getD v.toNat 0) s):Int)
section
variable {g : LL} (hg : GOk g)
include hg
theorem near_lt {F:LI}{s:Int}{v:Nat}(h:FOk F g.length)(hs:VS s)(hv:v<g.length):∀w,has (iand .u32 (F.getD v 0) s) w=true→w<g.length:=λw hw=>by
 rw[BP (h.vs v hv) hs,Bool.and_eq_true] at hw
 exact h.lt v w hv hw.1
theorem OOk.shl {o:LI}(ho:OOk g o):Sh o:=ho.sh hg
end
theorem DA (x:LI)(h:Sh x):D.t0 x x=some true:=by
 unfold Sh at h
 unfold D.t0
 have e:((x.length:Int) !=(x.length:Int))=false:=by simp
 rw[e,cond_false]
 refine(B7 (λi=>(i:Int)) x.length (.inl ()) rfl (λi hi=> ?_) ?_).trans rfl
 ·simp only[dlt hi,cond_true,AN hi,bs,bne_self_eq_false,cond_false,wq i]
 ·simp only[Bn,cond_false]
end Go.Sx

namespace Go.Sx
def S16 (s:Int):Prop:=0≤s∧s<65536
theorem S16.vs {s:Int}(h:S16 s):VS s:=⟨h.1,by have:=h.2;omega⟩
theorem S16.nat {s:Int}(h:S16 s):∃n:Nat,s=n∧n<65536:=⟨s.toNat,by have:=h.1;omega,by have:=h.1;have:=h.2;omega⟩
theorem S16.lt {s:Int}(h:S16 s){v:Nat}(hv:has s v=true):v<16:=by
 obtain⟨n,rfl,hn⟩:=h.nat
 rw[B8] at hv
 have:=Nat.ge_two_pow_of_testBit hv
 apply Classical.byContradiction
 intro hc
 have h2:2^16≤2^v:=Nat.pow_le_pow_right (by omega) (by omega)
 omega
theorem In.of {n i:Nat}(h:i<2^n)(hn:n≤16):In n (i:Int):=by
 have:2^n≤2^16:=Nat.pow_le_pow_right (by omega) hn
 refine⟨⟨by omega,by omega⟩,λw hw=> ?_⟩
 rw[B8] at hw
 have:=Nat.ge_two_pow_of_testBit hw
 apply Classical.byContradiction
 intro hc
 have h2:2^n≤2^w:=Nat.pow_le_pow_right (by omega) (by omega)
 omega
theorem l7Fill_ok {g:LL}{o:LI}(hg:GOk g)(ho:OOk g o):∃x,D.x g o=some x∧GOk x:=by
 have h16:=hg.n16;have hl:=ho.len
 unfold D.x D.b
 rw[Eo hg,bs,bs,C9 (by omega) (by omega),bs]
 refine A3 (λs=>∃i:Nat,s.2.1=(i:Int)∧i≤o.length∧s.1.length=g.length∧GOk s.2.2∧s.2.2.length=g.length) (λs=>o.length-s.2.1.toNat) (λr=>GOk r) ?_ ⟨0,rfl,by omega,by simp,hg,rfl⟩ (λr hr=>⟨r,rfl,hr⟩)
 rintro⟨gone,_,x⟩ ⟨i,rfl,hi,hgl,hx,hxl⟩
 dsimp only at hgl hx hxl ⊢
 by_cases hil:i<o.length
 ·have hr:=ho.rng _ (List.getElem_mem hil)
  obtain⟨v,hv⟩:∃v:Nat,o[i]=(v:Int):=⟨o[i].toNat,by omega⟩
  have hvn:v<g.length:=by omega
  simp only[dlt hil,cond_true,AN hil,hv,bs,AN (show v<gone.length by omega),Int.toNat_natCast,wq i]
  rw[D3 x hx (by omega) (gone.set v true) (by simp;omega),bs]
  obtain⟨x',e,k1,k2,_⟩:=E8 hx (lft_inc hx (show v<x.length by omega) (gone.set v true)) (lft_rng hx (by omega) _)
  rw[e,bs]
  exact⟨_,rfl,⟨i+1,rfl,by omega,by simp[hgl],k1,by dsimp only;omega⟩,by dsimp only;omega⟩
 ·obtain rfl:i=o.length:=by omega
  simp only[Bn,cond_false]
  exact⟨_,rfl,hx⟩
theorem FillOf_few {g:LL}{o:LI}(hg:Few g)(ho:Sh o):∃y,D.y g o=some y∧Few y.1:=by
 unfold D.y
 rw[DW g o hg.sh2 ho,bs]
 cases hc:gB g&&ordB g o
 ·exact⟨_,rfl,by simp,by simp⟩
 ·rw[Bool.and_eq_true] at hc
  obtain⟨x,e,hx⟩:=l7Fill_ok ((gB_iff g).1 hc.1) ((ordB_iff g o).1 hc.2)
  rw[Bool.not_true,cond_false,e]
  exact⟨_,rfl,hx.few⟩
theorem l8Draw_dw {b:LI}{i:Int}(h:DK b i)(z:Int):Dw b Few (D.v b i z):=by
 unfold D.v
 refine(DrawAny_dw h z).then λg i0 z0 hg hk=> ?_
 refine(Ej hk z0 2).then λt i1 z1 _ hk=> ?_
 dsimp only
 cases t
 ·exact⟨_,rfl,hg,rfl,hk⟩
 ·simp only[cond_true]
  refine(DrawOrder_dw hk z1 hg).then λo i2 z2 ho hk=> ?_
  refine CD _ (FillOf_few hg (show Sh o by unfold Sh;omega)) ?_
  rintro⟨x,t⟩ hx
  dsimp only at hx ⊢
  cases t
  ·exact⟨_,rfl,hg,rfl,hk⟩
  ·exact⟨_,rfl,hx,rfl,hk⟩
theorem clq_pairs {g:LL}(hg:GOk g){l:LI}(hr:∀x∈l,0≤x∧x<g.length)(h:Clq g l l.length):∀u w:Nat,(u:Int)∈l→(w:Int)∈l→u≠w→adj g u w:=by
 intro u w hu hw hne
 obtain⟨i,hi,ei⟩:=List.getElem_of_mem hu
 obtain⟨k,hk,ek⟩:=List.getElem_of_mem hw
 have ru:=hr _ hu;have rw':=hr _ hw
 rcases Nat.lt_trichotomy i k with c|c|c
 ·have:=h k i hk c
  rw[AX hi,AX hk,ei,ek,Int.toNat_natCast,Int.toNat_natCast] at this
  exact this
 ·subst c;rw[ei] at ek;omega
 ·have:=h i k hi c
  rw[AX hi,AX hk,ei,ek,Int.toNat_natCast,Int.toNat_natCast] at this
  exact hg.sym w u (by omega) this
theorem EX {g:LL}(hg:GOk g):∃y,D.P g=some y∧(y.2=true→OOk g y.1∧PEOg g y.1):=by
 have h16:=hg.n16
 unfold D.P D.b
 rw[BI g hg.sh2,CC hg]
 simp only[bs,Bool.not_true,cond_false]
 rw[C9 (by omega) (by omega),bs]
 refine A3
  (λs=>s.1.length=g.length∧s.2.length≤g.length∧s.2.Nodup∧(∀x∈s.2,0≤x∧x<g.length)∧(∀v,v<g.length→(s.1.getD v false=true↔(v:Int)∈s.2))∧PEOg g s.2) (λs=>g.length-s.2.length)
  (λr=>(∃l,r= .inl l∧OOk g l∧PEOg g l)∨∃l,r= .inr (l,false)) ?_ ?_ ?_
 ·rintro⟨gone,out⟩ ⟨hgl,hol,hnd,hrg,hm,hpe⟩
  dsimp only at hgl hol hnd hrg hm hpe ⊢
  by_cases hlt:out.length<g.length
  ·simp only[dlt hlt,cond_true]
   refine A3 (λx=>∃v:Nat,x=(v:Int)∧v≤g.length) (λx=>g.length-x.toNat) (λr=>∃v:Nat,r=(v:Int)∧v≤g.length∧(v<g.length→gone.getD v false=false∧Clq g (lft g v gone) (lft g v gone).length)) ?_ ⟨0,rfl,by omega⟩ ?_
   ·rintro _ ⟨v,rfl,hv⟩
    by_cases hvn:v<g.length
    ·have hgv:gone[v]'(by omega)=gone.getD v false:=(AX (by omega) _).symm
     simp only[dlt hvn,cond_true,AN (show v<gone.length by omega),bs,wq v]
     cases hc:gone[v]'(by omega)
     ·rw[cond_false,D3 g hg hvn gone hgl,bs]
      obtain⟨b,e1,h1⟩:=l8Clique_ok g hg (lft g v gone) (lft_len hg hvn _) (lft_rng hg hvn _)
      rw[e1,bs]
      cases b
      ·rw[Bool.not_false,cond_true]
       exact⟨_,rfl,⟨v+1,rfl,by omega⟩,by simp;omega⟩
      ·rw[Bool.not_true,cond_false]
       exact⟨_,rfl,v,rfl,by omega,λ_=>⟨by rw[←hgv,hc],h1.1 rfl⟩⟩
     ·rw[cond_true]
      exact⟨_,rfl,⟨v+1,rfl,by omega⟩,by simp;omega⟩
    ·obtain rfl:v=g.length:=by omega
     simp only[Bn,cond_false]
     exact⟨_,rfl,_,rfl,by omega,λh=>by omega⟩
   ·rintro _ ⟨v,rfl,hvl,hv⟩
    by_cases hvn:v<g.length
    ·obtain⟨hgf,hq⟩:=hv hvn
     have hvo:(v:Int)∉out:=λhc=>by
      have:=(hm v hvn).2 hc
      rw[hgf] at this;cases this
     have e1:(((v:Nat):Int)==(g.length:Int))=false:=by simp;omega
     rw[e1,cond_false,AN (show v<gone.length by omega),bs,Br (by simp;omega),bs]
     refine⟨_,rfl,⟨by simp[hgl],by simp;omega,?_,?_,λx hx=> ?_,?_⟩,by simp;omega⟩
     ·rw[List.nodup_append]
      exact⟨hnd,by simp,λa ha b hb=>by simp at hb;subst hb;exact λe=>hvo (e▸ha)⟩
     ·intro x hx
      rcases List.mem_append.1 hx with hx|hx
      ·exact hrg x hx
      ·simp at hx;omega
     ·rw[Int.toNat_natCast,List.mem_append,List.mem_singleton]
      by_cases hxv:x=v
      ·subst hxv;simp[List.getD_eq_getElem?_getD,hgl,hx]
      ·have:(gone.set v true).getD x false=gone.getD x false:=by
        simp only[List.getD_eq_getElem?_getD,List.getElem?_set]
        rw[if_neg (λe=>hxv e.symm)]
       rw[this,hm x hx]
       exact⟨.inl,λh=>h.elim id (λe=>absurd (by omega) hxv)⟩
     ·intro j a u w hj hau haw hu hw hne
      dsimp only at hj hu hw
      by_cases hjl:j<out.length
      ·rw[List.getElem?_append_left hjl] at hj
       rw[List.take_append_of_le_length (by omega)] at hu hw
       exact hpe j a u w hj hau haw hu hw hne
      ·have hje:j=out.length:=by
        have:=(List.getElem?_eq_some_iff.1 hj).1
        simp at this;omega
       subst hje
       have hav:a=v:=by
        rw[List.getElem?_append_right (by omega)] at hj
        simp at hj;omega
       subst hav
       rw[List.take_of_length_le (by simp)] at hu hw
       have hin:∀x:Nat,adj g a x→(x:Int)∉out++[(a:Int)]→(x:Int)∈lft g a gone:=λx hx hxo=>by
        have hxn:=hg.lt hvn hx
        refine List.mem_filter.2 ⟨hx,?_⟩
        rw[Int.toNat_natCast]
        cases hc:gone.getD x false
        ·rfl
        ·exact absurd (List.mem_append.2 (.inl ((hm x hxn).1 hc))) hxo
       exact clq_pairs hg (lft_rng hg hvn gone) hq u w (hin u hau hu) (hin w haw hw) hne
    ·obtain rfl:v=g.length:=by omega
     simp only[beq_self_eq_true,cond_true]
     exact⟨_,rfl,.inr ⟨_,rfl⟩⟩
  ·have e1:decide ((out.length:Int)<(g.length:Int))=false:=decide_eq_false (by omega)
   rw[e1,cond_false]
   exact⟨_,rfl,.inl ⟨_,rfl,⟨by omega,hrg,hnd⟩,hpe⟩⟩
 ·refine⟨by simp,by simp,by simp,by simp,λv hv=> ?_,λj a u w hj=>by simp at hj⟩
  simp[List.getD_eq_getElem?_getD,List.getElem?_replicate,hv]
 ·rintro _ (⟨l,rfl,h1,h2⟩|⟨l,rfl⟩)
  ·exact⟨_,rfl,λ_=>⟨h1,h2⟩⟩
  ·exact⟨_,rfl,λh=>by cases h⟩
theorem sumN_zero_iff {f:Nat→Nat}:∀{n:Nat},BM f n=0↔∀i,i<n→f i=0
 |0=>⟨λ_ i hi=>by omega,λ_=>rfl⟩
 |n+1=>by
  simp only[BM]
  constructor
  ·intro h i hi
   by_cases e:i=n
   ·subst e;omega
   ·exact sumN_zero_iff.1 (show BM f n=0 by omega) i (by omega)
  ·intro h
   have h1:=h n (by omega)
   have h2:=(sumN_zero_iff (f:=f) (n:=n)).2 (λi hi=>h i (by omega))
   omega
theorem S2_zero_iff {n:Nat}{p:Nat→Nat→Bool}:S2 n p=0↔∀u w,u<n→w<n→p u w=false:=by
 unfold S2
 rw[sumN_zero_iff]
 constructor
 ·intro h u w hu hw
  have:=sumN_zero_iff.1 (h u hu) w hw
  unfold bit at this
  cases hc:p u w
  ·rfl
  ·rw[hc] at this;simp at this
 ·intro h u hu
  exact sumN_zero_iff.2 λw hw=>by rw[h u w hu hw];rfl
theorem mis_zero {F:LI}{n:Nat}{S:Int}(hF:FOk F n)(hS:In n S):mis F n S=0↔CQ F S:=by
 unfold mis
 rw[S2_zero_iff]
 constructor
 ·intro h u w hu hw hne
  have hun:=hS.2 u hu;have hwn:=hS.2 w hw
  rcases Nat.lt_or_gt_of_ne hne with c|c
  ·have:=h w u hwn hun
   simpa [hu,hw,c] using this
  ·have:=h u w hun hwn
   have h2:nb F w u=true:=by simpa [hu,hw,c] using this
   exact hF.sym w u hwn h2
 ·intro h u w hu hw
  cases h1:has S u
  ·simp
  ·cases h2:has S w
   ·simp
   ·by_cases hlt:w<u
    ·simp[h w u h2 h1 (by omega)]
    ·simp[hlt]
theorem loop_set {α S ρ β:Type}{step:S→Option (S ⊕ ρ)}{k:ρ→Option β}{s0:S}(xs ys:List α)(hl:xs.length=ys.length)(enc:List α→Int→S)(r:ρ)(h0:enc ys 0=s0)
  (hstep:∀l (i:Nat) (h:i<xs.length),l.length=xs.length→step (enc l i)=some (.inl (enc (l.set i xs[i]) ((i+1:Nat):Int))))
  (hend:step (enc xs xs.length)=some (.inr r)):(Ay step s0).bind k=k r:=by
 refine B7 (λi=>enc (xs.take i++ys.drop i) (i:Int)) xs.length r (by simpa using h0) (λi hi=> ?_) ?_
 ·have e:(xs.take i++ys.drop i).set i xs[i]=xs.take (i+1)++ys.drop (i+1):=by
   rw[List.take_succ_eq_append_getElem hi,List.drop_eq_getElem_cons (show i<ys.length by omega),List.set_append_right _ _ (by simp;omega)]
   have e0:i-(xs.take i).length=0:=by rw[List.length_take];omega
   rw[e0,List.set_cons_zero,List.append_assoc];rfl
  rw[hstep _ i hi (by simp;omega),e]
 ·rw[←hend,List.take_length,hl,List.drop_length,List.append_nil]
structure PK (n:Nat)(o:LI):Prop where
 len:o.length=n
 rng:∀x∈o,0≤x∧x<n
 nd:o.Nodup
def pl (o:LI)(v:Nat):Nat:=o.idxOf (v:Int)
theorem PK.mem {n:Nat}{o:LI}(h:PK n o){v:Nat}(hv:v<n):(v:Int)∈o:=by
 by_cases hc:(v:Int)∈o
 ·exact hc
 ·have:=B4 (l:=(v:Int)::o) (m:=(List.range n).map Int.ofNat) (List.nodup_cons.2 ⟨hc,h.nd⟩) (λx hx=>by
   have hx':0≤x∧x<n:=by
    rcases List.mem_cons.1 hx with rfl|hx
    ·omega
    ·exact h.rng x hx
   exact List.mem_map.2 ⟨x.toNat,List.mem_range.2 (by omega),by show ((x.toNat:Nat):Int)=x;omega⟩)
  have hl:=h.len
  simp at this;omega
theorem PK.pl_lt {n:Nat}{o:LI}(h:PK n o){v:Nat}(hv:v<n):pl o v<n:=by
 have:=List.idxOf_lt_length_iff.2 (h.mem hv)
 have hl:=h.len
 unfold pl;omega
theorem PK.pl_get {n:Nat}{o:LI}(h:PK n o){v:Nat}(hv:v<n)(hl:pl o v<o.length):o[pl o v]=(v:Int):=by
 unfold pl;exact List.getElem_idxOf _
theorem PK.pl_of {n:Nat}{o:LI}(h:PK n o){i v:Nat}(hi:i<o.length)(e:o[i]=(v:Int)):pl o v=i:=by
 have hv:v<n:=by have:=h.rng _ (List.getElem_mem hi);omega
 have hl:=h.pl_lt hv
 have h2:=h.pl_get hv (by rw[h.len];exact hl)
 have hl':pl o v<o.length:=by rw[h.len];exact hl
 have hnd:=List.pairwise_iff_getElem.1 h.nd
 rcases Nat.lt_trichotomy (pl o v) i with c|c|c
 ·exact absurd (h2.trans e.symm) (hnd _ _ hl' hi c)
 ·exact c
 ·exact absurd (h2.trans e.symm).symm (hnd _ _ hi hl' c)
theorem PK.at {n:Nat}{o:LI}(h:PK n o){i:Nat}(hi:i<o.length):∃v:Nat,o[i]=(v:Int)∧v<n∧pl o v=i:=by
 have:=h.rng _ (List.getElem_mem hi)
 have e:o[i]=((o[i].toNat:Nat):Int):=by omega
 exact⟨o[i].toNat,e,by omega,h.pl_of hi e⟩
structure Ris (n:Nat)(R:Int→Int→Prop)(rk:Int→Nat):Prop where
 up:∀x y,R x y→rk x<rk y
 lt:∀v:Nat,v<n→rk v<n
 tr:∀x y z,R x y→R y z→R x z
structure Ch (n:Nat)(R:Int→Int→Prop)(v:Int)(l:LI):Prop where
 hd:∃t,l=v::t
 pw:l.Pairwise R
 rng:∀x∈l,0≤x∧x<n
 mx:∀t:LI,(v::t).Pairwise R→(∀x∈t,0≤x∧x<n)→t.length+1≤l.length
theorem Ris.nodup {n:Nat}{R:Int→Int→Prop}{rk:Int→Nat}(h:Ris n R rk){l:LI}(hp:l.Pairwise R):l.Nodup:=
 List.Pairwise.imp (fun{x y} hxy e=>by subst e;have:=h.up x x hxy;omega) hp
theorem rng_len {n:Nat}{l:LI}(hd:l.Nodup)(hr:∀x∈l,0≤x∧x<n):l.length≤n:=by
 have:=B4 (m:=(List.range n).map Int.ofNat) hd (λx hx=>by
  have:=hr x hx
  exact List.mem_map.2 ⟨x.toNat,List.mem_range.2 (by omega),by show ((x.toNat:Nat):Int)=x;omega⟩)
 simpa using this
theorem Ch.len {n:Nat}{R:Int→Int→Prop}{rk:Int→Nat}(h:Ris n R rk){v:Int}{l:LI}(hc:Ch n R v l):l.length≤n:=rng_len (h.nodup hc.pw) hc.rng
def Mon (ks ks':List (Option LI)):Prop:=∀(v:Nat) (l:LI),ks[v]? =some (some l)→ks'[v]? =some (some l)
theorem Mon.refl (ks:List (Option LI)):Mon ks ks:=λ_ _ h=>h
structure CL (g:LL)(x:LI):Prop where
 nd:x.Nodup
 rng:∀z∈x,0≤z∧z<g.length
 cq:∀u w:Nat,(u:Int)∈x→(w:Int)∈x→u≠w→adj g u w
def Cn (ad:Nat→Nat→Prop)(S:Nat→Prop)(x y:Nat):Prop:=∀T:Nat→Prop,T x→(∀a b,T a→ad a b→S b→T b)→T y
section
variable {ad : Nat → Nat → Prop} {S S' : Nat → Prop} {x y z : Nat}
theorem Cn.refl :Cn ad S x x:=λ_ h _=>h
theorem Cn.step (h:Cn ad S x y)(ha:ad y z)(hz:S z):Cn ad S x z:=λT h1 h2=>h2 _ _ (h T h1 h2) ha hz
theorem Cn.trans (h:Cn ad S x y)(h':Cn ad S y z):Cn ad S x z:=λT h1 h2=>h' T (h T h1 h2) h2
theorem Cn.mono (hs:∀w,S w→S' w)(h:Cn ad S x y):Cn ad S' x y:=λT h1 h2=>h T h1 (λa b p q r=>h2 a b p q (hs _ r))
theorem Cn.mem (h:Cn ad S x y)(hx:S x):S y:=h S hx (λ_ _ _ _ h=>h)
theorem Cn.sym (hs:∀a b,ad a b→ad b a)(hx:S x)(h:Cn ad S x y):Cn ad S y x:=(h (λw=>S w∧Cn ad S w x) ⟨hx,Cn.refl⟩ (λa b ⟨p1,p2⟩ q r=>⟨r,(Cn.refl.step (hs _ _ q) p1).trans p2⟩)).2
end
abbrev Ad (F:LI)(a b:Nat):Prop:=nb F a b=true
abbrev El (s:Int)(x:Nat):Prop:=has s x=true
structure Parts (F:LI)(W:Nat→Prop)(l:LI):Prop where
 vs:∀s∈l,VS s
 ne:∀s∈l,∃v,El s v
 sub:∀s∈l,∀x,El s x→W x
 cn:∀s∈l,∀x y,El s x→(El s y↔Cn (Ad F) W x y)
 all:∀x,W x→∃s∈l,El s x
 dis:l.Pairwise λs t=>∀x,¬(El s x∧El t x)
section
variable {F : LI} {n : Nat} (hn : n ≤ 16) (hF : FOk F n)
include hn hF
end
end Go.Sx

namespace Go.Sx
def Way (ad:Nat→Nat→Prop):List Nat→Prop
 |[]=>True
 |[_]=>True
 |a::b::l=>ad a b∧Way ad (b::l)
theorem Way.tail {ad:Nat→Nat→Prop}{a:Nat}{l:List Nat}(h:Way ad (a::l)):Way ad l:=by
 cases l with
 |nil=>trivial
 |cons b l=>exact h.2
theorem way_get {ad:Nat→Nat→Prop}:∀{l:List Nat},Way ad l↔∀i (h:i+1<l.length),ad l[i] l[i+1]
 |[]=>by simp[Way]
 |[_]=>by simp[Way]
 |a::b::l=>by
  constructor
  ·rintro⟨h1,h2⟩ i hi
   cases i with
   |zero=>exact h1
   |succ i=>exact(way_get.1 h2) i (by simpa using hi)
  ·intro h
   exact⟨h 0 (by simp),way_get.2 (λi hi=>h (i+1) (by simpa using hi))⟩
structure Wy (ad:Nat→Nat→Prop)(H:Nat→Prop)(x y:Nat)(l:List Nat):Prop where
 len:2≤l.length
 fst:l[0]? =some x
 lst:l[l.length-1]? =some y
 way:Way ad l
 mid:∀i (h:i<l.length),0<i→i+1<l.length→H l[i]
theorem wy_ex {ad:Nat→Nat→Prop}{H:Nat→Prop}{x a y:Nat}(hx:ad x a)(ha:H a){b:Nat}(hab:Cn ad H a b)(hb:ad b y):∃l,Wy ad H x y l:=by
 have key:∃l:List Nat,2≤l.length∧l[0]? =some x∧l[l.length-1]? =some b∧Way ad l∧(∀i (h:i<l.length),0<i→H l[i]):=by
  refine hab (λz=>∃l:List Nat,2≤l.length∧l[0]? =some x∧l[l.length-1]? =some z∧Way ad l∧(∀i (h:i<l.length),0<i→H l[i])) ⟨[x,a],by simp,rfl,rfl,⟨hx,trivial⟩,λi hi h0=> ?_⟩ ?_
  ·simp at hi
   obtain rfl:i=1:=by omega
   exact ha
  ·rintro p q ⟨l,h1,h2,h3,h4,h5⟩ hpq hq
   refine⟨l++[q],by simp;omega,?_,by simp,?_,λi hi h0=> ?_⟩
   ·rw[List.getElem?_append_left (by omega)];exact h2
   ·rw[way_get]
    intro i hi
    simp at hi
    by_cases hil:i+1<l.length
    ·rw[List.getElem_append_left (by omega),List.getElem_append_left hil]
     exact way_get.1 h4 i hil
    ·have hi1:i=l.length-1:=by omega
     rw[List.getElem_append_left (by omega),List.getElem_append_right (by omega)]
     simp only[List.getElem_singleton]
     rw[List.getElem?_eq_getElem (by omega)] at h3
     have:l[i]=p:=by
      have:=Option.some.inj h3
      subst hi1;exact this
     rw[this];exact hpq
   ·by_cases hil:i<l.length
    ·rw[List.getElem_append_left hil];exact h5 i hil h0
    ·rw[List.getElem_append_right (by omega)];simpa using hq
 obtain⟨l,h1,h2,h3,h4,h5⟩:=key
 refine⟨l++[y],by simp;omega,?_,by simp,?_,λi hi h0 h'=> ?_⟩
 ·rw[List.getElem?_append_left (by omega)];exact h2
 ·rw[way_get]
  intro i hi
  simp at hi
  by_cases hil:i+1<l.length
  ·rw[List.getElem_append_left (by omega),List.getElem_append_left hil]
   exact way_get.1 h4 i hil
  ·have hi1:i=l.length-1:=by omega
   rw[List.getElem_append_left (by omega),List.getElem_append_right (by omega)]
   simp only[List.getElem_singleton]
   rw[List.getElem?_eq_getElem (by omega)] at h3
   have:l[i]=b:=by
    have:=Option.some.inj h3
    subst hi1;exact this
   rw[this];exact hb
 ·simp at h'
  rw[List.getElem_append_left (by omega)]
  exact h5 i (by omega) h0
theorem wy_min {ad:Nat→Nat→Prop}{H:Nat→Prop}{x y:Nat}(h:∃l,Wy ad H x y l):∃l,Wy ad H x y l∧∀l',Wy ad H x y l'→l.length≤l'.length:=by
 obtain⟨l,hl⟩:=h
 have:∀n (l:List Nat),l.length≤n→Wy ad H x y l→∃l,Wy ad H x y l∧∀l',Wy ad H x y l'→l.length≤l'.length:=by
  intro n
  induction n with
  |zero=>intro l h1 h2;have:=h2.len;omega
  |succ n ih=>
   intro l h1 h2
   by_cases hm:∀l',Wy ad H x y l'→l.length≤l'.length
   ·exact⟨l,h2,hm⟩
   ·obtain⟨l',hl'⟩:=Classical.not_forall.1 hm
    rw[Classical.not_imp] at hl'
    exact ih l' (by omega) hl'.1
 exact this l.length l (Nat.le_refl _) hl
theorem wy_cut {ad:Nat→Nat→Prop}{H:Nat→Prop}{x y:Nat}{l:List Nat}(h:Wy ad H x y l)(hmin:∀l',Wy ad H x y l'→l.length≤l'.length){i j:Nat}(hij:i+1<j)(hj:j<l.length):¬ad (l[i]'(by omega)) l[j]:=by
 intro hadj
 have hlen:(l.take (i+1)++l.drop j).length=i+1+(l.length-j):=by simp;omega
 have hget1:∀k (hk:k<i+1) (hk':k<(l.take (i+1)++l.drop j).length),(l.take (i+1)++l.drop j)[k]=l[k]'(by omega):=λk hk hk'=>by
  rw[List.getElem_append_left (by simp;omega),List.getElem_take]
 have hget2:∀k (hk:i+1≤k) (hk':k<(l.take (i+1)++l.drop j).length),(l.take (i+1)++l.drop j)[k]=l[j+(k-(i+1))]'(by rw[hlen] at hk';omega):=λk hk hk'=>by
  have ht:(l.take (i+1)).length=i+1:=by simp;omega
  rw[List.getElem_append_right (by omega),List.getElem_drop]
  congr 1;omega
 have:=hmin (l.take (i+1)++l.drop j) ⟨by rw[hlen];omega,?_,?_,?_,λk hk h0 h1=> ?_⟩
 ·rw[hlen] at this;omega
 ·rw[List.getElem?_eq_getElem (by rw[hlen];omega),hget1 0 (by omega),←List.getElem?_eq_getElem (by omega)]
  exact h.fst
 ·rw[List.getElem?_eq_getElem (by rw[hlen];omega),hget2 _ (by rw[hlen];omega),←List.getElem?_eq_getElem]
  have e:j+((l.take (i+1)++l.drop j).length-1-(i+1))=l.length-1:=by rw[hlen];omega
  rw[e];exact h.lst
 ·rw[way_get]
  intro k hk
  have hk2:=hk
  rw[hlen] at hk2
  by_cases h1:k+1<i+1
  ·rw[hget1 k (by omega),hget1 (k+1) h1]
   exact way_get.1 h.way k (by omega)
  ·by_cases h2:k<i+1
   ·obtain rfl:k=i:=by omega
    rw[hget1 k h2,hget2 (k+1) (by omega)]
    simpa using hadj
   ·rw[hget2 k (by omega),hget2 (k+1) (by omega)]
    have:=way_get.1 h.way (j+(k-(i+1))) (by omega)
    have e:j+(k-(i+1))+1=j+(k+1-(i+1)):=by omega
    simpa only[e] using this
 ·rw[hlen] at h1
  by_cases h2:k<i+1
  ·rw[hget1 k h2]
   exact h.mid k (by omega) h0 (by omega)
  ·rw[hget2 k (by omega)]
   exact h.mid _ (by omega) (by omega) (by omega)
structure Hole (ad:Nat→Nat→Prop)(c:List Nat):Prop where
 len:4≤c.length
 nd:c.Nodup
 step:∀i (h:i+1<c.length),ad c[i] c[i+1]
 close:ad (c[c.length-1]'(by omega)) (c[0]'(by omega))
 no:∀i j (_:i+1<j) (hj:j<c.length),¬(i=0∧j=c.length-1)→¬ad (c[i]'(by omega)) c[j]
def Smp (ad:Nat→Nat→Prop)(X:Nat→Prop)(z:Nat):Prop:=∀a b,X a→X b→ad z a→ad z b→a≠b→ad a b
def NoHole (ad:Nat→Nat→Prop)(X:Nat→Prop):Prop:=∀c,Hole ad c→¬∀x∈c,X x
section
variable {ad : Nat → Nat → Prop} (hs : ∀ a b, ad a b → ad b a) (hi : ∀ a, ¬ ad a a)
include hs hi
theorem hole_of {H:Nat→Prop}{v x y:Nat}(hvx:ad v x)(hvy:ad v y)(hxy:x≠y)(hno:¬ad x y)(hH:∀z,H z→z≠v∧¬ad v z){a b:Nat}(hxa:ad x a)(ha:H a)(hab:Cn ad H a b)(hby:ad b y):
  ∃c,Hole ad c∧∀z∈c,z=v∨z=x∨z=y∨H z:=by
 obtain⟨l,hl,hmin⟩:=wy_min (wy_ex hxa ha hab hby)
 have hlen:=hl.len
 have e0:l[0]'(by omega)=x:=by
  have:=hl.fst;rw[List.getElem?_eq_getElem (by omega)] at this;exact Option.some.inj this
 have e1:l[l.length-1]'(by omega)=y:=by
  have:=hl.lst;rw[List.getElem?_eq_getElem (by omega)] at this;exact Option.some.inj this
 have h3:3≤l.length:=by
  apply Classical.byContradiction
  intro h
  have h2:l.length=2:=by omega
  have:=way_get.1 hl.way 0 (by omega)
  rw[e0] at this
  have e:l[0+1]'(by omega)=y:=by rw[←e1];congr 1;omega
  rw[e] at this
  exact hno this
 have hmem:∀i (h:i<l.length),l[i]=x∨l[i]=y∨H l[i]:=λi h=>by
  by_cases h0:i=0
  ·subst h0;exact .inl e0
  ·by_cases h1:i+1=l.length
   ·right;left
    rw[←e1];congr 1;omega
   ·exact .inr (.inr (hl.mid i h (by omega) (by omega)))
 have hxH:¬H x:=λh=>(hH x h).2 hvx
 have hyH:¬H y:=λh=>(hH y h).2 hvy
 have hxv:x≠v:=λe=>hi v (by rw[e] at hvx;exact hvx)
 have hyv:y≠v:=λe=>hi v (by rw[e] at hvy;exact hvy)
 refine⟨v::l,⟨by simp;omega,?_,λi h=> ?_,?_,λi j hij hj hx=> ?_⟩,λz hz=> ?_⟩
 ·rw[List.nodup_cons]
  refine⟨λhv=> ?_,?_⟩
  ·obtain⟨i,h,e⟩:=List.getElem_of_mem hv
   rcases hmem i h with q|q|q
   ·exact hxv (q.symm.trans e)
   ·exact hyv (q.symm.trans e)
   ·rw[e] at q;exact(hH v q).1 rfl
  ·unfold List.Nodup
   rw[List.pairwise_iff_getElem]
   intro i j h1 h2 hij he
   by_cases hj1:j=i+1
   ·subst hj1
    have:=way_get.1 hl.way i h2
    rw[←he] at this
    exact hi _ this
   ·by_cases h0:i=0
    ·subst h0
     rw[e0] at he
     by_cases hjl:j+1=l.length
     ·have:l[j]=y:=by rw[←e1];congr 1;omega
      exact hxy (he.trans this)
     ·have:=hl.mid j h2 (by omega) (by omega)
      rw[←he] at this;exact hxH this
    ·have h:=way_get.1 hl.way (i-1) (by omega)
     have e:l[i-1+1]'(by omega)=l[j]:=by rw[←he];congr 1;omega
     rw[e] at h
     exact wy_cut hl hmin (i:=i-1) (j:=j) (by omega) h2 h
 ·cases i with
  |zero=>
   show ad v (l[0]'(by simp at h;omega))
   rw[e0];exact hvx
  |succ i=>
   show ad (l[i]'(by simp at h;omega)) (l[i+1]'(by simp at h;omega))
   exact way_get.1 hl.way i (by simpa using h)
 ·have e:(v::l)[(v::l).length-1]'(by simp)=y:=by
   rw[List.getElem_cons,dif_neg (by rw[List.length_cons];omega),←e1]
   congr 1
  rw[e]
  exact hs _ _ hvy
 ·have hj':j<l.length+1:=by simpa using hj
  obtain⟨j,rfl⟩:∃k,j=k+1:=⟨j-1,by omega⟩
  cases i with
  |zero=>
   show¬ad v (l[j]'(by omega))
   have:H (l[j]'(by omega)):=hl.mid j (by omega) (by omega) (by
    apply Classical.byContradiction
    intro h
    apply hx
    refine⟨rfl,?_⟩
    simp;omega)
   exact(hH _ this).2
  |succ i=>
   show¬ad (l[i]'(by omega)) (l[j]'(by omega))
   exact wy_cut hl hmin (by omega) (by omega)
 ·rcases List.mem_cons.1 hz with h|h
  ·exact .inl h
  ·obtain⟨i,hil,rfl⟩:=List.getElem_of_mem h
   exact .inr (hmem i hil)
theorem dirac :∀(m:Nat) (X:Nat→Prop),(∃L:List Nat,L.length≤m∧∀x,X x→x∈L)→NoHole ad X→∀v w,X v→X w→w≠v→¬ad v w→∃z,X z∧z≠v∧¬ad v z∧Smp ad X z:=by
 intro m
 induction m with
 |zero=>
  rintro X ⟨L,hL,hX⟩ _ v w hv
  have:=List.length_pos_of_mem (hX v hv)
  omega
 |succ m ih=>
  rintro X ⟨L,hL,hX⟩ hnh v w hv hw hwv hvw
  let R:Nat→Prop:=λz=>X z∧z≠v∧¬ad v z
  let H:Nat→Prop:=λz=>Cn ad R w z
  have hwR:R w:=⟨hw,hwv,hvw⟩
  have hHR:∀z,H z→R z:=λz h=>h.mem hwR
  have hHstep:∀a b,H a→ad a b→R b→H b:=λa b ha hab hb=>Cn.step ha hab hb
  let S:Nat→Prop:=λz=>X z∧ad v z∧∃h,H h∧ad h z
  let Y:Nat→Prop:=λz=>H z∨S z
  have hnbr:∀h a,H h→X a→ad h a→Y a:=λh a hh ha hha=>by
   have hR:=hHR h hh
   have hav:a≠v:=λe=>hR.2.2 (hs _ _ (by rw[e] at hha;exact hha))
   by_cases hva:ad v a
   ·exact .inr ⟨ha,hva,h,hh,hha⟩
   ·exact .inl (hHstep h a hh hha ⟨ha,hav,hva⟩)
  have hHcn:∀a b,H a→H b→Cn ad H a b:=λa b ha hb=>by
   have h1:Cn ad R a w:=Cn.sym hs hwR ha
   exact((h1.trans hb) (λz=>H z∧Cn ad H a z) ⟨ha,Cn.refl⟩ (λp q ⟨h2,h3⟩ hpq hq=>by
    have:=hHstep p q h2 hpq hq
    exact⟨this,h3.step hpq this⟩)).2
  have hclq:∀x y,S x→S y→x≠y→ad x y:=λx y ⟨x1,x2,a,x3,x4⟩ ⟨y1,y2,b,y3,y4⟩ hxy=>by
   apply Classical.byContradiction
   intro hno
   obtain⟨c,hc,hcX⟩:=hole_of hs hi x2 y2 hxy hno (λz hz=>(hHR z hz).2) (hs _ _ x4) x3 (hHcn a b x3 y3) y4
   refine hnh c hc (λz hz=> ?_)
   rcases hcX z hz with rfl|rfl|rfl|h
   ·exact hv
   ·exact x1
   ·exact y1
   ·exact(hHR z h).1
  have hYX:∀z,Y z→X z:=λz h=>h.elim (λh=>(hHR z h).1) (λh=>h.1)
  have hYv:∀z,Y z→z≠v:=λz h=>h.elim (λh=>(hHR z h).2.1) (λh e=>hi v (by have:=h.2.1;rw[e] at this;exact this))
  have hfit:∀Z:Nat→Prop,(∀z,Z z→Y z)→∃L:List Nat,L.length≤m∧∀x,Z x→x∈L:=λZ hZ=>by
   refine⟨L.filter λz=>decide (z≠v),?_,λx hx=> ?_⟩
   ·have:(L.filter λz=>decide (z≠v)).length<L.length:=List.length_filter_lt_length_iff_exists.2 ⟨v,hX v hv,by simp⟩
    omega
   ·rw[List.mem_filter]
    exact⟨hX x (hYX x (hZ x hx)),by simpa using hYv x (hZ x hx)⟩
  have hnhZ:∀Z:Nat→Prop,(∀z,Z z→Y z)→NoHole ad Z:=λZ hZ c hc h=>hnh c hc (λx hx=>hYX x (hZ x (h x hx)))
  have fin:∀z,H z→(∀a b,Y a→Y b→ad z a→ad z b→a≠b→ad a b)→∃z,X z∧z≠v∧¬ad v z∧Smp ad X z:=λz hz h=>by
   have hR:=hHR z hz
   exact⟨z,hR.1,hR.2.1,hR.2.2,λa b ha hb hza hzb hab=>h a b (hnbr z a hz ha hza) (hnbr z b hz hb hzb) hza hzb hab⟩
  by_cases hA:∃s y,S s∧Y y∧y≠s∧¬ad s y
  ·obtain⟨s,y,hsS,hyY,hys,hsy⟩:=hA
   obtain⟨z,hz,hzs,hsz,hsm⟩:=ih Y (hfit Y (λz h=>h)) (hnhZ Y (λz h=>h)) s y (.inr hsS) hyY hys hsy
   rcases hz with hz|hz
   ·exact fin z hz hsm
   ·exact absurd (hclq s z hsS hz (λe=>hzs e.symm)) hsz
  ·have hB:∀s y,S s→Y y→y≠s→ad s y:=λs y h1 h2 h3=>by
    apply Classical.byContradiction
    intro h;exact hA ⟨s,y,h1,h2,h3,h⟩
   by_cases hC:∃p q,H p∧H q∧q≠p∧¬ad p q
   ·obtain⟨p,q,hp,hq,hqp,hpq⟩:=hC
    obtain⟨z,hz,_,_,hsm⟩:=ih H (hfit H (λz h=> .inl h)) (hnhZ H (λz h=> .inl h)) p q hp hq hqp hpq
    refine fin z hz (λa b ha hb hza hzb hab=> ?_)
    rcases ha with ha'|ha'
    ·rcases hb with hb'|hb'
     ·exact hsm a b ha' hb' hza hzb hab
     ·exact hs _ _ (hB b a hb' (.inl ha') hab)
    ·exact hB a b ha' hb (λe=>hab e.symm)
   ·refine fin w Cn.refl (λa b ha hb hza hzb hab=> ?_)
    rcases ha with ha'|ha'
    ·rcases hb with hb'|hb'
     ·apply Classical.byContradiction
      intro h;exact hC ⟨a,b,ha',hb',λe=>hab e.symm,h⟩
     ·exact hs _ _ (hB b a hb' (.inl ha') hab)
    ·exact hB a b ha' hb (λe=>hab e.symm)
theorem smp_of {X:Nat→Prop}(hf:∃L:List Nat,∀x,X x→x∈L)(hnh:NoHole ad X)(hne:∃v,X v):∃z,X z∧Smp ad X z:=by
 by_cases h:∃v w,X v∧X w∧w≠v∧¬ad v w
 ·obtain⟨v,w,h1,h2,h3,h4⟩:=h
  obtain⟨L,hL⟩:=hf
  obtain⟨z,a,_,_,b⟩:=dirac hs hi L.length X ⟨L,Nat.le_refl _,hL⟩ hnh v w h1 h2 h3 h4
  exact⟨z,a,b⟩
 ·obtain⟨v,hv⟩:=hne
  refine⟨v,hv,λa b ha hb _ _ hab=> ?_⟩
  apply Classical.byContradiction
  intro hn;exact h ⟨a,b,ha,hb,λe=>hab e.symm,hn⟩
end
end Go.Sx

namespace Go.Sx
def ch (cs:LI)(i v:Nat):Bool:=has (cs.getD i 0) v
def Opn (cs:LI)(p:Int)(v:Nat):Prop:=(∃i,i<cs.length∧has p i=true∧ch cs i v=true)∧∃i,i<cs.length∧has p i=false∧ch cs i v=true
def Ft (cs:LI)(p:Int)(k:Nat):Prop:=k<cs.length∧has p k=false∧∀v,Opn cs p v→ch cs k v=true
inductive Ends (cs:LI):Int→Prop
 |all {p:Int}:(∀i,i<cs.length→has p i=true)→Ends cs p
 |go {p:Int} {k:Nat}:Ft cs p k→Ends cs (ior .u32 p (ishl .u32 1 (k:Int)))→Ends cs p
def Goes (cs:LI):Int→LI→Prop
 |p,[]=>∀i,i<cs.length→has p i=true
 |p,x::l=>∃k:Nat,x=(k:Int)∧Ft cs p k∧Goes cs (ior .u32 p (ishl .u32 1 (k:Int))) l
theorem D7 {f:Int→Int}(v:Nat):∀(xs:LI) (a:Int),VS a→(∀x∈xs,VS (f x))→VS (xs.foldl (λa x=>ior .u32 a (f x)) a)∧(has (xs.foldl (λa x=>ior .u32 a (f x)) a) v=true↔has a v=true∨∃x∈xs,has (f x) v=true)
 |[],a,ha,_=>⟨ha,by simp⟩
 |x::xs,a,ha,hf=>by
  have hx:=hf x (by simp)
  obtain⟨h1,h2⟩:=D7 v xs (ior .u32 a (f x)) (VS.ior _ _) (λy hy=>hf y (by simp[hy]))
  refine⟨h1,?_⟩
  rw[List.foldl_cons,h2,Cz ha hx,Bool.or_eq_true]
  simp only[List.mem_cons,exists_eq_or_imp,or_assoc]
section
variable {cs : LI} (hvs : ∀ s ∈ cs, VS s) (hm : cs.length ≤ 16)
include hvs hm
end
end Go.Sx

namespace Go.Sx
theorem Goes.mid {cs:LI}{v:Nat}:∀{l1:LI} {p:Int} {x:Nat} {l2:LI},cs.length≤16→In cs.length p→Goes cs p (l1++(x:Int)::l2)→((∃i,i<cs.length∧has p i=true∧ch cs i v=true)∨∃y:Nat,(y:Int)∈l1∧ch cs y v=true)→(∃z:Nat,(z:Int)∈l2∧ch cs z v=true)→ch cs x v=true
 |[],p,x,l2,hm,hp,⟨k,e,hF,hG⟩,h1,⟨z,hz,hzv⟩=>by
  obtain rfl:k=x:=by omega
  refine hF.2.2 v ⟨h1.elim id (fun⟨y,hy,_⟩=>by simp at hy),?_⟩
  have:∀(l:LI) (q:Int),In cs.length q→Goes cs q l→(z:Int)∈l→z<cs.length∧has q z=false:=by
   intro l
   induction l with
   |nil=>intro q _ _ h;simp at h
   |cons y l ih=>
    rintro q hq ⟨k',e',hF',hG'⟩ hzl
    rcases List.mem_cons.1 hzl with h|h
    ·obtain rfl:k'=z:=by omega
     exact⟨hF'.1,hF'.2.1⟩
    ·have hk':=hF'.1
     have he:∀w,has (ior .u32 q (ishl .u32 1 (k':Int))) w=(has q w||decide (w=k')):=λw=>by rw[Cz hq.1 (VS.ishl _ _),BA (by omega)]
     have hin:In cs.length (ior .u32 q (ishl .u32 1 (k':Int))):=⟨VS.ior _ _,λw hw=>by
      rw[he,Bool.or_eq_true,decide_eq_true_eq] at hw
      rcases hw with hw|rfl
      ·exact hq.2 w hw
      ·exact hk'⟩
     obtain⟨a,b⟩:=ih _ hin hG' h
     rw[he,Bool.or_eq_false_iff] at b
     exact⟨a,b.1⟩
  obtain⟨h3,h4⟩:=this ((k:Int)::l2) p hp ⟨k,rfl,hF,hG⟩ (List.mem_cons_of_mem _ hz)
  exact⟨z,h3,h4,hzv⟩
 |y::l1,p,x,l2,hm,hp,⟨k,e,hF,hG⟩,h1,h2=>by
  subst e
  have hk:=hF.1
  have he:∀w,has (ior .u32 p (ishl .u32 1 (k:Int))) w=(has p w||decide (w=k)):=λw=>by rw[Cz hp.1 (VS.ishl _ _),BA (by omega)]
  refine Goes.mid (l1:=l1) hm ⟨VS.ior _ _,λw hw=> ?_⟩ hG ?_ h2
  ·rw[he,Bool.or_eq_true,decide_eq_true_eq] at hw
   rcases hw with hw|rfl
   ·exact hp.2 w hw
   ·exact hk
  ·rcases h1 with⟨i,h3,h4,h5⟩|⟨i,h3,h5⟩
   ·exact .inl ⟨i,h3,by rw[he,h4];rfl,h5⟩
   ·rcases List.mem_cons.1 h3 with h|h
    ·obtain rfl:i=k:=by omega
     exact .inl ⟨i,hk,by rw[he];simp,h5⟩
    ·exact .inr ⟨i,h,h5⟩
theorem loop_first {ρ:Type}{step:Int→Option (Int ⊕ ρ)}(xs:LI)(p:Int→Bool)(mkr:Int→ρ)(fin:ρ)
  (hstep:∀i (h:i<xs.length),step (i:Int)=if p xs[i] then some (.inr (mkr xs[i])) else some (.inl ((i+1:Nat):Int))) (hend:step (xs.length:Int)=some (.inr fin)):
  Ay step 0=some (match xs.find? p with|some x=>mkr x|none=>fin):=by
 have key:∀(k i:Nat),i+k=xs.length→Ay step (i:Int)=some (match(xs.drop i).find? p with|some x=>mkr x|none=>fin):=by
  intro k
  induction k with
  |zero=>
   intro i hi
   obtain rfl:i=xs.length:=by omega
   rw[BJ hend,List.drop_length];rfl
  |succ k ih=>
   intro i hi
   have hil:i<xs.length:=by omega
   rw[List.drop_eq_getElem_cons hil,List.find?_cons]
   by_cases hp:p xs[i]=true
   ·rw[BJ (r:=mkr xs[i]) (by rw[hstep i hil,if_pos hp]),hp]
   ·rw[Cc (s':=((i+1:Nat):Int)) (by rw[hstep i hil,if_neg hp]),ih (i+1) (by omega)]
    have:p xs[i]=false:=by simpa using hp
    rw[this]
 exact key xs.length 0 (by omega)
def okv (F:LI)(n:Nat)(s v:Int):Bool:=decide (mis F n (iand .u32 (F.getD v.toNat 0) s)=0)
def pk (F:LI)(n:Nat):Nat→Int→Option LI
 |0,_=>some []
 |k+1,s=>match(Aw s).find? (okv F n s) with
  |none=>none
  |some v=>(pk F n k (iandNot .u32 s (ishl .u32 1 v))).map (v::·)
theorem pk_len {F:LI}{n:Nat}:∀{k:Nat} {s:Int} {l:LI},pk F n k s=some l→l.length=k
 |0,s,l,h=>by simp[pk] at h;subst h;rfl
 |k+1,s,l,h=>by
  unfold pk at h
  split at h
  ·cases h
  ·rename_i v hv
   rw[Option.map_eq_some_iff] at h
   obtain⟨t,ht,rfl⟩:=h
   simp[pk_len ht]
section
variable {g : LL} (hg : GOk g)
include hg
theorem impl_pk :∀(k:Nat) (s:Int) (out:LI),SQ g.length s k→out.length+k≤1000000→
  Ay (σ:=LI×Int) (ρ:=(LI) ⊕ ((LI))) (fun(s_279:LI×Int)=>match s_279 with|(l_282,x_287)=>cond (x_287 !=0) ((D.h x_287).bind λy_425=>(Ay (σ:=Int) (ρ:=(Int)) (fun(x_487:Int)=>cond (decide (x_487<(y_425.length:Int))) ((idx y_425 x_487).bind λe_514=>(idx (g.map mk) e_514).bind λe_520=>(D.A (g.map mk) (iand .u32 e_520 x_287)).bind λy_526=>cond (y_526==0) (some (.inr e_514)) (some (.inl (IntKind.i64.wrap (x_487+1))))) (some (.inr (-1)))) 0).bind λx_511=>cond (decide (x_511<0)) (some (.inr (.inr ([]:LI)))) ((D.a x_511).bind λy_538=>(AY l_282 ([x_511]:LI)).bind λl_549=>some (.inl (l_549,(iandNot .u32 x_287 y_538))))) (some (.inr (.inl l_282)))) (out,s)=
  some (match pk (g.map mk) g.length k s with|none=> .inr []|some l=> .inl (out++l))
 |0,s,out,hs,_=>by
  rw[hs.z,BJ (r:= .inl out) (by simp)];simp[pk]
 |k+1,s,out,hs,hk=>by
  have h16:=hg.n16
  have hnz:(s !=0)=true:=by simpa using hs.nz
  have hF:=FOk.of hg
  have hin:=loop_first (step:=fun(x_487:Int)=>cond (decide (x_487<((Aw s).length:Int))) ((idx (Aw s) x_487).bind λe_514=>(idx (g.map mk) e_514).bind λe_520=>(D.A (g.map mk) (iand .u32 e_520 s)).bind λy_526=>cond (y_526==0) (some (.inr e_514)) (some (.inl (IntKind.i64.wrap (x_487+1))))) (some (.inr (-1)))) (Aw s) (okv (g.map mk) g.length s) (λx=>x) (-1) (λi hi=>by
   have hel:=BX s
   obtain⟨v,_,h2,h3⟩:=mem_elems.1 (List.getElem_mem hi)
   have hvn:=hs.lt v h2
   have hidx:idx (g.map mk) (v:Int)=some ((g.map mk).getD v 0):=by rw[AN (by simpa using hvn),AX (by simpa using hvn)]
   simp only[dlt hi,cond_true,AN hi,bs,h3,hidx,DY h16 hF (VS.iand _ _) (λw hw=>near_lt hg hF hs.vs hvn w hw),wq i,okv,Int.toNat_natCast]
   by_cases hz:mis (g.map mk) g.length (iand .u32 ((g.map mk).getD v 0) s)=0
   ·have:((mis (g.map mk) g.length (iand .u32 ((g.map mk).getD v 0) s):Int)==0)=true:=by simpa using hz
    rw[this,cond_true,if_pos (decide_eq_true hz)]
   ·have:((mis (g.map mk) g.length (iand .u32 ((g.map mk).getD v 0) s):Int)==0)=false:=by simpa using hz
    rw[this,cond_false,if_neg (by simpa using hz)]) (by simp only[Bn,cond_false])
  unfold pk
  cases hf:(Aw s).find? (okv (g.map mk) g.length s) with
  |none=>
   rw[hf] at hin
   rw[BJ (r:= .inr [])]
   simp only[hnz,cond_true,CR s hs.vs,bs,hin]
   rfl
  |some x=>
   rw[hf] at hin
   obtain⟨v,_,h2,rfl⟩:=mem_elems.1 (List.mem_of_find?_eq_some hf)
   have hn0:decide ((v:Int)<0)=false:=by simp
   rw[Cc (s':=(out++[(v:Int)],iandNot .u32 s (ishl .u32 1 (v:Int))))]
   ·rw[impl_pk k _ (out++[(v:Int)]) (hs.rm h2) (by simp;omega)]
    cases hq:pk (g.map mk) g.length k (iandNot .u32 s (ishl .u32 1 (v:Int))) with
    |none=>simp[hq]
    |some l=>simp[hq]
   ·simp only[hnz,cond_true,CR s hs.vs,bs,hin,hn0,cond_false,BE]
    rw[Br (by simp;omega),bs]
theorem find_all {s:Int}{k:Nat}(hs:SQ g.length s k)(p:Int→Bool):((List.range g.length).map Int.ofNat).find? (λx=>has s x.toNat&&p x)=(Aw s).find? p:=by
 have h16:=hg.n16
 have e:=els_all (s:=s) (n:=g.length) (by omega) hs.lt
 rw[←e]
 unfold els
 rw[List.find?_map,List.find?_map,List.find?_filter]
 congr 2
 funext a
 simp only[Function.comp]
 have:(Int.ofNat a).toNat=a:=by simp
 rw[this]
 cases has s a<;>simp
theorem spec_pk :∀(k:Nat) (s:Int) (out:LI),SQ g.length s k→out.length+k=g.length→
  Ay (σ:=(List Bool)×LI) (ρ:=(LI) ⊕ ((LI)×Bool)) (fun(s_529:(List Bool)×LI)=>match s_529 with|(l_532,l_535)=>(D.b g).bind λy_790=>cond (decide ((l_535.length:Int)<y_790)) ((Ay (σ:=Int) (ρ:=(Int)) (fun(x_903:Int)=>(D.b g).bind λy_956=>cond (decide (x_903<y_956)) ((idx l_532 x_903).bind λe_960=>cond e_960 (some (.inl (IntKind.i64.wrap (x_903+1)))) ((D.E g x_903 l_532).bind λy_970=>(D.N g y_970).bind λy_987=>cond (!y_987) (some (.inl (IntKind.i64.wrap (x_903+1)))) (some (.inr x_903)))) (some (.inr x_903))) 0).bind λx_954=>(D.b g).bind λy_1004=>cond (x_954==y_1004) (some (.inr (.inr (([]:LI),false)))) ((idx l_532 x_954).bind λe_1016=>(AY l_535 ([x_954]:LI)).bind λl_1026=>some (.inl ((l_532.set (Int.toNat x_954) true),l_1026)))) (some (.inr (.inl l_535)))) (BL g.length s,out)=
  some (match pk (g.map mk) g.length k s with|none=> .inr ([],false)|some l=> .inl (out++l))
 |0,s,out,hs,hk=>by
  have e:decide ((out.length:Int)<(g.length:Int))=false:=by simp;omega
  rw[BJ (r:= .inl out) (by unfold D.b;simp only[bs,e,cond_false])];simp[pk]
 |k+1,s,out,hs,hk=>by
  have h16:=hg.n16;have hn1:=hg.n1
  have hF:=FOk.of hg
  have hlt:decide ((out.length:Int)<(g.length:Int))=true:=by simp;omega
  have hin:=loop_first (step:=fun(x_903:Int)=>(D.b g).bind λy_956=>cond (decide (x_903<y_956)) ((idx (BL g.length s) x_903).bind λe_960=>cond e_960 (some (.inl (IntKind.i64.wrap (x_903+1)))) ((D.E g x_903 (BL g.length s)).bind λy_970=>(D.N g y_970).bind λy_987=>cond (!y_987) (some (.inl (IntKind.i64.wrap (x_903+1)))) (some (.inr x_903)))) (some (.inr x_903))) ((List.range g.length).map Int.ofNat) (λx=>has s x.toNat&&okv (g.map mk) g.length s x) (λx=>x) (g.length:Int) (λi hi=>by
   have hin:i<g.length:=by simpa using hi
   have hgi:((List.range g.length).map Int.ofNat)[i]=(i:Int):=by simp
   rw[hgi]
   unfold D.b
   simp only[bs,dlt hin,cond_true,Es hin,Int.toNat_natCast,wq i]
   by_cases hh:has s i=true
   case neg=>
    have hh:has s i=false:=by simpa using hh
    simp[hh]
   case pos=>
    simp only[hh,Bool.not_true,cond_false,Bool.true_and]
    rw[D3 g hg hin _ (by rw[DD]),bs,lft_gone hg hs.vs hin]
    have hmis:=Fk hn1 h16 hF (VS.iand (mk (row g i)) s) (λw hw=>by
     have:=near_lt hg (v:=i) hF hs.vs hin w
     rw[Ds] at this
     exact this hw)
    rw[ER hg] at hmis
    unfold D.N
    rw[hmis]
    simp only[bs]
    have eo:okv (g.map mk) g.length s (i:Int)=decide (mis (g.map mk) g.length (iand .u32 (mk (row g i)) s)=0):=by
     unfold okv;rw[Int.toNat_natCast,Ds]
    rw[eo]
    by_cases hz:mis (g.map mk) g.length (iand .u32 (mk (row g i)) s)=0
    ·simp[hz]
    ·have:((mis (g.map mk) g.length (iand .u32 (mk (row g i)) s):Int)==0)=false:=by simpa using hz
     simp only[this,Bool.not_false,cond_true];simp[hz]) (by unfold D.b;simp)
  rw[find_all hg hs] at hin
  unfold pk
  cases hf:(Aw s).find? (okv (g.map mk) g.length s) with
  |none=>
   rw[hf] at hin
   rw[BJ (r:= .inr ([],false))]
   unfold D.b at hin ⊢
   simp only[bs] at hin
   simp only[bs,hlt,cond_true,hin,beq_self_eq_true]
  |some x=>
   rw[hf] at hin
   obtain⟨v,_,h2,rfl⟩:=mem_elems.1 (List.mem_of_find?_eq_some hf)
   have hvn:=hs.lt v h2
   have hne:(((v:Nat):Int)==(g.length:Int))=false:=by simp;omega
   rw[Cc (s':=(BL g.length (iandNot .u32 s (ishl .u32 1 (v:Int))),out++[(v:Int)]))]
   ·rw[spec_pk k _ (out++[(v:Int)]) (hs.rm h2) (by simp;omega)]
    cases hq:pk (g.map mk) g.length k (iandNot .u32 s (ishl .u32 1 (v:Int))) with
    |none=>simp[hq]
    |some l=>simp[hq]
   ·unfold D.b at hin ⊢
    simp only[bs] at hin
    simp only[bs,hlt,cond_true,hin,hne,cond_false,Es hvn,Int.toNat_natCast,goneOf_set hs.vs hvn (show g.length≤32 by omega)]
    rw[Br (by simp;omega),bs]
end
end Go.Sx

namespace Go.Sx
theorem DX {g:LL}(hg:GOk g):D.e0 (g.map mk)=some ((pk (g.map mk) g.length g.length (full g.length)).getD []):=by
 have h16:=hg.n16;have hn1:=hg.n1
 unfold D.e0
 have hlm:(g.map mk).length=g.length:=by simp
 obtain⟨s,e1,hs1,hs2⟩:=Dq (g.map mk) (by omega)
 have hsf:s=full g.length:=hs1.ext (DJ _) (λw _=>by rw[hs2,CM h16,hlm])
 rw[e1,bs,hsf,impl_pk hg g.length (full g.length) [] (SQ.full h16) (by simp;omega),bs]
 cases hp:pk (g.map mk) g.length g.length (full g.length) with
 |none=>rfl
 |some l=>
  have:=pk_len hp
  cases l with
  |nil=>simp at this;omega
  |cons x t=>rfl
structure Iv (g:LL)(L R:Nat→Int):Prop where
 le:∀v,v<g.length→L v≤R v
 ad:∀u v,u<g.length→v<g.length→(adj g u v↔u≠v∧L u≤R v∧L v≤R u)
section
variable {g : LL} (hg : GOk g)
include hg
theorem pk_some (hs:∀s,VS s→(∀v,has s v=true→v<g.length)→s≠0→∃v,v<g.length∧has s v=true∧CQ (g.map mk) (iand .u32 ((g.map mk).getD v 0) s)):
  ∀(k:Nat) (s:Int),SQ g.length s k→∃l,pk (g.map mk) g.length k s=some l
 |0,_,_=>⟨[],rfl⟩
 |k+1,s,h=>by
  unfold pk
  obtain⟨v,hv,hsv,hc⟩:=hs s h.vs (λv hv=>h.lt v hv) h.nz
  have hF:=FOk.of hg
  have hin:In g.length (iand .u32 ((g.map mk).getD v 0) s):=⟨VS.iand _ _,near_lt hg hF h.vs hv⟩
  have hok:okv (g.map mk) g.length s (v:Int)=true:=by
   unfold okv
   rw[Int.toNat_natCast,decide_eq_true_eq,mis_zero hF hin]
   exact hc
  cases hf:(Aw s).find? (okv (g.map mk) g.length s) with
  |none=>
   rw[List.find?_eq_none] at hf
   exact absurd hok (hf _ ((Be h.vs).2 hsv))
  |some x=>
   obtain⟨w,_,hw,rfl⟩:=mem_elems.1 (List.mem_of_find?_eq_some hf)
   obtain⟨l,hl⟩:=pk_some hs k _ (h.rm hw)
   exact⟨(w:Int)::l,by dsimp only;rw[hl];rfl⟩
variable {L R : Nat → Int} (hI : Iv g L R)
include hI
end
end Go.Sx

namespace Go.Sx
def iz (P:List Nat):LI:=P.map Int.ofNat
theorem Bk (P:List Nat):(iz P).length=P.length:=by simp[iz]
theorem iz_app (P:List Nat)(v:Nat):iz (P++[v])=iz P++[(v:Int)]:=by simp[iz]
theorem Co {P:List Nat}{i:Nat}(h:i<P.length):idx (iz P) (i:Int)=some ((P[i]:Nat):Int):=by
 rw[AN (by rw[Bk];exact h)];simp[iz]
structure Gd (g:LL)(long:Nat)(P:List Nat):Prop where
 nd:P.Nodup
 lt:∀x∈P,x<g.length
 step:∀i (h:i+1<P.length),adj g P[i] P[i+1]
 far:∀i j (_:i+1<j) (hj:j<P.length),adj g (P[i]'(by omega)) P[j]↔(i=0∧j+1=long)
theorem Gd.hole {g:LL}(hg:GOk g){long:Nat}{P:List Nat}(h:Gd g long P)(hl:P.length=long)(h4:4≤long):Hole (adj g) P:=by
 have hs:adj g (P[0]'(by omega)) (P[P.length-1]'(by omega)):=(h.far 0 (P.length-1) (by omega) (by omega)).2 ⟨rfl,by omega⟩
 exact⟨by omega,h.nd,h.step,hg.sym _ _ (h.lt _ (List.getElem_mem _)) hs,λi j hij hj hx ha=>hx (by have:=(h.far i j hij hj).1 ha;omega)⟩
theorem Hole.gd {g:LL}(hg:GOk g){c:List Nat}(h:Hole (adj g) c)(hlt:∀x∈c,x<g.length):Gd g c.length c:=by
 have h4:=h.len
 refine⟨h.nd,hlt,h.step,λi j hij hj=>⟨λha=> ?_,fun⟨h1,h2⟩=> ?_⟩⟩
 ·apply Classical.byContradiction
  intro hx
  exact h.no i j hij hj (fun⟨a,b⟩=>hx ⟨a,by omega⟩) ha
 ·subst h1
  have hc:=hg.sym _ _ (hlt _ (List.getElem_mem _)) h.close
  have e:j=c.length-1:=by omega
  subst e;exact hc
theorem Gd.take {g:LL}{long:Nat}{P:List Nat}(h:Gd g long P)(k:Nat):Gd g long (P.take k):=by
 refine⟨List.Pairwise.sublist (List.take_sublist k P) h.nd,λx hx=>h.lt x (List.mem_of_mem_take hx),λi hi=> ?_,λi j hij hj=> ?_⟩
 ·simp at hi
  rw[List.getElem_take,List.getElem_take]
  exact h.step i (by omega)
 ·simp at hj
  rw[List.getElem_take,List.getElem_take]
  exact h.far i j hij (by omega)
section
variable {g : LL} (hg : GOk g)
include hg
theorem has_F {u:Nat}(hu:u<g.length){x:Nat}(hx:x<32):idx (g.map mk) (u:Int)=some ((g.map mk).getD u 0)∧D.m ((g.map mk).getD u 0) (x:Int)=some (nb (g.map mk) u x):=by
 have hv:=(FOk.of hg).vs u hu
 refine⟨by rw[AN (by simpa using hu),AX (by simpa using hu)],?_⟩
 unfold D.m nb
 have:decide ((x:Int)<0)=false:=by simp
 rw[this,cond_false,bitAt_eq hv hx]
theorem cfIn_ok {P:List Nat}(hP:∀x∈P,x<g.length)(hl:1≤P.length)(hl2:P.length≤1000){v:Nat}(hv:v<g.length):∃b,D.z0 (g.map mk) (iz P) (v:Int)=some b∧(b=true↔∀i (h:i<P.length),0<i→i+1<P.length→¬adj g v P[i]):=by
 have h16:=hg.n16
 have hpre:BD (iz P) 0 (IntKind.i64.wrap (((iz P).length:Int)-1))=some ((iz P).take (P.length-1)):=by
  rw[Bk,w64 (by omega) (by omega),show (P.length:Int)-1=((P.length-1:Nat):Int) by omega]
  exact CX (by rw[Bk];omega)
 have htl:((iz P).take (P.length-1)).length=P.length-1:=by rw[List.length_take,Bk];omega
 unfold D.z0
 rw[hpre,bs]
 have main:=A3 (k:=λb=>some b) (Q:=λb:Bool=>(b=true↔∀i (h:i<P.length),0<i→i+1<P.length→¬adj g v P[i])) (step:=λi=>cond (decide (i<(((iz P).take (P.length-1)).length:Int))) ((idx ((iz P).take (P.length-1)) i).bind λu=>(cond (decide ((0:Int)<i)) ((idx (g.map mk) (v:Int)).bind λr=>D.m r u) (some false)).bind λb=>cond b (some (.inr false)) (some (.inl (IntKind.i64.wrap (i+1))))) (some (.inr true)))
  (s:=(0:Int)) (λs=>∃k:Nat,s=(k:Int)∧k≤P.length-1∧∀i (h:i<P.length),0<i→i<k→¬adj g v P[i]) (λs=>P.length-s.toNat) (λb:Bool=>(b=true↔∀i (h:i<P.length),0<i→i+1<P.length→¬adj g v P[i])) ?_ ⟨0,rfl,by omega,λi _ _ h=>by omega⟩ (λr hr=>⟨r,rfl,hr⟩)
 ·obtain⟨b,e,hb⟩:=main
  exact⟨b,by simpa using e,hb⟩
 ·rintro _ ⟨k,rfl,hk,hinv⟩
  rw[htl]
  by_cases hkl:k<P.length-1
  ·have hPk:P[k]'(by omega)<g.length:=hP _ (List.getElem_mem _)
   have hidx:idx ((iz P).take (P.length-1)) (k:Int)=some ((P[k]'(by omega):Nat):Int):=by
    rw[AN (by rw[htl];exact hkl),List.getElem_take];simp[iz]
   obtain⟨e1,e2⟩:=has_F hg hv (x:=P[k]'(by omega)) (by omega)
   simp only[dlt hkl,cond_true,hidx,bs,e1,e2,wq k]
   have hnext:(0<k→¬adj g v (P[k]'(by omega)))→∃y,some (Sum.inl (β:=Bool) ((k+1:Nat):Int))=some y∧Stp (λs=>∃k:Nat,s=(k:Int)∧k≤P.length-1∧∀i (h:i<P.length),0<i→i<k→¬adj g v P[i]) (λs=>P.length-s.toNat) (λb:Bool=>(b=true↔∀i (h:i<P.length),0<i→i+1<P.length→¬adj g v P[i])) (k:Int) y:=λhn=>by
    refine⟨_,rfl,⟨k+1,rfl,by omega,λi hi h0 hik=> ?_⟩,by dsimp only;omega⟩
    by_cases h:i<k
    ·exact hinv i hi h0 h
    ·obtain rfl:i=k:=by omega
     exact hn h0
   by_cases h0:0<k
   ·have hd:decide ((0:Int)<(k:Int))=true:=by simp;omega
    simp only[hd,cond_true]
    cases hb:nb (g.map mk) v (P[k]'(by omega))
    ·simp only[bs,cond_false]
     exact hnext (λ_ ha=>by rw[(BZ hg hv).2 ha] at hb;cases hb)
    ·simp only[bs,cond_true]
     exact⟨_,rfl,⟨λh=>(by cases h),λh=>absurd ((BZ hg hv).1 hb) (h k (by omega) h0 (by omega))⟩⟩
   ·have hd:decide ((0:Int)<(k:Int))=false:=by simp;omega
    simp only[hd,cond_false,bs]
    exact hnext (λh=>absurd h h0)
  ·obtain rfl:k=P.length-1:=by omega
   simp only[Bn,cond_false]
   exact⟨_,rfl,⟨λ_ i hi h0 h1=>hinv i hi h0 (by omega),λ_=>rfl⟩⟩
theorem cfOut_ok {P:List Nat}{long:Nat}(hG:Gd g long P)(hl:1≤P.length)(hl2:P.length<long)(hlong:long≤16)(h4:4≤long){v:Nat}(hv:v<g.length)(hvP:v∉P)(hadj:adj g (P[P.length-1]'(by omega)) v):
  ∃b,D.A0 (g.map mk) (long:Int) (iz P) (v:Int)=some b∧(b=true↔Gd g long (P++[v])):=by
 have h16:=hg.n16
 obtain⟨f,ef,hf⟩:=cfIn_ok hg hG.lt hl (by omega) hv
 have hP0:P[0]'(by omega)<g.length:=hG.lt _ (List.getElem_mem _)
 obtain⟨e1,e2⟩:=has_F hg hv (x:=P[0]'(by omega)) (by omega)
 have i0:idx (iz P) 0=some ((P[0]'(by omega):Nat):Int):=Co (i:=0) (by omega)
 have ew:IntKind.i64.wrap ((long:Int)-1)=(long:Int)-1:=w64 (by omega) (by omega)
 have hgd:Gd g long (P++[v])↔(∀i (h:i<P.length),0<i→i+1<P.length→¬adj g v P[i])∧(1<P.length→(adj g v (P[0]'(by omega))↔P.length+1=long)):=by
  have hsym:∀i (h:i<P.length),adj g P[i] v↔adj g v P[i]:=λi h=>⟨hg.sym _ _ (hG.lt _ (List.getElem_mem h)),hg.sym _ _ hv⟩
  constructor
  ·intro h
   have hlast:∀i (hi:i<P.length),i+1<P.length→(adj g v P[i]↔(i=0∧P.length+1=long)):=λi hi h1=>by
    have:=h.far i P.length (by omega) (by simp)
    rw[List.getElem_append_left hi,List.getElem_append_right (by omega)] at this
    simp only[Nat.sub_self,List.getElem_singleton] at this
    rw[←hsym i hi];exact this
   refine⟨λi hi h0 h1 ha=> ?_,λh1=> ?_⟩
   ·have:=(hlast i hi h1).1 ha;omega
   ·rw[hlast 0 (by omega) (by omega)];simp
  ·rintro⟨h1,h2⟩
   refine⟨?_,λx hx=> ?_,λi hi=> ?_,λi j hij hj=> ?_⟩
   ·rw[List.nodup_append]
    refine⟨hG.nd,by simp,λa ha b hb e=> ?_⟩
    simp at hb;subst hb;subst e;exact hvP ha
   ·rcases List.mem_append.1 hx with hx|hx
    ·exact hG.lt x hx
    ·simp at hx;subst hx;exact hv
   ·simp at hi
    by_cases hil:i+1<P.length
    ·rw[List.getElem_append_left (by omega),List.getElem_append_left hil];exact hG.step i hil
    ·rw[List.getElem_append_left (by omega),List.getElem_append_right (by omega)]
     simp only[List.getElem_singleton]
     have e:i=P.length-1:=by omega
     subst e;exact hadj
   ·simp at hj
    by_cases hjl:j<P.length
    ·rw[List.getElem_append_left (by omega),List.getElem_append_left hjl];exact hG.far i j hij hjl
    ·have e:j=P.length:=by omega
     subst e
     rw[List.getElem_append_left (by omega),List.getElem_append_right (by omega)]
     simp only[Nat.sub_self,List.getElem_singleton]
     rw[hsym i (by omega)]
     by_cases hi0:i=0
     ·subst hi0
      rw[h2 (by omega)];simp
     ·exact⟨λha=>absurd ha (h1 i (by omega) (by omega) hij),λh=>absurd h.1 hi0⟩
 unfold D.A0
 rw[Bk]
 by_cases h1:1<P.length
 ·have hd:decide ((1:Int)<(P.length:Int))=true:=by simp;omega
  simp only[hd,cond_true,e1,i0,bs,e2,ef,ew,Bool.true_and]
  cases f
  ·simp only[cond_false]
   refine⟨_,rfl,⟨λh=>(by cases h),λh=> ?_⟩⟩
   have:=hf.2 (hgd.1 h).1;cases this
  ·simp only[cond_true]
   refine⟨_,rfl,?_⟩
   rw[hgd,beq_iff_eq]
   have hlen:((P.length:Int)==(long:Int)-1)=decide (P.length+1=long):=by
    rw[Bool.eq_iff_iff,beq_iff_eq,decide_eq_true_eq];omega
   rw[hlen]
   constructor
   ·intro h
    refine⟨hf.1 rfl,λ_=> ?_⟩
    rw[←BZ hg hv,h,decide_eq_true_eq]
   ·rintro⟨_,h⟩
    have:=h h1
    rw[←BZ hg hv] at this
    rw[Bool.eq_iff_iff,this,decide_eq_true_eq]
 ·have hd:decide ((1:Int)<(P.length:Int))=false:=by simp;omega
  simp only[hd,cond_false,bs,ef,Bool.false_and]
  cases f
  ·simp only[cond_false]
   refine⟨_,rfl,⟨λh=>(by cases h),λh=> ?_⟩⟩
   have:=hf.2 (hgd.1 h).1;cases this
  ·simp only[cond_true]
   exact⟨_,rfl,⟨λ_=>hgd.2 ⟨hf.1 rfl,λh=>absurd h h1⟩,λ_=>rfl⟩⟩
end
end Go.Sx

namespace Go.Sx
section
variable {g : LL} (hg : GOk g)
include hg
theorem back_way {long:Nat}(h4:4≤long){P Q:List Nat}{v:Nat}(hP:1≤P.length)(h:Gd g long (P++v::Q))(hl:(P++v::Q).length=long):Way (adj g) (v::Q++[P[0]'(by omega)]):=by
 have hlen:P.length+(Q.length+1)=long:=by simpa using hl
 have hH:=h.hole hg hl h4
 rw[way_get]
 intro i hi
 have hi':i<Q.length+1:=by simpa using hi
 have hget:∀k (hk:k<Q.length+1),(v::Q)[k]'(by simpa using hk)=(P++v::Q)[P.length+k]'(by rw[hl];omega):=λk hk=>by
  rw[List.getElem_append_right (by omega)]
  congr 1;omega
 by_cases hil:i+1<Q.length+1
 ·rw[List.getElem_append_left (by simp;omega),List.getElem_append_left (by simp;omega),hget i hi',hget (i+1) hil]
  exact h.step (P.length+i) (by rw[hl];omega)
 ·have e:i=Q.length:=by omega
  subst e
  rw[List.getElem_append_left (by simp),List.getElem_append_right (by simp),hget _ hi']
  simp only[List.getElem_singleton]
  have hc:=hH.close
  have e1:(P++v::Q)[(P++v::Q).length-1]'(by rw[hl];omega)=(P++v::Q)[P.length+Q.length]'(by rw[hl];omega):=by congr 1;rw[hl];omega
  have e2:(P++v::Q)[0]'(by rw[hl];omega)=P[0]'(by omega):=List.getElem_append_left (by omega)
  rw[e1,e2] at hc
  exact hc
theorem cgR_ok {long:Nat}(h4:4≤long)(hlong:long≤16){far:LI}(hfl:far.length=g.length){v0:Nat}
  (hfar:∀(u:Nat) (l:List Nat),u<g.length→Way (adj g) (u::l++[v0])→0≤far.getD u 0∧far.getD u 0≤(l.length:Int)+1):
  ∀(m fuel:Nat) (P:List Nat) (used:Int),long-P.length=m→m<fuel→Gd g long P→(hP:1≤P.length)→P.length≤long→P[0]'(by omega)=v0→VS used→(∀x,El used x↔x∈P)→
   ∃r,D.L fuel (g.map mk) far (long:Int) (iz P) used=some r∧(r.1=true→∃Q,r.2.1=iz Q∧Gd g long Q∧Q.length=long)∧(r.1=false→r.2=(iz P,used)∧¬∃Q,Gd g long (P++Q)∧(P++Q).length=long):=by
 have h16:=hg.n16
 intro m
 induction m with
 |zero=>
  intro fuel P used hm hf hG hP hPl h0 vu hu
  obtain⟨f,rfl⟩:∃f,fuel=f+1:=⟨fuel-1,by omega⟩
  have hPL:P.length=long:=by omega
  have hlast:P[P.length-1]'(by omega)<g.length:=hG.lt _ (List.getElem_mem _)
  have h0n:P[0]'(by omega)<g.length:=hG.lt _ (List.getElem_mem _)
  obtain⟨e1,e2⟩:=has_F hg hlast (x:=P[0]'(by omega)) (by omega)
  have i0:idx (iz P) 0=some ((P[0]'(by omega):Nat):Int):=Co (i:=0) (by omega)
  have ew:IntKind.i64.wrap (((iz P).length:Int)-1)=((P.length-1:Nat):Int):=by rw[Bk,w64 (by omega) (by omega)];omega
  have hH:=hG.hole hg hPL h4
  have hb:nb (g.map mk) (P[P.length-1]'(by omega)) (P[0]'(by omega))=true:=(BZ hg hlast).2 hH.close
  unfold D.L
  rw[ew,Co (by omega),bs,e1,bs]
  have hd:(((iz P).length:Int)==(long:Int))=true:=by rw[Bk,beq_iff_eq];omega
  rw[hd,cond_true,i0,bs,e2,bs,hb]
  exact⟨_,rfl,λ_=>⟨P,rfl,hG,hPL⟩,λh=>by cases h⟩
 |succ m ih=>
  intro fuel P used hm hf hG hP hPl h0 vu hu
  obtain⟨f,rfl⟩:∃f,fuel=f+1:=⟨fuel-1,by omega⟩
  have hPL:P.length<long:=by omega
  have hlast:P[P.length-1]'(by omega)<g.length:=hG.lt _ (List.getElem_mem _)
  have vF:=(FOk.of hg).vs _ hlast
  have ew:IntKind.i64.wrap (((iz P).length:Int)-1)=((P.length-1:Nat):Int):=by rw[Bk,w64 (by omega) (by omega)];omega
  have e1:idx (g.map mk) ((P[P.length-1]'(by omega):Nat):Int)=some ((g.map mk).getD (P[P.length-1]'(by omega)) 0):=(has_F hg hlast (x:=0) (by omega)).1
  unfold D.L
  rw[ew,Co (by omega),bs,e1,bs]
  have hd:(((iz P).length:Int)==(long:Int))=false:=by rw[Bk,beq_eq_false_iff_ne];omega
  rw[hd,cond_false,CR _ (VS.iandNot _ _),bs]
  generalize hus:Aw (iandNot .u32 ((g.map mk).getD (P[P.length-1]'(by omega)) 0) used)=us
  have hmem:∀x,x∈us↔∃v:Nat,x=(v:Int)∧adj g (P[P.length-1]'(by omega)) v∧v∉P:=λx=>by
   rw[←hus,mem_elems]
   constructor
   ·rintro⟨v,_,hv,rfl⟩
    rw[Bi vF vu,Bool.and_eq_true] at hv
    refine⟨v,rfl,(BZ hg hlast).1 hv.1,λhm=> ?_⟩
    have:=(hu v).2 hm
    unfold El at this
    rw[this] at hv;simp at hv
   ·rintro⟨v,rfl,ha,hn⟩
    have hvn:=hg.lt hlast ha
    refine⟨v,by omega,?_,rfl⟩
    rw[Bi vF vu,Bool.and_eq_true]
    refine⟨(BZ hg hlast).2 ha,?_⟩
    cases hh:has used v
    ·rfl
    ·exact absurd ((hu v).1 hh) hn
  have husl:us.length≤32:=by rw[←hus];exact BX _
  have main:=A3 (k:=λr=>some r) (Q:=λr:Bool×LI×Int=>(r.1=true→∃Q,r.2.1=iz Q∧Gd g long Q∧Q.length=long)∧(r.1=false→r.2=(iz P,used)∧¬∃Q,Gd g long (P++Q)∧(P++Q).length=long)) (step:=D.w1 (D.L f (g.map mk) far (long:Int)) (g.map mk) far us (long:Int))
   (s:=(iz P,used,0)) (λs=>∃i:Nat,s=(iz P,used,(i:Int))∧i≤us.length∧∀j (hj:j<us.length),j<i→∀v:Nat,us[j]=(v:Int)→¬∃Q,Gd g long (P++v::Q)∧(P++v::Q).length=long) (λs=>us.length-s.2.2.toNat) (λr:Bool×LI×Int=>(r.1=true→∃Q,r.2.1=iz Q∧Gd g long Q∧Q.length=long)∧(r.1=false→r.2=(iz P,used)∧¬∃Q,Gd g long (P++Q)∧(P++Q).length=long)) ?_ ⟨0,rfl,by omega,λj _ h=>by omega⟩ (λr hr=>⟨r,rfl,hr⟩)
  ·obtain⟨r,e,hr⟩:=main
   exact⟨r,by simpa using e,hr⟩
  ·rintro _ ⟨i,rfl,hi,hno⟩
   unfold D.w1
   dsimp only
   by_cases hil:i<us.length
   ·obtain⟨v,ev,hadj,hvP⟩:=(hmem _).1 (List.getElem_mem hil)
    have hvn:=hg.lt hlast hadj
    have hfv:idx far (v:Int)=some (far.getD v 0):=by rw[AN (by omega),AX (by omega)]
    have hwl:IntKind.i64.wrap ((long:Int)-((iz P).length:Int))=(long:Int)-(P.length:Int):=by rw[Bk,w64 (by omega) (by omega)]
    have hm1:long-(P++[v]).length=m:=by rw[List.length_append,List.length_singleton];omega
    have hl1:(P++[v]).length≤long:=by rw[List.length_append,List.length_singleton];omega
    have hmf:m<f:=by omega
    have hv32:v<32:=by omega
    have h0':(P++[v])[0]'(by simp)=v0:=by rw[List.getElem_append_left (by omega)];exact h0
    have hpl4:(iz P).length+1≤4294967296:=by rw[Bk];omega
    have hnext:(¬∃Q,Gd g long (P++v::Q)∧(P++v::Q).length=long)→∃y,some (Sum.inl (β:=Bool×LI×Int) (iz P,used,((i+1:Nat):Int)))=some y∧Stp (λs=>∃i:Nat,s=(iz P,used,(i:Int))∧i≤us.length∧∀j (hj:j<us.length),j<i→∀v:Nat,us[j]=(v:Int)→¬∃Q,Gd g long (P++v::Q)∧(P++v::Q).length=long) (λs=>us.length-s.2.2.toNat) (λr:Bool×LI×Int=>(r.1=true→∃Q,r.2.1=iz Q∧Gd g long Q∧Q.length=long)∧(r.1=false→r.2=(iz P,used)∧¬∃Q,Gd g long (P++Q)∧(P++Q).length=long)) (iz P,used,(i:Int)) y:=λh=>by
     refine⟨_,rfl,⟨i+1,rfl,by omega,λj hj hji w ew=> ?_⟩,by simp;omega⟩
     by_cases hjl:j<i
     ·exact hno j hj hjl w ew
     ·obtain rfl:j=i:=by omega
      obtain rfl:w=v:=by rw[ew] at ev;omega
      exact h
    have hfarQ:(∃Q,Gd g long (P++v::Q)∧(P++v::Q).length=long)→0≤far.getD v 0∧far.getD v 0≤(long:Int)-(P.length:Int):=fun⟨Q,h1,h2⟩=>by
     have hw:=back_way hg h4 hP h1 h2
     rw[h0] at hw
     have:=hfar v Q hvn hw
     have hlen:P.length+(Q.length+1)=long:=by simpa using h2
     omega
    have hf0b:far.getD v 0<0→¬∃Q,Gd g long (P++v::Q)∧(P++v::Q).length=long:=λh hq=>absurd (hfarQ hq).1 (Int.not_le.2 h)
    have hf1b:(long:Int)-(P.length:Int)<far.getD v 0→¬∃Q,Gd g long (P++v::Q)∧(P++v::Q).length=long:=λh hq=>absurd (hfarQ hq).2 (Int.not_le.2 h)
    clear hfarQ
    rw[dlt hil,cond_true,AN hil,ev,bs]
    have hskip:∃s,D.z1 (g.map mk) far (long:Int) (iz P) (v:Int)=some s∧(s=true→¬∃Q,Gd g long (P++v::Q)∧(P++v::Q).length=long)∧(s=false→Gd g long (P++[v])):=by
     unfold D.z1
     rw[hfv,bs,hwl]
     by_cases hf0:far.getD v 0<0
     ·rw[decide_eq_true hf0,cond_true]
      exact⟨true,rfl,λ_ hq=>hf0b hf0 hq,λh=>by cases h⟩
     ·rw[decide_eq_false hf0,cond_false]
      by_cases hf1:(long:Int)-(P.length:Int)<far.getD v 0
      ·rw[decide_eq_true hf1,cond_true]
       exact⟨true,rfl,λ_ hq=>hf1b hf1 hq,λh=>by cases h⟩
      ·rw[decide_eq_false hf1,cond_false]
       obtain⟨b,eb,hb⟩:=cfOut_ok hg hG hP hPL hlong h4 hvn hvP hadj
       rw[eb,bs]
       refine⟨!b,rfl,λh=> ?_,λh=>hb.1 (by simpa using h)⟩
       rintro⟨Q,h1,_⟩
       have:=h1.take (P.length+1)
       have e:(P++v::Q).take (P.length+1)=P++[v]:=by
        rw[List.take_append,List.take_of_length_le (by omega)]
        simp
       rw[e] at this
       rw[hb.2 this] at h;cases h
    obtain⟨s,es,hs1,hs2⟩:=hskip
    rw[es,bs]
    cases s
    ·have hG':=hs2 rfl
     clear hs1 hs2 hf0b hf1b
     have hone:=BA hv32
     rw[cond_false,Br hpl4,bs,BE,bs,←iz_app]
     obtain⟨r,er,hr1,hr2⟩:=ih f (P++[v]) (ior .u32 used (ishl .u32 1 (v:Int))) hm1 hmf hG' (by simp) hl1 h0' (VS.ior _ _) (λx=>by
      unfold El
      rw[Cz vu (VS.ishl _ _),hone,Bool.or_eq_true,decide_eq_true_eq,List.mem_append]
      have:=hu x
      unfold El at this
      rw[this];simp)
     rw[er,bs]
     cases hb:r.1
     ·rw[cond_false]
      obtain⟨hr3,hr4⟩:=hr2 hb
      rw[hr3]
      have hcut:BD (iz (P++[v])) 0 (IntKind.i64.wrap (((iz (P++[v])).length:Int)-1))=some (iz P):=by
       have e:IntKind.i64.wrap (((iz (P++[v])).length:Int)-1)=((P.length:Nat):Int):=by rw[Bk,w64 (by simp only[List.length_append,List.length_cons,List.length_nil];omega) (by simp only[List.length_append,List.length_cons,List.length_nil];omega)];simp
       rw[e,CX (by rw[Bk];simp),iz_app,List.take_append_of_le_length (by rw[Bk];omega),←Bk P,List.take_length]
      have hback:iandNot .u32 (ior .u32 used (ishl .u32 1 (v:Int))) (ishl .u32 1 (v:Int))=used:=by
       refine VS.ext (VS.iandNot _ _) vu (λx _=> ?_)
       rw[Bi (VS.ior _ _) (VS.ishl _ _),Cz vu (VS.ishl _ _),hone]
       by_cases hxv:x=v
       ·subst hxv
        have:has used x=false:=by
         cases hh:has used x
         ·rfl
         ·exact absurd ((hu x).1 hh) hvP
        simp[this]
       ·simp[hxv]
      dsimp only
      rw[hcut,bs,hback,wi (by omega)]
      refine hnext (fun⟨Q,h1,h2⟩=>hr4 ⟨Q,?_,?_⟩)
      ·rw[List.append_assoc];exact h1
      ·rw[List.append_assoc];exact h2
     ·rw[cond_true]
      exact⟨_,rfl,λ_=>hr1 hb,λh=>by cases h⟩
    ·rw[cond_true,wi (by omega)]
     exact hnext (hs1 rfl)
   ·obtain rfl:i=us.length:=by omega
    rw[Bn,cond_false]
    refine⟨_,rfl,λh=>(by cases h),λ_=>⟨rfl,?_⟩⟩
    rintro⟨Q,h1,h2⟩
    cases Q with
    |nil=>simp at h2;omega
    |cons v Q=>
     have hv:v∈P++v::Q:=by simp
     have hst:=h1.step (P.length-1) (by simp;omega)
     have ea:(P++v::Q)[P.length-1]'(by simp;omega)=P[P.length-1]'(by omega):=List.getElem_append_left (by omega)
     have eb:(P++v::Q)[P.length-1+1]'(by simp;omega)=v:=by
      rw[List.getElem_append_right (by omega)]
      have:P.length-1+1-P.length=0:=by omega
      simp[this]
     rw[ea,eb] at hst
     have hvP:v∉P:=λhm=>by
      have:=(List.nodup_append.1 h1.nd).2.2 v hm v (by simp)
      exact this rfl
     obtain⟨j,hj,ej⟩:=List.getElem_of_mem ((hmem (v:Int)).2 ⟨v,rfl,hst,hvP⟩)
     exact hno j hj hj v ej ⟨Q,h1,h2⟩
end
end Go.Sx

namespace Go.Sx
def Nr (ad:Nat→Nat→Prop)(v:Nat):Nat→Nat→Prop
 |0,_=>False
 |k+1,u=>u=v∨∃w,Nr ad v k w∧ad w u
theorem Nr.up {ad:Nat→Nat→Prop}{v:Nat}:∀{k u:Nat},Nr ad v k u→Nr ad v (k+1) u
 |0,_,h=>h.elim
 |_+1,_,h=>h.imp id (fun⟨w,h1,h2⟩=>⟨w,h1.up,h2⟩)
theorem Nr.shut {ad:Nat→Nat→Prop}{v d:Nat}(h:∀u,Nr ad v (d+1) u→Nr ad v d u):∀(j u:Nat),Nr ad v j u→Nr ad v d u
 |0,_,h0=>h0.elim
 |j+1,u,h0=>by
  rcases h0 with rfl|⟨w,h1,h2⟩
  ·exact h _ (.inl rfl)
  ·exact h _ (.inr ⟨w,Nr.shut h j w h1,h2⟩)
theorem ED (d:Int):∀(xs:LI) (out:LI) (u:Nat),(xs.foldl (λo x=>o.set x.toNat d) out).length=out.length∧((u:Int)∈xs→u<out.length→(xs.foldl (λo x=>o.set x.toNat d) out).getD u 0=d)∧((∀x∈xs,x.toNat≠u)→(xs.foldl (λo x=>o.set x.toNat d) out).getD u 0=out.getD u 0)
 |[],out,u=>⟨rfl,λh=>(by cases h),λ_=>rfl⟩
 |x::xs,out,u=>by
  obtain⟨h1,h2,h3⟩:=ED d xs (out.set x.toNat d) u
  simp only[List.foldl_cons]
  have hg:∀q:Nat,(out.set q d).getD u 0=if q=u∧u<out.length then d else out.getD u 0:=λq=>by
   rw[List.getD_eq_getElem?_getD,List.getElem?_set]
   by_cases hq:q=u
   ·subst hq
    by_cases hl:q<out.length
    ·simp[hl]
    ·simp[hl]
   ·simp[hq]
  refine⟨by rw[h1,List.length_set],λhm hu=> ?_,λhn=> ?_⟩
  ·by_cases hx:(u:Int)∈xs
   ·exact h2 hx (by rw[List.length_set];exact hu)
   ·have hxu:x=(u:Int):=by
     rcases List.mem_cons.1 hm with h|h
     ·exact h.symm
     ·exact absurd h hx
    by_cases hy:∀y∈xs,y.toNat≠u
    ·rw[h3 hy,hg,if_pos ⟨by rw[hxu];simp,hu⟩]
    ·
     clear h3
     have key:∀(ys:LI) (o:LI),o.getD u 0=d→u<o.length→(ys.foldl (λo x=>o.set x.toNat d) o).getD u 0=d:=by
      intro ys
      induction ys with
      |nil=>intro o h _;exact h
      |cons y ys ih=>
       intro o h hl
       simp only[List.foldl_cons]
       refine ih _ ?_ (by rw[List.length_set];exact hl)
       rw[List.getD_eq_getElem?_getD,List.getElem?_set]
       by_cases hq:y.toNat=u
       ·simp[hq,hl]
       ·rw[if_neg hq,←List.getD_eq_getElem?_getD];exact h
     exact key xs _ (by rw[hg,if_pos ⟨by rw[hxu];simp,hu⟩]) (by rw[List.length_set];exact hu)
  ·rw[h3 (λy hy=>hn y (by simp[hy])),hg,if_neg (λh=>hn x (by simp) h.1)]
section
variable {g : LL} (hg : GOk g)
include hg
theorem Nr.lt {v:Nat}(hv:v<g.length):∀{k u:Nat},Nr (adj g) v k u→u<g.length
 |0,_,h=>h.elim
 |k+1,u,h=>by
  rcases h with rfl|⟨w,h1,h2⟩
  ·exact hv
  ·exact hg.lt (Nr.lt hv h1) h2
theorem Nr.of {v:Nat}:∀(l:List Nat) (u:Nat),u<g.length→Way (adj g) (u::l++[v])→Nr (adj g) v (l.length+2) u
 |[],u,hu,h=> .inr ⟨v,.inl rfl,hg.sym _ _ hu h.1⟩
 |a::l,u,hu,h=> .inr ⟨a,Nr.of l a (hg.lt hu h.1) h.2,hg.sym _ _ hu h.1⟩
theorem distances_ok {v:Nat}(hv:v<g.length){all:Int}(va:VS all)(hall:∀w,has all w=decide (w<g.length)):
  ∃far,D.m0 (g.map mk) (v:Int) all=some far∧(far.length=g.length∧∀u j,Nr (adj g) v (j+1) u→0≤far.getD u 0∧far.getD u 0≤(j:Int)):=by
 have h16:=hg.n16
 have hlm:(g.map mk).length=g.length:=by simp
 unfold D.m0
 rw[C9 (by omega) (by omega),bs]
 refine(?_:∃far,_=some far∧_)
 rw[loop_set (List.replicate (g.map mk).length (-1:Int)) (List.replicate (g.map mk).length (0:Int)) (by simp) (λl i=>(l,i)) (List.replicate (g.map mk).length (-1:Int)) rfl (λl i hi hl=>by
  have hi':i<(g.map mk).length:=by simpa using hi
  have hl':i<l.length:=by rw[hl];exact hi
  simp only[List.length_replicate,dlt hi',cond_true,AN hl',bs,wq i,Int.toNat_natCast,List.getElem_replicate]) (by simp only[List.length_replicate,Bn,cond_false])]
 rw[AN (by simp;exact hv),bs,BE,bs,bs,Int.toNat_natCast]
 have hF:=FOk.of hg
 have hv32:v<32:=by omega
 refine A3 (λs:LI×Int×Int×Int=>∃(d:Nat) (layer seen:Int) (out:LI),s=(out,((d+1:Nat):Int),layer,seen)∧out.length=g.length∧VS layer∧VS seen∧(∀u,has seen u=true↔Nr (adj g) v (d+1) u)∧(∀u,has layer u=true↔Nr (adj g) v (d+1) u∧¬Nr (adj g) v d u)∧(∀u j,Nr (adj g) v (d+1) u→Nr (adj g) v (j+1) u→0≤out.getD u 0∧out.getD u 0≤(j:Int))∧d≤(Aw seen).length∧(layer≠0→d+1≤(Aw seen).length))
  (λs=>2*(33-(Aw s.2.2.2).length)+(if s.2.2.1=0 then 0 else 1)) (λfar:LI=>far.length=g.length∧∀u j,Nr (adj g) v (j+1) u→0≤far.getD u 0∧far.getD u 0≤(j:Int)) ?_ ?_ (λr hr=>⟨r,rfl,hr⟩)
 ·rintro _ ⟨d,layer,seen,out,rfl,hol,vl,vs,hs,hla,ho,hd1,hd2⟩
  dsimp only
  have hsl:=BX seen
  by_cases hz:layer=0
  ·have e0:(layer !=0)=false:=by simp[hz]
   rw[e0,cond_false]
   refine⟨_,rfl,hol,λu j hj=>ho u j ?_ hj⟩
   refine(Nr.shut (λw hw=> ?_) (j+1) u hj).up
   apply Classical.byContradiction
   intro hn
   have:=(hla w).2 ⟨hw,hn⟩
   rw[hz,Dp] at this;cases this
  ·have e0:(layer !=0)=true:=by simp[hz]
   have hd2:=hd2 hz
   have hlt:∀x∈Aw layer,∃i:Nat,x=(i:Int)∧i<g.length∧has layer i=true:=λx hx=>by
    obtain⟨i,_,h2,rfl⟩:=mem_elems.1 hx
    exact⟨i,rfl,Nr.lt hg hv ((hla i).1 h2).1,h2⟩
   have hvx:∀x∈Aw layer,VS ((g.map mk).getD x.toNat 0):=λx hx=>by
    obtain⟨i,rfl,hi,_⟩:=hlt x hx
    rw[Int.toNat_natCast];exact hF.vs i hi
   have hll:=BX layer
   rw[e0,cond_true,CR _ vl,bs]
   have hU:=EG (step:=fun(s_643:Int×Int)=>match s_643 with|(x_646,x_647)=>cond (decide (x_647<((Aw layer).length:Int))) ((idx (Aw layer) x_647).bind λe_666=>(idx (g.map mk) e_666).bind λe_672=>some (.inl ((ior .u32 x_646 e_672),(IntKind.i64.wrap (x_647+1))))) (some (.inr x_646))) (Aw layer) (fun(a:Int) (i:Int)=>(a,i)) (λa x=>ior .u32 a ((g.map mk).getD x.toNat 0)) (λa=>a) (λ_=>True) 0 trivial
    (λs i hi _=>by
     refine⟨?_,trivial⟩
     obtain⟨k,e,hk,_⟩:=hlt _ (List.getElem_mem hi)
     have hk':k<(g.map mk).length:=by omega
     simp only[dlt hi,cond_true,AN hi,bs,e,AN hk',Int.toNat_natCast,wq i,AX hk'])
    (λs _=>by simp only[Bn,cond_false])
   obtain⟨vU,hUu⟩:VS ((Aw layer).foldl (λa x=>ior .u32 a ((g.map mk).getD x.toNat 0)) 0)∧∀u,has ((Aw layer).foldl (λa x=>ior .u32 a ((g.map mk).getD x.toNat 0)) 0) u=true↔∃w,has layer w=true∧adj g w u:=by
    refine⟨(D7 0 (Aw layer) 0 VS.zero hvx).1,λu=> ?_⟩
    rw[(D7 u (Aw layer) 0 VS.zero hvx).2,Dp]
    constructor
    ·rintro(h|⟨x,hx,h⟩)
     ·cases h
     ·obtain⟨i,rfl,hi,hpi⟩:=hlt x hx
      rw[Int.toNat_natCast] at h
      exact⟨i,hpi,(BZ hg hi).1 h⟩
    ·rintro⟨i,hpi,h⟩
     have hi:=Nr.lt hg hv ((hla i).1 hpi).1
     exact .inr ⟨(i:Int),(Be vl).2 hpi,by rw[Int.toNat_natCast];exact(BZ hg hi).2 h⟩
   rw[hU.1,bs]
   generalize (Aw layer).foldl (λa x=>ior .u32 a ((g.map mk).getD x.toNat 0)) 0=un at vU hUu
   clear hU
   rw[CR _ (VS.iandNot _ _),bs]
   generalize hL:iandNot .u32 (iand .u32 un all) seen=lay
   have vL:VS lay:=by rw[←hL];exact VS.iandNot _ _
   have hLl:=BX lay
   have hLu:∀u,has lay u=true↔Nr (adj g) v (d+2) u∧¬Nr (adj g) v (d+1) u:=λu=>by
    rw[←hL,Bi (VS.iand _ _) vs,BP vU va,Bool.and_eq_true,Bool.and_eq_true,hUu,hall,decide_eq_true_eq,Bool.not_eq_true',←Bool.not_eq_true,hs]
    constructor
    ·rintro⟨⟨⟨w,h1,h2⟩,_⟩,h4⟩
     exact⟨.inr ⟨w,((hla w).1 h1).1,h2⟩,h4⟩
    ·rintro⟨h1,h2⟩
     refine⟨⟨?_,Nr.lt hg hv h1⟩,h2⟩
     rcases h1 with rfl|⟨w,h3,h4⟩
     ·exact absurd (.inl rfl) h2
     ·refine⟨w,(hla w).2 ⟨h3,λh5=>h2 (.inr ⟨w,h5,h4⟩)⟩,h4⟩
   have hltL:∀x∈Aw lay,∃i:Nat,x=(i:Int)∧i<g.length∧has lay i=true:=λx hx=>by
    obtain⟨i,_,h2,rfl⟩:=mem_elems.1 hx
    exact⟨i,rfl,Nr.lt hg hv ((hLu i).1 h2).1,h2⟩
   have hO:=EG (step:=fun(s_724:LI×Int)=>match s_724 with|(l_727,x_730)=>cond (decide (x_730<((Aw lay).length:Int))) ((idx (Aw lay) x_730).bind λe_751=>(idx l_727 e_751).bind λe_757=>some (.inl ((l_727.set (Int.toNat e_751) ((d+1:Nat):Int)),(IntKind.i64.wrap (x_730+1))))) (some (.inr l_727))) (Aw lay) (fun(a:LI) (i:Int)=>(a,i)) (λo x=>o.set x.toNat ((d+1:Nat):Int)) (λa=>a) (λo=>o.length=g.length) out hol
    (λs i hi hsl=>by
     refine⟨?_,by rw[List.length_set];exact hsl⟩
     obtain⟨k,e,hk,_⟩:=hltL _ (List.getElem_mem hi)
     have hk':k<s.length:=by omega
     simp only[dlt hi,cond_true,AN hi,bs,e,AN hk',Int.toNat_natCast,wq i])
    (λs _=>by simp only[Bn,cond_false])
   rw[hO.1,bs,wi (by omega)]
   have hget:=ED ((d+1:Nat):Int) (Aw lay) out
   generalize hO':(Aw lay).foldl (λo x=>o.set x.toNat ((d+1:Nat):Int)) out=out' at hO hget
   have hseen':∀u,has (ior .u32 seen lay) u=true↔Nr (adj g) v (d+2) u:=λu=>by
    rw[Cz vs vL,Bool.or_eq_true,hs,hLu]
    constructor
    ·rintro(h|h)
     ·exact h.up
     ·exact h.1
    ·intro h
     by_cases h2:Nr (adj g) v (d+1) u
     ·exact .inl h2
     ·exact .inr ⟨h,h2⟩
   have hgrow:(Aw seen).length≤(Aw (ior .u32 seen lay)).length:=B4 (Ck seen).nodup (λx hx=>by
    obtain⟨i,_,h2,rfl⟩:=mem_elems.1 hx
    rw[Be (VS.ior _ _),Cz vs vL,h2];rfl)
   have hgrow2:lay≠0→(Aw seen).length+1≤(Aw (ior .u32 seen lay)).length:=λhne=>by
    have hex:∃u,has lay u=true:=by
     apply Classical.byContradiction
     intro hno
     apply hne
     rw[VS.eq_zero vL]
     intro u _
     cases hh:has lay u
     ·rfl
     ·exact absurd ⟨u,hh⟩ hno
    obtain⟨u,hu⟩:=hex
    have hnu:(u:Int)∉Aw seen:=λhm=>by
     rw[Be vs,hs] at hm
     exact((hLu u).1 hu).2 hm
    have:=B4 (l:=(u:Int)::Aw seen) (m:=Aw (ior .u32 seen lay)) (List.nodup_cons.2 ⟨hnu,(Ck seen).nodup⟩) (λx hx=>by
     rcases List.mem_cons.1 hx with rfl|hx
     ·rw[Be (VS.ior _ _),Cz vs vL,hu];simp
     ·obtain⟨i,_,h2,rfl⟩:=mem_elems.1 hx
      rw[Be (VS.ior _ _),Cz vs vL,h2];rfl)
    simpa using this
   have hsl':=BX (ior .u32 seen lay)
   refine⟨_,rfl,⟨d+1,lay,ior .u32 seen lay,out',rfl,hO.2,vL,VS.ior _ _,hseen',hLu,λu j h1 h2=> ?_,by omega,λh=> ?_⟩,?_⟩
   ·have hun:=Nr.lt hg hv h1
    by_cases h3:Nr (adj g) v (d+1) u
    ·rw[(hget u).2.2 (λx hx he=>by
      obtain⟨i,rfl,_,h4⟩:=hltL x hx
      rw[Int.toNat_natCast] at he
      subst he
      exact((hLu i).1 h4).2 h3)]
     exact ho u j h3 h2
    ·rw[(hget u).2.1 ((Be vL).2 ((hLu u).2 ⟨h1,h3⟩)) (by omega)]
     have hdj:d+1≤j:=by
      apply Classical.byContradiction
      intro hn
      apply h3
      have up:∀t,Nr (adj g) v (j+1+t) u:=λt=>by
       induction t with
       |zero=>exact h2
       |succ t ih=>exact ih.up
      have:=up (d-j)
      rwa [show j+1+(d-j)=d+1 by omega] at this
     omega
   ·have:=hgrow2 h;omega
   ·dsimp only
    rw[if_neg hz]
    by_cases h:lay=0
    ·rw[if_pos h];omega
    ·have:=hgrow2 h
     rw[if_neg h];omega
 ·refine⟨0,ishl .u32 1 (v:Int),ishl .u32 1 (v:Int),_,rfl,by simp,VS.ishl _ _,VS.ishl _ _,λu=> ?_,λu=> ?_,λu j h1 h2=> ?_,by omega,λ_=> ?_⟩
  ·rw[BA hv32,decide_eq_true_eq]
   constructor
   ·exact λh=> .inl h
   ·rintro(h|⟨w,h,_⟩)
    ·exact h
    ·exact h.elim
  ·rw[BA hv32,decide_eq_true_eq]
   constructor
   ·exact λh=>⟨.inl h,λh=>h.elim⟩
   ·rintro⟨h|⟨w,h,_⟩,_⟩
    ·exact h
    ·exact h.elim
  ·have e:u=v:=by
    rcases h1 with h|⟨w,h,_⟩
    ·exact h
    ·exact h.elim
   subst e
   have:((List.replicate (g.map mk).length (-1:Int)).set u 0).getD u 0=0:=by
    simp[List.getD_eq_getElem?_getD,hv]
   rw[this];omega
  ·have:=B4 (l:=[(v:Int)]) (m:=Aw (ishl .u32 1 (v:Int))) (by simp) (λx hx=>by
    obtain rfl:x=(v:Int):=by simpa using hx
    rw[Be (VS.ishl _ _),BA hv32];simp)
   simpa using this
end
end Go.Sx

namespace Go.Sx
section
variable {g : LL} (hg : GOk g)
include hg
theorem adj_lt {a b:Nat}(h:adj g a b):a<g.length:=by
 apply Classical.byContradiction
 intro hn
 unfold adj row at h
 rw[List.getD_eq_getElem?_getD,List.getElem?_eq_none (by omega)] at h
 simp at h
theorem Dm (a b:Nat)(h:adj g a b):adj g b a:=hg.sym _ _ (adj_lt hg h) h
theorem adj_irr (a:Nat)(h:adj g a a):False:=hg.irr _ (adj_lt hg h) h
theorem Dg :D.s g=some (pk (g.map mk) g.length g.length (full g.length)).isSome:=by
 have hn1:=hg.n1
 unfold D.s
 rw[BH g hg.sh2,CC hg,bs,cond_true,Dd g hg,bs,DX hg,bs]
 cases hp:pk (g.map mk) g.length g.length (full g.length) with
 |none=>rfl
 |some l=>
  have:=pk_len hp
  cases l with
  |nil=>simp at this;omega
  |cons x t=>rfl
theorem hole_ex (hp:pk (g.map mk) g.length g.length (full g.length)=none):∃c,Hole (adj g) c∧∀x∈c,x<g.length:=by
 apply Classical.byContradiction
 intro hno
 have hF:=FOk.of hg
 obtain⟨l,hl⟩:=pk_some hg (λs vs hsn h0=>by
  have hex:∃v,has s v=true:=by
   apply Classical.byContradiction
   intro hn
   apply h0
   rw[VS.eq_zero vs]
   intro v _
   cases hh:has s v
   ·rfl
   ·exact absurd ⟨v,hh⟩ hn
  obtain⟨z,hz,hsm⟩:=smp_of (ad:=adj g) (Dm hg) (adj_irr hg) (X:=λv=>has s v=true) ⟨List.range g.length,λx hx=>List.mem_range.2 (hsn x hx)⟩ (λc hc hX=>hno ⟨c,hc,λx hx=>hsn x (hX x hx)⟩) hex
  refine⟨z,hsn z hz,hz,λa b ha hb hab=> ?_⟩
  have vF:=hF.vs z (hsn z hz)
  rw[BP vF vs,Bool.and_eq_true] at ha hb
  have a1:=(BZ hg (hsn z hz)).1 ha.1
  have b1:=(BZ hg (hsn z hz)).1 hb.1
  exact(BZ hg (hg.lt (hsn z hz) a1)).2 (hsm a b ha.2 hb.2 a1 b1 hab)) g.length (full g.length) (SQ.full hg.n16)
 rw[hp] at hl;cases hl
theorem loop_ok (hp:pk (g.map mk) g.length g.length (full g.length)=none):∃r:LI×Bool,D.I g=some r∧(r.2=true∧∃c,r.1=iz c∧Hole (adj g) c∧∀x∈c,x<g.length):=by
 have h16:=hg.n16
 have hlm:(g.map mk).length=g.length:=by simp
 obtain⟨c0,hc0,hc0n⟩:=hole_ex hg hp
 have hbound:∀c:List Nat,c.Nodup→(∀x∈c,x<g.length)→c.length≤g.length:=λc hnd hlt=>by
  have:=B4 (l:=iz c) (m:=(List.range g.length).map Int.ofNat) (by
   unfold iz
   exact List.pairwise_map.2 (hnd.imp (λh h'=>h (Int.ofNat.inj h')))) (λx hx=>by
   unfold iz at hx
   obtain⟨v,hv,rfl⟩:=List.mem_map.1 hx
   exact List.mem_map.2 ⟨v,List.mem_range.2 (hlt v hv),rfl⟩)
  rw[Bk] at this
  simpa using this
 have hc0l:=hbound c0 hc0.nd hc0n
 obtain⟨all,eall,va,hall⟩:=Dq (g.map mk) (by omega)
 rw[hlm] at hall
 unfold D.I
 rw[BH g hg.sh2,CC hg,bs,Bool.not_true,cond_false,Dg hg,hp,bs]
 simp only[Option.isSome_none,cond_false]
 rw[Dd g hg,bs]
 have main:=A3 (k:=λr:LI×Bool=>some r) (Q:=λr:LI×Bool=>r.2=true∧∃c,r.1=iz c∧Hole (adj g) c∧∀x∈c,x<g.length) (step:=D.x1 (g.map mk)) (s:=(4:Int))
  (λs=>∃long:Nat,s=(long:Int)∧4≤long∧long≤g.length+1∧∀c,Hole (adj g) c→(∀x∈c,x<g.length)→long≤c.length) (λs=>g.length+1-s.toNat) (λr:LI×Bool=>r.2=true∧∃c,r.1=iz c∧Hole (adj g) c∧∀x∈c,x<g.length) ?_ ⟨4,rfl,by omega,by have:=hc0.len;omega,λc hc _=>hc.len⟩ (λr hr=>⟨r,rfl,hr⟩)
 ·obtain⟨r,e,hr⟩:=main
  exact⟨r,by simpa using e,hr⟩
 rintro _ ⟨long,rfl,h4,hl1,hno⟩
 have hll:long≤g.length:=Nat.le_trans (hno c0 hc0 hc0n) hc0l
 unfold D.x1
 have hd:decide ((long:Int)≤((g.map mk).length:Int))=true:=by rw[hlm];simp;exact hll
 rw[hd,cond_true,wi (by omega)]
 refine A3 (λs=>∃v:Nat,s=(v:Int)∧v≤g.length∧∀w,w<v→¬∃Q,Gd g long (w::Q)∧(w::Q).length=long) (λs=>g.length-s.toNat)
  (λo=>(o=none∧∀w,w<g.length→¬∃Q,Gd g long (w::Q)∧(w::Q).length=long)∨∃c,o=some (iz c)∧Hole (adj g) c∧∀x∈c,x<g.length) ?_ ⟨0,rfl,by omega,λw h=>by omega⟩ ?_
 ·rintro _ ⟨v,rfl,hv,hnv⟩
  unfold D.A1
  by_cases hvn:v<g.length
  ·rw[dlt (show v<(g.map mk).length by omega),cond_true,eall,bs]
   obtain⟨far,efar,hfl,hfar⟩:=distances_ok hg hvn va hall
   have hG1:Gd g long [v]:=⟨by simp,λx hx=>by simp at hx;omega,λi hi=>by simp at hi,λi j hij hj=>by simp at hj;omega⟩
   have hf:=E4
   obtain⟨r,er,hr1,hr2⟩:=cgR_ok hg h4 (by omega) hfl (v0:=v) (λu l hu hw=>by
    have:=hfar u (l.length+1) (Nr.of hg l u hu hw)
    exact⟨this.1,by have:=this.2;omega⟩) (long-1) CS [v] (ishl .u32 1 (v:Int)) (by simp) (by omega) hG1 (by simp) (by simp;omega) rfl (VS.ishl _ _) (λx=>by
     unfold El
     rw[BA (by omega),decide_eq_true_eq];simp)
   rw[efar,bs,BE,bs]
   have er':D.L CS (g.map mk) far (long:Int) [(v:Int)] (ishl .u32 1 (v:Int))=some r:=er
   rw[er',bs,wi (by omega)]
   cases hb:r.1
   ·rw[cond_false]
    refine⟨_,rfl,⟨v+1,rfl,by omega,λw hw=> ?_⟩,by dsimp only;omega⟩
    by_cases h:w<v
    ·exact hnv w h
    ·obtain rfl:w=v:=by omega
     exact(hr2 hb).2
   ·rw[cond_true]
    obtain⟨Q,eQ,hGQ,hQl⟩:=hr1 hb
    rw[eQ,wide_eq _ (by unfold Sh;rw[Bk];omega),bs]
    exact⟨_,rfl,.inr ⟨Q,rfl,hGQ.hole hg hQl h4,hGQ.lt⟩⟩
  ·obtain rfl:v=g.length:=by omega
   have e:decide (((g.length:Nat):Int)<((g.map mk).length:Int))=false:=by rw[hlm];simp
   rw[e,cond_false]
   exact⟨_,rfl,.inl ⟨rfl,hnv⟩⟩
 ·rintro o (⟨rfl,hn⟩|⟨c,rfl,hc⟩)
  ·have hnext:∀c,Hole (adj g) c→(∀x∈c,x<g.length)→long+1≤c.length:=λc hc hcn=>by
    have h1:=hno c hc hcn
    apply Classical.byContradiction
    intro h2
    have e:c.length=long:=by omega
    cases c with
    |nil=>simp at e;omega
    |cons w Q=>
     have:=hc.gd hg hcn
     rw[e] at this
     exact hn w (hcn w (by simp)) ⟨Q,this,e⟩
   exact⟨_,rfl,⟨long+1,rfl,by omega,by omega,hnext⟩,by dsimp only;omega⟩
  ·exact⟨_,rfl,rfl,c,rfl,hc⟩
theorem loop_none {l:LI}(hp:pk (g.map mk) g.length g.length (full g.length)=some l):D.I g=some ([],false):=by
 unfold D.I
 rw[BH g hg.sh2,CC hg,bs,Bool.not_true,cond_false,Dg hg,hp,bs]
 rfl
end
end Go.Sx

namespace Go.Sx
theorem vhas_eq {s:Int}(hs:VS s){x:Nat}(hx:x<32):D.m s (x:Int)=some (has s x):=by
 unfold D.m
 have:decide ((x:Int)<0)=false:=by simp
 rw[this,cond_false,bitAt_eq hs hx]
theorem mk_snoc (xs:LI)(v:Int):mk (xs++[v])=ior .u32 (mk xs) (ishl .u32 1 v):=by
 unfold mk;rw[List.foldl_append];rfl
theorem iz_mem {c:List Nat}{v:Nat}:(v:Int)∈iz c↔v∈c:=by
 unfold iz
 rw[List.mem_map]
 constructor
 ·rintro⟨w,hw,e⟩
  have e:(w:Int)=(v:Int):=e
  have:w=v:=by omega
  exact this▸hw
 ·exact λh=>⟨v,h,rfl⟩
theorem iz_take {c:List Nat}{v i:Nat}:(v:Int)∈(iz c).take i↔v∈c.take i:=by
 unfold iz
 rw[←List.map_take]
 exact iz_mem
theorem nodup_take {c:List Nat}(h:c.Nodup){i:Nat}(hi:i<c.length):c[i]∉c.take i:=λhm=>by
 obtain⟨j,hj,hji,e⟩:=mem_take_iff.1 hm
 have:=(List.getElem_inj h).1 e
 omega
section
variable {g : LL} (hg : GOk g) {c : List Nat} (hH : Hole (adj g) c) (hlt : ∀ x ∈ c, x < g.length)
include hg hH hlt
theorem hole_adj {i j:Nat}(hij:i<j)(hj:j<c.length):adj g (c[i]'(by omega)) c[j]↔(j=i+1∨(i=0∧j=c.length-1)):=by
 constructor
 ·intro ha
  apply Classical.byContradiction
  intro hn
  exact hH.no i j (by omega) hj (by omega) ha
 ·rintro(rfl|⟨rfl,rfl⟩)
  ·exact hH.step i hj
  ·exact Dm hg _ _ hH.close
theorem hole_nbs {i:Nat}(hi:i<c.length):∃p s:Nat,p≠s∧p<c.length∧s<c.length∧∀j (hj:j<c.length),adj g c[i] c[j]↔(j=p∨j=s):=by
 have h4:=hH.len
 have hall:∀j (hj:j<c.length),adj g c[i] c[j]↔((i<j∧(j=i+1∨(i=0∧j=c.length-1)))∨(j<i∧(i=j+1∨(j=0∧i=c.length-1)))):=λj hj=>by
  rcases Nat.lt_trichotomy i j with h|h|h
  ·rw[hole_adj hg hH hlt h hj];omega
  ·subst h
   exact⟨λh=>(adj_irr hg _ h).elim,λh=>by omega⟩
  ·rw[show adj g c[i] c[j]↔adj g c[j] c[i] from ⟨Dm hg _ _,Dm hg _ _⟩,hole_adj hg hH hlt h hi];omega
 by_cases h0:i=0
 ·exact⟨c.length-1,1,by omega,by omega,by omega,λj hj=>by rw[hall j hj];omega⟩
 ·by_cases h1:i=c.length-1
  ·exact⟨i-1,0,by omega,by omega,by omega,λj hj=>by rw[hall j hj];omega⟩
  ·exact⟨i-1,i+1,by omega,by omega,by omega,λj hj=>by rw[hall j hj];omega⟩
theorem Do :c.length≤16:=by
 have:=hg.n16
 have h:=B4 (l:=iz c) (m:=(List.range g.length).map Int.ofNat) (by
  unfold iz
  exact List.pairwise_map.2 (hH.nd.imp (λh h'=>h (Int.ofNat.inj h')))) (λx hx=>by
  unfold iz at hx
  obtain⟨v,hv,rfl⟩:=List.mem_map.1 hx
  exact List.mem_map.2 ⟨v,List.mem_range.2 (hlt v hv),rfl⟩)
 rw[Bk] at h
 simp at h
 omega
theorem hole_len' :c.length≤g.length:=by
 have h:=B4 (l:=iz c) (m:=(List.range g.length).map Int.ofNat) (by
  unfold iz
  exact List.pairwise_map.2 (hH.nd.imp (λh h'=>h (Int.ofNat.inj h')))) (λx hx=>by
  unfold iz at hx
  obtain⟨v,hv,rfl⟩:=List.mem_map.1 hx
  exact List.mem_map.2 ⟨v,List.mem_range.2 (hlt v hv),rfl⟩)
 rw[Bk] at h
 simpa using h
theorem prev_adj {i:Nat}(hi:i<c.length)(h0:0<i):adj g (c[i-1]'(by omega)) c[i]:=by
 have:=hH.step (i-1) (by omega)
 have e:i-1+1=i:=by omega
 simpa only[e] using this
theorem isTrail_ok :D.P0 g (iz c)=some true:=by
 have h16:=hg.n16
 have hm:=Do hg hH hlt
 unfold D.P0
 refine(B7 (λi=>(mk ((iz c).take i),(i:Int))) c.length (.inl ()) rfl (λi hi=> ?_) ?_).trans rfl
 ·have hci:c[i]<g.length:=hlt _ (List.getElem_mem hi)
  have hil:i<(iz c).length:=by rw[Bk];exact hi
  have e1:decide ((i:Int)<((iz c).length:Int))=true:=dlt hil
  have e2:D.c0 ((c[i]:Nat):Int) 0 (IntKind.i64.wrap ((g.length:Int)-1))=some true:=by
   rw[inRange_eq,w64 (by omega) (by omega)]
   congr 1
   rw[Bool.and_eq_true,decide_eq_true_eq,decide_eq_true_eq];omega
  have hrng:∀x∈(iz c).take i,0≤x∧x<32:=λx hx=>by
   obtain⟨v,hv,rfl⟩:=List.mem_map.1 (List.mem_of_mem_take hx)
   have:=hlt v hv
   show (0:Int)≤(v:Int)∧(v:Int)<32
   omega
  have e3:D.m (mk ((iz c).take i)) ((c[i]:Nat):Int)=some false:=by
   rw[vhas_eq (VS.mk _) (by omega),Ee hrng]
   congr 1
   rw[decide_eq_false_iff_not,iz_take]
   exact nodup_take hH.nd hi
  have e4:(cond (decide ((0:Int)<(i:Int))) ((idx g ((c[i]:Nat):Int)).bind λe_401=>(idx (iz c) (IntKind.i64.wrap ((i:Int)-1))).bind λe_407=>(D.t e_401 e_407).bind λy_413=>some (!y_413)) (some false))=some false:=by
   by_cases h0:i=0
   ·subst h0;rfl
   ·have d:decide ((0:Int)<(i:Int))=true:=by simp;omega
    have hrow:Sh (row g c[i]):=hg.sh2.row hci
    have ep:idx (iz c) (IntKind.i64.wrap ((i:Int)-1))=some (((c[i-1]'(by omega)):Nat):Int):=by
     rw[w64 (by omega) (by omega),show (i:Int)-1=((i-1:Nat):Int) by omega]
     exact Co (by omega)
    rw[d,cond_true,BW hci,bs,ep,bs,Dr _ _ hrow,bs]
    have:decide ((((c[i-1]'(by omega)):Nat):Int)∈row g c[i])=true:=decide_eq_true (Dm hg _ _ (prev_adj hg hH hlt hi (by omega)))
    rw[this];rfl
  have e5:mk ((iz c).take (i+1))=ior .u32 (mk ((iz c).take i)) (ishl .u32 1 ((c[i]:Nat):Int)):=by
   rw[List.take_succ_eq_append_getElem hil,mk_snoc]
   congr 2
   simp[iz]
  dsimp only
  rw[e1,cond_true,Co hi,bs,e2,bs,Bool.not_true,cond_false,e3,bs,bs,cond_false,e4,bs,bs,cond_false,BE,bs,wi (by omega),e5]
 ·dsimp only
  rw[show decide (((c.length:Nat):Int)<((iz c).length:Int))=false by rw[Bk];simp,cond_false]
theorem Fg :D.f1 g (iz c)=some true:=by
 have h16:=hg.n16
 have h4:=hH.len
 have hm:=Do hg hH hlt
 have h0:c[0]'(by omega)<g.length:=hlt _ (List.getElem_mem _)
 unfold D.f1
 rw[BH g hg.sh2,CC hg,bs,isTrail_ok hg hH hlt]
 have d:decide ((3:Int)≤((iz c).length:Int))=true:=by rw[Bk];simp;omega
 have i0:idx (iz c) 0=some ((c[0]'(by omega):Nat):Int):=Co (i:=0) (by omega)
 have il:idx (iz c) (IntKind.i64.wrap (((iz c).length:Int)-1))=some ((c[c.length-1]'(by omega):Nat):Int):=by
  rw[Bk,w64 (by omega) (by omega),show (c.length:Int)-1=((c.length-1:Nat):Int) by omega]
  exact Co (by omega)
 have:decide ((((c[c.length-1]'(by omega)):Nat):Int)∈row g (c[0]'(by omega)))=true:=decide_eq_true (Dm hg _ _ hH.close)
 rw[d,Bool.and_true,cond_true,bs,bs,cond_true,i0,bs,BW h0,bs,il,bs,Dr _ _ (hg.sh2.row h0),this]
 rfl
theorem Eg :D.O0 g (iz c)=some true:=by
 have h16:=hg.n16
 have h4:=hH.len
 have hm:=Do hg hH hlt
 have hF:=FOk.of hg
 have hrng:∀x∈iz c,0≤x∧x<32:=λx hx=>by
  obtain⟨v,hv,rfl⟩:=List.mem_map.1 hx
  have:=hlt v hv
  show (0:Int)≤(v:Int)∧(v:Int)<32
  omega
 unfold D.O0
 have d:decide (((iz c).length:Int)<4)=false:=by rw[Bk];simp;omega
 rw[Fg hg hH hlt,bs,d,Bool.not_true,Bool.or_false,cond_false,Dd g hg,bs,maskOf_eq _ (by unfold Sh;rw[Bk];omega) (λx hx=>(hrng x hx).1),bs]
 refine(B7 (λi=>(i:Int)) c.length (.inl ()) rfl (λi hi=> ?_) ?_).trans rfl
 ·have hci:c[i]<g.length:=hlt _ (List.getElem_mem hi)
  have hil:i<(iz c).length:=by rw[Bk];exact hi
  have vF:=hF.vs _ hci
  have hidx:idx (g.map mk) ((c[i]:Nat):Int)=some ((g.map mk).getD c[i] 0):=(has_F hg hci (x:=0) (by omega)).1
  have hsz:(Aw (iand .u32 ((g.map mk).getD c[i] 0) (mk (iz c)))).length=2:=by
   obtain⟨p,s,hps,hp,hs,hadj⟩:=hole_nbs hg hH hlt hi
   have hiff:∀x:Nat,has (iand .u32 ((g.map mk).getD c[i] 0) (mk (iz c))) x=true↔x=c[p]∨x=c[s]:=λx=>by
    rw[BP vF (VS.mk _),Bool.and_eq_true,Ee hrng,decide_eq_true_eq,iz_mem]
    constructor
    ·rintro⟨h1,h2⟩
     obtain⟨j,hj,rfl⟩:=List.getElem_of_mem h2
     rcases(hadj j hj).1 ((BZ hg hci).1 h1) with rfl|rfl
     ·exact .inl rfl
     ·exact .inr rfl
    ·rintro(rfl|rfl)
     ·exact⟨(BZ hg hci).2 ((hadj p hp).2 (.inl rfl)),List.getElem_mem hp⟩
     ·exact⟨(BZ hg hci).2 ((hadj s hs).2 (.inr rfl)),List.getElem_mem hs⟩
   have hne:c[p]≠c[s]:=λe=>hps ((List.getElem_inj hH.nd).1 e)
   have u1:=B4 (l:=Aw (iand .u32 ((g.map mk).getD c[i] 0) (mk (iz c)))) (m:=[((c[p]:Nat):Int),((c[s]:Nat):Int)]) (Ck _).nodup (λx hx=>by
    obtain⟨v,_,h2,rfl⟩:=mem_elems.1 hx
    rcases(hiff v).1 h2 with rfl|rfl<;>simp)
   have u2:=B4 (l:=[((c[p]:Nat):Int),((c[s]:Nat):Int)]) (m:=Aw (iand .u32 ((g.map mk).getD c[i] 0) (mk (iz c)))) (by
    refine List.nodup_cons.2 ⟨λh=> ?_,by simp⟩
    have:((c[p]:Nat):Int)=((c[s]:Nat):Int):=by simpa using h
    omega) (λx hx=>by
    simp only[List.mem_cons,List.not_mem_nil,or_false] at hx
    rcases hx with rfl|rfl
    ·exact(Be (VS.iand _ _)).2 ((hiff _).2 (.inl rfl))
    ·exact(Be (VS.iand _ _)).2 ((hiff _).2 (.inr rfl)))
   simp only[List.length_cons,List.length_nil] at u1 u2
   omega
  rw[show decide ((i:Int)<((iz c).length:Int))=true from dlt hil,cond_true,Co hi,bs,hidx,bs,size_eq (VS.iand _ _),hsz,bs,wi (by omega)]
  rfl
 ·rw[show decide (((c.length:Nat):Int)<((iz c).length:Int))=false by rw[Bk];simp,cond_false]
theorem l3Path_ok :D.p0 g (iz c)=some true:=by
 have h16:=hg.n16
 have hm:=Do hg hH hlt
 unfold D.p0
 refine(B7 (λi=>(i:Int)) c.length (.inl ()) rfl (λi hi=> ?_) ?_).trans rfl
 ·have hci:c[i]<g.length:=hlt _ (List.getElem_mem hi)
  have hil:i<(iz c).length:=by rw[Bk];exact hi
  have hns:decide (((c[i]:Nat):Int)∈(iz c).take i)=false:=by
   rw[decide_eq_false_iff_not,iz_take];exact nodup_take hH.nd hi
  have e4:(cond (decide ((0:Int)<(i:Int))) ((idx (iz c) (IntKind.i64.wrap ((i:Int)-1))).bind λe_458=>(idx (iz c) (i:Int)).bind λe_464=>(D.f g e_458 e_464).bind λy_470=>some (!y_470)) (some false))=some false:=by
   by_cases h0:i=0
   ·subst h0;rfl
   ·have d:decide ((0:Int)<(i:Int))=true:=by simp;omega
    have hpl:c[i-1]'(by omega)<g.length:=hlt _ (List.getElem_mem _)
    have ep:idx (iz c) (IntKind.i64.wrap ((i:Int)-1))=some (((c[i-1]'(by omega)):Nat):Int):=by
     rw[w64 (by omega) (by omega),show (i:Int)-1=((i-1:Nat):Int) by omega]
     exact Co (by omega)
    have:decide (((c[i]:Nat):Int)∈row g (c[i-1]'(by omega)))=true:=decide_eq_true (prev_adj hg hH hlt hi (by omega))
    rw[d,cond_true,ep,bs,Co hi,bs,Du g hg hpl,bs,this];rfl
  rw[show decide ((i:Int)<((iz c).length:Int))=true from dlt hil,cond_true,Co hi,bs,l1There_eq hg hci,bs,Bool.not_true,cond_false,CX (by omega),bs,bs,DN _ _ (by unfold Sh;rw[List.length_take,Bk];omega),bs,hns,bs,cond_false]
  rw[Co hi] at e4
  rw[e4,bs,bs,cond_false,wi (by omega)]
 ·rw[show decide (((c.length:Nat):Int)<((iz c).length:Int))=false by rw[Bk];simp,cond_false]
theorem Fe :D.K0 g (iz c)=some true:=by
 have h16:=hg.n16
 have h4:=hH.len
 have hm:=Do hg hH hlt
 have hm':=hole_len' hg hH hlt
 have h0:c[0]'(by omega)<g.length:=hlt _ (List.getElem_mem _)
 unfold D.K0 D.b
 have d:decide (((iz c).length:Int)<3)=false:=by rw[Bk];simp;omega
 have d2:decide ((g.length:Int)<((iz c).length:Int))=false:=by rw[Bk];simp;omega
 have i0:idx (iz c) 0=some ((c[0]'(by omega):Nat):Int):=Co (i:=0) (by omega)
 have il:idx (iz c) (IntKind.i64.wrap (((iz c).length:Int)-1))=some ((c[c.length-1]'(by omega):Nat):Int):=by
  rw[Bk,w64 (by omega) (by omega),show (c.length:Int)-1=((c.length-1:Nat):Int) by omega]
  exact Co (by omega)
 have:decide ((((c[c.length-1]'(by omega)):Nat):Int)∈row g (c[0]'(by omega)))=true:=decide_eq_true (Dm hg _ _ hH.close)
 rw[BI g hg.sh2,CC hg,bs,d,Bool.not_true,Bool.or_false,cond_false,bs,d2,bs,cond_false,l3Path_ok hg hH hlt,bs,Bool.not_true,bs,cond_false,i0,bs,il,bs,Du g hg h0,this]
 rfl
theorem l8Chordless_ok :D.J0 g (iz c)=some true:=by
 have h16:=hg.n16
 have hm:=Do hg hH hlt
 unfold D.J0
 refine(B7 (λi=>(i:Int)) c.length (.inl ()) rfl (λi hi=> ?_) ?_).trans rfl
 ·have hci:c[i]<g.length:=hlt _ (List.getElem_mem hi)
  have hil:i<(iz c).length:=by rw[Bk];exact hi
  rw[show decide ((i:Int)<((iz c).length:Int))=true from dlt hil,cond_true]
  refine(B7 (λk=>(k:Int)) (i-1) (.inl ()) rfl (λk hk=> ?_) ?_).trans ?_
  ·have hki:k<c.length:=by omega
   have hck:c[k]<g.length:=hlt _ (List.getElem_mem hki)
   have d:decide (IntKind.i64.wrap ((k:Int)+1)<(i:Int))=true:=by rw[wi (by omega)];simp;omega
   rw[d,cond_true,Co hki,Co hi,bs,bs,Du g hg hck,bs]
   have e:(cond (!(((k:Int)==0)&&((i:Int)==IntKind.i64.wrap (((iz c).length:Int)-1)))) (some (decide (((c[i]:Nat):Int)∈row g c[k]))) (some false))=some false:=by
    by_cases hx:k=0∧i=c.length-1
    ·have h1:((k:Int)==0)=true:=by rw[beq_iff_eq];omega
     have h2:((i:Int)==IntKind.i64.wrap (((iz c).length:Int)-1))=true:=by rw[beq_iff_eq,Bk,w64 (by omega) (by omega)];omega
     rw[h1,h2];rfl
    ·have hn:decide (((c[i]:Nat):Int)∈row g c[k])=false:=decide_eq_false (hH.no k i (by omega) hi hx)
     rw[hn]
     cases (((k:Int)==0)&&((i:Int)==IntKind.i64.wrap (((iz c).length:Int)-1)))<;>rfl
   rw[e,bs,cond_false,wi (by omega)]
  ·have d:decide (IntKind.i64.wrap (((i-1:Nat):Int)+1)<(i:Int))=false:=by rw[wi (by omega)];simp;omega
   rw[d,cond_false]
  ·dsimp only
   rw[wi (by omega)]
 ·rw[show decide (((c.length:Nat):Int)<((iz c).length:Int))=false by rw[Bk];simp,cond_false]
theorem D8 :D.g1 g (iz c)=some true:=by
 have h4:=hH.len
 unfold D.g1
 have d:decide ((4:Int)≤((iz c).length:Int))=true:=by rw[Bk];simp;omega
 rw[Fe hg hH hlt,bs,d,Bool.and_true,cond_true,l8Chordless_ok hg hH hlt]
 rfl
end
end Go.Sx

namespace Go.Sx
theorem l8Draw_bEq (a:LI)(b c:Int):D.u1 a b c=D.v a b c:=by
 unfold D.u1 D.v
 congr 1;funext y;congr 1;funext z
 cases z.1
 ·rfl
 ·simp only[cond_true]
  cases D.Q z.2.1 z.2.2.1 z.2.2.2 y.1 with
  |none=>rfl
  |some o=>
   simp only[bs]
   cases D.y y.1 o.1 with
   |none=>rfl
   |some f=>rfl
theorem Ff (code:LI)(h:∀x∈code,0≤x∧x≤255)(hl:code.length≤4096):∃g,D.c1 code=some g∧Few g:=by
 unfold D.c1
 obtain⟨z,e,hk⟩:=new_ok code h hl
 rw[e,bs,l8Draw_bEq]
 exact(l8Draw_dw hk z).then λg i1 z1 hg hk=>⟨_,rfl,hg⟩
section
variable {g : LL} (hg : GOk g)
include hg
theorem spec_PO :D.P g=some (match pk (g.map mk) g.length g.length (full g.length) with|none=>([],false)|some l=>(l,true)):=by
 have h16:=hg.n16;have hn1:=hg.n1
 unfold D.P
 rw[BI g hg.sh2,CC hg,bs,Bool.not_true,cond_false]
 have:=spec_pk hg g.length (full g.length) [] (SQ.full h16) (by simp)
 unfold D.b at this ⊢
 simp only[bs] at this ⊢
 rw[C9 (by omega) (by omega),bs,E5 h16,this,bs]
 cases hp:pk (g.map mk) g.length g.length (full g.length) with
 |none=>rfl
 |some l=>rfl
variable {l : LI} (hp : pk (g.map mk) g.length g.length (full g.length) = some l)
include hp
theorem impl_PO :D.J g=some (l,true):=by
 have h16:=hg.n16
 have hl:=pk_len hp
 unfold D.J
 rw[Dg hg,hp,bs]
 simp only[Option.isSome_some,Bool.not_true,cond_false]
 rw[Dd g hg,bs,DX hg,hp,bs,Option.getD_some,wide_eq _ (by unfold Sh;omega)]
 rfl
theorem pk_peo :OOk g l∧PEOg g l:=by
 obtain⟨y,e,hy⟩:=EX hg
 rw[spec_PO hg,hp] at e
 obtain rfl:=Option.some.inj e
 exact hy rfl
theorem pk_fill {F L:LI}(h:Fill g l F L):F=g.map mk:=by
 obtain⟨ho,hpe⟩:=pk_peo hg hp
 refine h.same (λj v u w hj h1 h2 h3 h4 h5=> ?_)
 have hv:v<g.length:=by
  have:=ho.rng _ (List.mem_of_getElem? hj);omega
 have a1:=(BZ hg hv).1 h1
 exact(BZ hg (hg.lt hv a1)).2 (hpe j v u w hj a1 ((BZ hg hv).1 h2) h3 h4 h5)
theorem impl_Perf :D.x0 g l=some true:=by
 obtain⟨ho,_⟩:=pk_peo hg hp
 obtain⟨F,L,h⟩:=fill_ex hg ho
 obtain rfl:=pk_fill hg hp h
 unfold D.x0
 rw[h.many hg ho,ER hg,Int.sub_self,bs]
 rfl
theorem spec_Perf :D.Z0 g l=some true:=by
 obtain⟨ho,_⟩:=pk_peo hg hp
 obtain⟨F,L,h⟩:=fill_ex hg ho
 obtain rfl:=pk_fill hg hp h
 have e:=elim_ef hg ho
 rw[h.elim] at e
 have e1:(ef g l g.length).1=g.map mk:=(congrArg Prod.fst (Option.some.inj e)).symm
 unfold D.Z0 D.t1
 rw[DW g l hg.sh2 (ho.sh hg),CC hg,(ordB_iff g l).2 ho,bs]
 simp only[Bool.and_self,Bool.not_true,cond_false]
 rw[l7Fill_ef hg ho,e1,ER hg,bs,EY g hg,bs,bs,Int.sub_self,bs]
 rfl
theorem impl_Simp :∃r,D.Y0 g=some r∧0<r.length:=by
 have h16:=hg.n16;have hn1:=hg.n1
 have hF:=FOk.of hg
 have hlm:(g.map mk).length=g.length:=by simp
 have hfirst:∃v:Nat,v<g.length∧mis (g.map mk) g.length ((g.map mk).getD v 0)=0:=by
  obtain⟨m,hm⟩:∃m,g.length=m+1:=⟨g.length-1,by omega⟩
  have hp':=hp
  rw[show pk (g.map mk) g.length g.length (full g.length)=pk (g.map mk) g.length (m+1) (full g.length) by rw[←hm]] at hp'
  unfold pk at hp'
  cases hf:(Aw (full g.length)).find? (okv (g.map mk) g.length (full g.length)) with
  |none=>rw[hf] at hp';cases hp'
  |some x=>
   obtain⟨v,_,h2,rfl⟩:=mem_elems.1 (List.mem_of_find?_eq_some hf)
   have hv:v<g.length:=by rw[CM h16] at h2;exact of_decide_eq_true h2
   refine⟨v,hv,?_⟩
   have:=List.find?_some hf
   unfold okv at this
   rw[Int.toNat_natCast,decide_eq_true_eq] at this
   have e:iand .u32 ((g.map mk).getD v 0) (full g.length)=(g.map mk).getD v 0:=VS.ext (VS.iand _ _) (hF.vs v hv) (λw _=>by
    rw[BP (hF.vs v hv) (DJ _),CM h16]
    cases hh:has ((g.map mk).getD v 0) w
    ·rfl
    ·rw[decide_eq_true (hF.lt v w hv hh)];rfl)
   rwa [e] at this
 obtain⟨v0,hv0,hm0⟩:=hfirst
 unfold D.Y0
 rw[BH g hg.sh2,CC hg,bs,Bool.not_true,cond_false,Dd g hg,bs]
 refine A3 (λs:Int×Int=>∃i:Nat,s.2=(i:Int)∧i≤g.length∧VS s.1∧(v0<i→has s.1 v0=true)) (λs=>g.length-s.2.toNat) (λS=>VS S∧has S v0=true) ?_ ⟨0,rfl,by omega,VS.zero,λh=>by omega⟩ ?_
 ·rintro⟨S,_⟩ ⟨i,rfl,hi,vS,hS⟩
  dsimp only at vS hS ⊢
  by_cases hil:i<g.length
  ·have hidx:idx (g.map mk) (i:Int)=some ((g.map mk).getD i 0):=(has_F hg hil (x:=0) (by omega)).1
   rw[dlt (show i<(g.map mk).length by omega),cond_true,hidx,bs,DY h16 hF (hF.vs i hil) (λw hw=>hF.lt i w hil hw),bs,BE,bs,wi (by omega)]
   by_cases hz:mis (g.map mk) g.length ((g.map mk).getD i 0)=0
   ·have e:((mis (g.map mk) g.length ((g.map mk).getD i 0):Int)==0)=true:=by rw[beq_iff_eq];omega
    rw[e,cond_true]
    refine⟨_,rfl,⟨i+1,rfl,by omega,VS.ior _ _,λh=> ?_⟩,by dsimp only;omega⟩
    dsimp only
    rw[Cz vS (VS.ishl _ _),BA (by omega)]
    by_cases h2:v0<i
    ·rw[hS h2];rfl
    ·rw[decide_eq_true (show v0=i by omega)];simp
   ·have e:((mis (g.map mk) g.length ((g.map mk).getD i 0):Int)==0)=false:=by rw[beq_eq_false_iff_ne];omega
    rw[e,cond_false]
    refine⟨_,rfl,⟨i+1,rfl,by omega,vS,λh=> ?_⟩,by dsimp only;omega⟩
    by_cases h2:v0<i
    ·exact hS h2
    ·obtain rfl:v0=i:=by omega
     exact absurd hm0 hz
  ·obtain rfl:i=g.length:=by omega
   have e:decide (((g.length:Nat):Int)<((g.map mk).length:Int))=false:=by rw[hlm];simp
   rw[e,cond_false]
   exact⟨_,rfl,vS,hS hv0⟩
 ·rintro S ⟨vS,hS⟩
  rw[numbers_eq S vS,bs]
  exact⟨_,rfl,List.length_pos_of_mem ((Be vS).2 hS)⟩
end
theorem FnChordal_true (code:LI)(hb:∀x∈code,0≤x∧x≤255):D.l1 code=some true:=by
 unfold D.l1 D.r1
 simp only[bs]
 by_cases hl:(4096:Int)<code.length
 ·simp only[hl,decide_true,cond_true]
 ·simp only[hl,decide_false,cond_false]
  obtain⟨g,e1,hF⟩:=Ff code hb (by omega)
  rw[e1,bs]
  have hsh:=hF.sh2
  by_cases hgb:gB g=true
  case neg=>
   have hgb:gB g=false:=by simpa using hgb
   have c0:D.s g=some false:=by
    unfold D.s
    rw[BH g hsh,hgb];rfl
   have c1:D.J g=some ([],false):=by
    unfold D.J
    rw[c0];rfl
   have c2:D.I g=some ([],false):=by
    unfold D.I
    rw[BH g hsh,hgb];rfl
   have c3:D.B g []=some true:=by
    unfold D.B D.P
    rw[BI g hsh,hgb,bs,Bool.not_false,cond_true,bs,DA _ (by unfold Sh;simp)]
    rfl
   rw[c1,bs,c2,bs,c3,bs,c0,BI g hsh,hgb]
   rfl
  case pos=>
   have hg:=(gB_iff g).1 hgb
   have h16:=hg.n16
   cases hp:pk (g.map mk) g.length g.length (full g.length) with
   |none=>
    have c0:D.s g=some false:=by rw[Dg hg,hp];rfl
    have c1:D.J g=some ([],false):=by
     unfold D.J
     rw[c0];rfl
    obtain⟨⟨L,not⟩,c2,hn,c,hc,hH,hlt⟩:=loop_ok hg hp
    dsimp only at hn hc
    subst hn hc
    have c3:D.B g []=some true:=by
     unfold D.B
     rw[spec_PO hg,hp,bs,DA _ (by unfold Sh;simp)]
     rfl
    rw[c1,bs,c2,bs,c3,bs,c0,BI g hsh,hgb]
    simp only[Bool.not_true,cond_false,bs,bne_self_eq_false]
    rw[Eg hg hH hlt,D8 hg hH hlt]
    rfl
   |some l=>
    have hlen:=pk_len hp
    have c0:D.s g=some true:=by rw[Dg hg,hp];rfl
    have c2:=loop_none hg hp
    have c3:D.B g l=some true:=by
     unfold D.B
     rw[spec_PO hg,hp,bs,DA _ (by unfold Sh;omega)]
     rfl
    obtain⟨r,c4,hr⟩:=impl_Simp hg hp
    have hr':decide ((0:Int)<(r.length:Int))=true:=by simp;omega
    rw[impl_PO hg hp,bs,c2,bs,c3,bs,c0,BI g hsh,hgb]
    simp only[Bool.not_true,cond_false,bs,bne_self_eq_false]
    rw[spec_Perf hg hp,impl_Perf hg hp,c4]
    simp only[bs,cond_true,hr']
    rfl
end Go.Sx
