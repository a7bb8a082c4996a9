/- Parts of the proof: Sa, Sb, Sc, Rc, Rd, Sd, Se, Ta, Sf, Qf, Re, Tb, Tc, Td, Va, Xa, Xf, Za, Zb, Zc, Zd, Ua, Ub, Uc, Xg, Xc, Xh, Sg, Xj, Xk, Xl, Qg, U1D, Qh, Xd, Yb, Yc, Xm, Ze. -/
import Derived.Test.YtkffjeaefgfnnaaGreatDoorWi5
import Derived.KernelRfl
set_option linter.unusedVariables false
set_option linter.unusedSimpArgs false
set_option linter.unusedSectionVars false
namespace Go.Sx
theorem w5Graph_w9 (a:List Int)(b c d:Int):D.P0 a b c d=D.J1 a b c d:=rfl
theorem w5Graph_ok {b:List Int}{i:Int}(h:DK b i)(z:Int)(most:Nat)(h1:1≤most)(h8:most≤8):
  ∃y,D.P0 b i z (most:Int)=some y∧(GOk y.1∧y.1.length≤most∧y.2.1=b∧DK b y.2.2.1):=by
 rw[w5Graph_w9];exact w9Graph_ok h z most h1 h8
theorem ext_getD {a b:List Int}(hl:a.length=b.length)(h:∀j,j<a.length→a.getD j 0=b.getD j 0):a=b:=by
 apply List.ext_getElem hl
 intro j h1 h2
 have:=h j h1
 rwa [Ay h1,Ay h2] at this
theorem CF (l:List Int)(i j:Nat)(x:Int)(hi:i<l.length):(l.set i x).getD j 0=if j=i then x else l.getD j 0:=by
 simp only[List.getD_eq_getElem?_getD,List.getElem?_set]
 by_cases h:j=i
 ·subst h;simp[hi]
 ·rw[if_neg (fun e=>h e.symm),if_neg h]
theorem getD_snoc (o:List Int)(j:Nat):(o++[0]).getD j 0=o.getD j 0:=by
 simp only[List.getD_eq_getElem?_getD,List.getElem?_append]
 split
 ·rfl
 ·rename_i h
  rw[List.getElem?_eq_none (show o.length≤j by omega)]
  rcases Nat.lt_or_ge (j-o.length) 1 with h1|h1
  ·have:j-o.length=0:=by omega
   simp[this]
  ·rw[List.getElem?_eq_none (by simpa using h1)]
theorem w5Order_ok {b:List Int}{i:Int}(h:DK b i)(z:Int)(n:Nat)(h16:n≤16):
  ∃y,D.C0 b i z (n:Int)=some y∧(y.1.length=n∧(∀x∈y.1,0≤x∧x<n)∧y.1.Nodup∧y.2.1=b∧DK b y.2.2.1):=by
 unfold D.C0
 refine AH (fun s=>∃v:Nat,s.2.1=(v:Int)∧v≤n∧s.2.2.1=b∧DK b s.2.2.2.1∧s.1.length=v∧(∀x∈s.1,0≤x∧x<v)∧s.1.Nodup) (fun s=>n-s.2.1.toNat)
  (fun r=>r.1.length=n∧(∀x∈r.1,0≤x∧x<n)∧r.1.Nodup∧r.2.1=b∧DK b r.2.2.1) ?_ ?_ ?_
 ·rintro⟨o,_,b2,i,z⟩ ⟨v,rfl,g1,rfl,hk,hl,hr,hn⟩
  dsimp only at hk hl hr hn ⊢
  by_cases hv:v<n
  ·have e1:IntKind.i64.wrap ((o.length:Int)+1)=(v:Int)+1:=by rw[w64 (by omega) (by omega)];omega
   simp only[dlt hv,cond_true,e1]
   refine BA _ (Ef hk z ((v:Int)+1) (by omega)) ?_
   rintro⟨t,b2,i3,z3⟩ ⟨t0,t1,rfl,hk'⟩
   dsimp only at t0 t1 hk' ⊢
   obtain⟨c,rfl⟩:∃c:Nat,t=(c:Int):=⟨t.toNat,by omega⟩
   rw[AU (by simp;omega),Option.bind_some]
   have e3:IntKind.i64.wrap (((o++[0]).length:Int)-1)=(v:Int):=by
    rw[List.length_append,List.length_singleton,w64 (by omega) (by omega)];omega
   rw[e3]
   refine AH (fun s=>∃k:Nat,s.2=(k:Int)∧c≤k∧k≤v∧s.1.length=v+1∧∀j,j<v+1→s.1.getD j 0=if j≤k then o.getD j 0 else o.getD (j-1) 0) (fun s=>s.2.toNat)
    (fun r=>r.length=v+1∧∀j,j<v+1→r.getD j 0=if j≤c then o.getD j 0 else o.getD (j-1) 0) ?_ ⟨v,rfl,by omega,by omega,by simp;omega,fun j hj=>by rw[if_pos (by omega),getD_snoc]⟩ ?_
   ·rintro⟨l,_⟩ ⟨k,rfl,hck,hkv,hlen,hall⟩
    dsimp only at hlen hall ⊢
    by_cases hc:c<k
    ·have e2:IntKind.i64.wrap ((k:Int)-1)=((k-1:Nat):Int):=by rw[w64 (by omega) (by omega)];omega
     simp only[dlt hc,cond_true,e2,Au (show k-1<l.length by omega),Au (show k<l.length by omega),Option.bind_some]
     refine⟨_,rfl,⟨k-1,rfl,by omega,by omega,by simp;omega,fun j hj=> ?_⟩,by simp;omega⟩
     simp only[Int.toNat_natCast]
     rw[CF _ _ _ _ (by omega)]
     have h1:=hall (k-1) (by omega)
     rw[Ay (by omega),if_pos (by omega)] at h1
     by_cases hjk:j=k
     ·subst hjk;rw[if_pos rfl,h1,if_neg (by omega)]
     ·rw[if_neg hjk,hall j hj]
      by_cases hjk':j≤k-1
      ·rw[if_pos (by omega),if_pos hjk']
      ·rw[if_neg (by omega),if_neg hjk']
    ·obtain rfl:c=k:=by omega
     simp only[A4,cond_false]
     exact⟨_,rfl,hlen,hall⟩
   ·rintro l ⟨hlen,hall⟩
    rw[Au (show c<l.length by omega),Option.bind_some,wi (show v<4611686018427387904 by omega)]
    simp only[Int.toNat_natCast]
    have e4:l.set c (v:Int)=o.take c++[(v:Int)]++o.drop c:=by
     refine ext_getD (by simp;omega) (fun j hj=> ?_)
     rw[List.length_set] at hj
     rw[CF _ _ _ _ (by omega)]
     simp only[List.getD_eq_getElem?_getD,List.getElem?_append,List.length_append,List.length_take,List.length_cons,List.length_nil,show min c o.length=c by omega]
     have h1:=hall j (by omega)
     rw[List.getD_eq_getElem?_getD] at h1
     by_cases hjc:j=c
     ·subst hjc;simp
     ·rw[if_neg hjc,h1]
      by_cases hlt:j<c
      ·rw[if_pos (by omega),if_pos (by omega),if_pos hlt,List.getElem?_take_of_lt hlt,List.getD_eq_getElem?_getD]
      ·rw[if_neg (by omega),if_neg (by omega),List.getElem?_drop,List.getD_eq_getElem?_getD,show c+(j-(c+(0+1)))=j-1 by omega]
    rw[e4]
    have hp:=insert_perm o c v
    refine⟨_,rfl,⟨v+1,rfl,by omega,rfl,hk',by rw[hp.length_eq];simp;omega,fun x hx=> ?_,hp.nodup_iff.2 (List.nodup_cons.2 ⟨fun hm=>by have:=hr _ hm;omega,hn⟩)⟩,by dsimp only;omega⟩
    rcases List.mem_cons.1 (hp.mem_iff.1 hx) with rfl|hx
    ·omega
    ·have:=hr x hx;omega
  ·obtain rfl:v=n:=by omega
   simp only[A4,cond_false]
   exact⟨_,rfl,hl,hr,hn,rfl,hk⟩
 ·exact⟨0,rfl,by omega,rfl,h,by simp,by simp,by simp⟩
 ·rintro⟨o,b2,i3,z3⟩ ⟨h1,h2,h3,rfl,hk⟩
  exact⟨_,rfl,h1,h2,h3,rfl,hk⟩
end Go.Sx

namespace Go.Sx
def nb (F:List Int)(u w:Nat):Bool:=has (F.getD u 0) w
structure FOk (F:List Int)(n:Nat):Prop where
 len:F.length=n
 vs:∀u,u<n→VS (F.getD u 0)
 lt:∀u w,u<n→nb F u w=true→w<n
 irr:∀u,u<n→nb F u u=false
 sym:∀u w,u<n→nb F u w=true→nb F w u=true
theorem FOk.ext {F F':List Int}{n:Nat}(h:F.length=n)(h':F'.length=n)(v:∀u,u<n→VS (F.getD u 0))(v':∀u,u<n→VS (F'.getD u 0))(e:∀u w,u<n→nb F u w=nb F' u w):F=F':=by
 refine ext_getD (by omega) (fun j hj=> ?_)
 exact(v j (by omega)).ext (v' j (by omega)) (fun w _=>e j w (by omega))
theorem FW (g:List (List Int))(u:Nat):(g.map mk).getD u 0=mk (row g u):=by
 unfold row
 simp only[List.getD_eq_getElem?_getD,List.getElem?_map]
 cases g[u]? with
 |none=>simp[mk]
 |some r=>rfl
theorem ED {g:List (List Int)}(hg:GOk g){u w:Nat}(hu:u<g.length):nb (g.map mk) u w=true↔adj g u w:=by
 have h16:=hg.n16
 unfold nb
 rw[FW,DT (fun x hx=>by have:=(hg.rows u hu).2 x hx;omega)]
 simp[adj]
theorem FOk.of {g:List (List Int)}(hg:GOk g):FOk (g.map Sx.mk) g.length:=by
 refine⟨by simp,fun u _=>by rw[FW];exact VS.mk _,fun u w hu h=>hg.lt hu ((ED hg hu).1 h),fun u hu=> ?_,fun u w hu h=> ?_⟩
 ·cases h:nb (g.map Sx.mk) u u
  ·rfl
  ·exact absurd ((ED hg hu).1 h) (hg.irr u hu)
 ·have ha:=(ED hg hu).1 h
  exact(ED hg (hg.lt hu ha)).2 (hg.sym u w hu ha)
def grow (F:List Int):List (List Int):=F.map Al
theorem row_grow (F:List Int)(u:Nat):row (grow F) u=Al (F.getD u 0):=by
 unfold row grow
 simp only[List.getD_eq_getElem?_getD,List.getElem?_map]
 cases F[u]? with
 |none=>simp[Eg]
 |some r=>rfl
theorem DJ {F:List Int}{n u w:Nat}(h:FOk F n)(hu:u<n):adj (grow F) u w↔nb F u w=true:=by
 unfold adj nb
 rw[row_grow,AZ (h.vs u hu)]
theorem GOk.grow {F:List Int}{n:Nat}(h:FOk F n)(h1:1≤n)(h16:n≤16):GOk (grow F):=by
 have hl:(Sx.grow F).length=n:=by unfold Sx.grow;rw[List.length_map,h.len]
 refine⟨by omega,by omega,fun v hv=> ?_,fun v hv ha=> ?_,fun u v hu ha=> ?_⟩
 ·rw[row_grow,hl]
  refine⟨Bv _,fun x hx=> ?_⟩
  obtain⟨w,_,h2,rfl⟩:=mem_elems.1 hx
  have:=h.lt v w (by omega) h2
  omega
 ·rw[DJ h (by omega)] at ha
  rw[h.irr v (by omega)] at ha;cases ha
 ·rw[DJ h (by omega)] at ha
  have:=h.lt u v (by omega) ha
  rw[DJ h (by omega)]
  exact h.sym u v (by omega) ha
theorem mk_elems {s:Int}(h:VS s):mk (Al s)=s:=by
 refine(VS.mk _).ext h (fun v hv=> ?_)
 rw[DT (fun x hx=>by obtain⟨w,h1,_,rfl⟩:=mem_elems.1 hx;omega),Bool.eq_iff_iff,decide_eq_true_eq,AZ h]
theorem all_mask :∀n:Fin 17,∀v:Fin 32,has (IntKind.u32.wrap (ishl .u32 1 (n.val:Int)-1)) v.val=decide (v.val<n.val):=by decide+kernel
theorem FQ (F:List Int)(h:F.length≤16):∃s,D.n F=some s∧VS s∧∀v,has s v=decide (v<F.length):=by
 refine⟨IntKind.u32.wrap (ishl .u32 1 (F.length:Int)-1),?_,VS.wrap _,fun v=> ?_⟩
 ·unfold D.n D.p0
  have:decide ((F.length:Int)<0)=false:=by simp
  rw[this];rfl
 ·by_cases hv:v<32
  ·exact all_mask ⟨F.length,by omega⟩ ⟨v,hv⟩
  ·rw[Ek (VS.wrap _) (by omega)];symm;simp;omega
theorem inner_ok {n v:Nat}(F L:List Int)(S:Int)(h16:n≤16)(hF:F.length=n)(hV:∀u,u<n→VS (F.getD u 0))(hS:VS S)(hSn:∀w,has S w=true→w<n)(hL:idx L (v:Int)=some S):
  ∃F',(Ao (σ:=(List Int)×Int) (ρ:=((List Int))) (fun(s_776:(List Int)×Int)=>match s_776 with|(l_779,x_782)=>cond (decide (x_782<((Al S).length:Int))) ((idx (Al S) x_782).bind fun e_820=>(idx l_779 e_820).bind fun e_826=>(idx L (v:Int)).bind fun e_832=>(D.d e_820).bind fun y_838=>(idx l_779 e_820).bind fun e_841=>some (.inl ((l_779.set (Int.toNat e_820) (ior .u32 e_826 (iandNot .u32 e_832 y_838))),(IntKind.i64.wrap (x_782+1))))) (some (.inr l_779))) (F,0))=some F'∧
   (F'.length=n∧(∀u,u<n→VS (F'.getD u 0))∧∀u w,u<n→nb F' u w=(nb F u w||(has S u&&has S w&&decide (w≠u)))):=by
 have key:=AH (k:=fun r=>some r) (Q:=fun F':List Int=>F'.length=n∧(∀u,u<n→VS (F'.getD u 0))∧∀u w,u<n→nb F' u w=(nb F u w||(has S u&&has S w&&decide (w≠u))))
  (step:=(fun(s_776:(List Int)×Int)=>match s_776 with|(l_779,x_782)=>cond (decide (x_782<((Al S).length:Int))) ((idx (Al S) x_782).bind fun e_820=>(idx l_779 e_820).bind fun e_826=>(idx L (v:Int)).bind fun e_832=>(D.d e_820).bind fun y_838=>(idx l_779 e_820).bind fun e_841=>some (.inl ((l_779.set (Int.toNat e_820) (ior .u32 e_826 (iandNot .u32 e_832 y_838))),(IntKind.i64.wrap (x_782+1))))) (some (.inr l_779)))) (s:=(F,0))
  (fun s=>∃i:Nat,s.2=(i:Int)∧i≤(Al S).length∧s.1.length=n∧(∀u,u<n→VS (s.1.getD u 0))∧∀u w,u<n→nb s.1 u w=(nb F u w||(decide ((u:Int)∈(Al S).take i)&&has S w&&decide (w≠u)))) (fun s=>(Al S).length-s.2.toNat)
  (fun F'=>F'.length=n∧(∀u,u<n→VS (F'.getD u 0))∧∀u w,u<n→nb F' u w=(nb F u w||(has S u&&has S w&&decide (w≠u)))) ?_ ⟨0,rfl,by omega,hF,hV,fun u w _=>by simp⟩ (fun r hr=>⟨r,rfl,hr⟩)
 ·obtain⟨y,hy,hq⟩:=key
  rw[Option.bind_eq_some_iff] at hy
  obtain⟨a,ha,hb⟩:=hy
  cases hb
  exact⟨_,ha,hq⟩
 ·rintro⟨l,_⟩ ⟨i,rfl,hi,hl,hv,hh⟩
  dsimp only at hl hv hh ⊢
  have hle:=BR S
  by_cases hlt:i<(Al S).length
  ·obtain⟨u0,h1,h2,h3⟩:=mem_elems.1 (List.getElem_mem hlt)
   have h4:=hSn u0 h2
   simp only[dlt hlt,cond_true,Au hlt,Option.bind_some,h3,Au (show u0<l.length by omega),hL,BH,wi (show i<4611686018427387904 by omega),Int.toNat_natCast]
   refine⟨_,rfl,⟨i+1,rfl,by omega,by simp[hl],fun u hu=> ?_,fun u w hu=> ?_⟩,by dsimp only;omega⟩
   ·rw[CF _ _ _ _ (by omega)]
    split
    ·exact VS.ior _ _
    ·exact hv u hu
   ·have hmem:((u:Int)∈(Al S).take (i+1))↔((u:Int)∈(Al S).take i∨u=u0):=by
     rw[List.take_succ_eq_append_getElem hlt,List.mem_append,h3]
     simp[Int.natCast_inj]
    unfold nb
    rw[CF _ _ _ _ (by omega)]
    by_cases hc:u=u0
    ·subst hc
     rw[if_pos rfl]
     have hg:l[u]=l.getD u 0:=(Ay (by omega) 0).symm
     rw[hg,CG (hv u hu) (VS.iandNot _ _),Bc hS (VS.ishl _ _),BI (by omega)]
     have:=hh u w hu
     unfold nb at this
     rw[this,decide_eq_true (hmem.2 (.inr rfl))]
     cases has (F.getD u 0) w<;>cases has S w<;>by_cases hw:w=u<;>simp[hw]
    ·rw[if_neg hc]
     have:=hh u w hu
     unfold nb at this
     rw[this]
     have:decide ((u:Int)∈(Al S).take (i+1))=decide ((u:Int)∈(Al S).take i):=by
      rw[Bool.eq_iff_iff,decide_eq_true_eq,decide_eq_true_eq,hmem];simp[hc]
     rw[this]
  ·obtain rfl:i=(Al S).length:=by omega
   simp only[A4,cond_false]
   refine⟨_,rfl,hl,hv,fun u w hu=> ?_⟩
   rw[hh u w hu,List.take_length]
   congr 3
   rw[Bool.eq_iff_iff,decide_eq_true_eq,AZ hS]
def PEO (F:List Int)(o:List Int):Prop:=∀(j:Nat) (v u w:Nat),o[j]? =some (v:Int)→nb F v u=true→nb F v w=true→(u:Int)∉o.take (j+1)→(w:Int)∉o.take (j+1)→u≠w→nb F u w=true
def Lat (F L:List Int)(o:List Int)(i:Nat):Prop:=∀(j:Nat) (v:Nat),j<i→o[j]? =some (v:Int)→∀w,nb L v w=(nb F v w&&decide ((w:Int)∉o.take (j+1)))
inductive Via (F:List Int)(gone:Nat→Prop)(u:Nat):Nat→Prop
 |me:Via F gone u u
 |step {x y:Nat}:Via F gone u x→nb F x y=true→gone y→Via F gone u y
theorem Via.mono {F:List Int}{g g':Nat→Prop}{u x:Nat}(h:Via F g u x)(hg:∀y,g y→g' y):Via F g' u x:=by
 induction h with
 |me=>exact .me
 |step _ h1 h2 ih=>exact .step ih h1 (hg _ h2)
theorem Via.end_ {F:List Int}{g:Nat→Prop}{u x:Nat}(h:Via F g u x):x=u∨g x:=by
 cases h with
 |me=>exact .inl rfl
 |step _ _ h2=>exact .inr h2
theorem Via.lt {F:List Int}{n:Nat}(hF:FOk F n){g:Nat→Prop}{u x:Nat}(hu:u<n)(h:Via F g u x):x<n:=by
 induction h with
 |me=>exact hu
 |step _ h1 _ ih=>exact hF.lt _ _ ih h1
theorem Via.back {F:List Int}{n:Nat}(hF:FOk F n){g g':Nat→Prop}(hg:∀y,g y→g' y){v x:Nat}(hv:v<n)(hgv:g' v)(h:Via F g v x):∀z,Via F g' z x→Via F g' z v:=by
 induction h with
 |me=>exact fun z h=>h
 |step hx h1 h2 ih=>
  intro z hz
  have hxn:=Via.lt hF hv hx
  refine ih z (.step hz (hF.sym _ _ hxn h1) ?_)
  rcases hx.end_ with e|e
  ·rw[e];exact hgv
  ·exact hg _ e
def Bhd (F:List Int)(gone:Nat→Prop)(v w:Nat):Prop:=∃x,Via F gone v x∧nb F x w=true
structure EInv (n:Nat)(F0 o:List Int)(i:Nat)(F L:List Int)(left:Int):Prop where
 f:FOk F n
 lenL:L.length=n
 vsL:∀u,u<n→VS (L.getD u 0)
 vsl:VS left
 left:∀v,has left v=decide (v<n∧(v:Int)∉o.take i)
 mono:∀u w,u<n→nb F0 u w=true→nb F u w=true
 lat:Lat F L o i
 peo:∀(j:Nat) (v u w:Nat),j<i→o[j]? =some (v:Int)→nb F v u=true→nb F v w=true→(u:Int)∉o.take (j+1)→(w:Int)∉o.take (j+1)→u≠w→nb F u w=true
 same:PEO F0 o→F=F0
 via:∀u w:Nat,u<n→(u:Int)∉o.take i→(w:Int)∉o.take i→u≠w→(nb F u w=true↔Bhd F0 (fun x=>(x:Int)∈o.take i) u w)
 latb:∀(j:Nat) (v:Nat),j<i→o[j]? =some (v:Int)→∀w:Nat,nb L v w=true↔(w:Int)∉o.take (j+1)∧Bhd F0 (fun x=>(x:Int)∈o.take j) v w
theorem Dl {o:List Int}{j i:Nat}(h:j≤i){x:Int}(hx:x∈o.take j):x∈o.take i:=by
 rw[mem_take_iff] at hx ⊢
 obtain⟨k,h1,h2,h3⟩:=hx
 exact⟨k,h1,by omega,h3⟩
theorem EInv.step {n:Nat}{F0 o F L:List Int}{i v:Nat}{left:Int}(h16:n≤16)(h0:FOk F0 n)(hn:∀x∈o,0≤x∧x<n)(hnd:o.Nodup)(hi:i<o.length)(hv:o[i]=(v:Int))(h:EInv n F0 o i F L left){F':List Int}
  (hl':F'.length=n) (hv':∀u,u<n→VS (F'.getD u 0)) (h':∀u w,u<n→nb F' u w=(nb F u w||(has (iand .u32 (F.getD v 0) (iandNot .u32 left (ishl .u32 1 (v:Int)))) u&&has (iand .u32 (F.getD v 0) (iandNot .u32 left (ishl .u32 1 (v:Int)))) w&&decide (w≠u)))):
  EInv n F0 o (i+1) F' (L.set v (iand .u32 (F.getD v 0) (iandNot .u32 left (ishl .u32 1 (v:Int))))) (iandNot .u32 left (ishl .u32 1 (v:Int))):=by
 have hvn:v<n:=by have:=hn _ (List.getElem_mem hi);omega
 have hvt:(v:Int)∉o.take i:=by rw[←hv];exact nodup_iff.1 hnd i hi
 have htk:∀x:Nat,((x:Int)∈o.take (i+1))↔((x:Int)∈o.take i∨x=v):=fun x=>by
  rw[List.take_succ_eq_append_getElem hi,List.mem_append,hv];simp[Int.natCast_inj]
 have hleft:∀w,has (iandNot .u32 left (ishl .u32 1 (v:Int))) w=decide (w<n∧(w:Int)∉o.take (i+1)):=fun w=>by
  rw[Bc h.vsl (VS.ishl _ _),BI (by omega),h.left,Bool.eq_iff_iff]
  simp only[Bool.and_eq_true,decide_eq_true_eq,Bool.not_eq_true',decide_eq_false_iff_not,htk]
  constructor
  ·rintro⟨⟨a,b⟩,c⟩;exact⟨a,fun hh=>hh.elim b c⟩
  ·rintro⟨a,b⟩;exact⟨⟨a,fun hh=>b (.inl hh)⟩,fun hh=>b (.inr hh)⟩
 have hS:∀w,has (iand .u32 (F.getD v 0) (iandNot .u32 left (ishl .u32 1 (v:Int)))) w=(nb F v w&&decide ((w:Int)∉o.take (i+1))):=fun w=>by
  rw[BU (h.f.vs v hvn) (VS.iandNot _ _),hleft,Bool.eq_iff_iff]
  show (nb F v w&&_)=true↔_
  simp only[Bool.and_eq_true,decide_eq_true_eq]
  exact⟨fun⟨a,b,c⟩=>⟨a,c⟩,fun⟨a,c⟩=>⟨a,h.f.lt v w hvn a,c⟩⟩
 have hlV:VS (iandNot .u32 left (ishl .u32 1 (v:Int))):=VS.iandNot _ _
 generalize iandNot .u32 left (ishl .u32 1 (v:Int))=left' at*
 generalize hSS:iand .u32 (F.getD v 0) left'=S at*
 have hSV:VS S:=by rw[←hSS];exact VS.iand _ _
 have hSlt:∀w,has S w=true→w<n∧(w:Int)∉o.take (i+1):=fun w hw=>by
  rw[hS] at hw
  simp only[Bool.and_eq_true,decide_eq_true_eq] at hw
  exact⟨h.f.lt v w hvn hw.1,hw.2⟩
 have hmono:∀u w,u<n→nb F u w=true→nb F' u w=true:=fun u w hu hh=>by rw[h' u w hu,hh];rfl
 have hold:∀x:Nat,x<n→(x:Int)∈o.take (i+1)→∀w,nb F' x w=nb F x w:=fun x hx hm w=>by
  rw[h' x w hx]
  have:has S x=false:=by
   cases hc:has S x
   ·rfl
   ·exact absurd hm (hSlt x hc).2
  simp[this]
 have hf':FOk F' n:=by
  refine⟨hl',hv',fun u w hu hh=> ?_,fun u hu=> ?_,fun u w hu hh=> ?_⟩
  ·rw[h' u w hu] at hh
   simp only[Bool.or_eq_true,Bool.and_eq_true] at hh
   rcases hh with hh|⟨⟨_,hh⟩,_⟩
   ·exact h.f.lt u w hu hh
   ·exact(hSlt w hh).1
  ·rw[h' u u hu,h.f.irr u hu];simp
  ·rw[h' u w hu] at hh
   simp only[Bool.or_eq_true,Bool.and_eq_true,decide_eq_true_eq] at hh
   rcases hh with hh|⟨⟨h1,h2⟩,h3⟩
   ·exact hmono w u (h.f.lt u w hu hh) (h.f.sym u w hu hh)
   ·rw[h' w u (hSlt w h2).1,h1,h2]
    have:decide (u≠w)=true:=by simpa using fun e=>h3 e.symm
    simp[this]
 have hjv:∀j (x:Nat),o[j]? =some (x:Int)→j<o.length∧x<n∧(x:Int)∈o.take (j+1):=fun j x hx=>by
  obtain⟨h1,h2⟩:=List.getElem?_eq_some_iff.1 hx
  have:=hn _ (List.getElem_mem h1)
  refine⟨h1,by omega,?_⟩
  rw[mem_take_iff];exact⟨j,h1,by omega,h2⟩
 refine⟨hf',by simp[h.lenL],fun u hu=> ?_,hlV,hleft,fun u w hu hh=>hmono u w hu (h.mono u w hu hh),fun j x hj hx w=> ?_,fun j x u w hj hx h1 h2 h3 h4 h5=> ?_,fun hp=> ?_,fun u w hu k1 k2 huw=> ?_,fun j x hj hx w=> ?_⟩
 ·rw[CF _ _ _ _ (by rw[h.lenL];exact hvn)]
  split
  ·exact hSV
  ·exact h.vsL u hu
 ·obtain⟨k1,k2,k3⟩:=hjv j x hx
  have k4:=Dl (show j+1≤i+1 by omega) k3
  rw[hold x k2 k4 w]
  unfold nb
  rw[CF _ _ _ _ (by rw[h.lenL];exact hvn)]
  by_cases hji:j=i
  ·subst hji
   rw[List.getElem?_eq_getElem hi,hv] at hx
   have:x=v:=by
    have:(v:Int)=(x:Int):=by simpa using hx
    omega
   subst this
   rw[if_pos rfl,hS];rfl
  ·have hne:x≠v:=fun e=>by
    subst e
    exact hvt (Dl (show j+1≤i by omega) k3)
   rw[if_neg hne]
   exact h.lat j x (by omega) hx w
 ·obtain⟨k1,k2,k3⟩:=hjv j x hx
  have k4:=Dl (show j+1≤i+1 by omega) k3
  rw[hold x k2 k4] at h1 h2
  by_cases hji:j=i
  ·subst hji
   rw[List.getElem?_eq_getElem hi,hv] at hx
   have:x=v:=by
    have:(v:Int)=(x:Int):=by simpa using hx
    omega
   subst this
   have hu:has S u=true:=by rw[hS,h1];simpa using h3
   have hw:has S w=true:=by rw[hS,h2];simpa using h4
   rw[h' u w (hSlt u hu).1,hu,hw]
   have:decide (w≠u)=true:=by simpa using fun e=>h5 e.symm
   simp[this]
  ·exact hmono u w (h.f.lt x u k2 h1) (h.peo j x u w (by omega) hx h1 h2 h3 h4 h5)
 ·have hFF:=h.same hp
  subst hFF
  refine FOk.ext hl' h.f.len hv' h.f.vs (fun u w hu=> ?_)
  rw[h' u w hu,Bool.eq_iff_iff]
  simp only[Bool.or_eq_true,Bool.and_eq_true,decide_eq_true_eq]
  constructor
  ·rintro(hh|⟨⟨h1,h2⟩,h3⟩)
   ·exact hh
   ·have k1:=(hSlt u h1).2;have k2:=(hSlt w h2).2
    rw[hS] at h1 h2
    simp only[Bool.and_eq_true] at h1 h2
    exact hp i v u w (by rw[List.getElem?_eq_getElem hi,hv]) h1.1 h2.1 k1 k2 (fun e=>h3 e.symm)
  ·exact .inl
 ·have q1:(u:Int)∉o.take i:=fun e=>k1 ((htk u).2 (.inl e))
  have q2:(w:Int)∉o.take i:=fun e=>k2 ((htk w).2 (.inl e))
  have huv:u≠v:=fun e=>k1 ((htk u).2 (.inr e))
  have hwv:w≠v:=fun e=>k2 ((htk w).2 (.inr e))
  have hgg:∀y:Nat,(y:Int)∈o.take i→(y:Int)∈o.take (i+1):=fun y hy=>(htk y).2 (.inl hy)
  rw[h' u w hu]
  simp only[Bool.or_eq_true,Bool.and_eq_true,decide_eq_true_eq]
  constructor
  ·rintro(hh|⟨⟨a1,a2⟩,_⟩)
   ·obtain⟨x,hx,e⟩:=(h.via u w hu q1 q2 huw).1 hh
    exact⟨x,hx.mono hgg,e⟩
   ·rw[hS] at a1 a2
    simp only[Bool.and_eq_true,decide_eq_true_eq] at a1 a2
    obtain⟨x,hx,ex⟩:=(h.via v u hvn hvt q1 (fun e=>huv e.symm)).1 a1.1
    obtain⟨y,hy,ey⟩:=(h.via v w hvn hvt q2 (fun e=>hwv e.symm)).1 a2.1
    have hvg:(v:Int)∈o.take (i+1):=(htk v).2 (.inr rfl)
    have hxn:=Via.lt h0 hvn hx
    have hxg:(x:Int)∈o.take (i+1):=by
     rcases hx.end_ with e|e
     ·rw[e];exact hvg
     ·exact hgg x e
    have hux:Via F0 (fun x=>(x:Int)∈o.take (i+1)) u x:= .step .me (h0.sym x u hxn ex) hxg
    have huv':=Via.back h0 (g':=fun x=>(x:Int)∈o.take (i+1)) hgg hvn hvg hx u hux
    have hgo:∀y,Via F0 (fun x=>(x:Int)∈o.take i) v y→Via F0 (fun x=>(x:Int)∈o.take (i+1)) u y:=fun y hy=>by
     induction hy with
     |me=>exact huv'
     |step _ b1 b2 ih=>exact .step ih b1 (hgg _ b2)
    exact⟨y,hgo y hy,ey⟩
  ·rintro⟨x,hx,ex⟩
   have hcl:∀x,Via F0 (fun x=>(x:Int)∈o.take (i+1)) u x→Via F0 (fun x=>(x:Int)∈o.take i) u x∨(Bhd F0 (fun x=>(x:Int)∈o.take i) u v∧Via F0 (fun x=>(x:Int)∈o.take i) v x):=fun x hx=>by
    induction hx with
    |me=>exact .inl .me
    | @step a b _ b1 b2 ih=>
     rcases(htk b).1 b2 with b2|b2
     ·rcases ih with ih|⟨ih1,ih2⟩
      ·exact .inl (.step ih b1 b2)
      ·exact .inr ⟨ih1,.step ih2 b1 b2⟩
     ·rcases ih with ih|⟨ih1,ih2⟩
      ·subst b2;exact .inr ⟨⟨a,ih,b1⟩,.me⟩
      ·subst b2;exact .inr ⟨ih1,.me⟩
   rcases hcl x hx with hx|⟨hx1,hx2⟩
   ·exact .inl ((h.via u w hu q1 q2 huw).2 ⟨x,hx,ex⟩)
   ·right
    have a1:=(h.via u v hu q1 hvt huv).2 hx1
    have a2:=(h.via v w hvn hvt q2 (fun e=>hwv e.symm)).2 ⟨x,hx2,ex⟩
    refine⟨⟨?_,?_⟩,fun e=>huw e.symm⟩
    ·rw[hS,h.f.sym u v hu a1];simpa using k1
    ·rw[hS,a2];simpa using k2
 ·obtain⟨k1,k2,k3⟩:=hjv j x hx
  unfold nb
  rw[CF _ _ _ _ (by rw[h.lenL];exact hvn)]
  by_cases hji:j=i
  ·subst hji
   rw[List.getElem?_eq_getElem hi,hv] at hx
   have:x=v:=by
    have:(v:Int)=(x:Int):=by simpa using hx
    omega
   subst this
   rw[if_pos rfl,hS,Bool.and_eq_true,decide_eq_true_eq]
   constructor
   ·rintro⟨b1,b2⟩
    have b3:(w:Int)∉o.take j:=fun e=>b2 ((htk w).2 (.inl e))
    have b4:x≠w:=fun e=>b2 ((htk w).2 (.inr e.symm))
    exact⟨b2,(h.via x w hvn hvt b3 b4).1 b1⟩
   ·rintro⟨b2,b1⟩
    have b3:(w:Int)∉o.take j:=fun e=>b2 ((htk w).2 (.inl e))
    have b4:x≠w:=fun e=>b2 ((htk w).2 (.inr e.symm))
    exact⟨(h.via x w hvn hvt b3 b4).2 b1,b2⟩
  ·have hne:x≠v:=fun e=>by
    subst e
    exact hvt (Dl (show j+1≤i by omega) k3)
   rw[if_neg hne]
   exact h.latb j x (by omega) hx w
theorem elim_ok {n:Nat}{F0 o:List Int}(h16:n≤16)(h0:FOk F0 n)(hl:o.length=n)(hn:∀x∈o,0≤x∧x<n)(hnd:o.Nodup):
  ∃y,D.z F0 o=some y∧∃left,EInv n F0 o n y.1 y.2 left:=by
 have hlen:=h0.len
 unfold D.z
 rw[AU (by simp;omega),Option.bind_some]
 obtain⟨s,e1,hs1,hs2⟩:=FQ F0 (by omega)
 rw[e1,Option.bind_some,CE (by omega) (by omega),Option.bind_some]
 simp only[Option.bind_some,List.nil_append]
 refine AH (fun st=>∃i:Nat,st.2.2.2=(i:Int)∧i≤n∧EInv n F0 o i st.1 st.2.1 st.2.2.1) (fun st=>n-st.2.2.2.toNat) (fun r=>∃left,EInv n F0 o n r.1 r.2 left) ?_ ?_ ?_
 ·rintro⟨F,L,left,_⟩ ⟨i,rfl,hi,h⟩
  dsimp only at h ⊢
  rw[hl]
  by_cases hlt:i<n
  ·have hio:i<o.length:=by omega
   obtain⟨v,hv⟩:∃v:Nat,o[i]=(v:Int):=⟨(o[i]).toNat,by have:=hn _ (List.getElem_mem hio);omega⟩
   have hvn:v<n:=by have:=hn _ (List.getElem_mem hio);omega
   have hFv:idx F (v:Int)=some (F.getD v 0):=by rw[Au (by rw[h.f.len];omega),Ay (by rw[h.f.len];omega)]
   have hLs:idx (L.set v (iand .u32 (F.getD v 0) (iandNot .u32 left (ishl .u32 1 (v:Int))))) (v:Int)=some (iand .u32 (F.getD v 0) (iandNot .u32 left (ishl .u32 1 (v:Int)))):=by
    rw[Au (by simp[h.lenL];omega)];simp
   simp only[dlt hlt,cond_true,Au hio,hv,Option.bind_some,BH,hFv,Au (show v<L.length by rw[h.lenL];omega),Int.toNat_natCast]
   rw[hLs]
   simp only[Option.bind_some,C9 _ (VS.iand _ _)]
   have hSlt:∀w,has (iand .u32 (F.getD v 0) (iandNot .u32 left (ishl .u32 1 (v:Int)))) w=true→w<n:=fun w hw=>by
    rw[BU (h.f.vs v hvn) (VS.iandNot _ _)] at hw
    simp only[Bool.and_eq_true] at hw
    exact h.f.lt v w hvn hw.1
   obtain⟨F',e2,k1,k2,k3⟩:=inner_ok F _ _ h16 h.f.len h.f.vs (VS.iand _ _) hSlt hLs
   rw[hLs] at e2
   refine bind_eq (x:=F') e2 ?_
   rw[wi (show i<4611686018427387904 by omega)]
   exact⟨_,rfl,⟨i+1,rfl,by omega,h.step h16 h0 hn hnd hio hv k1 k2 k3⟩,by dsimp only;omega⟩
  ·obtain rfl:i=n:=by omega
   simp only[A4,cond_false]
   exact⟨_,rfl,_,h⟩
 ·refine⟨0,rfl,by omega,h0,by simp[hlen],fun u hu=> ?_,hs1,fun v=>by rw[hs2,hlen];simp,fun u w _ h=>h,fun j v hj=>by omega,fun j v u w hj=>by omega,fun _=>rfl,fun u w hu _ _ _=>⟨fun hh=>⟨u,.me,hh⟩,fun⟨x,hx,e⟩=> ?_⟩,fun j v hj=>by omega⟩
  ·rw[List.getD_eq_getElem?_getD,List.getElem?_replicate]
   split<;>exact VS.zero
  ·rcases hx.end_ with e2|e2
   ·rw[←e2];exact e
   ·simp at e2
 ·rintro⟨F,L⟩ h
  exact⟨_,rfl,h⟩
end Go.Sx

namespace Go.Sx
def cnt (n k:Nat):Nat:=((List.range k).filter (fun i=>n.testBit i)).length
theorem cnt_add (n a b:Nat):cnt n (a+b)=cnt n a+cnt (n>>>a) b:=by
 unfold cnt
 rw[List.range_add,List.filter_append,List.length_append,List.filter_map,List.length_map]
 congr 2
 apply List.filter_congr
 intro i _
 simp[Nat.testBit_shiftRight]
theorem cnt_mod (n k:Nat):cnt (n%2^k) k=cnt n k:=by
 unfold cnt
 congr 1
 apply List.filter_congr
 intro i hi
 have:=List.mem_range.1 hi
 rw[Nat.testBit_mod_two_pow];simp[this]
theorem elems_length (n:Nat):(Al (n:Int)).length=cnt n 32:=by
 unfold Al cnt
 rw[List.length_map]
 rfl
theorem pop_all :∀b:Fin 256,EJ EV (b.val:Int)=some ((cnt b.val 8:Nat):Int):=by decide+kernel
theorem pop_at {b:Nat}(h:b<256):EJ EV (b:Int)=some ((cnt b 8:Nat):Int):=pop_all ⟨b,h⟩
theorem cnt_le (n k:Nat):cnt n k≤k:=by
 unfold cnt
 exact Nat.le_trans (List.length_filter_le _ _) (by simp)
theorem wrap8 {x:Int}(h0:0≤x)(h:x<256):IntKind.u8.wrap x=x:=by
 simp[IntKind.wrap,IntKind.signed,IntKind.bits];omega
theorem OnesCount32_eq {s:Int}(h:VS s):D.I0 s=some ((Al s).length:Int):=by
 obtain⟨n,rfl,hn⟩:=h.nat
 have s24:Bz .u32 (n:Int) 24=((n>>>24:Nat):Int):=shr_eq (n:Int) 24 h (by omega)
 have s16:Bz .u32 (n:Int) 16=((n>>>16:Nat):Int):=shr_eq (n:Int) 16 h (by omega)
 have s8:Bz .u32 (n:Int) 8=((n>>>8:Nat):Int):=shr_eq (n:Int) 8 h (by omega)
 have lt:∀k,n>>>k<4294967296:=fun k=>by
  rw[Nat.shiftRight_eq_div_pow];exact Nat.lt_of_le_of_lt (Nat.div_le_self _ _) hn
 have a255:∀m:Nat,m<4294967296→iand .u32 (m:Int) 255=((m%256:Nat):Int):=fun m hm=>by
  have:=Fa hm (show (255:Nat)<4294967296 by omega)
  rw[show ((255:Nat):Int)=255 from rfl] at this
  rw[this]
  congr 1
  exact Nat.and_two_pow_sub_one_eq_mod (n:=8) m
 have h24:n>>>24<256:=by rw[Nat.shiftRight_eq_div_pow];exact Nat.div_lt_of_lt_mul (by simpa using hn)
 have ec:cnt n 32=cnt (n%256) 8+cnt (n>>>8%256) 8+cnt (n>>>16%256) 8+cnt (n>>>24) 8:=by
  rw[show (32:Nat)=8+(8+(8+8)) from rfl,cnt_add n 8,cnt_add _ 8,cnt_add _ 8]
  have e1:=cnt_mod n 8;have e2:=cnt_mod (n>>>8) 8;have e3:=cnt_mod (n>>>16) 8
  simp only[show (2:Nat)^8=256 from rfl] at e1 e2 e3
  rw[e1,e2,e3]
  simp only[←Nat.shiftRight_add,Nat.reduceAdd]
  omega
 unfold D.I0
 rw[s24,s16,s8,a255 _ (lt 16),a255 _ (lt 8),a255 n hn,pop_at h24,pop_at (Nat.mod_lt _ (by omega)),pop_at (Nat.mod_lt _ (by omega)),pop_at (Nat.mod_lt _ (by omega))]
 simp only[Option.bind_some]
 have c1:=cnt_le (n>>>24) 8;have c2:=cnt_le (n>>>16%256) 8;have c3:=cnt_le (n>>>8%256) 8;have c4:=cnt_le (n%256) 8
 generalize cnt (n>>>24) 8=a at*;generalize cnt (n>>>16%256) 8=b at*;generalize cnt (n>>>8%256) 8=c at*;generalize cnt (n%256) 8=d at*
 rw[wrap8 (x:=(a:Int)+b) (by omega) (by omega),wrap8 (x:=(a:Int)+b+c) (by omega) (by omega),wrap8 (x:=(a:Int)+b+c+d) (by omega) (by omega),w64 (by omega) (by omega),elems_length,ec]
 congr 1
 omega
theorem size_eq {s:Int}(h:VS s):D.u0 s=some ((Al s).length:Int):=by
 unfold D.u0;rw[OnesCount32_eq h];rfl
end Go.Sx

namespace Go.Sx
theorem B4 :∀{l m:List Int},l.Nodup→(∀x∈l,x∈m)→l.length≤m.length
 |[],_,_,_=>by simp
 |x::l,m,h,hs=>by
  have h':=List.nodup_cons.1 h
  have hx:=hs x (by simp)
  have:=B4 (l:=l) (m:=m.erase x) h'.2 (fun y hy=>by
   have hne:y≠x:=fun e=>h'.1 (e▸hy)
   exact(List.mem_erase_of_ne hne).2 (hs y (by simp[hy])))
  rw[List.length_erase_of_mem hx] at this
  have hp:0<m.length:=List.length_pos_of_mem hx
  simp;omega
theorem nodup_all {l m:List Int}(hl:l.Nodup)(hm:m.Nodup)(h:∀x∈l,x∈m)(h':∀x∈m,x∈l):l.length=m.length:=
 Nat.le_antisymm (B4 hl h) (B4 hm h')
theorem Inc.nodup {l:List Int}(h:Inc l):l.Nodup:=List.Pairwise.imp (fun h e=>by omega) h
theorem l1All_eq (n:Nat)(hn:n≤4294967295):D.D0 (n:Int)=some ((List.range n).map Int.ofNat):=by
 unfold D.D0
 refine(Bx (fun i=>((List.range i).map Int.ofNat,(i:Int))) n ((List.range n).map Int.ofNat) (by simp) (fun i hi=> ?_) ?_).trans rfl
 ·simp only[dlt hi,cond_true,wi (show i<4611686018427387904 by omega)]
  rw[AU (by simp;omega),Option.bind_some,List.range_succ,List.map_append];rfl
 ·simp only[A4,cond_false]
theorem l8Meet_eq (a b:List Int)(ha:Sh a)(hb:Sh b):D.o0 a b=some (a.filter fun x=>decide (x∈b)):=by
 unfold Sh at ha
 unfold D.o0
 have key:∀(k i:Nat),i+k=a.length→∃y,(Ao (σ:=(List Int)×Int) (ρ:=((List Int))) (fun(s_78:(List Int)×Int)=>match s_78 with|(l_81,x_86)=>cond (decide (x_86<(a.length:Int))) ((idx a x_86).bind fun e_127=>(D.f b e_127).bind fun y_133=>cond y_133 ((idx a x_86).bind fun e_141=>(AK l_81 ([e_141]:List Int)).bind fun l_151=>some (.inl (l_151,(IntKind.i64.wrap (x_86+1))))) (some (.inl (l_81,(IntKind.i64.wrap (x_86+1)))))) (some (.inr l_81))) ((a.take i).filter (fun x=>decide (x∈b)),(i:Int)))=some y∧y=a.filter fun x=>decide (x∈b):=by
  intro k
  induction k with
  |zero=>
   intro i hi
   obtain rfl:i=a.length:=by omega
   rw[List.take_length]
   exact⟨_,Be (by simp only[A4,cond_false]),rfl⟩
  |succ k ih=>
   intro i hi
   have hil:i<a.length:=by omega
   obtain⟨y,h1,h2⟩:=ih (i+1) (by omega)
   refine⟨y,?_,h2⟩
   rw[Bu]
   ·exact h1
   ·have hlen:((a.take i).filter (fun x=>decide (x∈b))).length≤i:=Nat.le_trans (List.length_filter_le _ _) (by simp;omega)
    rw[List.take_succ_eq_append_getElem hil,List.filter_append]
    simp only[dlt hil,cond_true,Au hil,Option.bind_some,CD b _ hb,wi (show i<4611686018427387904 by omega)]
    by_cases hc:a[i]∈b
    ·simp only[hc,decide_true,cond_true,List.filter_cons,if_true,List.filter_nil]
     rw[AU (by simp;omega)];rfl
    ·simp[hc]
 obtain⟨y,h1,rfl⟩:=key a.length 0 (by omega)
 simp only[List.take_zero,List.filter_nil] at h1
 rw[show ((0:Nat):Int)=0 from rfl] at h1
 rw[h1];rfl
theorem l9Part_eq (a b:List Int)(ha:Sh a)(hb:Sh b):D.x a b=some (a.all fun x=>decide (x∈b)):=by
 unfold D.x
 rw[l8Meet_eq a b ha hb,Option.bind_some]
 congr 1
 rw[Bool.eq_iff_iff,List.all_eq_true]
 constructor
 ·intro h x hx
  have h1:(a.filter fun x=>decide (x∈b)).length=a.length:=by have:=beq_iff_eq.1 h;omega
  exact(List.length_filter_eq_length_iff.1 h1) x hx
 ·intro h
  have:(a.filter fun x=>decide (x∈b))=a:=List.filter_eq_self.2 h
  simp[this]
theorem l9In_eq (bags links:List (List Int))(l:List Int)(hb:Sh2 bags)(hl:Sh l):D.Q0 bags links l=some (bags.any fun b=>l.all fun x=>decide (x∈b)):=by
 have hbl:bags.length≤4294967296:=hb.1
 unfold D.Q0
 refine(loop_anyb bags.length (fun i=>l.all fun x=>decide (x∈bags.getD i [])) true (fun i hi=> ?_) ?_ rfl rfl).trans ?_
 ·simp only[dlt hi,cond_true,Au hi,Option.bind_some,wi (show i<4611686018427387904 by omega),Ay hi,l9Part_eq l _ hl (hb.2 _ (List.getElem_mem hi))]
  cases l.all fun x=>decide (x∈bags[i])<;>rfl
 ·simp only[A4,cond_false]
 ·rw[EZ bags (fun b=>l.all fun x=>decide (x∈b)) _ (fun i hi=>by rw[Ay hi])]
def Cf (bags:List (List Int))(v:Int):List Int:=((List.range bags.length).filter fun b=>decide (v∈bags.getD b [])).map Int.ofNat
theorem mem_withV {bags:List (List Int)}{v x:Int}:x∈Cf bags v↔∃b:Nat,x=b∧b<bags.length∧v∈bags.getD b []:=by
 unfold Cf
 rw[List.mem_map]
 constructor
 ·rintro⟨b,hb,rfl⟩
  rw[List.mem_filter,List.mem_range] at hb
  exact⟨b,rfl,hb.1,of_decide_eq_true hb.2⟩
 ·rintro⟨b,rfl,h1,h2⟩
  exact⟨b,List.mem_filter.2 ⟨List.mem_range.2 h1,decide_eq_true h2⟩,rfl⟩
theorem withV_inc (bags:List (List Int))(v:Int):Inc (Cf bags v):=by
 unfold Cf Inc
 rw[List.pairwise_map]
 refine List.Pairwise.filter _ ?_
 refine List.Pairwise.imp ?_ (List.pairwise_lt_range (n:=bags.length))
 intro a b h
 show (a:Int)<(b:Int)
 omega
theorem l9With_eq (bags links:List (List Int))(v:Int)(hb:Sh2 bags)(hl:bags.length≤4294967295):D.w0 bags links v=some (Cf bags v):=by
 unfold D.w0
 refine(Bx (fun i=>(((List.range i).filter fun b=>decide (v∈bags.getD b [])).map Int.ofNat,(i:Int))) bags.length (Cf bags v) (by simp) (fun i hi=> ?_) ?_).trans rfl
 ·have hlen:(((List.range i).filter fun b=>decide (v∈bags.getD b [])).map Int.ofNat).length≤i:=by
   rw[List.length_map];exact Nat.le_trans (List.length_filter_le _ _) (by simp)
  simp only[dlt hi,cond_true,Au hi,Option.bind_some,CD _ _ (hb.2 _ (List.getElem_mem hi)),wi (show i<4611686018427387904 by omega)]
  rw[List.range_succ,List.filter_append,List.map_append]
  by_cases hc:v∈bags[i]
  ·have:decide (v∈bags.getD i [])=true:=by rw[Ay hi];simpa using hc
   simp only[hc,decide_true,cond_true,List.filter_cons,this,if_true,List.filter_nil]
   rw[AU (by simp;simp at hlen;omega)];rfl
  ·have:decide (v∈bags.getD i [])=false:=by rw[Ay hi];simpa using hc
   simp only[hc,decide_false,cond_false,List.filter_cons,this,List.filter_nil,List.map_nil,List.append_nil]
   simp
 ·simp only[A4,cond_false];rfl
def Lk (links:List (List Int))(x y:Int):Prop:=[x,y]∈links∨[y,x]∈links
def Pairs (links:List (List Int)):Prop:=∀l∈links,∃a b:Int,l=[a,b]
theorem l9Near_ok (bags links:List (List Int))(b:Int)(hl:links.length≤1000000)(hp:Pairs links):
  ∃y,D.s0 bags links b=some y∧(Inc y∧(∀w,w∈y↔Lk links b w)∧y.length≤2*links.length):=by
 unfold D.s0
 refine AH (fun s=>∃i:Nat,s.2=(i:Int)∧i≤links.length∧Inc s.1∧(∀w,w∈s.1↔Lk (links.take i) b w)∧s.1.length≤2*i) (fun s=>links.length-s.2.toNat)
  (fun r=>Inc r∧(∀w,w∈r↔Lk links b w)∧r.length≤2*links.length) ?_ ⟨0,rfl,by omega,by simp[Inc],by simp[Lk],by simp⟩ ?_
 ·rintro⟨s,_⟩ ⟨i,rfl,hi,hs,hm,hsl⟩
  dsimp only at hs hm hsl ⊢
  by_cases hil:i<links.length
  ·obtain⟨x,y,exy⟩:=hp _ (List.getElem_mem hil)
   have h0:idx [x,y] 0=some x:=rfl
   have h1:idx [x,y] 1=some y:=rfl
   simp only[dlt hil,cond_true,Au hil,exy,h0,h1,Option.bind_some,wi (show i<4611686018427387904 by omega)]
   have hLk:∀w,Lk (links.take (i+1)) b w↔Lk (links.take i) b w∨(x=b∧y=w)∨(y=b∧x=w):=by
    intro w
    unfold Lk
    rw[List.take_succ_eq_append_getElem hil,exy]
    simp only[List.mem_append,List.mem_singleton,List.cons.injEq,and_true]
    constructor
    ·rintro((h|⟨rfl,rfl⟩)|(h|⟨rfl,rfl⟩))
     ·exact .inl (.inl h)
     ·exact .inr (.inl ⟨rfl,rfl⟩)
     ·exact .inl (.inr h)
     ·exact .inr (.inr ⟨rfl,rfl⟩)
    ·rintro((h|h)|⟨rfl,rfl⟩|⟨rfl,rfl⟩)
     ·exact .inl (.inl h)
     ·exact .inr (.inl h)
     ·exact .inl (.inr ⟨rfl,rfl⟩)
     ·exact .inr (.inr ⟨rfl,rfl⟩)
   refine BA (fun t=>Inc t∧(∀w,w∈t↔w∈s∨(x=b∧y=w))∧t.length≤s.length+1) ?_ ?_
   ·by_cases hx:x=b
    ·have:(x==b)=true:=by simp[hx]
     simp only[this,cond_true,Ds s y hs (by omega),Option.bind_some]
     exact⟨_,rfl,hs.into _,fun w=>by rw[mem_into];simp[hx];constructor<;>(rintro(h|h)<;>simp[h]),into_len _ _⟩
    ·have:(x==b)=false:=by simpa using hx
     simp only[this,cond_false]
     exact⟨_,rfl,hs,fun w=>by simp[hx],by omega⟩
   ·rintro t ⟨ht,htm,htl⟩
    by_cases hy:y=b
    ·have:(y==b)=true:=by simp[hy]
     simp only[this,cond_true,Ds t x ht (by omega),Option.bind_some]
     refine⟨_,rfl,⟨i+1,rfl,by omega,ht.into _,fun w=> ?_,?_⟩,by dsimp only;omega⟩
     ·dsimp only
      rw[hLk,mem_into,htm,hm]
      constructor
      ·rintro(rfl|h|h)
       ·exact .inr (.inr ⟨hy,rfl⟩)
       ·exact .inl h
       ·exact .inr (.inl h)
      ·rintro(h|h|⟨_,rfl⟩)
       ·exact .inr (.inl h)
       ·exact .inr (.inr h)
       ·exact .inl rfl
     ·have:=into_len t x;dsimp only;omega
    ·have:(y==b)=false:=by simpa using hy
     simp only[this,cond_false]
     refine⟨_,rfl,⟨i+1,rfl,by omega,ht,fun w=> ?_,by dsimp only;omega⟩,by dsimp only;omega⟩
     dsimp only
     rw[hLk,htm,hm]
     constructor
     ·rintro(h|h)
      ·exact .inl h
      ·exact .inr (.inl h)
     ·rintro(h|h|⟨h,_⟩)
      ·exact .inl h
      ·exact .inr h
      ·exact absurd h hy
  ·obtain rfl:i=links.length:=by omega
   simp only[A4,cond_false]
   rw[List.take_length] at hm
   exact⟨_,rfl,hs,hm,hsl⟩
 ·rintro r hr
  exact⟨_,rfl,hr⟩
structure Closed (links:List (List Int))(sel m:List Int):Prop where
 sub:∀x∈m,x∈sel
 first:∀x,sel.head? =some x→x∈m
 step:∀x∈m,∀y∈sel,Lk links x y→y∈m
theorem l9Reached_ok (bags links:List (List Int))(sel:List Int)(hl:links.length≤1000000)(hp:Pairs links)(hs:sel.length≤1000000)(hne:sel≠[]):
  ∃y,D.D bags links sel=some y∧∃m:List Int,y=m.length∧m.Nodup∧Closed links sel m∧∀m',Closed links sel m'→∀x∈m,x∈m':=by
 unfold D.D
 obtain⟨x0,sel',rfl⟩:∃x l,sel=x::l:=by cases sel with
  |nil=>exact absurd rfl hne
  |cons x l=>exact⟨x,l,rfl⟩
 generalize hsel:x0::sel'=sel at*
 have hsh:Sh sel:=by unfold Sh;omega
 have e0:((sel.length:Int)==0)=false:=by rw[←hsel];simp;omega
 have e1:idx sel 0=some x0:=by rw[←hsel];rfl
 have hx0:x0∈sel:=by rw[←hsel];simp
 simp only[e0,cond_false,e1,Option.bind_some]
 refine AH (fun s=>∃i:Nat,s.2=(i:Int)∧i≤s.1.length∧s.1.Nodup∧(∀x∈s.1,x∈sel)∧x0∈s.1∧(∀m',Closed links sel m'→∀x∈s.1,x∈m')∧∀x∈s.1.take i,∀y∈sel,Lk links x y→y∈s.1) (fun s=>sel.length-s.2.toNat)
  (fun r=>r.Nodup∧Closed links sel r∧∀m',Closed links sel m'→∀x∈r,x∈m') ?_ ⟨0,rfl,by simp,by simp,by simpa using hx0,by simp,fun m' hm' x hx=>by simp at hx;subst hx;exact hm'.first _ (by rw[←hsel];rfl),by simp⟩ ?_
 ·rintro⟨m,_⟩ ⟨i,rfl,hi,hn,hsub,hx,hmn,hc⟩
  dsimp only at hi hn hsub hx hmn hc ⊢
  have hml:=B4 hn hsub
  by_cases him:i<m.length
  ·simp only[dlt him,cond_true,Au him,Option.bind_some]
   refine BA _ (l9Near_ok bags links m[i] hl hp) ?_
   rintro near ⟨hni,hnm,hnl⟩
   refine AH (fun s=>∃k:Nat,s.2=(k:Int)∧k≤near.length∧s.1.Nodup∧(∀x∈s.1,x∈sel)∧(∃t,s.1=m++t)∧(∀m',Closed links sel m'→∀x∈s.1,x∈m')∧∀y∈near.take k,y∈sel→y∈s.1) (fun s=>near.length-s.2.toNat)
    (fun r=>r.Nodup∧(∀x∈r,x∈sel)∧(∃t,r=m++t)∧(∀m',Closed links sel m'→∀x∈r,x∈m')∧∀y∈near,y∈sel→y∈r) ?_ ⟨0,rfl,by simp,hn,hsub,⟨[],by simp⟩,hmn,by simp⟩ ?_
   ·rintro⟨r,_⟩ ⟨k,rfl,hk,hrn,hrs,⟨t,rfl⟩,hrm,hrc⟩
    dsimp only at hrn hrs hrm hrc ⊢
    have hrl:=B4 hrn hrs
    have hrsh:Sh (m++t):=by unfold Sh;omega
    by_cases hkn:k<near.length
    ·have htk:=List.take_succ_eq_append_getElem hkn
     simp only[dlt hkn,cond_true,Au hkn,Option.bind_some,CD _ _ hsh,CD _ _ hrsh,wi (show k<4611686018427387904 by omega)]
     by_cases h1:near[k]∈sel
     ·by_cases h2:near[k]∈m++t
      ·simp only[h1,h2,decide_true,cond_true,Bool.not_true,cond_false,Option.bind_some]
       refine⟨_,rfl,⟨k+1,rfl,by omega,hrn,hrs,⟨t,rfl⟩,hrm,fun y hy hys=> ?_⟩,by dsimp only;omega⟩
       rw[htk] at hy
       rcases List.mem_append.1 hy with hy|hy
       ·exact hrc y hy hys
       ·simp at hy;subst hy;exact h2
      ·simp only[h1,h2,decide_true,decide_false,cond_true,Bool.not_false,Option.bind_some]
       rw[AU (by simp at hrl ⊢;omega),Option.bind_some]
       refine⟨_,rfl,⟨k+1,rfl,by omega,?_,fun y hy=> ?_,⟨t++[near[k]],by simp⟩,fun m' hm' y hy=> ?_,fun y hy hys=> ?_⟩,by dsimp only;omega⟩
       ·have hp:(m++t++[near[k]]).Perm (near[k]::(m++t)):=List.perm_append_comm
        exact hp.nodup_iff.2 (List.nodup_cons.2 ⟨h2,hrn⟩)
       ·rcases List.mem_append.1 hy with hy|hy
        ·exact hrs y hy
        ·simp at hy;subst hy;exact h1
       ·rcases List.mem_append.1 hy with hy|hy
        ·exact hrm m' hm' y hy
        ·simp at hy;subst hy
         exact hm'.step m[i] (hmn m' hm' _ (List.getElem_mem him)) _ h1 ((hnm _).1 (List.getElem_mem hkn))
       ·dsimp only
        rw[htk] at hy
        rcases List.mem_append.1 hy with hy|hy
        ·exact List.mem_append_left _ (hrc y hy hys)
        ·simp at hy;subst hy;simp
     ·simp only[h1,decide_false,cond_false,Option.bind_some]
      refine⟨_,rfl,⟨k+1,rfl,by omega,hrn,hrs,⟨t,rfl⟩,hrm,fun y hy hys=> ?_⟩,by dsimp only;omega⟩
      rw[htk] at hy
      rcases List.mem_append.1 hy with hy|hy
      ·exact hrc y hy hys
      ·simp at hy;subst hy;exact absurd hys h1
    ·obtain rfl:k=near.length:=by omega
     simp only[A4,cond_false]
     rw[List.take_length] at hrc
     exact⟨_,rfl,hrn,hrs,⟨t,rfl⟩,hrm,hrc⟩
   ·rintro r ⟨hrn,hrs,⟨t,rfl⟩,hrm,hrc⟩
    simp only[wi (show i<4611686018427387904 by omega)]
    refine⟨_,rfl,⟨i+1,rfl,by simp;omega,hrn,hrs,List.mem_append_left _ hx,hrm,fun x hx' y hy hxy=> ?_⟩,by dsimp only;omega⟩
    dsimp only at hx' ⊢
    rw[List.take_append_of_le_length (by omega),List.take_succ_eq_append_getElem him] at hx'
    rcases List.mem_append.1 hx' with hx'|hx'
    ·exact List.mem_append_left _ (hc x hx' y hy hxy)
    ·simp at hx';subst hx'
     exact hrc y ((hnm y).2 hxy) hy
  ·obtain rfl:i=m.length:=by omega
   simp only[A4,cond_false]
   rw[List.take_length] at hc
   exact⟨_,rfl,hn,⟨hsub,fun x hx'=>by rw[←hsel] at hx';simp at hx';subst hx';exact hx,hc⟩,hmn⟩
 ·rintro r ⟨h1,h2,h3⟩
  exact⟨_,rfl,r,rfl,h1,h2,h3⟩
def DC (links:List (List Int))(sel:List Int):Prop:=∀m,Closed links sel m→∀x∈sel,x∈m
end Go.Sx

namespace Go.Sx
def LinkIn (n:Nat)(l:List Int):Prop:=∃a b:Nat,l=[(a:Int),(b:Int)]∧a<b∧b<n
theorem l1Edges_ok (g:List (List Int))(hg:GOk g):∃y,D.L g=some y∧(y.length≤256∧∀e∈y,∃u v:Nat,e=[(u:Int),(v:Int)]∧u<g.length∧adj g u v∧u<v):=by
 have h16:=hg.n16
 unfold D.L
 refine AH (fun s=>∃u:Nat,s.2=(u:Int)∧u≤g.length∧s.1.length≤16*u∧∀e∈s.1,∃u v:Nat,e=[(u:Int),(v:Int)]∧u<g.length∧adj g u v∧u<v) (fun s=>g.length-s.2.toNat)
  (fun r=>r.length≤256∧∀e∈r,∃u v:Nat,e=[(u:Int),(v:Int)]∧u<g.length∧adj g u v∧u<v) ?_ ⟨0,rfl,by omega,by simp,by simp⟩ ?_
 ·rintro⟨l,_⟩ ⟨u,rfl,hu,hl,hE⟩
  dsimp only at hl hE ⊢
  unfold D.a
  simp only[Option.bind_some]
  by_cases hug:u<g.length
  ·have hrl:=hg.row_len hug
   simp only[dlt hug,cond_true]
   refine AH (fun s=>∃i:Nat,s.2=(i:Int)∧i≤(row g u).length∧s.1.length≤16*u+i∧∀e∈s.1,∃u v:Nat,e=[(u:Int),(v:Int)]∧u<g.length∧adj g u v∧u<v) (fun s=>(row g u).length-s.2.toNat)
    (fun r=>r.length≤16*u+16∧∀e∈r,∃u v:Nat,e=[(u:Int),(v:Int)]∧u<g.length∧adj g u v∧u<v) ?_ ⟨0,rfl,by omega,by dsimp only;omega,hE⟩ ?_
   ·rintro⟨l,_⟩ ⟨i,rfl,hi,hl,hE⟩
    dsimp only at hl hE ⊢
    simp only[BX hug,Option.bind_some]
    by_cases hir:i<(row g u).length
    ·obtain⟨v,ev,hv,hav⟩:=hg.mem hug (List.getElem_mem hir)
     simp only[dlt hir,cond_true,Au hir,ev,Option.bind_some,wi (show i<4611686018427387904 by omega)]
     by_cases huv:u<v
     ·simp only[dlt huv,cond_true]
      rw[AU (by simp;omega),Option.bind_some]
      refine⟨_,rfl,⟨i+1,rfl,by omega,by simp;omega,fun e he=> ?_⟩,by dsimp only;omega⟩
      rcases List.mem_append.1 he with he|he
      ·exact hE e he
      ·simp at he;subst he;exact⟨u,v,rfl,hug,hav,huv⟩
     ·have:decide ((u:Int)<(v:Int))=false:=by simp;omega
      simp only[this,cond_false]
      exact⟨_,rfl,⟨i+1,rfl,by omega,by dsimp only;omega,hE⟩,by dsimp only;omega⟩
    ·obtain rfl:i=(row g u).length:=by omega
     simp only[A4,cond_false]
     exact⟨_,rfl,by omega,hE⟩
   ·rintro r ⟨h1,h2⟩
    simp only[wi (show u<4611686018427387904 by omega)]
    exact⟨_,rfl,⟨u+1,rfl,by omega,by dsimp only;omega,h2⟩,by dsimp only;omega⟩
  ·obtain rfl:u=g.length:=by omega
   simp only[A4,cond_false]
   exact⟨_,rfl,by omega,hE⟩
 ·rintro r hr
  exact⟨_,rfl,hr⟩
structure TB (g bags links:List (List Int)):Prop where
 n1:1≤bags.length
 n16:bags.length≤16
 many:links.length+1=bags.length
 lks:∀l∈links,LinkIn bags.length l
 sets:∀b∈bags,SetOf b g.length
 tree:DC links ((List.range bags.length).map Int.ofNat)
 edges:∀u v:Nat,u<g.length→adj g u v→∃b∈bags,(u:Int)∈b∧(v:Int)∈b
 some:∀v,v<g.length→Cf bags v≠[]
 conn:∀v,v<g.length→DC links (Cf bags v)
end Go.Sx

namespace Go.Sx
def rowF (r:List Int)(u:Nat)(s:List (List Int)):List (List Int):=(List.range r.length).foldl (fun s i=>if(u:Int)<r.getD i 0 then s++[[(u:Int),r.getD i 0]] else s) s
theorem FS (r:List Int)(u:Nat)(s0:List (List Int))(h:s0.length+r.length≤4294967296){step:List (List Int)×Int→Option ((List (List Int)×Int) ⊕ List (List Int))}
  (hstep:∀s (i:Nat) (hi:i<r.length),step (s,(i:Int))=cond (decide ((u:Int)<r[i])) ((AK s [[(u:Int),r[i]]]).bind fun l=>some (.inl (l,((i+1:Nat):Int)))) (some (.inl (s,((i+1:Nat):Int)))))
  (hend:∀s,step (s,(r.length:Int))=some (.inr s)):Ao step (s0,0)=some (rowF r u s0)∧(rowF r u s0).length≤s0.length+r.length:=by
 have key:=loop_nat (step:=step) r.length (fun s i=>(s,i)) (fun s i=>if(u:Int)<r.getD i 0 then s++[[(u:Int),r.getD i 0]] else s) (fun s=>s) (fun i s=>s.length≤s0.length+i) s0 (by omega)
  (fun s i hi hs=> ?_) (fun s _=>hend s)
 ·exact key
 ·have hg:r.getD i 0=r[i]:=Ay hi 0
  refine⟨?_,?_⟩
  ·rw[hstep s i hi,hg]
   by_cases hc:(u:Int)<r[i]
   ·rw[decide_eq_true hc,cond_true,AU (by simp;omega),if_pos hc];rfl
   ·rw[decide_eq_false hc,cond_false,if_neg hc]
  ·rw[hg]
   split
   ·rw[List.length_append,List.length_singleton];omega
   ·omega
def Cp (g:List (List Int)):List (List Int):=(List.range g.length).foldl (fun s u=>rowF (row g u) u s) []
theorem F8 (g:List (List Int))(hg:GOk g):D.V1 g=some (Cp g):=by
 have h16:=hg.n16
 unfold D.V1
 have key:=loop_nat (ρ:=List (List Int)) (step:=(fun(s_288:(List (List Int))×Int)=>match s_288 with|(l_291,x_296)=>cond (decide (x_296<(g.length:Int))) ((idx g x_296).bind fun e_441=>(Ao (σ:=(List (List Int))×Int) (ρ:=((List (List Int)))) (fun(s_508:(List (List Int))×Int)=>match s_508 with|(l_511,x_516)=>cond (decide (x_516<(e_441.length:Int))) ((idx e_441 x_516).bind fun e_551=>cond (decide (x_296<e_551)) ((AK l_511 ([([x_296,e_551]:List Int)]:List (List Int))).bind fun l_569=>some (.inl (l_569,(IntKind.i64.wrap (x_516+1))))) (some (.inl (l_511,(IntKind.i64.wrap (x_516+1)))))) (some (.inr l_511))) (l_291,0)).bind fun l_544=>some (.inl (l_544,(IntKind.i64.wrap (x_296+1))))) (some (.inr l_291))))
  g.length (fun s i=>(s,i)) (fun s u=>rowF (row g u) u s) (fun s=>s) (fun i s=>s.length≤16*i) [] (by simp) (fun s u hu hs=> ?_) (fun s _=> ?_)
 ·exact congrArg (fun z=>Option.bind z fun l=>some l) key.1
 ·have hr:=hg.row_len hu
  obtain⟨k1,k2⟩:=FS (row g u) u s (by omega) (step:=(fun(s_508:(List (List Int))×Int)=>match s_508 with|(l_511,x_516)=>cond (decide (x_516<((row g u).length:Int))) ((idx (row g u) x_516).bind fun e_551=>cond (decide ((u:Int)<e_551)) ((AK l_511 ([([(u:Int),e_551]:List Int)]:List (List Int))).bind fun l_569=>some (.inl (l_569,(IntKind.i64.wrap (x_516+1))))) (some (.inl (l_511,(IntKind.i64.wrap (x_516+1)))))) (some (.inr l_511)))) (fun s i hi=>by
    simp only[dlt hi,cond_true,Au hi,Option.bind_some,wi (show i<4611686018427387904 by omega)]) (fun s=>by simp only[A4,cond_false])
  refine⟨?_,by omega⟩
  simp only[dlt hu,cond_true,BX hu,Option.bind_some,wi (show u<4611686018427387904 by omega)]
  exact(congrArg (fun z=>Option.bind z _) k1).trans rfl
 ·simp only[A4,cond_false]
theorem l1Edges_eq (g:List (List Int))(hg:GOk g):D.L g=some (Cp g):=by
 have h16:=hg.n16
 unfold D.L D.a
 have key:=loop_nat (ρ:=List (List Int)) (step:=(fun(s_482:(List (List Int))×Int)=>match s_482 with|(l_485,x_490)=>(some (g.length:Int)).bind fun y_731=>cond (decide (x_490<y_731)) ((Ao (σ:=(List (List Int))×Int) (ρ:=((List (List Int)))) (fun(s_848:(List (List Int))×Int)=>match s_848 with|(l_851,x_856)=>(idx g x_490).bind fun e_914=>cond (decide (x_856<(e_914.length:Int))) ((idx g x_490).bind fun e_921=>(idx e_921 x_856).bind fun e_927=>cond (decide (x_490<e_927)) ((idx g x_490).bind fun e_934=>(idx e_934 x_856).bind fun e_940=>(AK l_851 ([([x_490,e_940]:List Int)]:List (List Int))).bind fun l_957=>some (.inl (l_957,(IntKind.i64.wrap (x_856+1))))) (some (.inl (l_851,(IntKind.i64.wrap (x_856+1)))))) (some (.inr l_851))) (l_485,0)).bind fun l_908=>some (.inl (l_908,(IntKind.i64.wrap (x_490+1))))) (some (.inr l_485))))
  g.length (fun s i=>(s,i)) (fun s u=>rowF (row g u) u s) (fun s=>s) (fun i s=>s.length≤16*i) [] (by simp) (fun s u hu hs=> ?_) (fun s _=> ?_)
 ·exact congrArg (fun z=>Option.bind z fun l=>some l) key.1
 ·have hr:=hg.row_len hu
  obtain⟨k1,k2⟩:=FS (row g u) u s (by omega) (step:=(fun(s_848:(List (List Int))×Int)=>match s_848 with|(l_851,x_856)=>(idx g (u:Int)).bind fun e_914=>cond (decide (x_856<(e_914.length:Int))) ((idx g (u:Int)).bind fun e_921=>(idx e_921 x_856).bind fun e_927=>cond (decide ((u:Int)<e_927)) ((idx g (u:Int)).bind fun e_934=>(idx e_934 x_856).bind fun e_940=>(AK l_851 ([([(u:Int),e_940]:List Int)]:List (List Int))).bind fun l_957=>some (.inl (l_957,(IntKind.i64.wrap (x_856+1))))) (some (.inl (l_851,(IntKind.i64.wrap (x_856+1)))))) (some (.inr l_851)))) (fun s i hi=>by
    simp only[BX hu,dlt hi,cond_true,Au hi,Option.bind_some,wi (show i<4611686018427387904 by omega)]) (fun s=>by simp only[BX hu,Option.bind_some,A4,cond_false])
  refine⟨?_,by omega⟩
  simp only[Option.bind_some,dlt hu,cond_true,wi (show u<4611686018427387904 by omega)]
  exact(congrArg (fun z=>Option.bind z _) k1).trans rfl
 ·simp only[Option.bind_some,A4,cond_false]
theorem GOk.sh2 {g:List (List Int)}(hg:GOk g):Sh2 g:=by
 have h16:=hg.n16
 exact⟨by unfold Sh;omega,fun r hr=>by have:=(hg.mem0 hr).1;unfold Sh;omega⟩
theorem ES {g:List (List Int)}(hg:GOk g):gB g=true:=(CU g).2 hg
theorem D7 (g:List (List Int))(hg:GOk g):D.y1 g=some ((Cp g).length:Int):=by
 unfold D.y1 D.a2
 rw[DE g hg.sh2,ES hg,Option.bind_some,Bool.not_true,cond_false,F8 g hg];rfl
theorem nets_graph_eq (F:List Int)(h:F.length≤16)(hV:∀u,u<F.length→VS (F.getD u 0)):D.N1 F=some (grow F):=by
 unfold D.N1
 refine(Do F (fun s i=>(i,s)) Al (by omega) (fun s i hi _=> ?_) (fun s=> ?_)).trans rfl
 ·have:=hV i hi
  rw[Ay hi] at this
  simp only[dlt hi,cond_true,Au hi,Option.bind_some,DD _ this,wi (show i<4611686018427387904 by omega)]
 ·simp only[A4,cond_false]
theorem OOk.sh {g:List (List Int)}{o:List Int}(hg:GOk g)(ho:OOk g o):Sh o:=by
 have:=hg.n16;have:=ho.len;unfold Sh;omega
theorem Dg {g:List (List Int)}{o:List Int}(hg:GOk g)(ho:OOk g o):D.v1 g o=some true:=by
 rw[F9 g o hg.sh2 (ho.sh hg),ES hg,(ordB_iff g o).2 ho];rfl
structure Fill (g:List (List Int))(o F L:List Int):Prop where
 elim:D.z (g.map mk) o=some (F,L)
 f:FOk F g.length
 lenL:L.length=g.length
 vsL:∀u,u<g.length→VS (L.getD u 0)
 mono:∀u w,u<g.length→adj g u w→nb F u w=true
 lat:Lat F L o g.length
 peo:PEO F o
 same:PEO (g.map mk) o→F=g.map mk
 latb:∀(j:Nat) (v:Nat),o[j]? =some (v:Int)→∀w:Nat,nb L v w=true↔(w:Int)∉o.take (j+1)∧Bhd (g.map mk) (fun x=>(x:Int)∈o.take j) v w
theorem fill_ex {g:List (List Int)}{o:List Int}(hg:GOk g)(ho:OOk g o):∃F L,Fill g o F L:=by
 obtain⟨⟨F,L⟩,e,left,h⟩:=elim_ok hg.n16 (FOk.of hg) ho.len ho.rng ho.nd
 refine⟨F,L,e,h.f,h.lenL,h.vsL,fun u w hu ha=>h.mono u w hu ((ED hg hu).2 ha),h.lat,fun j v u w hj=> ?_,h.same,fun j v hj=>h.latb j v (by have:=(List.getElem?_eq_some_iff.1 hj).1;have:=ho.len;omega) hj⟩
 have hjl:=(List.getElem?_eq_some_iff.1 hj).1
 have:=ho.len
 exact h.peo j v u w (by omega) hj
theorem Fill.FillOf {g:List (List Int)}{o F L:List Int}(hg:GOk g)(ho:OOk g o)(h:Fill g o F L):D.D1 g o=some (grow F,true):=by
 have h16:=hg.n16
 unfold D.D1
 rw[Dg hg ho,Option.bind_some,Bool.not_true,cond_false,C5 g hg,Option.bind_some,FG o (ho.sh hg),Option.bind_some,h.elim,Option.bind_some,nets_graph_eq F (by rw[h.f.len];omega) (fun u hu=>h.f.vs u (by rw[h.f.len] at hu;exact hu))]
 rfl
theorem Fill.gok {g:List (List Int)}{o F L:List Int}(hg:GOk g)(h:Fill g o F L):GOk (grow F):=GOk.grow h.f hg.n1 hg.n16
theorem C3 (F:List Int):(grow F).length=F.length:=by simp[grow]
theorem C8 {g:List (List Int)}{o:List Int}(ho:OOk g o){v:Nat}(hv:v<g.length):∃i:Nat,i<g.length∧o[i]? =some (v:Int):=by
 have hsub:∀x∈o,x∈(List.range g.length).map Int.ofNat:=fun x hx=>by
  have:=ho.rng x hx
  exact List.mem_map.2 ⟨x.toNat,List.mem_range.2 (by omega),by show ((x.toNat:Nat):Int)=x;omega⟩
 by_cases hm:(v:Int)∈o
 ·obtain⟨i,hi,e⟩:=List.getElem_of_mem hm
  exact⟨i,by have:=ho.len;omega,by rw[List.getElem?_eq_getElem hi,e]⟩
 ·exfalso
  have h1:((v:Int)::o).length≤((List.range g.length).map Int.ofNat).length:=B4 (List.nodup_cons.2 ⟨hm,ho.nd⟩) (fun x hx=>by
   rcases List.mem_cons.1 hx with rfl|hx
   ·exact List.mem_map.2 ⟨v,List.mem_range.2 hv,rfl⟩
   ·exact hsub x hx)
  have:=ho.len
  simp at h1
  omega
end Go.Sx

namespace Go.Sx
theorem least_of {P:Nat→Prop}(h:∃j,P j):∃j,P j∧∀i,i<j→¬P i:=by
 obtain⟨j,hj⟩:=h
 induction j using Nat.strongRecOn with
 |ind j ih=>
  by_cases hc:∃i,i<j∧P i
  ·obtain⟨i,h1,h2⟩:=hc;exact ih i h1 h2
  ·exact⟨j,hj,fun i hi hp=>hc ⟨i,hi,hp⟩⟩
theorem FZ {α:Type}(p:α→Bool){l:List α}{i:Nat}(hi:i<l.length):(l.take (i+1)).filter p=(l.take i).filter p++(if p l[i] then [l[i]] else []):=by
 rw[List.take_succ_eq_append_getElem hi,List.filter_append]
 congr 1
 rw[List.filter_cons,List.filter_nil]
def lft (g:List (List Int))(v:Nat)(gone:List Bool):List Int:=(row g v).filter fun x=> !gone.getD x.toNat false
theorem DX (g:List (List Int))(hg:GOk g){v:Nat}(hv:v<g.length)(gone:List Bool)(hl:gone.length=g.length):D.s g (v:Int) gone=some (lft g v gone):=by
 have hr:=hg.row_len hv
 unfold D.s lft
 refine(Bx (fun i=>(((row g v).take i).filter (fun x=> !gone.getD x.toNat false),(i:Int))) (row g v).length ((row g v).filter fun x=> !gone.getD x.toNat false) (by simp) (fun i hi=> ?_) ?_).trans rfl
 ·obtain⟨w,e1,h1,_⟩:=hg.mem hv (List.getElem_mem hi)
  have hlen:(((row g v).take i).filter (fun x=> !gone.getD x.toNat false)).length≤16:=Nat.le_trans (List.length_filter_le _ _) (by simp;omega)
  simp only[BX hv,Option.bind_some,dlt hi,cond_true,Au hi,e1,Au (show w<gone.length by omega),wi (show i<4611686018427387904 by omega)]
  have e3:=FZ (fun x:Int=> !gone.getD x.toNat false) hi
  rw[e1] at e3
  simp only[Int.toNat_natCast,Ay (show w<gone.length by omega)] at e3
  rw[e3]
  cases hc:gone[w]
  ·rw[Bool.not_false,cond_true,AU (by rw[List.length_singleton];omega),Option.bind_some];rfl
  ·rw[Bool.not_true,cond_false];simp
 ·simp only[BX hv,Option.bind_some,A4,cond_false,List.take_length]
theorem lft_inc {g:List (List Int)}(hg:GOk g){v:Nat}(hv:v<g.length)(gone:List Bool):Inc (lft g v gone):=List.Pairwise.filter _ (hg.rows v hv).1
end Go.Sx

namespace Go.Sx
def sumN (f:Nat→Nat):Nat→Nat
 |0=>0
 |n+1=>sumN f n+f n
def bit (b:Bool):Nat:=if b then 1 else 0
def S2 (n:Nat)(p:Nat→Nat→Bool):Nat:=sumN (fun u=>sumN (fun w=>bit (p u w)) n) n
def ast (f:Int→Int)(s:Int×Int)(v:Int):Int×Int:=if s.1<0∨f v<s.2 then(v,f v) else s
def D3 (f:Int→Int)(l:List Int):Int×Int:=l.foldl (ast f) (-1,0)
theorem ast_run (f:Int→Int):∀(l:List Int) (b:Int),0≤b→(∀x∈l,0≤x)→∃c,l.foldl (ast f) (b,f b)=(c,f c)∧(c=b∨c∈l)∧0≤c∧f c≤f b∧∀x∈l,f c≤f x
 |[],b,hb,_=>⟨b,rfl,.inl rfl,hb,Int.le_refl _,by simp⟩
 |x::l,b,hb,hl=>by
  have hx:=hl x (by simp)
  have hl':=fun y hy=>hl y (List.mem_cons_of_mem x hy)
  rw[List.foldl_cons]
  by_cases hc:f x<f b
  ·have e:ast f (b,f b) x=(x,f x):=by unfold ast;rw[if_pos (.inr hc)]
   rw[e]
   obtain⟨c,h1,h2,h3,h4,h5⟩:=ast_run f l x hx hl'
   refine⟨c,h1,.inr ?_,h3,by omega,fun y hy=> ?_⟩
   ·rcases h2 with rfl|h2
    ·simp
    ·exact List.mem_cons_of_mem _ h2
   ·rcases List.mem_cons.1 hy with rfl|hy
    ·exact h4
    ·exact h5 y hy
  ·have e:ast f (b,f b) x=(b,f b):=by unfold ast;rw[if_neg (fun h=>h.elim (fun h=>by dsimp only at h;omega) hc)]
   rw[e]
   obtain⟨c,h1,h2,h3,h4,h5⟩:=ast_run f l b hb hl'
   refine⟨c,h1,?_,h3,h4,fun y hy=> ?_⟩
   ·rcases h2 with h2|h2
    ·exact .inl h2
    ·exact .inr (List.mem_cons_of_mem _ h2)
   ·rcases List.mem_cons.1 hy with rfl|hy
    ·omega
    ·exact h5 y hy
theorem ast_first (f:Int→Int)(x:Int):ast f (-1,0) x=(x,f x):=by unfold ast;rw[if_pos (.inl (by decide))]
theorem amin_ok (f:Int→Int){l:List Int}(hne:l≠[])(hl:∀x∈l,0≤x):∃c,D3 f l=(c,f c)∧c∈l∧∀x∈l,f c≤f x:=by
 cases l with
 |nil=>exact absurd rfl hne
 |cons x l=>
  unfold D3
  rw[List.foldl_cons,ast_first]
  obtain⟨c,h1,h2,h3,h4,h5⟩:=ast_run f l x (hl x (by simp)) (fun y hy=>hl y (List.mem_cons_of_mem _ hy))
  refine⟨c,h1,?_,fun y hy=> ?_⟩
  ·rcases h2 with rfl|h2
   ·simp
   ·exact List.mem_cons_of_mem _ h2
  ·rcases List.mem_cons.1 hy with rfl|hy
   ·exact h4
   ·exact h5 y hy
theorem amin_pos (f:Int→Int)(l:List Int)(hl:∀x∈l,0≤x):(l=[]∧D3 f l=(-1,0))∨∃c,D3 f l=(c,f c)∧c∈l∧0≤c:=by
 by_cases h:l=[]
 ·exact .inl ⟨h,by rw[h];rfl⟩
 ·obtain⟨c,h1,h2,_⟩:=amin_ok f h hl
  exact .inr ⟨c,h1,h2,hl c h2⟩
theorem amin_snoc (f:Int→Int)(l:List Int)(x:Int):D3 f (l++[x])=ast f (D3 f l) x:=by unfold D3;rw[List.foldl_append];rfl
def els (s:Int)(i:Nat):List Int:=((List.range i).filter (has s)).map Int.ofNat
theorem els_succ (s:Int)(i:Nat):els s (i+1)=if has s i then els s i++[(i:Int)] else els s i:=by
 unfold els
 rw[List.range_succ,List.filter_append,List.map_append]
 cases h:has s i<;>simp[h]
theorem EW {s:Int}{n:Nat}(hn:n≤32)(h:∀v,has s v=true→v<n):els s n=Al s:=by
 unfold els Al
 obtain⟨k,hk⟩:∃k,32=n+k:=⟨32-n,by omega⟩
 rw[hk,List.range_add,List.filter_append]
 have:((List.range k).map (fun x=>n+x)).filter (has s)=[]:=by
  rw[List.filter_eq_nil_iff]
  intro x hx hc
  obtain⟨y,_,rfl⟩:=List.mem_map.1 hx
  have:=h _ hc;omega
 rw[this,List.append_nil]
theorem mem_els {s:Int}{i:Nat}{x:Int}:x∈els s i↔∃v:Nat,v<i∧has s v=true∧x=v:=by
 unfold els
 rw[List.mem_map]
 constructor
 ·rintro⟨v,hv,rfl⟩
  rw[List.mem_filter,List.mem_range] at hv
  exact⟨v,hv.1,hv.2,rfl⟩
 ·rintro⟨v,h1,h2,rfl⟩
  exact⟨v,List.mem_filter.2 ⟨List.mem_range.2 h1,h2⟩,rfl⟩
theorem els_nonneg (s:Int)(i:Nat):∀x∈els s i,0≤x:=fun x hx=>by
 obtain⟨v,_,_,rfl⟩:=mem_els.1 hx;omega
theorem elems_nonneg (s:Int):∀x∈Al s,0≤x:=fun x hx=>by
 obtain⟨v,_,_,rfl⟩:=mem_elems.1 hx;omega
theorem elems_rm {s:Int}{b:Nat}(h:VS s)(hb:has s b=true):(Al s).length=(Al (iandNot .u32 s (ishl .u32 1 (b:Int)))).length+1:=by
 have hb32:b<32:=by
  by_cases hv:b<32
  ·exact hv
  ·rw[Ek h (by omega)] at hb;cases hb
 have hm:∀x,x∈Al s↔x∈(b:Int)::Al (iandNot .u32 s (ishl .u32 1 (b:Int))):=fun x=>by
  rw[List.mem_cons,mem_elems,mem_elems]
  constructor
  ·rintro⟨v,h1,h2,rfl⟩
   by_cases e:v=b
   ·left;omega
   ·right;exact⟨v,h1,by rw[Bc h (VS.ishl _ _),BI hb32,h2];simp[e],rfl⟩
  ·rintro(rfl|⟨v,h1,h2,rfl⟩)
   ·exact⟨b,hb32,hb,rfl⟩
   ·rw[Bc h (VS.ishl _ _),Bool.and_eq_true] at h2
    exact⟨v,h1,h2.1,rfl⟩
 have hn:((b:Int)::Al (iandNot .u32 s (ishl .u32 1 (b:Int)))).Nodup:=by
  refine List.nodup_cons.2 ⟨fun hc=> ?_,(Bv _).nodup⟩
  rw[AZ (VS.iandNot _ _),Bc h (VS.ishl _ _),BI hb32] at hc
  simp at hc
 have:=nodup_all (Bv s).nodup hn (fun x hx=>(hm x).1 hx) (fun x hx=>(hm x).2 hx)
 simpa using this
def full (n:Nat):Int:=IntKind.u32.wrap (ishl .u32 1 (n:Int)-1)
theorem Ct (n:Nat):VS (full n):=VS.wrap _
theorem CR {n:Nat}(h:n≤16)(v:Nat):has (full n) v=decide (v<n):=by
 by_cases hv:v<32
 ·exact all_mask ⟨n,by omega⟩ ⟨v,hv⟩
 ·rw[Ek (Ct n) (by omega)];symm;simp;omega
theorem DY (F:List Int):D.n F=some (full F.length):=by
 unfold D.n D.p0
 have:decide ((F.length:Int)<0)=false:=by simp
 rw[this];rfl
def BE (n:Nat)(s:Int):List Bool:=(List.range n).map fun v=> !has s v
theorem CP (n:Nat)(s:Int):(BE n s).length=n:=by simp[BE]
theorem FB {n:Nat}{s:Int}{v:Nat}(h:v<n){h':v<(BE n s).length}:(BE n s)[v]= !has s v:=by
 simp[BE]
theorem E4 {n:Nat}{s:Int}{v:Nat}(h:v<n):(BE n s).getD v false= !has s v:=by
 unfold BE
 rw[Ay (by simpa using h)];simp
theorem Ec {n:Nat}{s:Int}{v:Nat}(h:v<n):idx (BE n s) (v:Int)=some (!has s v):=by
 rw[Au (by rw[CP];exact h),←E4 h,Ay (by rw[CP];exact h)]
theorem E7 {n b:Nat}{s:Int}(hs:VS s)(hb:b<n)(hn:n≤32):(BE n s).set b true=BE n (iandNot .u32 s (ishl .u32 1 (b:Int))):=by
 apply List.ext_getElem
 ·simp[BE]
 ·intro i h1 h2
  have hi:i<n:=by simpa [BE] using h2
  rw[List.getElem_set,FB hi,FB hi,Bc hs (VS.ishl _ _),BI (by omega)]
  by_cases e:b=i
  ·subst e;simp
  ·rw[if_neg e]
   have:decide (i=b)=false:=by simp;omega
   simp[this]
theorem EK {n:Nat}(h:n≤16):List.replicate n false=BE n (full n):=by
 apply List.ext_getElem
 ·simp[BE]
 ·intro i h1 h2
  have hi:i<n:=by simpa [BE] using h2
  rw[List.getElem_replicate,FB hi,CR h]
  simp[hi]
theorem lft_gone {g:List (List Int)}(hg:GOk g){s:Int}(hs:VS s){v:Nat}(hv:v<g.length):lft g v (BE g.length s)=Al (iand .u32 (mk (row g v)) s):=by
 have h16:=hg.n16
 refine Inc.ext (lft_inc hg hv _) (Bv _) (fun x=> ?_)
 unfold lft
 rw[List.mem_filter,mem_elems]
 constructor
 ·rintro⟨h1,h2⟩
  obtain⟨w,rfl,hw,ha⟩:=hg.mem hv h1
  rw[Int.toNat_natCast,E4 hw,Bool.not_not] at h2
  refine⟨w,by omega,?_,rfl⟩
  rw[BU (VS.mk _) hs,h2,DT (fun x hx=>by have:=(hg.rows v hv).2 x hx;omega)]
  simpa using h1
 ·rintro⟨w,_,h2,rfl⟩
  rw[BU (VS.mk _) hs,DT (fun x hx=>by have:=(hg.rows v hv).2 x hx;omega)] at h2
  simp only[Bool.and_eq_true,decide_eq_true_eq] at h2
  have hw:w<g.length:=by have:=(hg.rows v hv).2 _ h2.1;omega
  exact⟨h2.1,by rw[Int.toNat_natCast,E4 hw,h2.2];rfl⟩
end Go.Sx

namespace Go.Sx
def DO (L:List Int):Int:=L.foldl (fun s x=>if s<((Al x).length:Int) then((Al x).length:Int) else s) 0
theorem Fill.many {g:List (List Int)}{o F L:List Int}(hg:GOk g)(ho:OOk g o)(h:Fill g o F L):D.W1 g o=some (IntKind.i64.wrap (((Cp (grow F)).length:Int)-((Cp g).length:Int))):=by
 unfold D.W1
 rw[h.FillOf hg ho,Option.bind_some]
 simp only[Bool.not_true,cond_false]
 rw[D7 _ (h.gok hg),Option.bind_some,D7 _ hg]
 rfl
end Go.Sx

namespace Go.Sx
section
variable {g : List (List Int)} {o : List Int} (hg : GOk g) (ho : OOk g o)
include hg ho
theorem take_ok (i:Nat):(o.take i).length≤16∧∀x∈o.take i,0≤x∧x<g.length:=by
 have:=hg.n16;have:=ho.len
 exact⟨by rw[List.length_take];omega,fun x hx=>ho.rng x (List.mem_of_mem_take hx)⟩
theorem has_take (i:Nat)(v:Nat):has (mk (o.take i)) v=decide ((v:Int)∈o.take i):=by
 have:=hg.n16
 exact DT (fun x hx=>by have:=(take_ok hg ho i).2 x hx;omega) v
omit hg ho in
theorem mk_take {i:Nat}(hi:i<o.length):ior .u32 (mk (o.take i)) (ishl .u32 1 o[i])=mk (o.take (i+1)):=by
 unfold mk
 rw[List.take_succ_eq_append_getElem hi,List.foldl_append];rfl
end
end Go.Sx

namespace Go.Sx
section
variable {g : List (List Int)} {o : List Int} (hg : GOk g) (ho : OOk g o)
include hg ho
omit hg ho in
theorem Eu (a b:Int):D.m a b=some (max a b):=by
 unfold D.m
 by_cases h:b<a
 ·simp only[h,decide_true,cond_true];congr 1;omega
 ·simp only[h,decide_false,cond_false];congr 1;omega
def mx (f:Nat→Int):Nat→Int
 |0=>0
 |n+1=>max (mx f n) (f n)
end
end Go.Sx

namespace Go.Sx
def dg (g:List (List Int))(s:Int)(v:Int):Int:=((Al (iand .u32 (mk (row g v.toNat)) s)).length:Int)
def sq (g:List (List Int)):Nat→Int×Int
 |0=>(full g.length,0)
 |i+1=>(iandNot .u32 (sq g i).1 (ishl .u32 1 (D3 (dg g (sq g i).1) (Al (sq g i).1)).1),max (sq g i).2 (dg g (sq g i).1 (D3 (dg g (sq g i).1) (Al (sq g i).1)).1))
structure SQ (n:Nat)(s:Int)(k:Nat):Prop where
 vs:VS s
 lt:∀v,has s v=true→v<n
 card:(Al s).length=k
theorem SQ.full {n:Nat}(h:n≤16):SQ n (full n) n:=by
 refine⟨Ct n,fun v hv=>by rw[CR h] at hv;exact of_decide_eq_true hv,?_⟩
 rw[←EW (n:=n) (by omega) (fun v hv=>by rw[CR h] at hv;exact of_decide_eq_true hv)]
 unfold els
 rw[List.length_map,List.filter_eq_self.2 (fun v hv=>by rw[CR h];exact decide_eq_true (List.mem_range.1 hv)),List.length_range]
theorem SQ.rm {n k b:Nat}{s:Int}(h:SQ n s (k+1))(hb:has s b=true):SQ n (iandNot .u32 s (ishl .u32 1 (b:Int))) k:=by
 refine⟨VS.iandNot _ _,fun v hv=> ?_,?_⟩
 ·rw[Bc h.vs (VS.ishl _ _),Bool.and_eq_true] at hv
  exact h.lt v hv.1
 ·have:=elems_rm h.vs hb
  have:=h.card
  omega
theorem SQ.ne {n k:Nat}{s:Int}(h:SQ n s (k+1)):Al s≠[]:=fun e=>by have:=h.card;rw[e] at this;simp at this
theorem SQ.z {n:Nat}{s:Int}(h:SQ n s 0):s=0:=by
 rw[h.vs.eq_zero]
 intro v hv
 cases hc:has s v
 ·rfl
 ·have:(v:Int)∈Al s:=(AZ h.vs).2 hc
  have h0:=h.card
  rw[List.length_eq_zero_iff] at h0
  rw[h0] at this;simp at this
theorem SQ.min {n k:Nat}{s:Int}(h:SQ n s (k+1))(f:Int→Int):∃c:Nat,c<n∧has s c=true∧D3 f (Al s)=((c:Int),f c)∧∀v:Nat,has s v=true→f c≤f v:=by
 obtain⟨c,h1,h2,h3⟩:=amin_ok f h.ne (elems_nonneg s)
 obtain⟨v,_,h5,rfl⟩:=mem_elems.1 h2
 exact⟨v,h.lt v h5,h5,h1,fun w hw=>h3 w ((AZ h.vs).2 hw)⟩
theorem sq_ok {g:List (List Int)}(hg:GOk g):∀i,i≤g.length→SQ g.length (sq g i).1 (g.length-i)
 |0,_=>SQ.full hg.n16
 |i+1,hi=>by
  have ih:=sq_ok hg i (by omega)
  obtain⟨k,hk⟩:∃k,g.length-i=k+1:=⟨g.length-i-1,by omega⟩
  rw[hk] at ih
  obtain⟨c,h1,h2,h3,h4⟩:=ih.min (dg g (sq g i).1)
  rw[show g.length-(i+1)=k by omega]
  simp only[sq,h3]
  exact ih.rm h2
theorem lenL_dg {g:List (List Int)}(hg:GOk g){s:Int}(hs:VS s){v:Nat}(hv:v<g.length):((lft g v (BE g.length s)).length:Int)=dg g s v:=by
 rw[lft_gone hg hs hv];rfl
theorem FC {g:List (List Int)}(hg:GOk g):D.A0 g=some (sq g g.length).2:=by
 have h16:=hg.n16
 unfold D.A0 D.a
 rw[CY g hg.sh2,ES hg,Option.bind_some,Bool.not_true,cond_false,Option.bind_some,CE (by omega) (by omega),Option.bind_some]
 refine(Bx (fun i=>(BE g.length (sq g i).1,(sq g i).2,(i:Int))) g.length (sq g g.length).2 (by simp only[sq];rw[EK h16];rfl) (fun i hi=> ?_) ?_).trans rfl
 ·have ih:=sq_ok hg i (by omega)
  obtain⟨k,hk⟩:∃k,g.length-i=k+1:=⟨g.length-i-1,by omega⟩
  rw[hk] at ih
  obtain⟨c,h1,h2,h3,h4⟩:=ih.min (dg g (sq g i).1)
  simp only[sq,h3,Option.bind_some,dlt hi,cond_true]
  generalize (sq g i).1=s at*
  refine(Bx (fun j=>((D3 (dg g s) (els s j)).1,(j:Int))) g.length (c:Int) (by simp[els,D3]) (fun j hj=> ?_) ?_).trans ?_
  ·simp only[Option.bind_some,dlt hj,cond_true,Ec hj,Bool.not_not,wi (show j<4611686018427387904 by omega)]
   rw[els_succ]
   cases hc:has s j with
   |false=>simp only[cond_false,Bool.false_eq_true,if_false]
   |true=>
    simp only[cond_true,if_true]
    rw[amin_snoc]
    rcases amin_pos (dg g s) (els s j) (els_nonneg s j) with⟨e1,e2⟩|⟨d,e2,e3,e4⟩
    ·rw[e2,ast_first]
     have:decide ((-1:Int)<0)=true:=rfl
     simp only[this,cond_true]
    ·obtain⟨b,hb1,hb2,rfl⟩:=mem_els.1 e3
     have hn:decide ((b:Int)<0)=false:=by simp
     rw[e2]
     simp only[hn,cond_false,DX g hg hj (BE g.length s) (CP _ _),DX g hg (show b<g.length by omega) (BE g.length s) (CP _ _),Option.bind_some,lenL_dg hg ih.vs hj,lenL_dg hg ih.vs (show b<g.length by omega)]
     unfold ast
     by_cases hc:dg g s j<dg g s b
     ·simp only[hc,decide_true,cond_true,or_true,if_true]
     ·have hn:¬((b:Int)<0):=by omega
      simp only[hc,hn,decide_false,cond_false,or_false,if_false]
  ·simp only[Option.bind_some,A4,cond_false]
   rw[EW (by omega) ih.lt,h3]
  ·simp only[DX g hg h1 (BE g.length s) (CP _ _),Option.bind_some,lenL_dg hg ih.vs h1,Eu,Ec h1,Int.toNat_natCast,E7 ih.vs h1 (show g.length≤32 by omega),wi (show i<4611686018427387904 by omega)]
 ·simp only[Option.bind_some,A4,cond_false]
theorem maxsz_ge {L:List Int}{x:Int}(hx:x∈L):((Al x).length:Int)≤DO L:=by
 unfold DO
 have key:∀(L:List Int) (a:Int),a≤L.foldl (fun s x=>if s<((Al x).length:Int) then((Al x).length:Int) else s) a∧∀x∈L,((Al x).length:Int)≤L.foldl (fun s x=>if s<((Al x).length:Int) then((Al x).length:Int) else s) a:=by
  intro L
  induction L with
  |nil=>intro a;simp
  |cons y L ih=>
   intro a
   rw[List.foldl_cons]
   have h1:=ih (if a<((Al y).length:Int) then((Al y).length:Int) else a)
   have h2:a≤(if a<((Al y).length:Int) then((Al y).length:Int) else a)∧((Al y).length:Int)≤(if a<((Al y).length:Int) then((Al y).length:Int) else a):=by split<;>omega
   refine⟨by omega,fun x hx=> ?_⟩
   rcases List.mem_cons.1 hx with rfl|hx
   ·omega
   ·exact h1.2 x hx
 exact(key L 0).2 x hx
theorem Fs (L:List Int):0≤DO L:=by
 unfold DO
 have key:∀(L:List Int) (a:Int),a≤L.foldl (fun s x=>if s<((Al x).length:Int) then((Al x).length:Int) else s) a:=by
  intro L
  induction L with
  |nil=>intro a;simp
  |cons y L ih=>
   intro a
   rw[List.foldl_cons]
   have h1:=ih (if a<((Al y).length:Int) then((Al y).length:Int) else a)
   have h2:a≤(if a<((Al y).length:Int) then((Al y).length:Int) else a):=by split<;>omega
   omega
 exact key L 0
theorem first_of {g:List (List Int)}{o F L:List Int}(hg:GOk g)(ho:OOk g o)(h:Fill g o F L){s:Int}(hs:VS s){b:Nat}(hb:has s b=true)(hlt:∀v,has s v=true→v<g.length):∃v:Nat,has s v=true∧dg g s v≤DO L:=by
 have h16:=hg.n16;have hl:=ho.len
 obtain⟨j,⟨hj,hjs⟩,hmin⟩:=least_of (P:=fun j=>j<o.length∧has s (o.getD j 0).toNat=true) (by
  obtain⟨i,h1,h2⟩:=C8 ho (hlt b hb)
  refine⟨i,by omega,?_⟩
  obtain⟨h3,h4⟩:=List.getElem?_eq_some_iff.1 h2
  rw[Ay h3,h4];exact hb)
 rw[Ay hj] at hjs
 have hr:=ho.rng _ (List.getElem_mem hj)
 obtain⟨v,hv⟩:∃v:Nat,o[j]=v:=⟨o[j].toNat,by omega⟩
 rw[hv,Int.toNat_natCast] at hjs
 refine⟨v,hjs,?_⟩
 have hvn:v<g.length:=by omega
 have hmem:L.getD v 0∈L:=by rw[Ay (by rw[h.lenL];exact hvn)];exact List.getElem_mem _
 refine Int.le_trans ?_ (maxsz_ge hmem)
 unfold dg
 rw[Int.toNat_natCast]
 refine Int.ofNat_le.2 (B4 (Bv _).nodup (fun x hx=> ?_))
 obtain⟨w,_,hw,rfl⟩:=mem_elems.1 hx
 rw[BU (VS.mk _) hs,Bool.and_eq_true,DT (fun x hx=>by have:=(hg.rows v hvn).2 x hx;omega),decide_eq_true_eq] at hw
 rw[AZ (h.vsL v hvn)]
 have hlat:=h.lat j v (by omega) (by rw[List.getElem?_eq_getElem hj,hv]) w
 unfold nb at hlat
 rw[hlat]
 have hnb:has (F.getD v 0) w=true:=h.mono v w hvn hw.1
 rw[hnb,Bool.true_and,decide_eq_true_eq]
 intro hm
 obtain⟨i,hi,hij,e⟩:=mem_take_iff.1 hm
 by_cases hc:i=j
 ·subst hc
  rw[hv] at e
  obtain rfl:v=w:=by omega
  exact hg.irr v hvn hw.1
 ·exact hmin i (by omega) ⟨hi,by rw[Ay hi,e];exact hw.2⟩
theorem deg_le {g:List (List Int)}{o F L:List Int}(hg:GOk g)(ho:OOk g o)(h:Fill g o F L):(sq g g.length).2≤DO L:=by
 have key:∀i,i≤g.length→(sq g i).2≤DO L:=by
  intro i
  induction i with
  |zero=>intro _;exact Fs L
  |succ i ih=>
   intro hi
   have h1:=ih (by omega)
   have hq:=sq_ok hg i (by omega)
   obtain⟨k,hk⟩:∃k,g.length-i=k+1:=⟨g.length-i-1,by omega⟩
   rw[hk] at hq
   obtain⟨c,c1,c2,c3,c4⟩:=hq.min (dg g (sq g i).1)
   simp only[sq,c3]
   obtain⟨v,v1,v2⟩:=first_of hg ho h hq.vs c2 hq.lt
   have:=c4 v v1
   omega
 exact key _ (Nat.le_refl _)
end Go.Sx

namespace Go.Sx
theorem graph_ext {g g':List (List Int)}(hg:GOk g)(hg':GOk g')(hl:g.length=g'.length)(h:∀a b:Nat,a<g.length→(adj g a b↔adj g' a b)):g=g':=by
 apply List.ext_getElem hl
 intro i h1 h2
 rw[←row_eq h1,←row_eq h2]
 refine Inc.ext (hg.rows i h1).1 (hg'.rows i h2).1 (fun x=> ?_)
 constructor
 ·intro hx
  obtain⟨w,rfl,_,ha⟩:=hg.mem h1 hx
  exact(h i w h1).1 ha
 ·intro hx
  obtain⟨w,rfl,_,ha⟩:=hg'.mem h2 hx
  exact(h i w h1).2 ha
theorem grow_of {g:List (List Int)}(hg:GOk g):grow (g.map mk)=g:=by
 have hf:=FOk.of hg
 refine graph_ext (GOk.grow hf hg.n1 hg.n16) hg (by rw[C3,hf.len]) (fun a b ha=> ?_)
 rw[C3,hf.len] at ha
 rw[DJ hf ha,ED hg ha]
theorem l7Clique_ok {g:List (List Int)}(hg:GOk g){l:List Int}(hi:Inc l)(hr:∀x∈l,0≤x∧x<g.length):
  ∃g',D.c0 g l=some g'∧(GOk g'∧g'.length=g.length∧∀a b:Nat,adj g' a b↔adj g a b∨(a≠b∧(a:Int)∈l∧(b:Int)∈l)):=by
 have h16:=hg.n16
 have hl:=hi.short (n:=g.length) hr
 unfold D.c0
 refine AH (fun s=>∃i:Nat,s.2=(i:Int)∧i≤l.length∧GOk s.1∧s.1.length=g.length∧∀a b:Nat,adj s.1 a b↔adj g a b∨(a≠b∧(a:Int)∈l.take i∧(b:Int)∈l.take i)) (fun s=>l.length-s.2.toNat)
  (fun r=>GOk r∧r.length=g.length∧∀a b:Nat,adj r a b↔adj g a b∨(a≠b∧(a:Int)∈l∧(b:Int)∈l)) ?_ ⟨0,rfl,by omega,hg,rfl,fun a b=>by simp⟩ (fun r h=>⟨r,rfl,h⟩)
 rintro⟨G,_⟩ ⟨i,rfl,hil,hG,hGl,hA⟩
 dsimp only at hG hGl hA ⊢
 by_cases hlt:i<l.length
 ·have r1:=hr _ (List.getElem_mem hlt)
  obtain⟨v,ev⟩:∃v:Nat,l[i]=(v:Int):=⟨l[i].toNat,by omega⟩
  simp only[dlt hlt,cond_true]
  refine AH (fun s=>∃k:Nat,s.2=(k:Int)∧k≤i∧GOk s.1∧s.1.length=g.length∧∀a b:Nat,adj s.1 a b↔adj G a b∨(a=v∧(b:Int)∈l.take k)∨(b=v∧(a:Int)∈l.take k)) (fun s=>i-s.2.toNat)
   (fun r=>GOk r∧r.length=g.length∧∀a b:Nat,adj r a b↔adj G a b∨(a=v∧(b:Int)∈l.take i)∨(b=v∧(a:Int)∈l.take i)) ?_ ⟨0,rfl,by omega,hG,hGl,fun a b=>by simp⟩ ?_
  ·rintro⟨G',_⟩ ⟨k,rfl,hk,hG',hGl',hA'⟩
   dsimp only at hG' hGl' hA' ⊢
   by_cases hkl:k<i
   ·have hkk:k<l.length:=by omega
    have r2:=hr _ (List.getElem_mem hkk)
    obtain⟨u,eu⟩:∃u:Nat,l[k]=(u:Int):=⟨l[k].toNat,by omega⟩
    have hne:l[k]<l[i]:=(List.pairwise_iff_getElem.1 hi) k i hkk hlt hkl
    obtain⟨g2,q1,q2,q3,q4⟩:=l1Link_ok hG' (u:=u) (v:=v) (by omega) (by omega) (by omega)
    simp only[dlt hkl,cond_true,Au hkk,Au hlt,Option.bind_some,eu,ev,q1,wi (show k<4611686018427387904 by omega)]
    refine⟨_,rfl,⟨k+1,rfl,by omega,q2,by dsimp only;omega,fun a b=> ?_⟩,by dsimp only;omega⟩
    dsimp only
    rw[q4,hA',List.take_succ_eq_append_getElem hkk,eu]
    simp only[List.mem_append,List.mem_singleton,Int.natCast_inj]
    constructor
    ·rintro((h|⟨h1,h2⟩|⟨h1,h2⟩)|⟨h1,h2⟩|⟨h1,h2⟩)
     ·exact .inl h
     ·exact .inr (.inl ⟨h1,.inl h2⟩)
     ·exact .inr (.inr ⟨h1,.inl h2⟩)
     ·exact .inr (.inr ⟨h2,.inr h1⟩)
     ·exact .inr (.inl ⟨h1,.inr h2⟩)
    ·rintro(h|⟨h1,h2|h2⟩|⟨h1,h2|h2⟩)
     ·exact .inl (.inl h)
     ·exact .inl (.inr (.inl ⟨h1,h2⟩))
     ·exact .inr (.inr ⟨h1,h2⟩)
     ·exact .inl (.inr (.inr ⟨h1,h2⟩))
     ·exact .inr (.inl ⟨h2,h1⟩)
   ·obtain rfl:k=i:=by omega
    simp only[A4,cond_false]
    exact⟨_,rfl,hG',hGl',hA'⟩
  ·rintro r ⟨q1,q2,q3⟩
   rw[wi (show i<4611686018427387904 by omega)]
   refine⟨_,rfl,⟨i+1,rfl,by omega,q1,q2,fun a b=> ?_⟩,by dsimp only;omega⟩
   dsimp only
   have hvt:(v:Int)∉l.take i:=by
    rw[←ev];exact nodup_iff.1 hi.nodup i hlt
   rw[q3,hA,List.take_succ_eq_append_getElem hlt,ev]
   simp only[List.mem_append,List.mem_singleton,Int.natCast_inj]
   constructor
   ·rintro((h|⟨h0,h1,h2⟩)|⟨h1,h2⟩|⟨h1,h2⟩)
    ·exact .inl h
    ·exact .inr ⟨h0,.inl h1,.inl h2⟩
    ·refine .inr ⟨fun e=> ?_,.inr h1,.inl h2⟩
     subst e;subst h1;exact hvt h2
    ·refine .inr ⟨fun e=> ?_,.inl h2,.inr h1⟩
     subst e;subst h1;exact hvt h2
   ·rintro(h|⟨h0,h1|h1,h2|h2⟩)
    ·exact .inl (.inl h)
    ·exact .inl (.inr ⟨h0,h1,h2⟩)
    ·exact .inr (.inr ⟨h2,h1⟩)
    ·exact .inr (.inl ⟨h1,h2⟩)
    ·exact absurd (h1.trans h2.symm) h0
 ·obtain rfl:i=l.length:=by omega
  simp only[A4,cond_false]
  rw[List.take_length] at hA
  exact⟨_,rfl,hG,hGl,hA⟩
theorem FOk.clique {F F':List Int}{n:Nat}{S:Int}(h:FOk F n)(hS:∀w,has S w=true→w<n)(hl:F'.length=n)(hv:∀u,u<n→VS (F'.getD u 0))(h':∀u w,u<n→nb F' u w=(nb F u w||(has S u&&has S w&&decide (w≠u)))):FOk F' n:=by
 refine⟨hl,hv,fun u w hu hh=> ?_,fun u hu=> ?_,fun u w hu hh=> ?_⟩
 ·rw[h' u w hu] at hh
  simp only[Bool.or_eq_true,Bool.and_eq_true] at hh
  rcases hh with hh|⟨⟨_,hh⟩,_⟩
  ·exact h.lt u w hu hh
  ·exact hS w hh
 ·rw[h' u u hu,h.irr u hu];simp
 ·rw[h' u w hu] at hh
  simp only[Bool.or_eq_true,Bool.and_eq_true,decide_eq_true_eq] at hh
  rcases hh with hh|⟨⟨h1,h2⟩,h3⟩
  ·rw[h' w u (h.lt u w hu hh),h.sym u w hu hh];rfl
  ·rw[h' w u (hS w h2),h1,h2]
   have:decide (u≠w)=true:=by simpa using fun e=>h3 e.symm
   simp[this]
theorem eliminate_ok {F:List Int}{n b:Nat}{s:Int}(h16:n≤16)(h:FOk F n)(hs:VS s)(hb:b<n):
  ∃F',D.A1 F s (b:Int)=some F'∧(FOk F' n∧∀u w,u<n→nb F' u w=(nb F u w||((nb F b u&&has s u)&&(nb F b w&&has s w)&&decide (w≠u)))):=by
 have hlen:=h.len
 unfold D.A1
 have hFb:idx F (b:Int)=some (F.getD b 0):=by rw[Au (by omega),Ay (by omega)]
 rw[hFb]
 simp only[Option.bind_some,BH]
 have hSV:VS (iandNot .u32 (iand .u32 (F.getD b 0) s) (ishl .u32 1 (b:Int))):=VS.iandNot _ _
 have hS:∀w,has (iandNot .u32 (iand .u32 (F.getD b 0) s) (ishl .u32 1 (b:Int))) w=(nb F b w&&has s w):=fun w=>by
  rw[Bc (VS.iand _ _) (VS.ishl _ _),BU (h.vs b hb) hs,BI (by omega)]
  by_cases e:w=b
  ·subst e
   have:=h.irr w hb
   unfold nb at this ⊢
   rw[this];simp
  ·unfold nb;simp[e]
 have hSn:∀w,has (iandNot .u32 (iand .u32 (F.getD b 0) s) (ishl .u32 1 (b:Int))) w=true→w<n:=fun w hw=>by
  rw[hS,Bool.and_eq_true] at hw
  exact h.lt b w hb hw.1
 generalize iandNot .u32 (iand .u32 (F.getD b 0) s) (ishl .u32 1 (b:Int))=S at*
 rw[C9 S hSV,Option.bind_some]
 refine AH (fun st=>∃i:Nat,st.2=(i:Int)∧i≤(Al S).length∧st.1.length=n∧(∀u,u<n→VS (st.1.getD u 0))∧∀u w,u<n→nb st.1 u w=(nb F u w||(decide ((u:Int)∈(Al S).take i)&&has S w&&decide (w≠u)))) (fun st=>(Al S).length-st.2.toNat)
  (fun F'=>F'.length=n∧(∀u,u<n→VS (F'.getD u 0))∧∀u w,u<n→nb F' u w=(nb F u w||(has S u&&has S w&&decide (w≠u)))) ?_ ⟨0,rfl,by omega,hlen,h.vs,fun u w _=>by simp⟩ ?_
 ·rintro⟨l,_⟩ ⟨i,rfl,hi,hl,hv,hh⟩
  dsimp only at hl hv hh ⊢
  have hle:=BR S
  by_cases hlt:i<(Al S).length
  ·obtain⟨u0,h1,h2,h3⟩:=mem_elems.1 (List.getElem_mem hlt)
   have h4:=hSn u0 h2
   simp only[dlt hlt,cond_true,Au hlt,Option.bind_some,h3,Au (show u0<l.length by omega),BH,wi (show i<4611686018427387904 by omega),Int.toNat_natCast]
   refine⟨_,rfl,⟨i+1,rfl,by omega,by simp[hl],fun u hu=> ?_,fun u w hu=> ?_⟩,by dsimp only;omega⟩
   ·rw[CF _ _ _ _ (by omega)]
    split
    ·exact VS.ior _ _
    ·exact hv u hu
   ·have hmem:((u:Int)∈(Al S).take (i+1))↔((u:Int)∈(Al S).take i∨u=u0):=by
     rw[List.take_succ_eq_append_getElem hlt,List.mem_append,h3]
     simp[Int.natCast_inj]
    unfold nb
    rw[CF _ _ _ _ (by omega)]
    by_cases hc:u=u0
    ·subst hc
     rw[if_pos rfl]
     have hg:l[u]=l.getD u 0:=(Ay (by omega) 0).symm
     rw[hg,CG (hv u hu) (VS.iandNot _ _),Bc hSV (VS.ishl _ _),BI (by omega)]
     have:=hh u w hu
     unfold nb at this
     rw[this,decide_eq_true (hmem.2 (.inr rfl))]
     cases has (F.getD u 0) w<;>cases has S w<;>by_cases hw:w=u<;>simp[hw]
    ·rw[if_neg hc]
     have:=hh u w hu
     unfold nb at this
     rw[this]
     have:decide ((u:Int)∈(Al S).take (i+1))=decide ((u:Int)∈(Al S).take i):=by
      rw[Bool.eq_iff_iff,decide_eq_true_eq,decide_eq_true_eq,hmem];simp[hc]
     rw[this]
  ·obtain rfl:i=(Al S).length:=by omega
   simp only[A4,cond_false]
   refine⟨_,rfl,hl,hv,fun u w hu=> ?_⟩
   rw[hh u w hu,List.take_length]
   congr 3
   rw[Bool.eq_iff_iff,decide_eq_true_eq,AZ hSV]
 ·rintro F' ⟨q1,q2,q3⟩
  refine⟨_,rfl,h.clique hSn q1 q2 q3,fun u w hu=> ?_⟩
  rw[q3 u w hu,hS,hS]
noncomputable def EG (F:List Int)(s b:Int):List Int:=(D.A1 F s b).getD []
theorem elimF_ok {F:List Int}{n b:Nat}{s:Int}(h16:n≤16)(h:FOk F n)(hs:VS s)(hb:b<n):
  D.A1 F s (b:Int)=some (EG F s b)∧FOk (EG F s b) n∧∀u w,u<n→nb (EG F s b) u w=(nb F u w||((nb F b u&&has s u)&&(nb F b w&&has s w)&&decide (w≠u))):=by
 obtain⟨F',e,h1,h2⟩:=eliminate_ok h16 h hs hb
 have:EG F s b=F':=by unfold EG;rw[e];rfl
 rw[this];exact⟨e,h1,h2⟩
theorem lft_grow {F:List Int}{n v:Nat}{s:Int}(h1:1≤n)(h16:n≤16)(h:FOk F n)(hs:VS s)(hv:v<n):lft (grow F) v (BE n s)=Al (iand .u32 (F.getD v 0) s):=by
 have hl:(grow F).length=n:=by rw[C3,h.len]
 have:=lft_gone (GOk.grow h h1 h16) hs (v:=v) (by omega)
 rw[hl,row_grow,mk_elems (h.vs v hv)] at this
 exact this
theorem clique_grow {F:List Int}{n b:Nat}{s:Int}(h1:1≤n)(h16:n≤16)(h:FOk F n)(hs:VS s)(hb:b<n):
  D.c0 (grow F) (lft (grow F) b (BE n (iandNot .u32 s (ishl .u32 1 (b:Int)))))=some (grow (EG F s b)):=by
 obtain⟨_,e2,e3⟩:=elimF_ok h16 h hs hb
 have hG:=GOk.grow h h1 h16
 have hl:(grow F).length=n:=by rw[C3,h.len]
 rw[lft_grow h1 h16 h (VS.iandNot _ _) hb]
 have hm:∀w:Nat,(w:Int)∈Al (iand .u32 (F.getD b 0) (iandNot .u32 s (ishl .u32 1 (b:Int))))↔(nb F b w&&has s w)=true:=fun w=>by
  rw[AZ (VS.iand _ _),BU (h.vs b hb) (VS.iandNot _ _),Bc hs (VS.ishl _ _),BI (by omega)]
  by_cases e:w=b
  ·subst e
   have:=h.irr w hb
   unfold nb at this ⊢
   rw[this];simp
  ·unfold nb;simp[e]
 obtain⟨g',q1,q2,q3,q4⟩:=l7Clique_ok hG (l:=Al (iand .u32 (F.getD b 0) (iandNot .u32 s (ishl .u32 1 (b:Int))))) (Bv _) (fun x hx=>by
  obtain⟨w,_,_,rfl⟩:=mem_elems.1 hx
  have:=(hm w).1 hx
  rw[Bool.and_eq_true] at this
  have:=h.lt b w hb this.1
  omega)
 rw[q1]
 congr 1
 refine graph_ext q2 (GOk.grow e2 h1 h16) (by rw[q3,C3,C3,h.len,e2.len]) (fun u w hu=> ?_)
 have hu':u<n:=by omega
 rw[q4,DJ e2 hu',DJ h hu',e3 u w hu',hm,hm]
 simp only[Bool.or_eq_true,Bool.and_eq_true,decide_eq_true_eq]
 constructor
 ·rintro(h|⟨h,h1,h2⟩)
  ·exact .inl h
  ·exact .inr ⟨⟨h1,h2⟩,fun e=>h e.symm⟩
 ·rintro(h|⟨⟨h1,h2⟩,h⟩)
  ·exact .inl h
  ·exact .inr ⟨fun e=>h e.symm,h1,h2⟩
structure GQ (n i:Nat)(F o:List Int)(s:Int):Prop where
 f:FOk F n
 left:SQ n s (n-i)
 len:o.length=i
 rng:∀x∈o,∃v:Nat,x=v∧v<n∧has s v=false
 nd:o.Nodup
theorem l1CopyGraph_eq {g:List (List Int)}(hg:GOk g):D.L0 g=some g:=by
 have h16:=hg.n16
 unfold D.L0
 refine(Do g (fun s i=>(i,s)) (fun r=>r) (by omega) (fun s i hi _=> ?_) (fun s=> ?_)).trans (by simp)
 ·simp only[dlt hi,cond_true,Au hi,Option.bind_some,DU _ (hg.sh2.2 _ (List.getElem_mem hi)),wi (show i<4611686018427387904 by omega)]
 ·simp only[A4,cond_false]
end Go.Sx

namespace Go.Sx
def mis (F:List Int)(n:Nat)(S:Int):Nat:=S2 n (fun u w=>has S u&&(has S w&&(decide (w<u)&& !nb F w u)))
def cd (F:List Int)(s v:Int):Int:=((Al (iand .u32 (F.getD v.toNat 0) s)).length:Int)
def cf (n:Nat)(F:List Int)(s v:Int):Int:=(mis F n (iand .u32 (F.getD v.toNat 0) s):Int)
section
variable {g : List (List Int)} (hg : GOk g)
include hg
theorem OOk.shl {o:List Int}(ho:OOk g o):Sh o:=ho.sh hg
end
theorem likeInts_self (x:List Int)(h:Sh x):D.v0 x x=some true:=by
 unfold Sh at h
 unfold D.v0
 have e:((x.length:Int) !=(x.length:Int))=false:=by simp
 rw[e,cond_false]
 refine(Bx (fun i=>(i:Int)) x.length (.inl ()) rfl (fun i hi=> ?_) ?_).trans rfl
 ·simp only[dlt hi,cond_true,Au hi,Option.bind_some,bne_self_eq_false,cond_false,wi (show i<4611686018427387904 by omega)]
 ·simp only[A4,cond_false]
end Go.Sx

namespace Go.Sx
def Dw {α:Type}(b:List Int)(P:α→Prop)(e:Option (α×List Int×Int×Int)):Prop:=∃y,e=some y∧(P y.1∧y.2.1=b∧DK b y.2.2.1)
theorem Dw.then {α β:Type}{b:List Int}{P:α→Prop}{e:Option (α×List Int×Int×Int)}{k:α×List Int×Int×Int→Option β}{Q:β→Prop}(h:Dw b P e)
  (hk:∀a i z,P a→DK b i→∃y,k (a,b,i,z)=some y∧Q y):∃y,e.bind k=some y∧Q y:=by
 obtain⟨⟨a,b',i,z⟩,rfl,h1,h2,h3⟩:=h
 dsimp only at h1 h2 h3
 subst h2
 exact hk a i z h1 h3
theorem Into_deep :D.X0=D.i:=rfl
def Few (g:List (List Int)):Prop:=g.length≤17∧∀r∈g,r.length≤17
theorem Few.sh2 {g:List (List Int)}(h:Few g):Sh2 g:=⟨by have:=h.1;unfold Sh;omega,fun r hr=>by have:=h.2 r hr;unfold Sh;omega⟩
theorem Few.set {g:List (List Int)}(h:Few g)(k:Nat){r:List Int}(hr:r.length≤17):Few (g.set k r):=by
 refine⟨by have:=h.1;simpa using this,fun x hx=> ?_⟩
 rcases List.mem_or_eq_of_mem_set hx with hx|rfl
 ·exact h.2 x hx
 ·exact hr
end Go.Sx

namespace Go.Sx
noncomputable def ef (g:List (List Int))(o:List Int):Nat→List Int×List Int×Int
 |0=>(g.map mk,List.replicate g.length 0,full g.length)
 |i+1=>(EG (ef g o i).1 (ef g o i).2.2 (o.getD i 0),(ef g o i).2.1.set (o.getD i 0).toNat (iand .u32 ((ef g o i).1.getD (o.getD i 0).toNat 0) (iandNot .u32 (ef g o i).2.2 (ishl .u32 1 (o.getD i 0)))),
   iandNot .u32 (ef g o i).2.2 (ishl .u32 1 (o.getD i 0)))
section
variable {g : List (List Int)} {o : List Int} (hg : GOk g) (ho : OOk g o)
include hg ho
theorem EN :∀i,i≤g.length→EInv g.length (g.map mk) o i (ef g o i).1 (ef g o i).2.1 (ef g o i).2.2
 |0,_=>by
  have h16:=hg.n16
  refine⟨FOk.of hg,by simp[ef],fun u hu=> ?_,Ct _,fun v=> ?_,fun u w _ h=>h,fun j v hj=>by omega,fun j v u w hj=>by omega,fun _=>rfl,fun u w hu _ _ _=>⟨fun hh=>⟨u,.me,hh⟩,fun⟨x,hx,e⟩=> ?_⟩,fun j v hj=>by omega⟩
  ·rw[show (ef g o 0).2.1=List.replicate g.length 0 from rfl,List.getD_eq_getElem?_getD,List.getElem?_replicate]
   split<;>exact VS.zero
  ·rw[show (ef g o 0).2.2=full g.length from rfl,CR h16];simp
  ·rcases hx.end_ with e2|e2
   ·rw[←e2];exact e
   ·simp at e2
 |i+1,hi=>by
  have h16:=hg.n16;have hl:=ho.len
  have ih:=EN i (by omega)
  have hio:i<o.length:=by omega
  have hr:=ho.rng _ (List.getElem_mem hio)
  obtain⟨v,hv⟩:∃v:Nat,o[i]=(v:Int):=⟨o[i].toNat,by omega⟩
  have hvn:v<g.length:=by omega
  have hd:o.getD i 0=(v:Int):=by rw[Ay hio,hv]
  obtain⟨_,k1,k2⟩:=elimF_ok (b:=v) h16 ih.f ih.vsl hvn
  simp only[ef,hd,Int.toNat_natCast]
  refine ih.step h16 (FOk.of hg) ho.rng ho.nd hio hv k1.len k1.vs (fun u w hu=> ?_)
  rw[k2 u w hu,BU (ih.f.vs v hvn) (VS.iandNot _ _),BU (ih.f.vs v hvn) (VS.iandNot _ _),Bc ih.vsl (VS.ishl _ _),Bc ih.vsl (VS.ishl _ _),BI (by omega),BI (by omega)]
  have hirr:=ih.f.irr v hvn
  have e:∀x,(has ((ef g o i).1.getD v 0) x&&(has (ef g o i).2.2 x&& !decide (x=v)))=(nb (ef g o i).1 v x&&has (ef g o i).2.2 x):=fun x=>by
   by_cases e:x=v
   ·subst e;rw[show has ((ef g o i).1.getD x 0) x=nb (ef g o i).1 x x from rfl,hirr];simp
   ·unfold nb;simp[e]
  rw[e,e]
theorem elim_ef :D.z (g.map mk) o=some ((ef g o g.length).1,(ef g o g.length).2.1):=by
 have h16:=hg.n16;have hl:=ho.len
 have hlen:(g.map mk).length=g.length:=by simp
 unfold D.z
 rw[AU (by simp;omega),Option.bind_some]
 obtain⟨s,e1,hs1,hs2⟩:=FQ (g.map mk) (by omega)
 rw[e1,Option.bind_some,CE (by omega) (by omega),Option.bind_some]
 simp only[Option.bind_some,List.nil_append]
 have hsf:s=full g.length:=hs1.ext (Ct _) (fun w _=>by rw[hs2,CR h16,hlen])
 refine(Bx (fun i=>((ef g o i).1,(ef g o i).2.1,(ef g o i).2.2,(i:Int))) g.length ((ef g o g.length).1,(ef g o g.length).2.1) (by simp[ef,hsf]) (fun i hi=> ?_) ?_).trans rfl
 ·have h:=EN hg ho i (by omega)
  have h':=EN hg ho (i+1) (by omega)
  have hio:i<o.length:=by omega
  have hr:=ho.rng _ (List.getElem_mem hio)
  obtain⟨v,hv⟩:∃v:Nat,o[i]=(v:Int):=⟨o[i].toNat,by omega⟩
  have hvn:v<g.length:=by omega
  have hd:o.getD i 0=(v:Int):=by rw[Ay hio,hv]
  obtain⟨_,q1,q2⟩:=elimF_ok (b:=v) h16 h.f h.vsl hvn
  simp only[ef,hd,Int.toNat_natCast] at h' ⊢
  generalize (ef g o i).1=F at*
  generalize (ef g o i).2.1=L at*
  generalize (ef g o i).2.2=left at*
  have hFv:idx F (v:Int)=some (F.getD v 0):=by rw[Au (by rw[h.f.len];omega),Ay (by rw[h.f.len];omega)]
  have hLs:idx (L.set v (iand .u32 (F.getD v 0) (iandNot .u32 left (ishl .u32 1 (v:Int))))) (v:Int)=some (iand .u32 (F.getD v 0) (iandNot .u32 left (ishl .u32 1 (v:Int)))):=by
   rw[Au (by simp[h.lenL];omega)];simp
  simp only[dlt hio,cond_true,Au hio,hv,Option.bind_some,BH,hFv,Au (show v<L.length by rw[h.lenL];omega),Int.toNat_natCast]
  rw[hLs]
  simp only[Option.bind_some,C9 _ (VS.iand _ _)]
  have hSlt:∀w,has (iand .u32 (F.getD v 0) (iandNot .u32 left (ishl .u32 1 (v:Int)))) w=true→w<g.length:=fun w hw=>by
   rw[BU (h.f.vs v hvn) (VS.iandNot _ _)] at hw
   simp only[Bool.and_eq_true] at hw
   exact h.f.lt v w hvn hw.1
  obtain⟨F',e2,k1,k2,k3⟩:=inner_ok F _ _ h16 h.f.len h.f.vs (VS.iand _ _) hSlt hLs
  have hFF:F'=EG F left (v:Int):=by
   refine FOk.ext k1 q1.len k2 q1.vs (fun u w hu=> ?_)
   rw[k3 u w hu,q2 u w hu,BU (h.f.vs v hvn) (VS.iandNot _ _),BU (h.f.vs v hvn) (VS.iandNot _ _),Bc h.vsl (VS.ishl _ _),Bc h.vsl (VS.ishl _ _),BI (by omega),BI (by omega)]
   have hirr:=h.f.irr v hvn
   have e:∀x,(has (F.getD v 0) x&&(has left x&& !decide (x=v)))=(nb F v x&&has left x):=fun x=>by
    by_cases e:x=v
    ·subst e;rw[show has (F.getD x 0) x=nb F x x from rfl,hirr];simp
    ·unfold nb;simp[e]
   rw[e,e]
  rw[hLs] at e2
  simp only[Option.bind_some] at e2
  rw[e2,Option.bind_some,wi (show i<4611686018427387904 by omega),hFF]
 ·simp only[hl,A4,cond_false]
theorem l7Fill_ef :D.O0 g o=some (grow (ef g o g.length).1):=by
 have h16:=hg.n16;have hl:=ho.len;have hn1:=hg.n1
 unfold D.O0 D.a
 rw[l1CopyGraph_eq hg,Option.bind_some,Option.bind_some,CE (by omega) (by omega),Option.bind_some]
 refine(Bx (fun i=>(BE g.length (ef g o i).2.2,(i:Int),grow (ef g o i).1)) g.length (grow (ef g o g.length).1) (by simp only[ef];rw[EK h16,grow_of hg];rfl) (fun i hi=> ?_) ?_).trans rfl
 ·have h:=EN hg ho i (by omega)
  have hio:i<o.length:=by omega
  have hr:=ho.rng _ (List.getElem_mem hio)
  obtain⟨v,hv⟩:∃v:Nat,o[i]=(v:Int):=⟨o[i].toNat,by omega⟩
  have hvn:v<g.length:=by omega
  have hd:o.getD i 0=(v:Int):=by rw[Ay hio,hv]
  simp only[ef,hd]
  generalize (ef g o i).1=F at*
  generalize (ef g o i).2.1=L at*
  generalize (ef g o i).2.2=s at*
  have hG:=GOk.grow h.f hn1 h16
  have hGl:(grow F).length=g.length:=by rw[C3,h.f.len]
  have hl7:=DX (grow F) hG (show v<(grow F).length by omega) (BE g.length (iandNot .u32 s (ishl .u32 1 (v:Int)))) (by rw[CP];omega)
  simp only[dlt hio,cond_true,Au hio,hv,Option.bind_some,Ec hvn,Int.toNat_natCast,E7 h.vsl hvn (show g.length≤32 by omega),hl7,clique_grow hn1 h16 h.f h.vsl hvn,wi (show i<4611686018427387904 by omega)]
 ·simp only[hl,A4,cond_false]
end
end Go.Sx

namespace Go.Sx
structure Net (A:List Int)(n:Nat):Prop where
 len:A.length=n
 vs:∀u,u<n→VS (A.getD u 0)
 lt:∀u w,u<n→nb A u w=true→w<n
theorem FOk.net {A:List Int}{n:Nat}(h:FOk A n):Net A n:=⟨h.len,h.vs,h.lt⟩
structure Rch (A:List Int)(W:Int)(v:Nat)(S:Int):Prop where
 vs:VS S
 me:has S v=true
 step:∀x y,has S x=true→nb A x y=true→has W y=true→has S y=true
 least:∀T:Nat→Prop,T v→(∀x y,T x→nb A x y=true→has W y=true→T y)→∀x,has S x=true→T x
theorem reach_ok {A:List Int}{n:Nat}(hn:n≤16)(hA:Net A n){v:Nat}(hv:v<n){W:Int}(hW:VS W):∃S,D.q0 A (v:Int) W=some S∧Rch A W v S∧∀x,has S x=true→x<n:=by
 unfold D.q0
 rw[BH,Option.bind_some]
 refine AH (fun S=>VS S∧has S v=true∧(∀x,has S x=true→x<n)∧∀T:Nat→Prop,T v→(∀x y,T x→nb A x y=true→has W y=true→T y)→∀x,has S x=true→T x) (fun S=>n-(Al S).length)
  (fun S=>Rch A W v S∧∀x,has S x=true→x<n) ?_ ?_ (fun r hr=>⟨r,rfl,hr⟩)
 ·rintro S ⟨hS,hv',hlt,hT⟩
  have hle:=BR S
  simp only[C9 S hS,Option.bind_some]
  have hin:=AH (step:=(fun(s_223:Int×Int)=>match s_223 with|(x_226,x_227)=>cond (decide (x_227<((Al S).length:Int))) ((idx (Al S) x_227).bind fun e_246=>(idx A e_246).bind fun e_252=>some (.inl ((ior .u32 x_226 (iand .u32 e_252 W)),(IntKind.i64.wrap (x_227+1))))) (some (.inr x_226)))) (s:=(S,0)) (k:=fun r=>some r) (Q:=fun X:Int=>VS X∧∀y,has X y=true↔has S y=true∨∃u:Nat,has S u=true∧nb A u y=true∧has W y=true)
   (fun s=>∃k:Nat,s.2=(k:Int)∧k≤(Al S).length∧VS s.1∧∀y,has s.1 y=true↔has S y=true∨∃u:Nat,(u:Int)∈(Al S).take k∧nb A u y=true∧has W y=true) (fun s=>(Al S).length-s.2.toNat) (fun X=>VS X∧∀y,has X y=true↔has S y=true∨∃u:Nat,has S u=true∧nb A u y=true∧has W y=true)
   ?_ ⟨0,rfl,by omega,hS,fun y=>by simp⟩ (fun r hr=>⟨r,rfl,hr⟩)
  ·obtain⟨X,hX,hX1,hX2⟩:=hin
   rw[Option.bind_eq_some_iff] at hX
   obtain⟨z,e1,e2⟩:=hX
   cases e2
   rw[e1,Option.bind_some]
   by_cases hc:X=S
   ·subst hc
    simp only[beq_self_eq_true,cond_true]
    refine⟨_,rfl,⟨hS,hv',fun x y h1 h2 h3=>(hX2 y).2 (.inr ⟨x,h1,h2,h3⟩),hT⟩,hlt⟩
   ·have e3:(X==S)=false:=by simpa using hc
    simp only[e3,cond_false]
    have hXlt:∀x,has X x=true→x<n:=fun x hx=>by
     rcases(hX2 x).1 hx with h|⟨u,h1,h2,_⟩
     ·exact hlt x h
     ·exact hA.lt u x (hlt u h1) h2
    refine⟨_,rfl,⟨hX1,(hX2 v).2 (.inl hv'),hXlt,fun T h1 h2 x hx=> ?_⟩,?_⟩
    ·rcases(hX2 x).1 hx with h|⟨u,h3,h4,h5⟩
     ·exact hT T h1 h2 x h
     ·exact h2 u x (hT T h1 h2 u h3) h4 h5
    ·
     obtain⟨w,hw,hws⟩:∃w:Nat,has X w=true∧has S w=false:=by
      apply Classical.byContradiction
      intro hno
      refine hc (hX1.ext hS (fun w _=> ?_))
      rw[Bool.eq_iff_iff]
      refine⟨fun h=> ?_,fun h=>(hX2 w).2 (.inl h)⟩
      cases hh:has S w
      ·exact absurd ⟨w,h,hh⟩ hno
      ·rfl
     have h1:((w:Int)::Al S).length≤(Al X).length:=B4 (List.nodup_cons.2 ⟨fun hm=>by rw[AZ hS,hws] at hm;exact Bool.noConfusion hm,(Bv S).nodup⟩) (fun x hx=>by
      rcases List.mem_cons.1 hx with rfl|hx
      ·rw[AZ hX1];exact hw
      ·obtain⟨u,_,h2,rfl⟩:=mem_elems.1 hx
       rw[AZ hX1];exact(hX2 u).2 (.inl h2))
     have h2:(Al X).length≤n:=(Bv X).short (n:=n) (fun x hx=>by
      obtain⟨u,_,h2,rfl⟩:=mem_elems.1 hx
      have:=hXlt u h2;omega)
     simp at h1
     show n-(Al X).length<n-(Al S).length
     omega
  ·rintro⟨X,_⟩ ⟨k,rfl,hk,hX1,hX2⟩
   dsimp only at hX1 hX2 ⊢
   by_cases hkl:k<(Al S).length
   ·obtain⟨u,_,h2,h3⟩:=mem_elems.1 (List.getElem_mem hkl)
    have hu:=hlt u h2
    have hAu:idx A (u:Int)=some (A.getD u 0):=by rw[Au (by rw[hA.len];exact hu),Ay (by rw[hA.len];exact hu)]
    simp only[dlt hkl,cond_true,Au hkl,Option.bind_some,h3,hAu,wi (show k<4611686018427387904 by omega)]
    refine⟨_,rfl,⟨k+1,rfl,hkl,VS.ior _ _,fun y=> ?_⟩,by dsimp only;omega⟩
    dsimp only
    rw[CG hX1 (VS.iand _ _),Bool.or_eq_true,BU (hA.vs u hu) hW,Bool.and_eq_true,hX2,List.take_succ_eq_append_getElem hkl,h3]
    constructor
    ·rintro((h|⟨u',h4,h5⟩)|⟨h4,h5⟩)
     ·exact .inl h
     ·exact .inr ⟨u',List.mem_append_left _ h4,h5⟩
     ·exact .inr ⟨u,List.mem_append_right _ (by simp),h4,h5⟩
    ·rintro(h|⟨u',h4,h5,h6⟩)
     ·exact .inl (.inl h)
     ·rcases List.mem_append.1 h4 with h4|h4
      ·exact .inl (.inr ⟨u',h4,h5,h6⟩)
      ·simp at h4
       obtain rfl:u'=u:=by omega
       exact .inr ⟨h5,h6⟩
   ·obtain rfl:k=(Al S).length:=by omega
    simp only[A4,cond_false]
    refine⟨_,rfl,hX1,fun y=> ?_⟩
    rw[hX2,List.take_length]
    constructor
    ·rintro(h|⟨u,h1,h2⟩)
     ·exact .inl h
     ·exact .inr ⟨u,(AZ hS).1 h1,h2⟩
    ·rintro(h|⟨u,h1,h2⟩)
     ·exact .inl h
     ·exact .inr ⟨u,(AZ hS).2 h1,h2⟩
 ·refine⟨VS.ishl _ _,by rw[BI (by omega)];simp,fun x hx=> ?_,fun T h1 _ x hx=> ?_⟩
  ·rw[BI (by omega)] at hx
   have:=of_decide_eq_true hx;omega
  ·rw[BI (by omega)] at hx
   rw[of_decide_eq_true hx];exact h1
end Go.Sx

namespace Go.Sx
theorem opt_eq {α:Type}{e:Option α}{a:α}(h:∃y,e=some y∧y=a):e=some a:=by
 obtain⟨y,h1,rfl⟩:=h;exact h1
theorem opt_ex {α β:Type}{e:Option α}{f:β→α}{Q:β→Prop}(h:∃y,e=some y∧∃b,y=f b∧Q b):∃b,e=some (f b)∧Q b:=by
 obtain⟨_,h1,b,rfl,h2⟩:=h;exact⟨b,h1,h2⟩
structure GS (n:Nat)(m:Int)(k:Nat):Prop where
 vs:VS m
 lt:∀v,has m v=true→v<n
 left:SQ n (iandNot .u32 (full n) m) k
def rm (n:Nat)(m:Int):Int:=iandNot .u32 (full n) m
theorem DW {n:Nat}{m:Int}(hn:n≤16)(hm:VS m)(v:Nat):has (rm n m) v=(decide (v<n)&& !has m v):=by
 unfold rm;rw[Bc (Ct n) hm,CR hn]
theorem GS.zero {n:Nat}(hn:n≤16):GS n 0 n:=by
 refine⟨VS.zero,fun v hv=>absurd hv (by rw[BQ];simp),?_⟩
 have:iandNot .u32 (full n) 0=full n:=(VS.iandNot _ _).ext (Ct n) (fun v _=>by rw[Bc (Ct n) VS.zero,BQ];simp)
 rw[this];exact SQ.full hn
theorem GS.add {n k v:Nat}{m:Int}(hn:n≤16)(h:GS n m (k+1))(hv:v<n)(hm:has m v=false):GS n (ior .u32 m (ishl .u32 1 (v:Int))) k:=by
 refine⟨VS.ior _ _,fun w hw=> ?_,?_⟩
 ·rw[CG h.vs (VS.ishl _ _),BI (by omega),Bool.or_eq_true] at hw
  rcases hw with hw|hw
  ·exact h.lt w hw
  ·have:=of_decide_eq_true hw;omega
 ·have e:iandNot .u32 (full n) (ior .u32 m (ishl .u32 1 (v:Int)))=iandNot .u32 (iandNot .u32 (full n) m) (ishl .u32 1 (v:Int)):=by
   refine(VS.iandNot _ _).ext (VS.iandNot _ _) (fun w _=> ?_)
   rw[Bc (Ct n) (VS.ior _ _),Bc (VS.iandNot _ _) (VS.ishl _ _),Bc (Ct n) h.vs,CG h.vs (VS.ishl _ _)]
   cases has (full n) w<;>cases has m w<;>simp
  rw[e]
  refine h.left.rm ?_
  have:=DW hn h.vs v
  unfold rm at this
  rw[this,hm,decide_eq_true hv];rfl
theorem Du {v w:Nat}{m:Int}(hm:VS m)(hv:v<32):has (ior .u32 m (ishl .u32 1 (v:Int))) w=(has m w||decide (w=v)):=by
 rw[CG hm (VS.ishl _ _),BI hv]
def mks (n:Nat)(m:Int):List Bool:=(List.range n).map fun v=>has m v
theorem mks_len (n:Nat)(m:Int):(mks n m).length=n:=by simp[mks]
theorem Ei {n v:Nat}{m:Int}(h:v<n):idx (mks n m) (v:Int)=some (has m v):=by
 rw[Au (by rw[mks_len];exact h)];simp[mks]
theorem mks_set {n v:Nat}{m:Int}(hn:n≤16)(hm:VS m)(h:v<n):(mks n m).set v true=mks n (ior .u32 m (ishl .u32 1 (v:Int))):=by
 apply List.ext_getElem
 ·simp[mks]
 ·intro i h1 h2
  have hi:i<n:=by simpa [mks] using h2
  rw[List.getElem_set]
  simp only[mks,List.getElem_map,List.getElem_range]
  rw[Du hm (by omega)]
  by_cases hc:v=i
  ·simp[hc]
  ·have:¬i=v:=fun e=>hc e.symm
   simp[hc,this]
theorem mks_unset {n v:Nat}{m:Int}(hn:n≤16)(hm:VS m)(h:v<n)(hv:has m v=false):(mks n (ior .u32 m (ishl .u32 1 (v:Int)))).set v false=mks n m:=by
 apply List.ext_getElem
 ·simp[mks]
 ·intro i h1 h2
  have hi:i<n:=by simpa [mks] using h2
  rw[List.getElem_set]
  simp only[mks,List.getElem_map,List.getElem_range]
  rw[Du hm (by omega)]
  by_cases hc:v=i
  ·subst hc;simp[hv]
  ·have:¬i=v:=fun e=>hc e.symm
   simp[hc,this]
theorem mks_zero {n:Nat}:List.replicate n false=mks n 0:=by
 apply List.ext_getElem
 ·simp[mks]
 ·intro i h1 h2
  simp[mks,BQ]
theorem has_joins (F:List Int)(w:Nat):∀(xs:List Int) (s:Int),VS s→(∀x∈xs,VS (F.getD x.toNat 0))→
  VS (xs.foldl (fun s x=>ior .u32 s (F.getD x.toNat 0)) s)∧(has (xs.foldl (fun s x=>ior .u32 s (F.getD x.toNat 0)) s) w=true↔has s w=true∨∃x∈xs,nb F x.toNat w=true)
 |[],s,hs,_=>⟨hs,by simp⟩
 |x::xs,s,hs,hx=>by
  obtain⟨h1,h2⟩:=has_joins F w xs (ior .u32 s (F.getD x.toNat 0)) (VS.ior _ _) (fun y hy=>hx y (by simp[hy]))
  rw[List.foldl_cons]
  refine⟨h1,h2.trans ?_⟩
  rw[CG hs (hx x (by simp)),Bool.or_eq_true]
  simp only[List.mem_cons,exists_eq_or_imp]
  unfold nb
  rw[or_assoc]
noncomputable def bh (F:List Int)(m v:Int):Int:=(D.R F m v).getD 0
theorem rch_via {F:List Int}{n v:Nat}{m S:Int}(hn:n≤16)(hm:VS m)(hv:v<n)(h:Rch F (ior .u32 m (ishl .u32 1 (v:Int))) v S)(x:Nat):has S x=true↔Via F (fun y=>has m y=true) v x:=by
 constructor
 ·intro hx
  refine h.least (fun x=>Via F (fun y=>has m y=true) v x) .me (fun x y h1 h2 h3=> ?_) x hx
  rw[Du hm (by omega),Bool.or_eq_true] at h3
  rcases h3 with h3|h3
  ·exact .step h1 h2 h3
  ·rw[of_decide_eq_true h3];exact .me
 ·intro hx
  induction hx with
  |me=>exact h.me
  |step _ h1 h2 ih=>exact h.step _ _ ih h1 (by rw[Du hm (by omega),h2];rfl)
theorem EE {F:List Int}{n v:Nat}{m:Int}(hn:n≤16)(hF:FOk F n)(hm:VS m)(hv:v<n):
  D.R F m (v:Int)=some (bh F m (v:Int))∧VS (bh F m (v:Int))∧∀w,has (bh F m (v:Int)) w=true↔Bhd F (fun x=>has m x=true) v w∧has m w=false∧w≠v:=by
 suffices H:∃X,D.R F m (v:Int)=some X∧VS X∧∀w,has X w=true↔Bhd F (fun x=>has m x=true) v w∧has m w=false∧w≠v by
  obtain⟨X,e,h⟩:=H
  unfold bh
  rw[e]
  exact⟨rfl,h⟩
 obtain⟨S,e1,hS,hlt⟩:=reach_ok hn hF.net hv (VS.ior m (ishl .u32 1 (v:Int)))
 unfold D.R
 rw[BH,Option.bind_some,e1,Option.bind_some,C9 S hS.vs,Option.bind_some]
 have hel:∀x∈Al S,∃u:Nat,x=u∧u<n∧has S u=true:=fun x hx=>by
  obtain⟨u,_,h2,rfl⟩:=mem_elems.1 hx
  exact⟨u,rfl,hlt u h2,h2⟩
 have hfold:=fun w=>has_joins F w (Al S) 0 VS.zero (fun x hx=>by
  obtain⟨u,rfl,h1,_⟩:=hel x hx
  exact hF.vs u h1)
 have hloop:=Fu (σ:=Int) (Al S) (fun s i=>(s,i)) (fun s x=>ior .u32 s (F.getD x.toNat 0)) (fun s=>s) (fun _=>True) 0 trivial
  (step:=(fun(s_59:Int×Int)=>match s_59 with|(x_62,x_63)=>cond (decide (x_63<((Al S).length:Int))) ((idx (Al S) x_63).bind fun e_82=>(idx F e_82).bind fun e_88=>some (.inl ((ior .u32 x_62 e_88),(IntKind.i64.wrap (x_63+1))))) (some (.inr x_62))))
  (fun s i hi _=>by
   obtain⟨u,h1,h2,_⟩:=hel _ (List.getElem_mem hi)
   have hl:=BR S
   refine⟨?_,trivial⟩
   simp only[dlt hi,cond_true,Au hi,Option.bind_some,h1]
   rw[Au (show u<F.length by rw[hF.len];exact h2),Option.bind_some,wi (show i<4611686018427387904 by omega)]
   simp[hF.len,h2])
  (fun s _=>by simp only[A4,cond_false])
 rw[hloop.1,Option.bind_some,Option.bind_some]
 refine⟨_,rfl,VS.iandNot _ _,fun w=> ?_⟩
 have hw:=hfold w
 rw[Bc (VS.iandNot _ _) (VS.ishl _ _),Bc hw.1 hm,BI (by omega),Bool.and_eq_true,Bool.and_eq_true,hw.2]
 simp only[BQ,Bool.false_eq_true,false_or,Bool.not_eq_true',decide_eq_false_iff_not]
 constructor
 ·rintro⟨⟨⟨x,hx,h1⟩,h2⟩,h3⟩
  obtain⟨u,rfl,h4,h5⟩:=hel x hx
  exact⟨⟨u,(rch_via hn hm hv hS u).1 h5,by simpa using h1⟩,h2,h3⟩
 ·rintro⟨⟨u,h1,h2⟩,h3,h4⟩
  exact⟨⟨⟨(u:Int),(AZ hS.vs).2 ((rch_via hn hm hv hS u).2 h1),by simpa using h2⟩,h3⟩,h4⟩
theorem bh_lt {F:List Int}{n v:Nat}{m:Int}(hn:n≤16)(hF:FOk F n)(hm:VS m)(hv:v<n){w:Nat}(h:has (bh F m (v:Int)) w=true):w<n:=by
 obtain⟨⟨u,h1,h2⟩,_⟩:=((EE hn hF hm hv).2.2 w).1 h
 exact hF.lt u w (h1.lt hF hv) h2
theorem bh_len {F:List Int}{n v:Nat}{m:Int}(hn:n≤16)(hF:FOk F n)(hm:VS m)(hv:v<n):(Al (bh F m (v:Int))).length≤n:=by
 rw[←EW (n:=n) (by omega) (fun w hw=>bh_lt hn hF hm hv hw)]
 unfold els
 rw[List.length_map]
 exact Nat.le_trans (List.length_filter_le _ _) (by simp)
end Go.Sx

namespace Go.Sx
theorem ET {g:List (List Int)}(hg:GOk g){m:Int}(hm:VS m){v:Nat}(hv:v<g.length):
  D.E g (mks g.length m) (v:Int)=some (Al (bh (g.map mk) m (v:Int))):=by
 have h16:=hg.n16
 have hF:=FOk.of hg
 have hb:=EE h16 hF hm hv
 have hbl:=fun w=>bh_lt h16 hF hm hv (w:=w)
 have hsub:∀l:List Int,l.Nodup→(∀x∈l,∃u:Nat,x=u∧u<g.length∧Via (g.map mk) (fun y=>has m y=true) v u)→l.length≤g.length:=fun l hl hr=>by
  have:=B4 (m:=(List.range g.length).map Int.ofNat) hl (fun x hx=>by
   obtain⟨u,rfl,hu,_⟩:=hr x hx
   exact List.mem_map.2 ⟨u,List.mem_range.2 hu,rfl⟩)
  simpa using this
 unfold D.E
 refine opt_eq ?_
 refine AH (fun s=>∃i:Nat,s.2.2=(i:Int)∧i≤s.1.length∧s.1.Nodup∧(∀x∈s.1,∃u:Nat,x=u∧u<g.length∧Via (g.map mk) (fun y=>has m y=true) v u)∧(v:Int)∈s.1∧Inc s.2.1∧
   (∀y∈s.2.1,∃u w:Nat,y=w∧w<g.length∧has m w=false∧w≠v∧(u:Int)∈s.1∧nb (g.map mk) u w=true)∧
   (∀u w:Nat,(u:Int)∈s.1.take i→nb (g.map mk) u w=true→(has m w=true→(w:Int)∈s.1)∧(has m w=false→w≠v→(w:Int)∈s.2.1)))
  (fun s=>g.length-s.2.2.toNat) (fun r=>r=Al (bh (g.map mk) m (v:Int))) ?_
  ⟨0,rfl,by simp,by simp,fun x hx=>⟨v,by simpa using hx,hv,.me⟩,by simp,by simp[Inc],by simp,by simp⟩ (fun r hr=>⟨r,rfl,hr⟩)
 rintro⟨q,out,_⟩ ⟨i,rfl,hi,hqn,hqm,hqv,hoi,hom,hcl⟩
 dsimp only at hi hqn hqm hqv hoi hom hcl ⊢
 have hql:=hsub q hqn hqm
 by_cases hiq:i<q.length
 ·obtain⟨u,hu1,hu,huv⟩:=hqm _ (List.getElem_mem hiq)
  rw[dlt hiq,cond_true,Au hiq,Option.bind_some,hu1,BX hu,Option.bind_some]
  have hrl:=hg.row_len hu
  refine AH (fun s=>∃k:Nat,s.2.2=(k:Int)∧k≤(row g u).length∧(∃t,s.1=q++t)∧s.1.Nodup∧(∀x∈s.1,∃u:Nat,x=u∧u<g.length∧Via (g.map mk) (fun y=>has m y=true) v u)∧Inc s.2.1∧(∀y∈out,y∈s.2.1)∧
    (∀y∈s.2.1,∃u w:Nat,y=w∧w<g.length∧has m w=false∧w≠v∧(u:Int)∈q∧nb (g.map mk) u w=true)∧
    (∀w:Nat,(w:Int)∈(row g u).take k→(has m w=true→(w:Int)∈s.1)∧(has m w=false→w≠v→(w:Int)∈s.2.1)))
   (fun s=>(row g u).length-s.2.2.toNat)
   (fun r=>(∃t,r.1=q++t)∧r.1.Nodup∧(∀x∈r.1,∃u:Nat,x=u∧u<g.length∧Via (g.map mk) (fun y=>has m y=true) v u)∧Inc r.2∧(∀y∈out,y∈r.2)∧
    (∀y∈r.2,∃u w:Nat,y=w∧w<g.length∧has m w=false∧w≠v∧(u:Int)∈q∧nb (g.map mk) u w=true)∧
    (∀w:Nat,(w:Int)∈row g u→(has m w=true→(w:Int)∈r.1)∧(has m w=false→w≠v→(w:Int)∈r.2))) ?_
   ⟨0,rfl,by simp,⟨[],by simp⟩,hqn,hqm,hoi,fun _ h=>h,hom,by simp⟩ ?_
  ·rintro⟨q',out',_⟩ ⟨k,rfl,hk,⟨t,rfl⟩,hqn',hqm',hoi',hsup,hom',hcl'⟩
   dsimp only at hk hqn' hqm' hoi' hsup hom' hcl' ⊢
   have hql':=hsub _ hqn' hqm'
   by_cases hkr:k<(row g u).length
   ·obtain⟨w,hw1,hw,hadj⟩:=hg.mem hu (List.getElem_mem hkr)
    have hnb:=(ED hg hu).2 hadj
    have htk:=List.take_succ_eq_append_getElem hkr
    have hol:out'.length≤g.length:=hoi'.short (n:=g.length) (fun x hx=>by
     obtain⟨_,w,rfl,h,_⟩:=hom' x hx
     omega)
    have hsh:Sh (q++t):=by unfold Sh;omega
    have hwk:=wi (show k<4611686018427387904 by omega)
    simp only[dlt hkr,cond_true,Au hkr,hw1,Option.bind_some,Ei hw]
    rw[hw1] at htk
    cases hmw:has m w with
    |true=>
     simp only[cond_true,Option.bind_some,CD _ _ hsh,Bool.not_true,cond_false,hwk]
     by_cases hin:(w:Int)∈q++t
     ·simp only[decide_eq_true hin,Bool.not_true,cond_false,Option.bind_some]
      refine⟨_,rfl,⟨k+1,rfl,by omega,⟨t,rfl⟩,hqn',hqm',hoi',hsup,hom',fun z hz=> ?_⟩,by dsimp only;omega⟩
      rw[htk] at hz
      rcases List.mem_append.1 hz with hz|hz
      ·exact hcl' z hz
      ·have:z=w:=Int.ofNat.inj (List.mem_singleton.1 hz)
       subst this
       exact⟨fun _=>hin,fun h=>by rw[hmw] at h;cases h⟩
     ·simp only[decide_eq_false hin,Bool.not_false,cond_true,Option.bind_some,AU (show (q++t).length+[(w:Int)].length≤4294967296 by simp only[List.length_cons,List.length_nil];omega)]
      refine⟨_,rfl,⟨k+1,rfl,by omega,⟨t++[(w:Int)],by simp⟩,?_,fun x hx=> ?_,hoi',hsup,hom',fun z hz=> ?_⟩,by dsimp only;omega⟩
      ·have hp:(q++t++[(w:Int)]).Perm ((w:Int)::(q++t)):=List.perm_append_comm
       exact hp.nodup_iff.2 (List.nodup_cons.2 ⟨hin,hqn'⟩)
      ·rcases List.mem_append.1 hx with hx|hx
       ·exact hqm' x hx
       ·exact⟨w,by simpa using hx,hw,.step huv hnb hmw⟩
      ·dsimp only
       rw[htk] at hz
       rcases List.mem_append.1 hz with hz|hz
       ·exact⟨fun h=>List.mem_append_left _ ((hcl' z hz).1 h),(hcl' z hz).2⟩
       ·have:z=w:=Int.ofNat.inj (List.mem_singleton.1 hz)
        subst this
        exact⟨fun _=>by simp,fun h=>by rw[hmw] at h;cases h⟩
    |false=>
     simp only[cond_false,Option.bind_some,Bool.not_false,cond_true,hwk]
     by_cases hwv:w=v
     ·have e:(((w:Int) !=(v:Int)):Bool)=false:=by simp[hwv]
      simp only[e,cond_false]
      refine⟨_,rfl,⟨k+1,rfl,by omega,⟨t,rfl⟩,hqn',hqm',hoi',hsup,hom',fun z hz=> ?_⟩,by dsimp only;omega⟩
      rw[htk] at hz
      rcases List.mem_append.1 hz with hz|hz
      ·exact hcl' z hz
      ·have:z=w:=Int.ofNat.inj (List.mem_singleton.1 hz)
       subst this
       exact⟨fun h=>(by rw[hmw] at h;cases h),fun _ h=>absurd hwv h⟩
     ·have e:(((w:Int) !=(v:Int)):Bool)=true:=by simp;omega
      simp only[e,cond_true,Into_deep,Ds _ _ hoi' (show out'.length≤4294967295 by omega),Option.bind_some]
      refine⟨_,rfl,⟨k+1,rfl,by omega,⟨t,rfl⟩,hqn',hqm',hoi'.into _,fun y hy=>mem_into.2 (.inr (hsup y hy)),fun y hy=> ?_,fun z hz=> ?_⟩,by dsimp only;omega⟩
      ·rcases mem_into.1 hy with rfl|hy
       ·exact⟨u,w,rfl,hw,hmw,hwv,by rw[←hu1];exact List.getElem_mem hiq,hnb⟩
       ·exact hom' y hy
      ·dsimp only
       rw[htk] at hz
       rcases List.mem_append.1 hz with hz|hz
       ·exact⟨(hcl' z hz).1,fun h1 h2=>mem_into.2 (.inr ((hcl' z hz).2 h1 h2))⟩
       ·have:z=w:=Int.ofNat.inj (List.mem_singleton.1 hz)
        subst this
        exact⟨fun h=>(by rw[hmw] at h;cases h),fun _ _=>mem_into.2 (.inl rfl)⟩
   ·obtain rfl:k=(row g u).length:=by omega
    rw[A4,cond_false]
    rw[List.take_length] at hcl'
    exact⟨_,rfl,⟨t,rfl⟩,hqn',hqm',hoi',hsup,hom',hcl'⟩
  ·rintro⟨q',out'⟩ ⟨⟨t,rfl⟩,hqn',hqm',hoi',hsup,hom',hcl'⟩
   dsimp only at hqn' hqm' hoi' hsup hom' hcl' ⊢
   rw[wi (show i<4611686018427387904 by omega)]
   refine⟨_,rfl,⟨i+1,rfl,by simp;omega,hqn',hqm',List.mem_append_left _ hqv,hoi',fun y hy=> ?_,fun a w ha haw=> ?_⟩,by dsimp only;omega⟩
   ·obtain⟨a,w,h1,h2,h3,h4,h5,h6⟩:=hom' y hy
    exact⟨a,w,h1,h2,h3,h4,List.mem_append_left _ h5,h6⟩
   ·dsimp only at ha ⊢
    rw[List.take_append_of_le_length (by omega),List.take_succ_eq_append_getElem hiq,hu1] at ha
    rcases List.mem_append.1 ha with ha|ha
    ·have:=hcl a w ha haw
     exact⟨fun h=>List.mem_append_left _ (this.1 h),fun h1 h2=>hsup _ (this.2 h1 h2)⟩
    ·have:a=u:=Int.ofNat.inj (List.mem_singleton.1 ha)
     subst this
     exact hcl' w ((ED hg hu).1 haw)
 ·obtain rfl:i=q.length:=by omega
  rw[A4,cond_false]
  rw[List.take_length] at hcl
  refine⟨_,rfl,?_⟩
  show out=_
  have hall:∀x,Via (g.map mk) (fun y=>has m y=true) v x→(x:Int)∈q:=fun x hx=>by
   induction hx with
   |me=>exact hqv
   |step _ h1 h2 ih=>exact(hcl _ _ ih h1).1 h2
  refine hoi.ext (Bv _) (fun y=>⟨fun hy=> ?_,fun hy=> ?_⟩)
  ·obtain⟨u,w,rfl,h1,h2,h3,h4,h5⟩:=hom y hy
   refine(AZ hb.2.1).2 ((hb.2.2 w).2 ⟨⟨u,?_,h5⟩,h2,h3⟩)
   obtain⟨u',e,_,h6⟩:=hqm _ h4
   obtain rfl:u=u':=by omega
   exact h6
  ·obtain⟨w,_,hw,rfl⟩:=mem_elems.1 hy
   obtain⟨⟨x,h1,h2⟩,h3,h4⟩:=(hb.2.2 w).1 hw
   exact(hcl x w (hall x h1) h2).2 h3 h4
end Go.Sx

namespace Go.Sx
noncomputable def wv (F:List Int)(rec:Int→Int)(m v:Int):Int:=if((Al (bh F m v)).length:Int)<rec (ior .u32 m (ishl .u32 1 v)) then rec (ior .u32 m (ishl .u32 1 v)) else((Al (bh F m v)).length:Int)
noncomputable def wd (F:List Int)(n:Nat):Nat→Int→Int
 |0,_=>0
 |k+1,m=>(Al (rm n m)).foldl (fun b v=>if wv F (wd F n k) m v<b then wv F (wd F n k) m v else b) 16
theorem CJ (f:Int→Int):∀(l:List Int) (b:Int),(l.foldl (fun b v=>if f v<b then f v else b) b≤b)∧(∀v∈l,l.foldl (fun b v=>if f v<b then f v else b) b≤f v)∧(l.foldl (fun b v=>if f v<b then f v else b) b=b∨∃v∈l,l.foldl (fun b v=>if f v<b then f v else b) b=f v)
 |[],b=>by simp
 |x::l,b=>by
  obtain⟨h1,h2,h3⟩:=CJ f l (if f x<b then f x else b)
  rw[List.foldl_cons]
  have hc:(if f x<b then f x else b)≤b∧(if f x<b then f x else b)≤f x∧((if f x<b then f x else b)=b∨(if f x<b then f x else b)=f x):=by split<;>omega
  generalize (if f x<b then f x else b)=c at*
  refine⟨by omega,fun v hv=> ?_,?_⟩
  ·rcases List.mem_cons.1 hv with rfl|hv
   ·omega
   ·exact h2 v hv
  ·rcases h3 with h3|⟨v,hv,h3⟩
   ·rcases hc.2.2 with h4|h4
    ·exact .inl (by omega)
    ·exact .inr ⟨x,by simp,by omega⟩
   ·exact .inr ⟨v,List.mem_cons_of_mem _ hv,h3⟩
theorem wd_le (F:List Int)(n:Nat):∀k m,wd F n k m≤16
 |0,_=>by unfold wd;omega
 |k+1,m=>by unfold wd;exact(CJ (wv F (wd F n k) m) _ 16).1
theorem wv_ge (F:List Int)(rec:Int→Int)(m v:Int):((Al (bh F m v)).length:Int)≤wv F rec m v∧rec (ior .u32 m (ishl .u32 1 v))≤wv F rec m v:=by
 unfold wv;split<;>omega
theorem wv_le {F:List Int}{rec:Int→Int}{m v b:Int}:wv F rec m v≤b↔((Al (bh F m v)).length:Int)≤b∧rec (ior .u32 m (ishl .u32 1 v))≤b:=by
 unfold wv;split<;>omega
theorem Fq (F:List Int)(n:Nat):∀k m,0≤wd F n k m
 |0,_=>by unfold wd;omega
 |k+1,m=>by
  unfold wd
  rcases(CJ (wv F (wd F n k) m) (Al (rm n m)) 16).2.2 with h|⟨v,_,h⟩
  ·rw[h];omega
  ·rw[h]
   have:=(wv_ge F (wd F n k) m v).1
   omega
theorem wv_len {F:List Int}{n v:Nat}{m:Int}(hn:n≤16)(hF:FOk F n)(hm:VS m)(hv:v<n)(k:Nat):wv F (wd F n k) m (v:Int)≤16:=by
 rw[wv_le]
 have:=bh_len hn hF hm hv
 exact⟨by omega,wd_le _ _ _ _⟩
theorem CW {n:Nat}{m:Int}(hn:n≤16)(hm:VS m){x:Int}:x∈Al (rm n m)↔∃v:Nat,x=v∧v<n∧has m v=false:=by
 rw[mem_elems]
 constructor
 ·rintro⟨v,_,h,rfl⟩
  rw[DW hn hm,Bool.and_eq_true,decide_eq_true_eq,Bool.not_eq_true'] at h
  exact⟨v,rfl,h⟩
 ·rintro⟨v,rfl,h1,h2⟩
  exact⟨v,by omega,by rw[DW hn hm,decide_eq_true h1,h2];rfl,rfl⟩
theorem GS.done {n:Nat}{m:Int}(hn:n≤16)(h:GS n m 0):m=full n:=by
 have hz:rm n m=0:=h.left.z
 refine h.vs.ext (Ct n) (fun v _=> ?_)
 rw[CR hn]
 have:=DW hn h.vs v
 rw[hz,BQ] at this
 cases hm:has m v with
 |true=>exact(decide_eq_true (h.lt v hm)).symm
 |false=>
  rw[hm] at this
  simp at this
  simp;exact this
theorem GS.undone {n k:Nat}{m:Int}(h:GS n m (k+1)):m≠full n:=by
 intro e
 have h2:=h.left.ne
 rw[e] at h2
 apply h2
 have:iandNot .u32 (full n) (full n)=0:=(VS.iandNot _ _).ext VS.zero (fun v _=>by rw[Bc (Ct n) (Ct n),BQ];cases has (full n) v<;>rfl)
 rw[this,Eg]
theorem GS.le {n k:Nat}{m:Int}(h:GS n m k)(hn:n≤16):k≤n:=by
 have h1:=h.left.card
 rw[←EW (n:=n) (by omega) (fun v hv=>by
  have:=DW hn h.vs v
  unfold rm at this
  rw[this,Bool.and_eq_true] at hv
  exact of_decide_eq_true hv.1)] at h1
 unfold els at h1
 rw[List.length_map] at h1
 have:=List.length_filter_le (has (iandNot .u32 (full n) m)) (List.range n)
 simp at this;omega
theorem wWith_ok {F:List Int}{n v:Nat}{m:Int}(hn:n≤16)(hF:FOk F n)(hm:VS m)(hv:v<n){rec:Int→Option Int}{r:Int→Int}(hr:rec (ior .u32 m (ishl .u32 1 (v:Int)))=some (r (ior .u32 m (ishl .u32 1 (v:Int))))):
  D.A rec F m (v:Int)=some (wv F r m (v:Int)):=by
 obtain⟨e,h1,_⟩:=EE hn hF hm hv
 unfold D.A wv
 rw[e,Option.bind_some,size_eq h1,Option.bind_some,BH,Option.bind_some,hr,Option.bind_some]
theorem Dd {F:List Int}{n:Nat}(hn:n≤16)(hF:FOk F n):∀(fuel k:Nat) (m:Int),GS n m k→k<fuel→D.h fuel F m=some (wd F n k m)
 |0,_,_,_,h=>absurd h (by omega)
 |fuel+1,k,m,hm,h=>by
  unfold D.h
  rw[DY,Option.bind_some,hF.len]
  cases k with
  |zero=>
   rw[hm.done hn,beq_self_eq_true,cond_true];rfl
  |succ k=>
   rw[show (m==full n)=false by simpa using hm.undone,cond_false]
   have hrv:VS (rm n m):=VS.iandNot _ _
   have er:iandNot .u32 (full n) m=rm n m:=rfl
   rw[er,C9 _ hrv,Option.bind_some]
   have:=BR (rm n m)
   refine(Fu (σ:=Int) (Al (rm n m)) (fun s i=>(s,i)) (fun b v=>if wv F (wd F n k) m v<b then wv F (wd F n k) m v else b) (fun s=>s) (fun _=>True) 16 trivial (fun s i hi _=> ?_) (fun s _=> ?_)).1
   ·refine⟨?_,trivial⟩
    obtain⟨v,e,hv,hmv⟩:=(CW hn hm.vs).1 (List.getElem_mem hi)
    unfold D.J0
    dsimp only
    rw[dlt hi,cond_true,Au hi,Option.bind_some,e,wWith_ok hn hF hm.vs hv (r:=wd F n k) (Dd hn hF fuel k _ (hm.add hn hv hmv) (by omega)),Option.bind_some,wi (show i<4611686018427387904 by omega)]
   ·unfold D.J0
    dsimp only
    rw[A4,cond_false]
theorem some_attains {F:List Int}{n k:Nat}{m:Int}(hn:n≤16)(hF:FOk F n)(hm:GS n m (k+1)):∃v:Nat,v<n∧has m v=false∧wv F (wd F n k) m (v:Int)=wd F n (k+1) m:=by
 have h:=CJ (wv F (wd F n k) m) (Al (rm n m)) 16
 obtain⟨x,hx⟩:∃x,x∈Al (rm n m):=List.exists_mem_of_ne_nil _ hm.left.ne
 rcases h.2.2 with h3|⟨v,hv,h3⟩
 ·obtain⟨v,rfl,h4,h5⟩:=(CW hn hm.vs).1 hx
  refine⟨v,h4,h5,?_⟩
  have h6:=wv_len hn hF hm.vs h4 k
  have h7:=h.2.1 _ hx
  unfold wd
  omega
 ·obtain⟨v,rfl,h4,h5⟩:=(CW hn hm.vs).1 hv
  exact⟨v,h4,h5,by unfold wd;rw[h3]⟩
end Go.Sx

namespace Go.Sx
theorem toNat_div {m:Int}(hm:VS m)(v:Nat):m.toNat/2^v=2*(m.toNat/2^(v+1))+bit (has m v):=by
 have h1:m.toNat/2^(v+1)=m.toNat/2^v/2:=by rw[Nat.pow_succ,Nat.div_div_eq_div_mul]
 have h2:bit (has m v)=m.toNat/2^v%2:=by
  unfold has bit
  rw[Nat.testBit_eq_decide_div_mod_eq]
  have:=Nat.mod_lt (m.toNat/2^v) (show 2>0 by omega)
  by_cases hc:m.toNat/2^v%2=1
  ·simp[hc]
  ·simp[hc];omega
 omega
theorem toNat_lt {n:Nat}{m:Int}(h:∀v,has m v=true→v<n):m.toNat<2^n:=by
 refine Nat.lt_pow_two_of_testBit _ (fun i hi=> ?_)
 cases hc:m.toNat.testBit i with
 |false=>rfl
 |true=>have:=h i hc;omega
theorem code_ok {n:Nat}{m:Int}(hn:n≤10)(hm:VS m)(h:∀v,has m v=true→v<n):D.t0 (mks n m)=some m:=by
 have hlt:=toNat_lt h
 have hp:2^n≤2^10:=Nat.pow_le_pow_right (by omega) hn
 have hle:∀v,m.toNat/2^v≤m.toNat:=fun v=>Nat.div_le_self _ _
 have h10:(2:Nat)^10=1024:=rfl
 unfold D.t0
 rw[mks_len]
 refine(Bx (fun j=>(((m.toNat/2^(n-j):Nat):Int),(n:Int)-1-(j:Int))) n m ?_ (fun j hj=> ?_) ?_).trans rfl
 ·rw[Nat.sub_zero,Nat.div_eq_of_lt hlt,w64 (by omega) (by omega)]
  simp
 ·obtain⟨v,hv⟩:∃v,v=n-(j+1):=⟨_,rfl⟩
  have e1:(n:Int)-1-(j:Int)=(v:Int):=by omega
  have e2:n-j=v+1:=by omega
  have d0:decide ((0:Int)≤(v:Int))=true:=by simp
  dsimp only
  rw[e1,d0,cond_true,Ei (show v<n by omega),Option.bind_some,e2,←hv]
  have ef:D.B (has m v)=some ((bit (has m v):Nat):Int):=by
   unfold D.B bit;cases has m v<;>rfl
  have h1:=toNat_div hm v
  have h2:=hle v
  have h3:bit (has m v)≤1:=by unfold bit;split<;>omega
  rw[ef,Option.bind_some,w64 (x:=2*_) (by omega) (by omega),w64 (by omega) (by omega),w64 (by omega) (by omega),h1]
  congr 3
  omega
 ·have d0:decide ((0:Int)≤(n:Int)-1-(n:Int))=false:=by simp;omega
  dsimp only
  rw[d0,cond_false,Nat.sub_self,Nat.pow_zero,Nat.div_one]
  congr 2
  have:=hm.1
  omega
structure TOk (F:List Int)(n:Nat)(T:List Int):Prop where
 len:T.length=2^n
 ok:∀m k,GS n m k→T.getD m.toNat (-1)= -1∨T.getD m.toNat (-1)=wd F n k m
theorem GS.tlt {n k:Nat}{m:Int}(h:GS n m k):m.toNat<2^n:=toNat_lt h.lt
theorem GS.card {n k k':Nat}{m:Int}(h:GS n m k)(h':GS n m k'):k=k':=by rw[←h.left.card,h'.left.card]
theorem TOk.set {F:List Int}{n k:Nat}{T:List Int}{m:Int}(h:TOk F n T)(hm:GS n m k):TOk F n (T.set m.toNat (wd F n k m)):=by
 refine⟨by rw[List.length_set,h.len],fun m' k' hm'=> ?_⟩
 have hl:=hm'.tlt
 rw[←h.len] at hl
 rw[List.getD_eq_getElem?_getD,List.getElem?_set]
 by_cases he:m.toNat=m'.toNat
 ·have e:m=m':=by have:=hm.vs.1;have:=hm'.vs.1;omega
  subst e
  rw[if_pos rfl,if_pos hl]
  obtain rfl:=hm.card hm'
  exact .inr rfl
 ·rw[if_neg he,←List.getD_eq_getElem?_getD]
  exact h.ok m' k' hm'
theorem Table_ok {g:List (List Int)}(hn:g.length≤10)(F:List Int):∃T,D.W g=some T∧TOk F g.length T:=by
 have hp:∀j,j≤10→2^j≤1024:=fun j hj=>(Nat.pow_le_pow_right (by omega) hj:2^j≤2^10)
 have hpn:=hp _ hn
 refine⟨List.replicate (2^g.length) (-1),?_,by simp,fun m k hm=> .inl ?_⟩
 ·unfold D.W D.a
  refine(Bx (fun j=>(((2^j:Nat):Int),(j:Int))) g.length ((2^g.length:Nat):Int) rfl (fun j hj=> ?_) ?_).trans ?_
  ·have h1:=hp j (by omega)
   have h2:=hp (j+1) (by omega)
   rw[Nat.pow_succ] at h2
   dsimp only
   rw[Option.bind_some,dlt hj,cond_true,w64 (x:=_*2) (by omega) (by omega),wi (show j<4611686018427387904 by omega),Nat.pow_succ]
   congr 3
  ·dsimp only
   rw[Option.bind_some,A4,cond_false]
  ·dsimp only
   rw[CE (by omega) (by omega),Option.bind_some]
   refine(Bx (fun j=>(List.replicate j (-1)++List.replicate (2^g.length-j) (0:Int),(j:Int))) (2^g.length) (List.replicate (2^g.length) (-1)) (by simp) (fun j hj=> ?_) ?_).trans rfl
   ·dsimp only
    rw[dlt hj,cond_true,Au (show j<_ by simp;omega),Option.bind_some,wi (show j<4611686018427387904 by omega)]
    congr 3
    rw[Int.toNat_natCast]
    obtain⟨d,hd⟩:∃d,2^g.length-j=d+1:=⟨2^g.length-j-1,by omega⟩
    rw[hd,show 2^g.length-(j+1)=d by omega,List.set_append_right _ _ (by simp),List.length_replicate,Nat.sub_self,List.replicate_succ,List.set_cons_zero,List.replicate_succ',List.append_assoc];rfl
   ·dsimp only
    rw[A4,cond_false];simp
 ·have hl:=hm.tlt
  simp[List.getD_eq_getElem?_getD,hl]
def mst (f:Int→Int)(b v:Int):Int:=if b<0∨f v<b then f v else b
theorem mst_run (f:Int→Int):∀(l:List Int) (b:Int),0≤b→(∀v∈l,0≤f v)→l.foldl (mst f) b=l.foldl (fun b v=>if f v<b then f v else b) b
 |[],_,_,_=>rfl
 |x::l,b,hb,hl=>by
  rw[List.foldl_cons,List.foldl_cons]
  have hx:=hl x (by simp)
  have e:mst f b x=if f x<b then f x else b:=by
   unfold mst
   by_cases hc:f x<b
   ·rw[if_pos (.inr hc),if_pos hc]
   ·rw[if_neg (by omega),if_neg hc]
  rw[e]
  exact mst_run f l _ (by split<;>omega) (fun v hv=>hl v (List.mem_cons_of_mem _ hv))
theorem mst_all (f:Int→Int)(l:List Int)(hne:l≠[])(hl:∀v∈l,0≤f v∧f v≤16):l.foldl (mst f) (-1)=l.foldl (fun b v=>if f v<b then f v else b) 16:=by
 cases l with
 |nil=>exact absurd rfl hne
 |cons x l=>
  rw[List.foldl_cons,List.foldl_cons]
  have hx:=hl x (by simp)
  have e1:mst f (-1) x=f x:=by unfold mst;rw[if_pos (.inl (by omega))]
  have e2:(if f x<16 then f x else 16)=f x:=by split<;>omega
  rw[e1,e2]
  exact mst_run f l _ hx.1 (fun v hv=>(hl v (List.mem_cons_of_mem _ hv)).1)
theorem FromR_ok {g:List (List Int)}(hg:GOk g)(hn:g.length≤10):∀(fuel k:Nat) (m:Int) (T:List Int),GS g.length m k→k<fuel→TOk (g.map mk) g.length T→
  ∃T',D.Q fuel g (mks g.length m) T=some (wd (g.map mk) g.length k m,mks g.length m,T')∧TOk (g.map mk) g.length T'
 |0,_,_,_,_,h,_=>absurd h (by omega)
 |fuel+1,k,m,T,hm,h,hT=>by
  have h16:=hg.n16
  have hF:=FOk.of hg
  have hlt:=hm.tlt
  have hm0:=hm.vs.1
  have hi:m.toNat<T.length:=by rw[hT.len];exact hlt
  have ec:((m.toNat:Nat):Int)=m:=by omega
  have hix:idx T m=some (T.getD m.toNat (-1)):=by
   rw[←ec,Au hi,Int.toNat_natCast,Ay hi]
  unfold D.Q
  rw[code_ok hn hm.vs hm.lt,Option.bind_some,hix,Option.bind_some]
  by_cases h0:0≤T.getD m.toNat (-1)
  ·have e:T.getD m.toNat (-1)=wd (g.map mk) g.length k m:=by
    rcases hT.ok m k hm with h|h
    ·omega
    ·exact h
   rw[decide_eq_true h0,cond_true,Option.bind_some,e]
   exact⟨T,rfl,hT⟩
  ·rw[decide_eq_false h0,cond_false]
   have hk2:∀k',k=k'+1→∀v:Nat,v<g.length→0≤wv (g.map mk) (wd (g.map mk) g.length k') m (v:Int)∧wv (g.map mk) (wd (g.map mk) g.length k') m (v:Int)≤16:=fun k' _ v hv=>by
    have:=(wv_ge (g.map mk) (wd (g.map mk) g.length k') m (v:Int)).1
    exact⟨by omega,wv_len h16 hF hm.vs hv k'⟩
   refine opt_ex ?_
   refine AH (fun s=>∃i:Nat,s.2.2.2=(i:Int)∧i≤g.length∧TOk (g.map mk) g.length s.1∧s.2.1=mks g.length m∧s.2.2.1=(els (rm g.length m) i).foldl (mst (wv (g.map mk) (wd (g.map mk) g.length (k-1)) m)) (-1)) (fun s=>g.length-s.2.2.2.toNat)
    (fun r=>TOk (g.map mk) g.length r.1∧r.2.1=mks g.length m∧r.2.2=(Al (rm g.length m)).foldl (mst (wv (g.map mk) (wd (g.map mk) g.length (k-1)) m)) (-1)) ?_ ⟨0,rfl,by omega,hT,rfl,rfl⟩ ?_
   ·rintro⟨T1,_,b,_⟩ ⟨i,rfl,hin,hT1,rfl,hb⟩
    dsimp only at hT1 hb ⊢
    unfold D.a
    rw[Option.bind_some]
    by_cases hi2:i<g.length
    ·rw[dlt hi2,cond_true,Ei hi2,Option.bind_some]
     cases hmi:has m i with
     |true=>
      rw[cond_true,wi (show i<4611686018427387904 by omega)]
      refine⟨_,rfl,⟨i+1,rfl,by omega,hT1,rfl,?_⟩,by dsimp only;omega⟩
      dsimp only
      rw[els_succ,DW h16 hm.vs,hmi,Bool.not_true,Bool.and_false,if_neg (by simp)]
      exact hb
     |false=>
      obtain⟨k',rfl⟩:∃k',k=k'+1:=by
       cases k with
       |zero=>
        have:=hm.done h16
        have h3:=CR h16 i
        rw[←this,hmi,decide_eq_true hi2] at h3
        cases h3
       |succ k=>exact⟨k,rfl⟩
      rw[cond_false,ET hg hm.vs hi2,Option.bind_some,Option.bind_some,Int.toNat_natCast,mks_set h16 hm.vs hi2]
      obtain⟨T2,e2,hT2⟩:=FromR_ok hg hn fuel k' _ T1 (hm.add h16 hi2 hmi) (by omega) hT1
      rw[e2,Option.bind_some,Eu,Option.bind_some,Ei hi2,Option.bind_some]
      dsimp only
      have emx:max ((Al (bh (g.map mk) m (i:Int))).length:Int) (wd (g.map mk) g.length k' (ior .u32 m (ishl .u32 1 (i:Int))))=wv (g.map mk) (wd (g.map mk) g.length k') m (i:Int):=by
       unfold wv
       rw[Int.max_def]
       split<;>split<;>omega
      have ese:els (rm g.length m) (i+1)=els (rm g.length m) i++[(i:Int)]:=by
       rw[els_succ,DW h16 hm.vs,hmi,decide_eq_true hi2];rfl
      rw[emx,mks_unset h16 hm.vs hi2 hmi,wi (show i<4611686018427387904 by omega)]
      simp only[Nat.add_sub_cancel] at hb
      by_cases hc:b<0∨wv (g.map mk) (wd (g.map mk) g.length k') m (i:Int)<b
      ·have hd:(decide (b<0)||decide (wv (g.map mk) (wd (g.map mk) g.length k') m (i:Int)<b))=true:=by simpa using hc
       rw[hd,cond_true]
       refine⟨_,rfl,⟨i+1,rfl,by omega,hT2,rfl,?_⟩,by dsimp only;omega⟩
       dsimp only
       rw[Nat.add_sub_cancel,ese,List.foldl_append,←hb,List.foldl_cons,List.foldl_nil]
       unfold mst
       rw[if_pos hc]
      ·have hd:(decide (b<0)||decide (wv (g.map mk) (wd (g.map mk) g.length k') m (i:Int)<b))=false:=by simpa using hc
       rw[hd,cond_false]
       refine⟨_,rfl,⟨i+1,rfl,by omega,hT2,rfl,?_⟩,by dsimp only;omega⟩
       dsimp only
       rw[Nat.add_sub_cancel,ese,List.foldl_append,←hb,List.foldl_cons,List.foldl_nil]
       unfold mst
       rw[if_neg hc]
    ·obtain rfl:i=g.length:=by omega
     rw[A4,cond_false]
     refine⟨_,rfl,hT1,rfl,?_⟩
     dsimp only
     rw[hb,EW (by omega) (fun v hv=>by
      rw[DW h16 hm.vs,Bool.and_eq_true] at hv
      exact of_decide_eq_true hv.1)]
   ·rintro⟨T1,_,b⟩ ⟨hT1,rfl,hb⟩
    dsimp only at hT1 hb ⊢
    have hi1:m.toNat<T1.length:=by rw[hT1.len];exact hlt
    have hi2:m.toNat<(T1.set m.toNat (max b 0)).length:=by rw[List.length_set];exact hi1
    have er:max b 0=wd (g.map mk) g.length k m:=by
     cases k with
     |zero=>
      have hz:rm g.length m=0:=hm.left.z
      rw[hz,Eg,List.foldl_nil] at hb
      rw[hb];rfl
     |succ k=>
      have e:b=wd (g.map mk) g.length (k+1) m:=by
       rw[hb,Nat.add_sub_cancel]
       unfold wd
       refine mst_all _ _ hm.left.ne (fun v hv=> ?_)
       obtain⟨u,rfl,hu,_⟩:=(CW h16 hm.vs).1 hv
       exact hk2 k rfl u hu
      have:=Fq (g.map mk) g.length (k+1) m
      omega
    have ex:∀{X:List Int} (hX:m.toNat<X.length),idx X m=some (X[m.toNat]):=fun{X} hX=>by
     have:=Au hX
     rwa [ec] at this
    rw[Eu,Option.bind_some,ex hi1,Option.bind_some,ex hi2,Option.bind_some,List.getElem_set_self,er]
    exact⟨_,rfl,_,rfl,hT1.set hm⟩
end Go.Sx

namespace Go.Sx
def cz :List Int→List Int→Int
 |[],[]=>0
 |[],_::_=> -1
 |_::_,[]=>1
 |a::x,b::y=>if a<b then-1 else if b<a then 1 else cz x y
def lk :Nat→List Int→Int
 |0,_=>0
 |_+1,[]=>0
 |d+1,a::l=>(a+1)*33^d+lk d l
end Go.Sx

namespace Go.Sx
end Go.Sx

namespace Go.Sx
def CQ (F:List Int)(K:Int):Prop:=∀u w,has K u=true→has K w=true→u≠w→nb F u w=true
def MX (F:List Int)(n:Nat)(K:Int):Prop:=CQ F K∧∀w,w<n→has K w=false→∃u,has K u=true∧nb F u w=false
def In (n:Nat)(K:Int):Prop:=VS K∧∀w,has K w=true→w<n
structure Tgt (F:List Int)(n:Nat)(C O K:Int):Prop where
 ok:In n K
 mx:MX F n K
 sup:∀w,has C w=true→has K w=true
 sub:∀w,has K w=true→has C w=true∨has O w=true
theorem In.lt {n:Nat}{K:Int}(h:In n K)(hn:n≤16):0≤K∧K<65536:=by
 obtain⟨m,rfl,hm⟩:=h.1.nat
 refine⟨by omega,?_⟩
 have:m<2^16:=by
  apply Nat.lt_pow_two_of_testBit
  intro i hi
  cases hc:m.testBit i
  ·rfl
  ·have:=h.2 i (by rw[Ce];exact hc)
   omega
 omega
structure BK (F:List Int)(n:Nat)(C O S:Int):Prop where
 c:In n C
 o:In n O
 s:In n S
 cq:CQ F C
 cn:∀w,w<n→((has O w=true∨has S w=true)↔∀u,has C u=true→nb F u w=true)
 dis:∀w,has O w=true→has S w=false
theorem DA :33≤Bs:=by have:=EL;omega
end Go.Sx

namespace Go.Sx
theorem loop_first {ρ:Type}{step:Int→Option (Int ⊕ ρ)}(xs:List Int)(p:Int→Bool)(mkr:Int→ρ)(fin:ρ)
  (hstep:∀i (h:i<xs.length),step (i:Int)=if p xs[i] then some (.inr (mkr xs[i])) else some (.inl ((i+1:Nat):Int))) (hend:step (xs.length:Int)=some (.inr fin)):
  Ao step 0=some (match xs.find? p with|some x=>mkr x|none=>fin):=by
 have key:∀(k i:Nat),i+k=xs.length→Ao step (i:Int)=some (match(xs.drop i).find? p with|some x=>mkr x|none=>fin):=by
  intro k
  induction k with
  |zero=>
   intro i hi
   obtain rfl:i=xs.length:=by omega
   rw[Be hend,List.drop_length];rfl
  |succ k ih=>
   intro i hi
   have hil:i<xs.length:=by omega
   rw[List.drop_eq_getElem_cons hil,List.find?_cons]
   by_cases hp:p xs[i]=true
   ·rw[Be (r:=mkr xs[i]) (by rw[hstep i hil,if_pos hp]),hp]
   ·rw[Bu (s':=((i+1:Nat):Int)) (by rw[hstep i hil,if_neg hp]),ih (i+1) (by omega)]
    have:p xs[i]=false:=by simpa using hp
    rw[this]
 exact key xs.length 0 (by omega)
section
variable {g : List (List Int)} (hg : GOk g)
include hg
end
end Go.Sx

namespace Go.Sx
theorem less2 (a b c d:Int):D.S0 [a,b] [c,d]=some (decide (a<c∨(a=c∧b<d))):=by
 unfold D.S0
 have i0:∀x y:Int,idx [x,y] 0=some x:=fun x y=>by unfold idx;simp
 have i1:∀x y:Int,idx [x,y] 1=some y:=fun x y=>by unfold idx;simp
 have w1:IntKind.i64.wrap 1=1:=by decide
 have w2:IntKind.i64.wrap 2=2:=by decide
 have e0:((([a,b]:List Int).length:Int) !=(([c,d]:List Int).length:Int))=false:=by simp
 rw[e0,cond_false]
 by_cases h1:a=c
 ·subst h1
  rw[Bu (s':=1) (by simp[i0,w1])]
  by_cases h2:b=d
  ·subst h2
   rw[Bu (s':=2) (by simp[i1,w2]),Be (r:= .inl ()) (by simp)];simp
  ·have e:(b !=d)=true:=by simpa using h2
   rw[Be (r:= .inr (decide (b<d))) (by simp[i1,e])];simp
 ·have e:(a !=c)=true:=by simpa using h1
  rw[Be (r:= .inr (decide (a<c))) (by simp[i0,e])];simp[h1]
theorem less_key {x y:List Int}(hx:BW x)(hy:BW y):D.S0 x y=some (decide (A8 x<A8 y)):=by
 obtain⟨h1,h2,h3,h4,h5⟩:=hx
 obtain⟨k1,k2,k3,k4,k5⟩:=hy
 obtain⟨a,b,rfl⟩:=list2 h1
 obtain⟨c,d,rfl⟩:=list2 k1
 rw[less2]
 unfold A8
 simp only[List.getD_cons_zero,List.getD_cons_succ] at*
 congr 1
 rw[decide_eq_decide]
 constructor<;>intro h<;>omega
def Db (l:List Int)(xs:List (List Int)):Nat:=xs.findIdx fun x=>decide (A8 l<A8 x)
def ins (l:List Int)(xs:List (List Int)):List (List Int):=xs.take (Db l xs)++l::xs.drop (Db l xs)
theorem ins_perm (l:List Int)(xs:List (List Int)):(ins l xs).Perm (l::xs):=by
 unfold ins
 refine List.perm_middle.trans ?_
 rw[List.take_append_drop]
def Ed (xs:List (List Int)):Prop:=xs.Pairwise (fun a b=>A8 a≤A8 b)
theorem ins_sorted (l:List Int){xs:List (List Int)}(h:Ed xs):Ed (ins l xs):=by
 unfold ins Ed
 have hlt:∀x∈xs.take (Db l xs),A8 x≤A8 l:=fun x hx=>by
  obtain⟨j,hj,hji,rfl⟩:=mem_take_iff.1 hx
  have:=List.not_of_lt_findIdx (p:=fun x=>decide (A8 l<A8 x)) (xs:=xs) hji
  simp at this
  omega
 have hge:∀x∈xs.drop (Db l xs),A8 l<A8 x:=fun x hx=>by
  obtain⟨j,hj,rfl⟩:=List.getElem_of_mem hx
  have hk:Db l xs<xs.length:=by simp at hj;omega
  have h1:decide (A8 l<A8 (xs[Db l xs]))=true:=List.findIdx_getElem (p:=fun x=>decide (A8 l<A8 x)) (xs:=xs) (w:=hk)
  have h1:=of_decide_eq_true h1
  rw[List.getElem_drop]
  rcases Nat.eq_zero_or_pos j with e|e
  ·subst e;simpa using h1
  ·have:=(List.pairwise_iff_getElem.1 h) (Db l xs) (Db l xs+j) hk (by simp at hj;omega) (by omega)
   omega
 rw[List.pairwise_append]
 refine⟨h.sublist (List.take_sublist _ _),?_,fun a ha b hb=> ?_⟩
 ·rw[List.pairwise_cons]
  exact⟨fun b hb=>by have:=hge b hb;omega,h.sublist (List.drop_sublist _ _)⟩
 ·have:=hlt a ha
  rcases List.mem_cons.1 hb with rfl|hb
  ·exact this
  ·have:=hge b hb;omega
def BN (a b:Int):List Int:=[min a b,max a b]
theorem l1Min_eq (a b:Int):D.U1 a b=some (min a b):=by
 unfold D.U1
 by_cases h:a<b
 ·simp only[h,decide_true,cond_true];congr 1;omega
 ·simp only[h,decide_false,cond_false];congr 1;omega
theorem l1Max_eq2 (a b:Int):D.m a b=some (max a b):=by
 unfold D.m
 by_cases h:b<a
 ·simp only[h,decide_true,cond_true];congr 1;omega
 ·simp only[h,decide_false,cond_false];congr 1;omega
theorem Fh (a b:Int):D.X a b=some (BN a b):=by
 unfold D.X BN
 congr 2
 ·split<;>omega
 ·congr 1;split<;>omega
theorem Fo {xs:List (List Int)}{a b:Int}(hg:∀x∈xs,BW x)(hl:BW (BN a b))(hx:xs.length≤1000000):D.r1 xs a b=some (ins (BN a b) xs):=by
 unfold D.r1
 rw[l1Min_eq,Option.bind_some,l1Max_eq2,Option.bind_some]
 have el:([min a b,max a b]:List Int)=BN a b:=rfl
 simp only[el]
 have hk:=List.findIdx_le_length (p:=fun x=>decide (A8 (BN a b)<A8 x)) (xs:=xs)
 generalize hkk:Db (BN a b) xs=k
 have hkl:k≤xs.length:=by rw[←hkk];exact hk
 generalize hL:BN a b=l at*
 have hlo:∀i (hi:i<xs.length),i<k→D.S0 l xs[i]=some false:=fun i hi hik=>by
  rw[less_key hl (hg _ (List.getElem_mem hi))]
  have:=List.not_of_lt_findIdx (p:=fun x=>decide (A8 l<A8 x)) (xs:=xs) (i:=i) (by unfold Db at hkk;omega)
  simp at this
  simp;omega
 have hhi:∀(h:k<xs.length),D.S0 l xs[k]=some true:=fun h=>by
  rw[less_key hl (hg _ (List.getElem_mem h))]
  unfold Db at hkk
  have h1:decide (A8 l<A8 (xs[xs.findIdx fun x=>decide (A8 l<A8 x)]'(by rw[hkk];exact h)))=true:=List.findIdx_getElem (p:=fun x=>decide (A8 l<A8 x)) (xs:=xs) (w:=by rw[hkk];exact h)
  simp only[hkk] at h1
  rw[h1]
 let st:Nat→List Int×List (List Int)×Bool×Int:=fun i=>if i≤k then(l,xs.take i,false,(i:Int)) else(l,xs.take k++l::(xs.drop k).take (i-k),true,(i:Int))
 have hst:st xs.length=(l,if k=xs.length then xs else ins l xs,decide (k<xs.length),(xs.length:Int)):=by
  by_cases e:k=xs.length
  ·simp[st,e]
  ·have h1:¬xs.length≤k:=by omega
   have h2:k<xs.length:=by omega
   simp only[st,h1,if_false,e,h2,decide_true]
   unfold ins;rw[hkk,List.take_of_length_le (l:=xs.drop k) (by simp)]
 refine(Bx st xs.length (l,if k=xs.length then xs else ins l xs,decide (k<xs.length)) (by simp[st]) (fun i hi=> ?_) ?_).trans ?_
 ·by_cases h1:i<k
  ·have e1:st i=(l,xs.take i,false,(i:Int)):=by simp only[st];rw[if_pos (by omega)]
   have e2:st (i+1)=(l,xs.take (i+1),false,((i+1:Nat):Int)):=by simp only[st];rw[if_pos (by omega)]
   rw[e1,e2]
   simp only[dlt hi,cond_true,Bool.not_false,Au hi,Option.bind_some,hlo i hi h1,cond_false,wi (show i<4611686018427387904 by omega)]
   rw[AU (by simp;omega),Option.bind_some,List.take_succ_eq_append_getElem hi]
  ·by_cases h2:i=k
   ·subst h2
    have e1:st i=(l,xs.take i,false,(i:Int)):=by simp only[st];rw[if_pos (by omega)]
    have e2:st (i+1)=(l,xs.take i++l::(xs.drop i).take 1,true,((i+1:Nat):Int)):=by simp only[st];rw[if_neg (by omega)];congr;omega
    rw[e1,e2]
    simp only[dlt hi,cond_true,Bool.not_false,Au hi,Option.bind_some,hhi hi,wi (show i<4611686018427387904 by omega)]
    rw[AU (by simp;omega),Option.bind_some,AU (by simp;omega),Option.bind_some]
    have:(xs.drop i).take 1=[xs[i]]:=by rw[List.drop_eq_getElem_cons hi,List.take_succ_cons,List.take_zero]
    rw[this];simp
   ·have e1:st i=(l,xs.take k++l::(xs.drop k).take (i-k),true,(i:Int)):=by simp only[st];rw[if_neg (by omega)]
    have e2:st (i+1)=(l,xs.take k++l::(xs.drop k).take (i+1-k),true,((i+1:Nat):Int)):=by simp only[st];rw[if_neg (by omega)]
    rw[e1,e2]
    simp only[dlt hi,cond_true,Bool.not_true,cond_false,Option.bind_some,Au hi,wi (show i<4611686018427387904 by omega)]
    rw[AU (by simp;omega),Option.bind_some]
    have:(xs.drop k).take (i+1-k)=(xs.drop k).take (i-k)++[xs[i]]:=by
     rw[show i+1-k=(i-k)+1 by omega,List.take_succ_eq_append_getElem (by simp;omega)]
     congr 2
     rw[List.getElem_drop];congr 1;omega
    rw[this];simp
 ·rw[hst]
  simp only[A4,cond_false]
 ·by_cases e:k=xs.length
  ·simp only[e,if_true,Nat.lt_irrefl,decide_false,Bool.not_false,cond_true]
   rw[AU (by simp;omega),Option.bind_some]
   unfold ins;rw[hkk,e];simp
  ·have h2:k<xs.length:=by omega
   simp only[e,if_false,h2,decide_true,Bool.not_true,cond_false]
end Go.Sx

namespace Go.Sx
structure KOk (n:Nat)(K:List (List Int)):Prop where
 nd:K.Nodup
 lk:∀l∈K,LinkIn n l
theorem LinkIn.good {n:Nat}(hn:n≤1000){l:List Int}(h:LinkIn n l):BW l:=by
 obtain⟨a,b,rfl,h1,h2⟩:=h
 refine⟨rfl,?_⟩
 simp only[List.getD_cons_zero,List.getD_cons_succ]
 omega
theorem KOk.len {n:Nat}(hn:n≤16){K:List (List Int)}(h:KOk n K):K.length≤256:=by
 have h1:(K.map A8).Nodup:=by
  unfold List.Nodup
  rw[List.pairwise_map]
  refine List.Pairwise.imp_of_mem (fun{a b} ha hb hab e=> ?_) h.nd
  exact hab (row_inj ((h.lk a ha).good (by omega)) ((h.lk b hb).good (by omega)) e)
 have h2:=B4 (m:=(List.range 16).flatMap (fun a=>(List.range 16).map fun b=>((a:Nat):Int)*1048576+((b:Nat):Int))) h1 (fun x hx=>by
  obtain⟨l,hl,rfl⟩:=List.mem_map.1 hx
  obtain⟨a,b,rfl,h3,h4⟩:=h.lk l hl
  exact List.mem_flatMap.2 ⟨a,List.mem_range.2 (by omega),List.mem_map.2 ⟨b,List.mem_range.2 (by omega),rfl⟩⟩)
 have h3:((List.range 16).flatMap (fun a=>(List.range 16).map fun b=>((a:Nat):Int)*1048576+((b:Nat):Int))).length=256:=by decide+kernel
 rw[h3,List.length_map] at h2
 exact h2
def WayP (K:List (List Int))(a b:Int):Prop:=∀T:Int→Prop,T a→(∀x y,T x→Lk K x y→T y)→T b
theorem Lk.perm {K K':List (List Int)}(h:K.Perm K'){x y:Int}:Lk K x y↔Lk K' x y:=by
 unfold Lk;rw[h.mem_iff,h.mem_iff]
theorem WayP.perm {K K':List (List Int)}(h:K.Perm K'){a b:Int}:WayP K a b↔WayP K' a b:=by
 unfold WayP
 constructor
 ·intro hh T h1 h2;exact hh T h1 (fun x y hx hl=>h2 x y hx ((Lk.perm h).1 hl))
 ·intro hh T h1 h2;exact hh T h1 (fun x y hx hl=>h2 x y hx ((Lk.perm h).2 hl))
structure NetL (A:List Int)(n:Nat)(K:List (List Int)):Prop where
 net:Net A n
 nb:∀x y,x<n→y<n→(nb A x y=true↔Lk K (x:Int) (y:Int))
end Go.Sx

namespace Go.Sx
theorem GOk.shr {g:List (List Int)}(hg:GOk g):Sh2 g:=by
 have h16:=hg.n16
 exact⟨by unfold Sh;omega,fun r hr=>by have:=(hg.mem0 hr).1;unfold Sh;omega⟩
structure PB (g bags:List (List Int)):Prop where
 n16:bags.length≤16
 sets:∀i,i<bags.length→SetOf (bags.getD i []) g.length
 some:∀i,i<bags.length→bags.getD i []≠[]
 all:∀v:Nat,v<g.length→∃i,i<bags.length∧(v:Int)∈bags.getD i []
 edge:∀u v:Nat,u<g.length→adj g u v→∃i,i<bags.length∧(u:Int)∈bags.getD i []∧(v:Int)∈bags.getD i []
 run:∀(v:Nat) (i j k:Nat),i<j→j<k→k<bags.length→(v:Int)∈bags.getD i []→(v:Int)∈bags.getD k []→(v:Int)∈bags.getD j []
theorem PB.sh {g bags:List (List Int)}(hg:GOk g)(h:PB g bags):Sh2 bags:=by
 have:=h.n16;have:=hg.n16
 refine⟨by unfold Sh;omega,fun b hb=> ?_⟩
 obtain⟨i,hi,rfl⟩:=List.getElem_of_mem hb
 have:=(h.sets i hi).length_le (by omega)
 rw[Ay hi] at this
 unfold Sh;omega
section
variable {g : List (List Int)} {o : List Int} (hg : GOk g) (ho : OOk g o)
include hg ho
end
section
variable {g : List (List Int)} {o : List Int} (hg : GOk g) (ho : OOk g o)
include hg ho
end
section
variable {g bags : List (List Int)} (hg : GOk g) (h : PB g bags)
include hg h
end
section
variable {g : List (List Int)} {o : List Int} (hg : GOk g) (ho : OOk g o)
include hg ho
end
end Go.Sx

namespace Go.Sx
theorem link_iff (n:Nat)(l:List Int):LinkIn n l↔l.length=2∧SetOf l (n:Int):=by
 constructor
 ·rintro⟨a,b,rfl,h1,h2⟩
  refine⟨rfl,by simp[Inc];omega,fun x hx=> ?_⟩
  simp at hx;omega
 ·rintro⟨h1,h2,h3⟩
  obtain⟨x,y,rfl⟩:=list2 h1
  have a1:=h3 x (by simp);have a2:=h3 y (by simp)
  simp[Inc] at h2
  exact⟨x.toNat,y.toNat,by rw[show ((x.toNat:Nat):Int)=x by omega,show ((y.toNat:Nat):Int)=y by omega],by omega,by omega⟩
def lkB (n:Nat)(l:List Int):Bool:=decide (l.length=2)&&Cr l (n:Int)
theorem lkB_iff (n:Nat)(l:List Int):lkB n l=true↔LinkIn n l:=by
 unfold lkB
 rw[link_iff,Bool.and_eq_true,decide_eq_true_eq,CO]
section
variable {B K : List (List Int)} (hB : Sh2 B) (hK : Sh2 K)
include hB hK
theorem l9Form_eq :D.M0 B K=some ((decide (1≤B.length)&&decide (B.length≤16))&&decide (K.length≤16)&&K.all (lkB B.length)):=by
 have hBl:B.length≤4294967296:=hB.1
 have hKl:K.length≤4294967296:=hK.1
 unfold D.M0
 rw[EX,Option.bind_some]
 have e1:(decide ((1:Int)≤(B.length:Int))&&decide ((B.length:Int)≤16))=(decide (1≤B.length)&&decide (B.length≤16)):=by
  congr 1<;>rw[decide_eq_decide]<;>omega
 rw[e1]
 cases hb:(decide (1≤B.length)&&decide (B.length≤16))
 ·simp
 ·by_cases hk:K.length≤16
  ·have e2:decide ((16:Int)<(K.length:Int))=false:=by rw[decide_eq_false_iff_not];omega
   rw[e2,decide_eq_true hk,Bool.not_true,Bool.or_self,cond_false,Bool.and_self,Bool.true_and]
   refine(C6 K.length (fun i=>lkB B.length (K.getD i [])) false (fun i hi=> ?_) ?_ rfl rfl).trans ?_
   ·have hs:=hK.2 _ (List.getElem_mem hi)
    simp only[dlt hi,cond_true,Au hi,Option.bind_some,wi (show i<4611686018427387904 by omega),Ay hi]
    unfold lkB
    by_cases h2:K[i].length=2
    ·have:((K[i].length:Int) !=2)=false:=by simp;omega
     rw[this,cond_false,Es _ _ hs (by omega) (by omega),Option.bind_some,decide_eq_true h2,Bool.true_and,Option.bind_some]
     cases Cr K[i] (B.length:Int)<;>rfl
    ·have:((K[i].length:Int) !=2)=true:=by simp;omega
     rw[this,cond_true,Option.bind_some,decide_eq_false h2,Bool.false_and];rfl
   ·simp only[A4,cond_false]
   ·rw[CH K (lkB B.length) _ (fun i hi=>by rw[Ay hi])]
  ·have e2:decide ((16:Int)<(K.length:Int))=true:=by rw[decide_eq_true_eq];omega
   rw[e2,decide_eq_false hk,Bool.or_true,cond_true];simp
open Classical in
theorem reached_eq (sel:List Int)(hl:K.length≤1000000)(hp:Pairs K)(hs:sel.length≤1000000)(hne:sel≠[])(hn:sel.Nodup):
  ∃y,D.D B K sel=some y∧(y=(sel.length:Int)↔DC K sel):=by
 obtain⟨y,h1,m,rfl,h2,h3,h4⟩:=l9Reached_ok B K sel hl hp hs hne
 refine⟨_,h1,fun h m' hm' x hx=> ?_,fun hc=> ?_⟩
 ·have hxm:x∈m:=by
   apply Classical.byContradiction
   intro hno
   have:=B4 (l:=x::m) (m:=sel) (List.nodup_cons.2 ⟨hno,h2⟩) (fun z hz=>by
    rcases List.mem_cons.1 hz with rfl|hz
    ·exact hx
    ·exact h3.sub z hz)
   simp at this;omega
  exact h4 m' hm' x hxm
 ·rw[nodup_all h2 hn h3.sub (hc m h3)]
end
def allB (n:Nat):List Int:=(List.range n).map Int.ofNat
theorem allB_nodup (n:Nat):(allB n).Nodup:=by
 refine Inc.nodup ?_
 unfold Inc allB
 rw[List.pairwise_map]
 exact List.Pairwise.imp (fun{a b} h=>by show (a:Int)<(b:Int);omega) List.pairwise_lt_range
theorem allB_ne {n:Nat}(h:1≤n):allB n≠[]:=by
 intro hc
 have:=congrArg List.length hc
 simp[allB] at this;omega
theorem Fz {α:Type}(p:Nat→Bool)(f:Nat→α)(s0:List α)(x:α):∀n,x∈(List.range n).foldl (fun s i=>if p i then s++[f i] else s) s0↔x∈s0∨∃i,i<n∧p i=true∧x=f i
 |0=>by simp
 |n+1=>by
  rw[List.range_succ,List.foldl_append,List.foldl_cons,List.foldl_nil]
  have ih:=Fz p f s0 x n
  by_cases hp:p n=true
  ·rw[if_pos hp,List.mem_append,ih]
   constructor
   ·rintro((h|⟨i,h1,h2⟩)|h)
    ·exact .inl h
    ·exact .inr ⟨i,by omega,h2⟩
    ·simp at h;exact .inr ⟨n,by omega,hp,h⟩
   ·rintro(h|⟨i,h1,h2,h3⟩)
    ·exact .inl (.inl h)
    ·by_cases e:i=n
     ·subst e;exact .inr (by simp[h3])
     ·exact .inl (.inr ⟨i,by omega,h2,h3⟩)
  ·rw[if_neg hp,ih]
   constructor
   ·rintro(h|⟨i,h1,h2⟩)
    ·exact .inl h
    ·exact .inr ⟨i,by omega,h2⟩
   ·rintro(h|⟨i,h1,h2,h3⟩)
    ·exact .inl h
    ·by_cases e:i=n
     ·subst e;exact absurd h2 hp
     ·exact .inr ⟨i,by omega,h2,h3⟩
theorem mem_rowF (r:List Int)(u:Nat)(s:List (List Int))(x:List Int):x∈rowF r u s↔x∈s∨∃v∈r,(u:Int)<v∧x=[(u:Int),v]:=by
 unfold rowF
 have:=Fz (fun i=>decide ((u:Int)<r.getD i 0)) (fun i=>[(u:Int),r.getD i 0]) s x r.length
 simp only[decide_eq_true_eq] at this
 rw[this]
 constructor
 ·rintro(h|⟨i,h1,h2,h3⟩)
  ·exact .inl h
  ·rw[Ay h1] at h2 h3
   exact .inr ⟨r[i],List.getElem_mem h1,h2,h3⟩
 ·rintro(h|⟨v,h1,h2,h3⟩)
  ·exact .inl h
  ·obtain⟨i,hi,rfl⟩:=List.getElem_of_mem h1
   exact .inr ⟨i,hi,by rw[Ay hi];exact h2,by rw[Ay hi];exact h3⟩
theorem E5 {g:List (List Int)}(hg:GOk g)(x:List Int):x∈Cp g↔∃u v:Nat,u<g.length∧adj g u v∧u<v∧x=[(u:Int),(v:Int)]:=by
 have key:∀n,n≤g.length→(x∈(List.range n).foldl (fun s u=>rowF (row g u) u s) []↔∃u v:Nat,u<n∧adj g u v∧u<v∧x=[(u:Int),(v:Int)]):=by
  intro n
  induction n with
  |zero=>intro _;simp
  |succ n ih=>
   intro hn
   rw[List.range_succ,List.foldl_append,List.foldl_cons,List.foldl_nil,mem_rowF,ih (by omega)]
   constructor
   ·rintro(⟨u,v,h1,h2⟩|⟨v,h1,h2,h3⟩)
    ·exact⟨u,v,by omega,h2⟩
    ·obtain⟨w,rfl,hw,ha⟩:=hg.mem (by omega) h1
     exact⟨n,w,by omega,ha,by omega,h3⟩
   ·rintro⟨u,v,h1,h2,h3,h4⟩
    by_cases e:u=n
    ·subst e;exact .inr ⟨v,h2,by omega,h4⟩
    ·exact .inl ⟨u,v,by omega,h2,h3,h4⟩
 exact key g.length (Nat.le_refl _)
section
variable {g B K : List (List Int)} (hg : GOk g) (hB : Sh2 B) (hK : Sh2 K)
include hg hB hK
open Classical in
theorem Ew :D.j0 g B K=some (decide (TB g B K)):=by
 have h16:=hg.n16
 have hKl:K.length≤4294967296:=hK.1
 have hBl:B.length≤4294967296:=hB.1
 unfold D.j0
 rw[CY g hg.shr,(CU g).2 hg]
 simp only[Option.bind_some,Bool.not_true,cond_false]
 unfold D.l1
 rw[l9Form_eq hB hK,Option.bind_some]
 by_cases hform:(1≤B.length∧B.length≤16∧K.length+1=B.length)∧∀l∈K,LinkIn B.length l
 case neg=>
  have hT:¬TB g B K:=fun h=>hform ⟨⟨h.n1,h.n16,h.many⟩,h.lks⟩
  have e:(((decide (1≤B.length)&&decide (B.length≤16))&&decide (K.length≤16)&&K.all (lkB B.length))&&((K.length:Int)==IntKind.i64.wrap ((B.length:Int)-1)))=false:=by
   rw[w64 (by omega) (by omega)]
   cases hc:(((decide (1≤B.length)&&decide (B.length≤16))&&decide (K.length≤16)&&K.all (lkB B.length))&&((K.length:Int)==(B.length:Int)-1))
   ·rfl
   ·exfalso
    simp only[Bool.and_eq_true,decide_eq_true_eq,beq_iff_eq,List.all_eq_true] at hc
    exact hform ⟨⟨hc.1.1.1.1,hc.1.1.1.2,by omega⟩,fun l hl=>(lkB_iff _ _).1 (hc.1.2 l hl)⟩
  rw[e,cond_false,decide_eq_false hT]
  rfl
 case pos=>
  obtain⟨⟨n1,n16,hm⟩,hlk⟩:=hform
  have hpairs:Pairs K:=fun l hl=>by obtain⟨a,b,e,_⟩:=hlk l hl;exact⟨a,b,e⟩
  have e:(((decide (1≤B.length)&&decide (B.length≤16))&&decide (K.length≤16)&&K.all (lkB B.length))&&((K.length:Int)==IntKind.i64.wrap ((B.length:Int)-1)))=true:=by
   rw[w64 (by omega) (by omega)]
   simp only[Bool.and_eq_true,decide_eq_true_eq,beq_iff_eq,List.all_eq_true]
   exact⟨⟨⟨⟨n1,n16⟩,by omega⟩,fun l hl=>(lkB_iff _ _).2 (hlk l hl)⟩,by omega⟩
  rw[e,cond_true,l1All_eq B.length (by omega),Option.bind_some]
  obtain⟨y,e1,hy⟩:=reached_eq hB hK (allB B.length) (by omega) hpairs (by simp[allB];omega) (allB_ne n1) (allB_nodup _)
  have hal:(allB B.length).length=B.length:=by simp[allB]
  rw[hal] at hy
  have e1':D.D B K ((List.range B.length).map Int.ofNat)=some y:=e1
  rw[e1',Option.bind_some,Option.bind_some,Option.bind_some]
  by_cases hc:DC K (allB B.length)
  case neg=>
   have:(y==(B.length:Int))=false:=by rw[beq_eq_false_iff_ne];exact fun h=>hc (hy.1 h)
   rw[this,Bool.not_false,cond_true,decide_eq_false (fun h=>hc h.tree)]
  case pos=>
   have:(y==(B.length:Int))=true:=by rw[beq_iff_eq];exact hy.2 hc
   rw[this,Bool.not_true,cond_false]
   unfold D.a
   refine(Eh B.length (fun i=>Cr (B.getD i []) g.length) (.inl ()) (.inr false) (fun i hi=> ?_) ?_).trans ?_
   ·simp only[dlt hi,cond_true,Au hi,Option.bind_some,Es _ _ (hB.2 _ (List.getElem_mem hi)) (show (0:Int)≤(g.length:Int) by omega) (by omega),wi (show i<4611686018427387904 by omega),Ay hi]
    cases Cr B[i] (g.length:Int)<;>rfl
   ·simp only[A4,cond_false]
   ·rw[CH B (fun b=>Cr b g.length) _ (fun i hi=>by rw[Ay hi])]
    by_cases hs:∀b∈B,SetOf b (g.length:Int)
    case neg=>
     have:(B.all fun b=>Cr b g.length)=false:=by
      cases hh:(B.all fun b=>Cr b g.length)
      ·rfl
      ·exact absurd (fun b hb=>(CO _ _).1 (List.all_eq_true.1 hh b hb)) hs
     rw[this,cond_false,decide_eq_false (fun h=>hs h.sets)]
    case pos=>
     have:(B.all fun b=>Cr b g.length)=true:=List.all_eq_true.2 (fun b hb=>(CO _ _).2 (hs b hb))
     rw[this,cond_true]
     dsimp only
     rw[l1Edges_eq g hg,Option.bind_some]
     have hel:(Cp g).length≤256:=by
      obtain⟨y,y1,y2,_⟩:=l1Edges_ok g hg
      rw[l1Edges_eq g hg] at y1
      cases y1;exact y2
     refine(Eh (Cp g).length (fun i=>B.any fun b=>((Cp g).getD i []).all fun x=>decide (x∈b)) (.inl ()) (.inr false) (fun i hi=> ?_) ?_).trans ?_
     ·obtain⟨u,v,_,_,_,e2⟩:=(E5 hg _).1 (List.getElem_mem hi)
      simp only[dlt hi,cond_true,Au hi,Option.bind_some,l9In_eq B K (Cp g)[i] hB (by rw[e2];simp[Sh]),wi (show i<4611686018427387904 by omega),Ay hi]
      cases (B.any fun b=>((Cp g)[i]).all fun x=>decide (x∈b))<;>rfl
     ·simp only[A4,cond_false]
     ·rw[CH (Cp g) (fun e=>B.any fun b=>e.all fun x=>decide (x∈b)) _ (fun i hi=>by rw[Ay hi])]
      by_cases hE:∀u v:Nat,u<g.length→adj g u v→∃b∈B,(u:Int)∈b∧(v:Int)∈b
      case neg=>
       have:((Cp g).all fun e=>B.any fun b=>e.all fun x=>decide (x∈b))=false:=by
        cases hh:((Cp g).all fun e=>B.any fun b=>e.all fun x=>decide (x∈b))
        ·rfl
        ·exfalso
         refine hE (fun u v hu ha=> ?_)
         have hlt:∀u v:Nat,u<g.length→adj g u v→u<v→∃b∈B,(u:Int)∈b∧(v:Int)∈b:=fun u v hu ha huv=>by
          obtain⟨b,hb,hbb⟩:=List.any_eq_true.1 (List.all_eq_true.1 hh _ ((E5 hg _).2 ⟨u,v,hu,ha,huv,rfl⟩))
          simp at hbb
          exact⟨b,hb,hbb⟩
         rcases Nat.lt_trichotomy u v with c|c|c
         ·exact hlt u v hu ha c
         ·subst c;exact absurd ha (hg.irr u hu)
         ·obtain⟨b,hb,h1,h2⟩:=hlt v u (hg.lt hu ha) (hg.sym u v hu ha) c
          exact⟨b,hb,h2,h1⟩
       rw[this,cond_false,decide_eq_false (fun h=>hE h.edges)]
      case pos=>
       have:((Cp g).all fun e=>B.any fun b=>e.all fun x=>decide (x∈b))=true:=List.all_eq_true.2 (fun e he=>by
        obtain⟨u,v,hu,ha,_,rfl⟩:=(E5 hg _).1 he
        obtain⟨b,hb,h1,h2⟩:=hE u v hu ha
        exact List.any_eq_true.2 ⟨b,hb,by simp[h1,h2]⟩)
       rw[this,cond_true]
       dsimp only
       refine(C6 g.length (fun v=>decide (Cf B (v:Int)≠[]∧DC K (Cf B (v:Int)))) false (fun v hv=> ?_) ?_ rfl rfl).trans ?_
       ·have hwl:(Cf B (v:Int)).length≤16:=by
         have:=(withV_inc B (v:Int)).short (n:=B.length) (fun x hx=>by
          obtain⟨b,rfl,hb,_⟩:=mem_withV.1 hx;omega)
         omega
        simp only[Option.bind_some,dlt hv,cond_true,l9With_eq B K (v:Int) hB (by omega),wi (show v<4611686018427387904 by omega)]
        by_cases hne:Cf B (v:Int)=[]
        ·rw[hne];simp
        ·have e0:(((Cf B (v:Int)).length:Int)==0)=false:=by
          rw[beq_eq_false_iff_ne]
          have:=List.length_pos_iff.2 hne
          omega
         obtain⟨y,e2,hy2⟩:=reached_eq hB hK (Cf B (v:Int)) (by omega) hpairs (by omega) hne (withV_inc B (v:Int)).nodup
         rw[e0,cond_false,e2,Option.bind_some,Option.bind_some]
         by_cases hcv:DC K (Cf B (v:Int))
         ·have:(y !=((Cf B (v:Int)).length:Int))=false:=by rw[bne_eq_false_iff_eq];exact hy2.2 hcv
          rw[this,cond_false,if_pos (decide_eq_true ⟨hne,hcv⟩)]
         ·have:(y !=((Cf B (v:Int)).length:Int))=true:=by rw[bne_iff_ne];exact fun h=>hcv (hy2.1 h)
          rw[this,cond_true,if_neg (by simpa using fun h=>hcv)]
       ·simp only[Option.bind_some,A4,cond_false]
       ·congr 1
        rw[Bool.eq_iff_iff,Dz,decide_eq_true_eq]
        simp only[decide_eq_true_eq]
        constructor
        ·intro hv
         exact⟨n1,n16,hm,hlk,hs,hc,hE,fun v h=>(hv v h).1,fun v h=>(hv v h).2⟩
        ·intro h v hv
         exact⟨h.some v hv,h.conn v hv⟩
end
end Go.Sx

namespace Go.Sx
section
variable {g B K : List (List Int)} (hg : GOk g) (hs : ∀ b ∈ B, SetOf b (g.length : Int)) (hBl : B.length ≤ 16)
include hg hs hBl
theorem masks_eq :D.B0 B=some (B.map mk):=by
 have h16:=hg.n16
 unfold D.B0
 refine(Do B (fun s i=>(s,i)) mk (by omega) (fun s i hi _=> ?_) (fun s=> ?_)).trans rfl
 ·have hb:=hs _ (List.getElem_mem hi)
  have hl:=hb.length_le (by omega)
  simp only[dlt hi,cond_true,Au hi,Option.bind_some,maskOf_eq _ (show Sh B[i] by unfold Sh;omega) (fun x hx=>(hb.2 x hx).1),wi (show i<4611686018427387904 by omega)]
 ·simp only[A4,cond_false]
end
section
variable {g B K : List (List Int)} (hg : GOk g) (hB : Sh2 B) (hK : Sh2 K)
include hg hB hK
end
end Go.Sx

namespace Go.Sx
theorem elems_mk' {n:Nat}{x:List Int}(hn:n≤16)(hi:Inc x)(hr:∀z∈x,0≤z∧z<n):Al (mk x)=x:=by
 refine Inc.ext (Bv _) hi (fun z=> ?_)
 rw[mem_elems]
 constructor
 ·rintro⟨v,_,h2,rfl⟩
  rw[DT (fun y hy=>by have:=hr y hy;omega)] at h2
  exact of_decide_eq_true h2
 ·intro hz
  have:=hr z hz
  refine⟨z.toNat,by omega,?_,by omega⟩
  rw[DT (fun y hy=>by have:=hr y hy;omega)]
  exact decide_eq_true (by rw[show ((z.toNat:Nat):Int)=z by omega];exact hz)
theorem Ev {α β γ:Type}(f:α→Option β)(h:β→γ):∀xs:List α,xs.findSome? (fun i=>(f i).map h)=(xs.findSome? f).map h
 |[]=>rfl
 |x::xs=>by
  rw[List.findSome?_cons,List.findSome?_cons]
  cases f x with
  |none=>exact Ev f h xs
  |some y=>rfl
def prt (s t:Int):Bool:=(iandNot .u32 s t)==0
theorem FE {s t:Int}(hs:VS s)(ht:VS t):D.x (Al s) (Al t)=some (prt s t):=by
 have h1:=BR s;have h2:=BR t
 rw[l9Part_eq _ _ (show Sh (Al s) by unfold Sh;omega) (show Sh (Al t) by unfold Sh;omega)]
 congr 1
 unfold prt
 rw[Bool.eq_iff_iff,List.all_eq_true,beq_iff_eq,(VS.iandNot _ _).eq_zero]
 constructor
 ·intro h v hv
  rw[Bc hs ht]
  cases hh:has s v
  ·rfl
  ·have:=h (v:Int) ((AZ hs).2 hh)
   rw[decide_eq_true_eq,AZ ht] at this
   rw[this];rfl
 ·intro h x hx
  obtain⟨v,hv,h3,rfl⟩:=mem_elems.1 hx
  have:=h v hv
  rw[Bc hs ht,h3,Bool.true_and,Bool.not_eq_false'] at this
  rw[decide_eq_true_eq,AZ ht];exact this
def ren (gone kept x:Int):Int:=if gone<(if x=gone then kept else x) then(if x=gone then kept else x)-1 else(if x=gone then kept else x)
def lnk (gone kept:Int)(l:List Int):Option (List Int):=if ren gone kept (l.getD 0 0)=ren gone kept (l.getD 1 0) then none else some (BN (ren gone kept (l.getD 0 0)) (ren gone kept (l.getD 1 0)))
structure TS (M:List Int)(K:List (List Int)):Prop where
 n16:M.length≤16
 vs:∀s∈M,VS s
 lk:∀l∈K,LinkIn M.length l
 k16:K.length≤16
theorem FL {n g k:Nat}(hg:g<n)(hk:k<n)(hgk:g≠k){a:Nat}(ha:a<n):0≤ren g k a∧ren g k a<((n-1:Nat):Int):=by
 unfold ren
 by_cases e:(a:Int)=g
 ·simp only[e,if_true];split<;>omega
 ·simp only[e,if_false];split<;>omega
theorem lnk_in {n g k:Nat}(hg:g<n)(hk:k<n)(hgk:g≠k){l r:List Int}(hl:LinkIn n l)(h:lnk g k l=some r):LinkIn (n-1) r:=by
 obtain⟨a,b,rfl,hab,hb⟩:=hl
 unfold lnk at h
 simp only[List.getD_cons_zero,List.getD_cons_succ] at h
 have h1:=FL hg hk hgk (show a<n by omega)
 have h2:=FL hg hk hgk hb
 split at h
 ·cases h
 ·rename_i hne
  cases h
  generalize ren g k a=x at*
  generalize ren g k b=y at*
  refine⟨(min x y).toNat,(max x y).toNat,?_,by omega,by omega⟩
  unfold BN
  rw[show (((min x y).toNat:Nat):Int)=min x y by omega,show (((max x y).toNat:Nat):Int)=max x y by omega]
def BT (g k:Nat)(K:List (List Int)):List (List Int):=K.filterMap (lnk g k)
theorem Ee {n g k:Nat}{K:List (List Int)}(hK:∀l∈K,LinkIn n l)(hg:g<n)(hk:k<n)(hgk:g≠k):∀r∈BT g k K,LinkIn (n-1) r:=fun r hr=>by
 obtain⟨l,hl,e⟩:=List.mem_filterMap.1 hr
 exact lnk_in hg hk hgk (hK l hl) e
theorem merged_len (g k:Nat)(K:List (List Int)):(BT g k K).length≤K.length:=List.length_filterMap_le _ _
theorem FA {xs:List (List Int)}(hl:xs.length≤1000000)(hg:∀x∈xs,BW x):CC xs=some (xs.mergeSort BL):=by
 unfold CC;rw[if_pos ⟨hl,hg⟩]
theorem EH {g k:Nat}(hg:g≤1000000)(hk:k≤1000000){x:Int}(h0:0≤x)(h1:x≤1000000):D.Y x (g:Int) (k:Int)=some (ren g k x):=by
 unfold D.Y ren
 rw[w64 (by omega) (by omega),w64 (by omega) (by omega)]
 by_cases e:x=(g:Int)
 ·have:(x==(g:Int))=true:=by simpa using e
  rw[this,cond_true]
  simp only[e,if_true]
  by_cases h:(g:Int)<(k:Int)
  ·rw[decide_eq_true h,cond_true,if_pos h]
  ·rw[decide_eq_false h,cond_false,if_neg h]
 ·have:(x==(g:Int))=false:=by simpa using e
  rw[this,cond_false]
  simp only[e,if_false]
  by_cases h:(g:Int)<x
  ·rw[decide_eq_true h,cond_true,if_pos h]
  ·rw[decide_eq_false h,cond_false,if_neg h]
theorem DH {α β:Type}(f:α→Option β){l:List α}{i:Nat}(hi:i<l.length):(l.take (i+1)).filterMap f=(l.take i).filterMap f++(f l[i]).toList:=by
 rw[List.take_succ_eq_append_getElem hi,List.filterMap_append]
 cases hf:f l[i]<;>simp[hf]
section
variable {M : List Int} {K : List (List Int)} (h : TS M K) {g k : Nat} (hg : g < M.length) (hk : k < M.length) (hgk : g ≠ k)
include h hg hk hgk
theorem impl_merge :D.e M K (g:Int) (k:Int)=some (M.eraseIdx g,(BT g k K).mergeSort BL):=by
 have h16:=h.n16;have hk16:=h.k16
 unfold D.e
 refine(Bx (fun i=>((K.take i).filterMap (lnk g k),(i:Int))) K.length (BT g k K) (by simp) (fun i hi=> ?_) ?_).trans ?_
 ·obtain⟨a,b,e,hab,hb⟩:=h.lk _ (List.getElem_mem hi)
  have i0:idx K[i] 0=some (a:Int):=by rw[e];rfl
  have i1:idx K[i] 1=some (b:Int):=by rw[e];rfl
  simp only[dlt hi,cond_true,Au hi,Option.bind_some,i0,i1,EH (show g≤1000000 by omega) (show k≤1000000 by omega) (show (0:Int)≤(a:Int) by omega) (by omega),EH (show g≤1000000 by omega) (show k≤1000000 by omega) (show (0:Int)≤(b:Int) by omega) (by omega),wi (show i<4611686018427387904 by omega),DH (lnk g k) hi]
  have el:lnk (g:Int) (k:Int) K[i]=if ren g k a=ren g k b then none else some (BN (ren g k a) (ren g k b)):=by rw[e];rfl
  rw[el]
  have hfl:((K.take i).filterMap (lnk g k)).length≤16:=by
   have:=List.length_filterMap_le (lnk (g:Int) (k:Int)) (K.take i)
   rw[List.length_take] at this;omega
  by_cases hc:ren g k a=ren g k b
  ·have:(ren g k a !=ren g k b)=false:=by simpa using hc
   rw[this,cond_false,if_pos hc];simp
  ·have:(ren g k a !=ren g k b)=true:=by simpa using hc
   rw[this,cond_true,if_neg hc,Fh,Option.bind_some,AU (by simp;omega),Option.bind_some];simp
 ·simp only[A4,cond_false,List.take_length];rfl
 ·have hml:=merged_len g k K
  rw[FA (by omega) (fun x hx=>(Ee h.lk hg hk hgk x hx).good (by omega)),Option.bind_some]
  unfold D.d1 D.T0 delD
  rw[AU (by simp;omega)]
  simp only[Option.bind_some,List.nil_append]
  rw[wi (show g<4611686018427387904 by omega),if_pos ⟨by omega,by omega,by omega⟩,Option.bind_some]
  congr 2
  rw[Int.toNat_natCast,Int.toNat_natCast,List.eraseIdx_eq_take_drop_succ]
def Cw (acc xs:List (List Int)):List (List Int):=xs.foldl (fun acc l=>ins l acc) acc
omit h hg hk hgk in
theorem DR :∀(xs acc:List (List Int)),Ed acc→(Cw acc xs).Perm (xs++acc)∧Ed (Cw acc xs)
 |[],acc,h=>⟨List.Perm.refl _,h⟩
 |x::xs,acc,h=>by
  obtain⟨h1,h2⟩:=DR xs (ins x acc) (ins_sorted x h)
  refine⟨h1.trans ?_,h2⟩
  exact((ins_perm x acc).append_left xs).trans List.perm_middle
omit h hg hk hgk in
theorem FP {xs:List (List Int)}(hx:∀x∈xs,BW x):Cw [] xs=xs.mergeSort BL:=by
 obtain⟨h1,h2⟩:=DR xs [] (by simp[Ed])
 rw[List.append_nil] at h1
 exact Fv (h1.trans (BB xs).symm) (fun x hx'=>hx x ((BB xs).mem_iff.1 hx')) h2 (DF xs)
omit h hg hk hgk in
theorem FY (acc xs:List (List Int))(x:List Int):Cw acc (xs++[x])=ins x (Cw acc xs):=by
 unfold Cw;rw[List.foldl_append];rfl
theorem spec_merge :D.s1 (M.map Al) K (g:Int) (k:Int)=some ((M.eraseIdx g).map Al,(BT g k K).mergeSort BL):=by
 have h16:=h.n16;have hk16:=h.k16
 unfold D.s1
 refine(Bx (fun i=>((i:Int),(if i≤g then M.take i else M.take g++(M.drop (g+1)).take (i-(g+1))).map Al)) M.length ((M.eraseIdx g).map Al) (by simp) (fun i hi=> ?_) ?_).trans ?_
 ·have hd:decide ((i:Int)<((M.map Al).length:Int))=true:=by simp;omega
  have hcp:D.g (Al M[i])=some (Al M[i]):=DU _ (by have:=BR M[i];unfold Sh;omega)
  simp only[hd,cond_true,wi (show i<4611686018427387904 by omega)]
  by_cases e:i=g
  ·subst e
   have:(((i:Nat):Int) !=(i:Int))=false:=by simp
   rw[this,cond_false,if_pos (Nat.le_refl i),if_neg (by omega)];simp
  ·have:(((i:Nat):Int) !=(g:Int))=true:=by rw[bne_iff_ne];omega
   rw[this,cond_true,Au (show i<(M.map Al).length by simpa using hi),Option.bind_some,List.getElem_map,hcp,Option.bind_some]
   rcases Nat.lt_or_gt_of_ne e with c|c
   ·rw[if_pos (by omega),if_pos (by omega),AU (by simp;omega),Option.bind_some,List.take_succ_eq_append_getElem hi,List.map_append];rfl
   ·rw[if_neg (by omega),if_neg (by omega),AU (by simp;omega),Option.bind_some]
    have e2:(M.drop (g+1)).take (i+1-(g+1))=(M.drop (g+1)).take (i-(g+1))++[M[i]]:=by
     rw[show i+1-(g+1)=(i-(g+1))+1 by omega,List.take_succ_eq_append_getElem (by simp;omega)]
     congr 2
     rw[List.getElem_drop];congr 1;omega
    rw[e2];simp
 ·have hd:decide (((M.length:Nat):Int)<((M.map Al).length:Int))=false:=by simp
  simp only[hd,cond_false]
  rw[if_neg (by omega),List.eraseIdx_eq_take_drop_succ,List.take_of_length_le (l:=M.drop (g+1)) (by simp)]
 ·refine(Bx (fun i=>((i:Int),Cw [] ((K.take i).filterMap (lnk g k)))) K.length (Cw [] (BT g k K)) (by simp[Cw]) (fun i hi=> ?_) ?_).trans ?_
  ·obtain⟨a,b,e,hab,hb⟩:=h.lk _ (List.getElem_mem hi)
   have i0:idx K[i] 0=some (a:Int):=by rw[e];rfl
   have i1:idx K[i] 1=some (b:Int):=by rw[e];rfl
   have ra:=FL hg hk hgk (show a<M.length by omega)
   have rb:=FL hg hk hgk hb
   have el:lnk (g:Int) (k:Int) K[i]=if ren g k a=ren g k b then none else some (BN (ren g k a) (ren g k b)):=by rw[e];rfl
   simp only[dlt hi,cond_true,Au hi,Option.bind_some,i0,i1,wi (show i<4611686018427387904 by omega),DH (lnk g k) hi,el]
   have hsub:∀x:Int,(cond (x==(g:Int)) (some (k:Int)) (some x))=some (if x=(g:Int) then(k:Int) else x):=fun x=>by
    by_cases hx:x=(g:Int)
    ·simp[hx]
    ·have:(x==(g:Int))=false:=by simpa using hx
     rw[this,cond_false,if_neg hx]
   have hfl:∀x:Int,D.B (decide ((g:Int)<x))=some (if(g:Int)<x then 1 else 0):=fun x=>by
    unfold D.B
    by_cases hx:(g:Int)<x
    ·simp[hx]
    ·simp[hx]
   have hren:∀x:Int,ren g k x=(if x=(g:Int) then(k:Int) else x)-(if(g:Int)<(if x=(g:Int) then(k:Int) else x) then 1 else 0):=fun x=>by
    unfold ren
    by_cases hx:(g:Int)<(if x=(g:Int) then(k:Int) else x)
    ·rw[if_pos hx,if_pos hx]
    ·rw[if_neg hx,if_neg hx];omega
   have ne1:(if(a:Int)=(g:Int) then(k:Int) else a)≠(g:Int):=by split<;>omega
   have ne2:(if(b:Int)=(g:Int) then(k:Int) else b)≠(g:Int):=by split<;>omega
   have hA:=hren (a:Int);have hBb:=hren (b:Int)
   rw[hsub,Option.bind_some,hsub,Option.bind_some]
   generalize (if(a:Int)=(g:Int) then(k:Int) else a)=x at*
   generalize (if(b:Int)=(g:Int) then(k:Int) else b)=y at*
   have hiff:ren g k a=ren g k b↔x=y:=by
    rw[hA,hBb]
    constructor
    ·intro hh;split at hh<;>split at hh<;>omega
    ·rintro rfl;rfl
   by_cases hc:x=y
   ·have:(x !=y)=false:=by simpa using hc
    rw[this,cond_false,if_pos (hiff.2 hc)];simp
   ·have:(x !=y)=true:=by simpa using hc
    rw[this,cond_true,if_neg (fun hh=>hc (hiff.1 hh)),hfl,Option.bind_some,hfl,Option.bind_some,←hA,←hBb,w64 (by omega) (by omega),w64 (by omega) (by omega)]
    have hlen:(Cw [] ((K.take i).filterMap (lnk g k))).length≤16:=by
     obtain⟨hp,_⟩:=DR ((K.take i).filterMap (lnk g k)) [] (by simp[Ed])
     rw[hp.length_eq,List.append_nil]
     have:=List.length_filterMap_le (lnk (g:Int) (k:Int)) (K.take i)
     rw[List.length_take] at this;omega
    have hin:LinkIn (M.length-1) (BN (ren g k a) (ren g k b)):=lnk_in hg hk hgk (h.lk _ (List.getElem_mem hi)) (by rw[el,if_neg (fun hh=>hc (hiff.1 hh))])
    rw[Fo (fun x hx=> ?_) (hin.good (by omega)) (by omega),Option.bind_some,Option.toList_some,FY]
    obtain⟨hp,_⟩:=DR ((K.take i).filterMap (lnk g k)) [] (by simp[Ed])
    rw[List.append_nil] at hp
    exact((Ee (fun l hl=>h.lk l (List.mem_of_mem_take hl)) hg hk hgk x (hp.mem_iff.1 hx))).good (by omega)
  ·simp only[A4,cond_false,List.take_length];rfl
  ·rw[FP (fun x hx=>(Ee h.lk hg hk hgk x hx).good (by omega))]
theorem TS.merge :TS (M.eraseIdx g) ((BT g k K).mergeSort BL):=by
 have h16:=h.n16
 have hl:(M.eraseIdx g).length=M.length-1:=by rw[List.length_eraseIdx,if_pos hg]
 refine⟨by omega,fun s hs=>h.vs s (List.mem_of_mem_eraseIdx hs),fun l hl'=> ?_,?_⟩
 ·rw[hl]
  exact Ee h.lk hg hk hgk l ((BB _).mem_iff.1 hl')
 ·rw[(BB _).length_eq]
  exact Nat.le_trans (merged_len g k K) h.k16
end
def Dh (M:List Int)(l:List Int):Option (Nat×Nat):=
 if prt (M.getD (l.getD 1 0).toNat 0) (M.getD (l.getD 0 0).toNat 0) then some ((l.getD 1 0).toNat,(l.getD 0 0).toNat)
 else if prt (M.getD (l.getD 0 0).toNat 0) (M.getD (l.getD 1 0).toNat 0) then some ((l.getD 0 0).toNat,(l.getD 1 0).toNat) else none
def Cj (M:List Int)(K:List (List Int)):Option (Nat×Nat):=(List.range K.length).findSome? (fun i=>Dh M (K.getD i []))
section
variable {M : List Int} {K : List (List Int)} (h : TS M K)
include h
theorem spareM_in {l:List Int}(hl:l∈K){g k:Nat}(e:Dh M l=some (g,k)):g<M.length∧k<M.length∧g≠k:=by
 obtain⟨a,b,rfl,hab,hb⟩:=h.lk l hl
 unfold Dh at e
 simp only[List.getD_cons_zero,List.getD_cons_succ,Int.toNat_natCast] at e
 split at e
 ·cases e;omega
 ·split at e
  ·cases e;omega
  ·cases e
theorem spare_in {g k:Nat}(e:Cj M K=some (g,k)):g<M.length∧k<M.length∧g≠k:=by
 obtain⟨i,hi,e2⟩:=List.exists_of_findSome?_eq_some e
 have hi':=List.mem_range.1 hi
 rw[Ay hi'] at e2
 exact spareM_in h (List.getElem_mem hi') e2
theorem E9 :D.w1 (M.map Al) K=some (match Cj M K with|some (g,k)=>((g:Int),(k:Int))|none=>(-1,-1)):=by
 have h16:=h.n16;have hk16:=h.k16
 unfold D.w1
 have key:=Dt (ρ:=Unit ⊕ (Int×Int)) (step:=(fun(x_134:Int)=>cond (decide (x_134<(K.length:Int))) ((idx K x_134).bind fun e_200=>(idx e_200 0).bind fun e_206=>(idx K x_134).bind fun e_212=>(idx e_212 1).bind fun e_218=>(idx (M.map Al) e_218).bind fun e_224=>(idx (M.map Al) e_206).bind fun e_230=>(D.x e_224 e_230).bind fun y_236=>cond y_236 (some (.inr (.inr (e_218,e_206)))) ((idx (M.map Al) e_206).bind fun e_242=>(idx (M.map Al) e_218).bind fun e_248=>(D.x e_242 e_248).bind fun y_254=>cond y_254 (some (.inr (.inr (e_206,e_218)))) (some (.inl (IntKind.i64.wrap (x_134+1)))))) (some (.inr (.inl ()))))) K.length (fun i=>(Dh M (K.getD i [])).map fun p=> .inr ((p.1:Int),(p.2:Int))) (.inl ()) (fun i hi=>by
  obtain⟨a,b,e,hab,hb⟩:=h.lk _ (List.getElem_mem hi)
  have i0:idx K[i] 0=some (a:Int):=by rw[e];rfl
  have i1:idx K[i] 1=some (b:Int):=by rw[e];rfl
  have hm:∀x:Nat,x<M.length→idx (M.map Al) (x:Int)=some (Al (M.getD x 0))∧VS (M.getD x 0):=fun x hx=>by
   rw[Au (by simpa using hx),List.getElem_map,Ay hx]
   exact⟨rfl,h.vs _ (List.getElem_mem hx)⟩
  obtain⟨ma,va⟩:=hm a (by omega)
  obtain⟨mb,vb⟩:=hm b hb
  simp only[dlt hi,cond_true,Au hi,Option.bind_some,i0,i1,ma,mb,FE vb va,FE va vb,wi (show i<4611686018427387904 by omega),Ay hi]
  have es:Dh M K[i]=if prt (M.getD b 0) (M.getD a 0) then some (b,a) else if prt (M.getD a 0) (M.getD b 0) then some (a,b) else none:=by rw[e];rfl
  rw[es]
  cases prt (M.getD b 0) (M.getD a 0)
  ·cases prt (M.getD a 0) (M.getD b 0)<;>rfl
  ·rfl) (by simp only[A4,cond_false])
 rw[key,Option.bind_some,Ev]
 unfold Cj
 cases (List.range K.length).findSome? (fun i=>Dh M (K.getD i [])) with
 |none=>rfl
 |some p=>rfl
theorem E8 :Ao (σ:=Int) (ρ:=((List Int)×(List (List Int))×Bool)) (fun(x_1473:Int)=>cond (decide (x_1473<(K.length:Int))) ((idx K x_1473).bind fun e_1582=>(idx e_1582 0).bind fun e_1588=>(idx e_1582 1).bind fun e_1594=>(idx M e_1594).bind fun e_1602=>(idx M e_1588).bind fun e_1608=>cond ((iandNot .u32 e_1602 e_1608)==0) ((D.e M K e_1594 e_1588).bind fun y_1623=>some (.inr (y_1623.1,y_1623.2,true))) ((idx M e_1588).bind fun e_1638=>(idx M e_1594).bind fun e_1644=>cond ((iandNot .u32 e_1638 e_1644)==0) ((D.e M K e_1588 e_1594).bind fun y_1659=>some (.inr (y_1659.1,y_1659.2,true))) (some (.inl (IntKind.i64.wrap (x_1473+1)))))) (some (.inr (M,K,false)))) 0=
  some (match Cj M K with|some (g,k)=>(M.eraseIdx g,(BT g k K).mergeSort BL,true)|none=>(M,K,false)):=by
 have h16:=h.n16;have hk16:=h.k16
 have key:=Dt (ρ:=((List Int)×(List (List Int))×Bool)) (step:=(fun(x_1473:Int)=>cond (decide (x_1473<(K.length:Int))) ((idx K x_1473).bind fun e_1582=>(idx e_1582 0).bind fun e_1588=>(idx e_1582 1).bind fun e_1594=>(idx M e_1594).bind fun e_1602=>(idx M e_1588).bind fun e_1608=>cond ((iandNot .u32 e_1602 e_1608)==0) ((D.e M K e_1594 e_1588).bind fun y_1623=>some (.inr (y_1623.1,y_1623.2,true))) ((idx M e_1588).bind fun e_1638=>(idx M e_1594).bind fun e_1644=>cond ((iandNot .u32 e_1638 e_1644)==0) ((D.e M K e_1588 e_1594).bind fun y_1659=>some (.inr (y_1659.1,y_1659.2,true))) (some (.inl (IntKind.i64.wrap (x_1473+1)))))) (some (.inr (M,K,false))))) K.length (fun i=>(Dh M (K.getD i [])).map fun p=>(M.eraseIdx p.1,(BT p.1 p.2 K).mergeSort BL,true)) (M,K,false) (fun i hi=>by
  obtain⟨a,b,e,hab,hb⟩:=h.lk _ (List.getElem_mem hi)
  have i0:idx K[i] 0=some (a:Int):=by rw[e];rfl
  have i1:idx K[i] 1=some (b:Int):=by rw[e];rfl
  have hm:∀x:Nat,x<M.length→idx M (x:Int)=some (M.getD x 0):=fun x hx=>by
   rw[Au hx,Ay hx]
  have ma:=hm a (by omega)
  have mb:=hm b hb
  simp only[dlt hi,cond_true,Au hi,Option.bind_some,i0,i1,ma,mb,impl_merge h hb (show a<M.length by omega) (by omega),impl_merge h (show a<M.length by omega) hb (by omega),wi (show i<4611686018427387904 by omega),Ay hi]
  have es:Dh M K[i]=if prt (M.getD b 0) (M.getD a 0) then some (b,a) else if prt (M.getD a 0) (M.getD b 0) then some (a,b) else none:=by rw[e];rfl
  rw[es]
  have p1:((iandNot .u32 (M.getD b 0) (M.getD a 0))==0)=prt (M.getD b 0) (M.getD a 0):=rfl
  have p2:((iandNot .u32 (M.getD a 0) (M.getD b 0))==0)=prt (M.getD a 0) (M.getD b 0):=rfl
  rw[p1,p2]
  cases prt (M.getD b 0) (M.getD a 0)
  ·cases prt (M.getD a 0) (M.getD b 0)<;>rfl
  ·rfl) (by simp only[A4,cond_false])
 rw[key,Ev]
 unfold Cj
 cases (List.range K.length).findSome? (fun i=>Dh M (K.getD i [])) with
 |none=>rfl
 |some p=>rfl
end
theorem tidy_both :∀(m:Nat) (M:List Int) (K:List (List Int)),M.length≤m→TS M K→∃M' K',TS M' K'∧
  Ao (σ:=(List Int)×(List (List Int))×Bool) (ρ:=((List Int)×(List (List Int)))) (fun(s_853:(List Int)×(List (List Int))×Bool)=>match s_853 with|(l_856,l_861,b_866)=>cond b_866 ((Ao (σ:=Int) (ρ:=((List Int)×(List (List Int))×Bool)) (fun(x_1473:Int)=>cond (decide (x_1473<(l_861.length:Int))) ((idx l_861 x_1473).bind fun e_1582=>(idx e_1582 0).bind fun e_1588=>(idx e_1582 1).bind fun e_1594=>(idx l_856 e_1594).bind fun e_1602=>(idx l_856 e_1588).bind fun e_1608=>cond ((iandNot .u32 e_1602 e_1608)==0) ((D.e l_856 l_861 e_1594 e_1588).bind fun y_1623=>some (.inr (y_1623.1,y_1623.2,true))) ((idx l_856 e_1588).bind fun e_1638=>(idx l_856 e_1594).bind fun e_1644=>cond ((iandNot .u32 e_1638 e_1644)==0) ((D.e l_856 l_861 e_1588 e_1594).bind fun y_1659=>some (.inr (y_1659.1,y_1659.2,true))) (some (.inl (IntKind.i64.wrap (x_1473+1)))))) (some (.inr (l_856,l_861,false)))) 0).bind fun(l_1569,l_1574,b_1579)=>some (.inl (l_1569,l_1574,b_1579))) (some (.inr (l_856,l_861)))) (M,K,true)=some (M',K')∧
  Ao (σ:=(List (List Int))×(List (List Int))) (ρ:=(((List (List Int)))×((List (List Int)))×Bool)) (fun(s_125:(List (List Int))×(List (List Int)))=>match s_125 with|(l_128,l_133)=>(D.w1 l_128 l_133).bind fun y_139=>cond (decide (y_139.1<0)) (some (.inr (l_128,l_133,true))) ((D.s1 l_128 l_133 y_139.1 y_139.2).bind fun y_160=>some (.inl (y_160.1,y_160.2)))) (M.map Al,K)=some (M'.map Al,K',true)∧Cj M' K'=none∧
  ∀I:List Int→List (List Int)→Prop,I M K→(∀M K g k,TS M K→Cj M K=some (g,k)→I M K→I (M.eraseIdx g) ((BT g k K).mergeSort BL))→I M' K':=by
 intro m
 induction m with
 |zero=>
  intro M K hm h
  have hK:K=[]:=by
   cases K with
   |nil=>rfl
   |cons l K=>
    obtain⟨a,b,_,h1,h2⟩:=h.lk l (by simp)
    omega
  subst hK
  refine⟨M,[],h,?_,?_,rfl,fun I hI _=>hI⟩
  ·rw[Bu (s':=(M,[],false)) (by simp only[cond_true];rw[E8 h];rfl),Be (r:=(M,[])) (by rfl)]
  ·rw[Be (r:=(M.map Al,[],true)) (by simp only[E9 h];rfl)]
 |succ m ih=>
  intro M K hm h
  cases hsp:Cj M K with
  |none=>
   refine⟨M,K,h,?_,?_,hsp,fun I hI _=>hI⟩
   ·rw[Bu (s':=(M,K,false)) (by simp only[cond_true];rw[E8 h,hsp];rfl),Be (r:=(M,K)) (by rfl)]
   ·rw[Be (r:=(M.map Al,K,true)) (by simp only[E9 h,hsp];rfl)]
  |some p=>
   obtain⟨g,k⟩:=p
   obtain⟨hg,hk,hgk⟩:=spare_in h hsp
   obtain⟨M',K',h1,h2,h3,h4,h5⟩:=ih (M.eraseIdx g) ((BT g k K).mergeSort BL) (by rw[List.length_eraseIdx,if_pos hg];omega) (h.merge hg hk hgk)
   refine⟨M',K',h1,?_,?_,h4,fun I hI hs=>h5 I (hs M K g k h hsp hI) hs⟩
   ·rw[Bu (s':=(M.eraseIdx g,(BT g k K).mergeSort BL,true)) (by simp only[cond_true];rw[E8 h,hsp];rfl)]
    exact h2
   ·have hn:decide ((g:Int)<0)=false:=by simp
    rw[Bu (s':=((M.eraseIdx g).map Al,(BT g k K).mergeSort BL)) (by simp only[E9 h,hsp,Option.bind_some,hn,cond_false,spec_merge h hg hk hgk])]
    exact h3
end Go.Sx

namespace Go.Sx
def tot :List (List Int)→Int
 |[]=>0
 |x::xs=>x.length+tot xs
theorem tot_le {xs:List (List Int)}{n:Int}(h:∀x∈xs,(x.length:Int)≤n):tot xs≤xs.length*n:=by
 induction xs with
 |nil=>simp[tot]
 |cons x xs ih=>
  have:=ih (fun y hy=>h y (by simp[hy]))
  have:=h x (by simp)
  simp only[tot,List.length_cons,Int.natCast_add,Int.add_mul];omega
end Go.Sx



namespace Go.Sx
end Go.Sx

namespace Go.Sx
theorem into_elems' {s:Int}(hs:VS s){v:Nat}(hv:v<32):into (Al s) (v:Int)=Al (ior .u32 s (ishl .u32 1 (v:Int))):=by
 refine Inc.ext ((Bv _).into _) (Bv _) (fun z=> ?_)
 rw[mem_into,mem_elems,mem_elems]
 constructor
 ·rintro(rfl|⟨w,h3,h4,rfl⟩)
  ·exact⟨v,hv,by rw[CG hs (VS.ishl _ _),BI hv];simp,rfl⟩
  ·exact⟨w,h3,by rw[CG hs (VS.ishl _ _),h4];rfl,rfl⟩
 ·rintro⟨w,h3,h4,rfl⟩
  rw[CG hs (VS.ishl _ _),BI hv,Bool.or_eq_true] at h4
  rcases h4 with h4|h4
  ·exact .inr ⟨w,h3,h4,rfl⟩
  ·exact .inl (by rw[of_decide_eq_true h4])
theorem Cv {o:List Int}(h:o.Nodup){i j:Nat}(hi:i<o.length)(hj:j<o.length)(e:o[i]=o[j]):i=j:=by
 rcases Nat.lt_trichotomy i j with c|c|c
 ·exact absurd (mem_take_iff.2 ⟨i,hi,c,e⟩) (nodup_iff.1 h j hj)
 ·exact c
 ·exact absurd (mem_take_iff.2 ⟨j,hj,c,e.symm⟩) (nodup_iff.1 h i hi)
theorem ins_last {l:List Int}{xs:List (List Int)}(h:∀x∈xs,A8 x≤A8 l):ins l xs=xs++[l]:=by
 have e:Db l xs=xs.length:=by
  unfold Db
  rw[List.findIdx_eq_length]
  intro x hx
  have:=h x hx
  simp;omega
 unfold ins
 rw[e];simp
def nxt (o l:List Int)(i:Nat):Nat:=(i+1)+(o.drop (i+1)).findIdx (fun x=>decide (l=[])||decide (x∈l))
theorem nxt_gt (o l:List Int)(i:Nat):i<nxt o l i:=by unfold nxt;omega
theorem to_loop (o l:List Int)(hl:Sh l)(ho:o.length≤1000000)(i:Nat)(hi:i<o.length):
  (Ao (σ:=Int) (ρ:=Int) (fun(x:Int)=>(cond ((decide (x<(o.length:Int)))&&(decide ((0:Int)<(l.length:Int)))) ((idx o x).bind fun e=>(D.f l e).bind fun y=>some (!y)) (some false)).bind fun b=>cond b (some (.inl (IntKind.i64.wrap (x+1)))) (some (.inr x))) ((i+1:Nat):Int))=some ((nxt o l i:Nat):Int):=by
 have hk:=List.findIdx_le_length (p:=fun x=>decide (l=[])||decide (x∈l)) (xs:=o.drop (i+1))
 have key:=Bx (step:=(fun(x:Int)=>(cond ((decide (x<(o.length:Int)))&&(decide ((0:Int)<(l.length:Int)))) ((idx o x).bind fun e=>(D.f l e).bind fun y=>some (!y)) (some false)).bind fun b=>cond b (some (.inl (IntKind.i64.wrap (x+1)))) (some (.inr x)))) (k:=fun r=>some r) (s0:=((i+1:Nat):Int)) (fun j=>((i+1+j:Nat):Int)) ((o.drop (i+1)).findIdx (fun x=>decide (l=[])||decide (x∈l))) ((nxt o l i:Nat):Int) rfl (fun j hj=> ?_) ?_
 ·rw[Option.bind_eq_some_iff] at key
  obtain⟨a,h1,h2⟩:=key
  cases h2;exact h1
 ·have h1:=List.not_of_lt_findIdx hj
  simp only[List.length_drop] at hk
  have hx:i+1+j<o.length:=by omega
  simp only[Bool.not_eq_true,Bool.or_eq_false_iff,decide_eq_false_iff_not,List.getElem_drop] at h1
  have hp:(decide ((0:Int)<(l.length:Int)))=true:=by
   have:=List.length_pos_iff.2 h1.1
   simp;omega
  simp only[dlt hx,hp,Bool.and_self,cond_true,Au hx,Option.bind_some,CD _ _ hl,h1.2,decide_false,Bool.not_false,wi (show i+1+j<4611686018427387904 by omega)]
  rfl
 ·show _=some (Sum.inr ((nxt o l i:Nat):Int))
  have e:((i+1+(o.drop (i+1)).findIdx (fun x=>decide (l=[])||decide (x∈l)):Nat):Int)=((nxt o l i:Nat):Int):=rfl
  rw[e]
  by_cases hx:nxt o l i<o.length
  ·have h1:=List.findIdx_getElem (p:=fun x=>decide (l=[])||decide (x∈l)) (xs:=o.drop (i+1)) (w:=by unfold nxt at hx;simp;omega)
   simp only[List.getElem_drop,Bool.or_eq_true,decide_eq_true_eq] at h1
   by_cases hn:l=[]
   ·subst hn;simp
   ·have h2:o[nxt o l i]∈l:=by rcases h1 with h1|h1;exact absurd h1 hn;exact h1
    have hp:(decide ((0:Int)<(l.length:Int)))=true:=by
     have:=List.length_pos_iff.2 hn
     simp;omega
    simp only[dlt hx,hp,Bool.and_self,cond_true,Au hx,Option.bind_some,CD _ _ hl,h2,decide_true,Bool.not_true,cond_false]
  ·have:(decide (((nxt o l i:Nat):Int)<(o.length:Int)))=false:=by simp;omega
   simp only[this,Bool.false_and,cond_false,Option.bind_some]
section
variable {g : List (List Int)} {o F L : List Int} (hg : GOk g) (ho : OOk g o) (hF : Fill g o F L)
include hg ho hF
theorem Fill.efF :F=(ef g o g.length).1∧L=(ef g o g.length).2.1:=by
 have h:=hF.elim
 rw[elim_ef hg ho] at h
 have:=Option.some.inj h
 exact⟨(congrArg (·.1) this).symm,(congrArg (·.2) this).symm⟩
theorem l7Later_eq :D.k0 g o=some (L.map Al):=by
 have h16:=hg.n16;have hn1:=hg.n1;have hl:=ho.len
 have hLl:=hF.lenL
 unfold D.k0 D.a
 rw[l7Fill_ef hg ho,Option.bind_some,←(hF.efF hg ho).1,Option.bind_some,CE (by omega) (by omega),Option.bind_some,Option.bind_some,CE (by omega) (by omega),Option.bind_some]
 have hG:=GOk.grow hF.f hn1 h16
 have hGl:(grow F).length=g.length:=by rw[C3,hF.f.len]
 refine(Bx (fun i=>(BE g.length (ef g o i).2.2,(List.range g.length).map (fun v=>if((v:Nat):Int)∈o.take i then Al (L.getD v 0) else []),(i:Int))) g.length (L.map Al) ?_ (fun i hi=> ?_) ?_).trans rfl
 ·have:(ef g o 0).2.2=full g.length:=rfl
  rw[this,←EK h16]
  congr 2
  apply List.ext_getElem
  ·simp
  ·intro j h1 h2;simp
 ·have h:=EN hg ho i (by omega)
  have h':=EN hg ho (i+1) (by omega)
  have hio:i<o.length:=by omega
  have hr:=ho.rng _ (List.getElem_mem hio)
  obtain⟨v,hv⟩:∃v:Nat,o[i]=(v:Int):=⟨o[i].toNat,by omega⟩
  have hvn:v<g.length:=by omega
  have hd:o.getD i 0=(v:Int):=by rw[Ay hio,hv]
  have hs':(ef g o (i+1)).2.2=iandNot .u32 (ef g o i).2.2 (ishl .u32 1 (v:Int)):=by simp only[ef,hd]
  rw[hs'] at h' ⊢
  have hl7:=DX (grow F) hG (show v<(grow F).length by omega) (BE g.length (iandNot .u32 (ef g o i).2.2 (ishl .u32 1 (v:Int)))) (by rw[CP];omega)
  simp only[dlt hio,cond_true,Au hio,hv,Option.bind_some,Ec hvn,Int.toNat_natCast,E7 h.vsl hvn (show g.length≤32 by omega),hl7,Au (show v<((List.range g.length).map (fun v=>if((v:Nat):Int)∈o.take i then Al (L.getD v 0) else [])).length by simpa using hvn),wi (show i<4611686018427387904 by omega)]
  rw[lft_grow hn1 h16 hF.f (VS.iandNot _ _) hvn]
  have hel:iand .u32 (F.getD v 0) (iandNot .u32 (ef g o i).2.2 (ishl .u32 1 (v:Int)))=L.getD v 0:=by
   refine(VS.iand _ _).ext (hF.vsL v hvn) (fun w _=> ?_)
   rw[BU (hF.f.vs v hvn) (VS.iandNot _ _),h'.left]
   have hlat:=hF.lat i v hi (by rw[List.getElem?_eq_getElem hio,hv]) w
   unfold nb at hlat
   rw[hlat,Bool.eq_iff_iff]
   simp only[Bool.and_eq_true,decide_eq_true_eq]
   exact⟨fun⟨a,_,c⟩=>⟨a,c⟩,fun⟨a,c⟩=>⟨a,hF.f.lt v w hvn a,c⟩⟩
  rw[hel]
  congr 4
  apply List.ext_getElem
  ·simp
  ·intro j h1 h2
   rw[List.getElem_set]
   simp only[List.getElem_map,List.getElem_range]
   have htk:((j:Int)∈o.take (i+1))↔((j:Int)∈o.take i∨j=v):=by
    rw[List.take_succ_eq_append_getElem hio,List.mem_append,hv];simp[Int.natCast_inj]
   by_cases e:v=j
   ·subst e
    rw[if_pos rfl,if_pos (htk.2 (.inr rfl))]
   ·rw[if_neg e]
    by_cases hm:(j:Int)∈o.take i
    ·rw[if_pos hm,if_pos (htk.2 (.inl hm))]
    ·rw[if_neg hm,if_neg (fun hh=>(htk.1 hh).elim hm (fun e'=>e e'.symm))]
 ·simp only[hl,A4,cond_false]
  congr 2
  apply List.ext_getElem
  ·simp[hLl]
  ·intro j h1 h2
   simp only[List.getElem_map,List.getElem_range]
   obtain⟨q,hq,hq2⟩:=C8 ho (v:=j) (by simpa using h1)
   rw[if_pos,Ay (by simpa using h2)]
   rw[←hl,List.take_length]
   exact List.mem_of_getElem? hq2
theorem later_pos {i v m:Nat}(hi:o[i]? =some (v:Int))(hm:m<o.length)(h:o[m]∈Al (L.getD v 0)):i+1≤m:=by
 have hl:=ho.len
 obtain⟨hio,hv⟩:=List.getElem?_eq_some_iff.1 hi
 have hr:=ho.rng _ (List.getElem_mem hio)
 obtain⟨w,_,h2,h3⟩:=mem_elems.1 h
 have hlat:=hF.lat i v (by omega) hi w
 unfold nb at hlat
 rw[hlat] at h2
 simp only[Bool.and_eq_true,decide_eq_true_eq] at h2
 apply Classical.byContradiction
 intro hc
 exact h2.2 (mem_take_iff.2 ⟨m,hm,by omega,h3⟩)
theorem later_in {v:Nat}(hv:v<g.length){x:Int}(h:x∈Al (L.getD v 0)):∃m:Nat,∃hm:m<o.length,o[m]=x∧0≤x∧x<g.length:=by
 have hl:=ho.len
 obtain⟨i,h1,h2⟩:=C8 ho hv
 obtain⟨w,_,h3,rfl⟩:=mem_elems.1 h
 have hlat:=hF.lat i v h1 h2 w
 unfold nb at hlat
 rw[hlat] at h3
 simp only[Bool.and_eq_true,decide_eq_true_eq] at h3
 have hw:=hF.f.lt v w hv h3.1
 obtain⟨m,h4,h5⟩:=C8 ho hw
 obtain⟨h6,h7⟩:=List.getElem?_eq_some_iff.1 h5
 exact⟨m,h6,h7,by omega,by omega⟩
noncomputable def By (o L:List Int)(i:Nat):List Int:=into (Al (L.getD (o.getD i 0).toNat 0)) (o.getD i 0)
noncomputable def Co (o L:List Int)(i:Nat):List Int:=BN (i:Int) ((nxt o (Al (L.getD (o.getD i 0).toNat 0)) i:Nat):Int)
omit hg ho hF in
theorem Ej (i:Nat):Co o L i=[(i:Int),((nxt o (Al (L.getD (o.getD i 0).toNat 0)) i:Nat):Int)]:=by
 have:=nxt_gt o (Al (L.getD (o.getD i 0).toNat 0)) i
 unfold Co BN
 rw[show min (i:Int) ((nxt o (Al (L.getD (o.getD i 0).toNat 0)) i:Nat):Int)=i by omega,show max (i:Int) ((nxt o (Al (L.getD (o.getD i 0).toNat 0)) i:Nat):Int)=((nxt o (Al (L.getD (o.getD i 0).toNat 0)) i:Nat):Int) by omega]
omit hg ho hF in
theorem nxt_le (l:List Int){i:Nat}(hi:i<o.length):nxt o l i≤o.length:=by
 have hk:=List.findIdx_le_length (p:=fun x=>decide (l=[])||decide (x∈l)) (xs:=o.drop (i+1))
 simp at hk
 unfold nxt;omega
theorem nxt_lt {i:Nat}(hi:i+1<o.length):nxt o (Al (L.getD (o.getD i 0).toNat 0)) i<o.length:=by
 have hio:i<o.length:=by omega
 have hl:=ho.len
 have hr:=ho.rng _ (List.getElem_mem hio)
 obtain⟨v,hv⟩:∃v:Nat,o[i]=(v:Int):=⟨o[i].toNat,by omega⟩
 have hvn:v<g.length:=by omega
 have hd:o.getD i 0=(v:Int):=by rw[Ay hio,hv]
 rw[hd,Int.toNat_natCast]
 have hin:=fun x hx=>later_in hg ho hF hvn (x:=x) hx
 have hps:=fun m hm hh=>later_pos hg ho hF (i:=i) (v:=v) (m:=m) (by rw[List.getElem?_eq_getElem hio,hv]) hm hh
 generalize Al (L.getD v 0)=l at hin hps ⊢
 have:(o.drop (i+1)).findIdx (fun x=>decide (l=[])||decide (x∈l))<(o.drop (i+1)).length:=by
  rw[List.findIdx_lt_length]
  by_cases hn:l=[]
  ·exact⟨(o.drop (i+1))[0]'(by simp;omega),List.getElem_mem _,by simp[hn]⟩
  ·obtain⟨x,hx⟩:=List.exists_mem_of_ne_nil _ hn
   obtain⟨m,hm,hmx,_⟩:=hin x hx
   have hp:=hps m hm (by rw[hmx];exact hx)
   refine⟨x,?_,by simp[hx]⟩
   have:(o.drop (i+1))[m-(i+1)]'(by simp;omega)=x:=by
    rw[List.getElem_drop,←hmx];congr 1;omega
   rw[←this];exact List.getElem_mem _
 unfold nxt
 simp at this
 omega
theorem Fp {i:Nat}(hi:i<o.length):BW (Co o L i):=by
 have h1:=nxt_le (o:=o) (Al (L.getD (o.getD i 0).toNat 0)) hi
 have h16:=hg.n16;have hl:=ho.len
 rw[Ej]
 refine⟨rfl,?_⟩
 simp only[List.getD_cons_zero,List.getD_cons_succ]
 omega
theorem lnkD_le {i j:Nat}(hij:i<j)(hj:j<o.length):A8 (Co o L i)≤A8 (Co o L j):=by
 have h1:=nxt_le (o:=o) (Al (L.getD (o.getD i 0).toNat 0)) (show i<o.length by omega)
 have h16:=hg.n16;have hl:=ho.len
 rw[Ej,Ej]
 unfold A8
 simp only[List.getD_cons_zero,List.getD_cons_succ]
 omega
theorem Fw {i v:Nat}(hi:i<o.length)(hv:o[i]=(v:Int))(hvn:v<g.length):Al (ior .u32 (L.getD v 0) (ishl .u32 1 (v:Int)))=By o L i:=by
 have h16:=hg.n16
 unfold By
 rw[Ay hi,hv,Int.toNat_natCast,into_elems' (hF.vsL v hvn) (by omega)]
theorem Et :D.u1 g o=some ((List.range o.length).map (By o L),(List.range (o.length-1)).map (Co o L),true):=by
 have h16:=hg.n16;have hl:=ho.len;have hn1:=hg.n1
 unfold D.u1
 rw[EI g o hg.sh2 (ho.sh hg),ES hg,(ordB_iff g o).2 ho,Option.bind_some,Bool.and_self,Bool.not_true,cond_false,l7Later_eq hg ho hF,Option.bind_some]
 refine(Bx (fun i=>((i:Int),(List.range i).map (By o L),(List.range (min i (o.length-1))).map (Co o L))) o.length ((List.range o.length).map (By o L),(List.range (o.length-1)).map (Co o L)) (by simp) (fun i hi=> ?_) ?_).trans rfl
 ·have hr:=ho.rng _ (List.getElem_mem hi)
  obtain⟨v,hv⟩:∃v:Nat,o[i]=(v:Int):=⟨o[i].toNat,by omega⟩
  have hvn:v<g.length:=by omega
  have hvL:v<L.length:=by rw[hF.lenL];exact hvn
  have hd:o.getD i 0=(v:Int):=by rw[Ay hi,hv]
  have he:=BR L[v]
  have hsh:Sh (Al L[v]):=by unfold Sh;omega
  have hgL:L.getD v 0=L[v]:=Ay hvL 0
  simp only[dlt hi,cond_true,Au hi,hv,Option.bind_some,Au (show v<(L.map Al).length by simpa using hvL),List.getElem_map,DU _ hsh,Ds _ _ (Bv _) (show (Al L[v]).length≤4294967295 by omega)]
  rw[AU (by simp;omega),Option.bind_some,wi (show i<4611686018427387904 by omega),to_loop o (Al L[v]) hsh (by omega) i hi,Option.bind_some]
  have eb:By o L i=into (Al L[v]) (v:Int):=by unfold By;rw[hd,Int.toNat_natCast,hgL]
  by_cases hlast:i+1<o.length
  ·have hx:=nxt_lt hg ho hF hlast
   have el:BN (i:Int) ((nxt o (Al L[v]) i:Nat):Int)=Co o L i:=by unfold Co;rw[hd,Int.toNat_natCast,hgL]
   rw[hd,Int.toNat_natCast,hgL] at hx
   rw[dlt hx,cond_true,Fo (fun x hx=> ?_) (by rw[el];exact Fp hg ho hF hi) (by simp;omega),Option.bind_some,el,ins_last (fun x hx=> ?_)]
   ·rw[show min i (o.length-1)=i by omega,show min (i+1) (o.length-1)=i+1 by omega,List.range_succ,List.map_append,List.map_append,List.map_singleton,List.map_singleton,eb]
   ·obtain⟨j,hj,rfl⟩:=List.mem_map.1 hx
    have:=List.mem_range.1 hj
    exact lnkD_le hg ho hF (by omega) hi
   ·obtain⟨j,hj,rfl⟩:=List.mem_map.1 hx
    have:=List.mem_range.1 hj
    exact Fp hg ho hF (by omega)
  ·have hx:nxt o (Al L[v]) i=o.length:=by
    have h1:=nxt_le (o:=o) (Al L[v]) hi
    have h2:=nxt_gt o (Al L[v]) i
    omega
   rw[hx,A4,cond_false,show min i (o.length-1)=o.length-1 by omega,show min (i+1) (o.length-1)=o.length-1 by omega,List.range_succ,List.map_append,List.map_singleton,eb]
 ·simp only[A4,cond_false]
  rw[show min o.length (o.length-1)=o.length-1 by omega]
theorem places_ok (l0:List Int)(hl0:l0.length=g.length):∃P,(Ao (σ:=(List Int)×Int) (ρ:=((List Int))) (fun(s_59:(List Int)×Int)=>match s_59 with|(l_62,x_65)=>cond (decide (x_65<(o.length:Int))) ((idx o x_65).bind fun e_86=>(idx l_62 e_86).bind fun e_92=>some (.inl ((l_62.set (Int.toNat e_86) x_65),(IntKind.i64.wrap (x_65+1))))) (some (.inr l_62))) (l0,0))=some P∧P.length=g.length∧∀i (h:i<o.length),P.getD (o[i]).toNat 0=(i:Int):=by
 have h16:=hg.n16;have hl:=ho.len
 have key:=AH (step:=(fun(s_59:(List Int)×Int)=>match s_59 with|(l_62,x_65)=>cond (decide (x_65<(o.length:Int))) ((idx o x_65).bind fun e_86=>(idx l_62 e_86).bind fun e_92=>some (.inl ((l_62.set (Int.toNat e_86) x_65),(IntKind.i64.wrap (x_65+1))))) (some (.inr l_62)))) (s:=(l0,0)) (k:=fun r=>some r) (Q:=fun P:List Int=>P.length=g.length∧∀i (h:i<o.length),P.getD (o[i]).toNat 0=(i:Int))
  (fun s=>∃i:Nat,s.2=(i:Int)∧i≤o.length∧s.1.length=g.length∧∀j (h:j<o.length),j<i→s.1.getD (o[j]).toNat 0=(j:Int)) (fun s=>o.length-s.2.toNat) (fun P=>P.length=g.length∧∀i (h:i<o.length),P.getD (o[i]).toNat 0=(i:Int)) ?_ ⟨0,rfl,by omega,hl0,fun j _ h=>by omega⟩ (fun r hr=>⟨r,rfl,hr⟩)
 ·obtain⟨y,hy,hq⟩:=key
  rw[Option.bind_eq_some_iff] at hy
  obtain⟨z,h1,h2⟩:=hy
  cases h2
  exact⟨_,h1,hq⟩
 ·rintro⟨P,_⟩ ⟨i,rfl,hi,hP,hPp⟩
  dsimp only at hP hPp ⊢
  by_cases hil:i<o.length
  ·have hr:=ho.rng _ (List.getElem_mem hil)
   obtain⟨v,hv⟩:∃v:Nat,o[i]=(v:Int):=⟨o[i].toNat,by omega⟩
   have hvn:v<g.length:=by omega
   simp only[dlt hil,cond_true,Au hil,hv,Option.bind_some,Au (show v<P.length by omega),Int.toNat_natCast,wi (show i<4611686018427387904 by omega)]
   refine⟨_,rfl,⟨i+1,rfl,hil,by simpa using hP,fun j hj hji=> ?_⟩,by dsimp only;omega⟩
   dsimp only
   rw[CF _ _ _ _ (by omega)]
   have hrj:=ho.rng _ (List.getElem_mem hj)
   by_cases e:j=i
   ·subst e;rw[hv];simp
   ·rw[if_neg]
    ·exact hPp j hj (by omega)
    ·intro hc
     have:o[j]=o[i]:=by omega
     exact e (Cv ho.nd hj hil this)
  ·obtain rfl:i=o.length:=by omega
   simp only[A4,cond_false]
   exact⟨_,rfl,hP,fun j hj=>hPp j hj hj⟩
theorem least_ok {P l:List Int}{i:Nat}(hi:i<o.length)(hP:P.length=g.length)(hPp:∀i (h:i<o.length),P.getD (o[i]).toNat 0=(i:Int))(hl32:l.length≤32)
  (hin:∀x∈l,∃m:Nat,∃hm:m<o.length,o[m]=x∧0≤x∧x<g.length) (hpos:∀m (hm:m<o.length),o[m]∈l→i+1≤m):
  (Ao (σ:=Int×Int) (ρ:=(Int)) (fun(s_1068:Int×Int)=>match s_1068 with|(x_1071,x_1072)=>cond (decide (x_1072<(l.length:Int))) ((idx l x_1072).bind fun e_1115=>(cond (x_1072==0) (some true) ((idx P e_1115).bind fun e_1138=>some (decide (e_1138<x_1071)))).bind fun b_1136=>cond b_1136 ((idx P e_1115).bind fun e_1145=>some (.inl (e_1145,(IntKind.i64.wrap (x_1072+1))))) (some (.inl (x_1071,(IntKind.i64.wrap (x_1072+1)))))) (some (.inr x_1071))) (((i+1:Nat):Int),0))=some ((nxt o l i:Nat):Int):=by
 have key:=AH (step:=(fun(s_1068:Int×Int)=>match s_1068 with|(x_1071,x_1072)=>cond (decide (x_1072<(l.length:Int))) ((idx l x_1072).bind fun e_1115=>(cond (x_1072==0) (some true) ((idx P e_1115).bind fun e_1138=>some (decide (e_1138<x_1071)))).bind fun b_1136=>cond b_1136 ((idx P e_1115).bind fun e_1145=>some (.inl (e_1145,(IntKind.i64.wrap (x_1072+1))))) (some (.inl (x_1071,(IntKind.i64.wrap (x_1072+1)))))) (some (.inr x_1071)))) (s:=(((i+1:Nat):Int),0)) (k:=fun r=>some r) (Q:=fun x=>x=((nxt o l i:Nat):Int))
  (fun s=>∃k:Nat,s.2=(k:Int)∧k≤l.length∧(k=0→s.1=((i+1:Nat):Int))∧(0<k→∃m:Nat,s.1=(m:Int)∧(∃hm:m<o.length,o[m]∈l.take k)∧∀m' (hm':m'<o.length),o[m']∈l.take k→m≤m')) (fun s=>l.length-s.2.toNat) (fun x=>x=((nxt o l i:Nat):Int)) ?_ ⟨0,rfl,by omega,fun _=>rfl,fun h=>by omega⟩ (fun r hr=>⟨r,rfl,hr⟩)
 ·obtain⟨y,hy,hq⟩:=key
  rw[Option.bind_eq_some_iff] at hy
  obtain⟨z,h1,h2⟩:=hy
  cases h2
  rw[h1,hq]
 ·rintro⟨x,_⟩ ⟨k,rfl,hk,h0,h1⟩
  dsimp only at h0 h1 ⊢
  by_cases hkl:k<l.length
  ·obtain⟨m,hm,hmx,hx0,hxg⟩:=hin _ (List.getElem_mem hkl)
   have hidx:idx P l[k]=some (m:Int):=by
    rw[idx_int hx0 (by omega)]
    have:=hPp m hm
    rw[hmx,Ay (by omega)] at this
    rw[this]
   have hnew:∀m' (hm':m'<o.length),o[m']∈l.take (k+1)→o[m']∈l.take k∨m'=m:=fun m' hm' hh=>by
    rw[List.take_succ_eq_append_getElem hkl,List.mem_append] at hh
    rcases hh with hh|hh
    ·exact .inl hh
    ·right
     simp at hh
     rw[←hmx] at hh
     exact Cv ho.nd hm' hm hh
   have hmm:o[m]∈l.take (k+1):=by
    rw[List.take_succ_eq_append_getElem hkl,List.mem_append,hmx];right;simp
   simp only[dlt hkl,cond_true,Au hkl,Option.bind_some,hidx,wi (show k<4611686018427387904 by omega)]
   rcases Nat.eq_zero_or_pos k with e|e
   ·subst e
    refine⟨.inl ((m:Int),((0+1:Nat):Int)),rfl,⟨1,rfl,by omega,fun h=>by omega,fun _=>⟨m,rfl,⟨hm,hmm⟩,fun m' hm' hh=> ?_⟩⟩,by dsimp only;omega⟩
    rcases hnew m' hm' hh with h|h
    ·simp at h
    ·omega
   ·have ek:(((k:Nat):Int)==0)=false:=by simp;omega
    obtain⟨q,rfl,⟨hq,hql⟩,hqm⟩:=h1 e
    rw[ek,cond_false,Option.bind_some]
    by_cases hlt:(m:Int)<(q:Int)
    ·rw[decide_eq_true hlt,cond_true]
     refine⟨_,rfl,⟨k+1,rfl,hkl,fun h=>by omega,fun _=>⟨m,rfl,⟨hm,hmm⟩,fun m' hm' hh=> ?_⟩⟩,by dsimp only;omega⟩
     rcases hnew m' hm' hh with h|h
     ·have:=hqm m' hm' h;omega
     ·omega
    ·rw[decide_eq_false hlt,cond_false]
     refine⟨_,rfl,⟨k+1,rfl,hkl,fun h=>by omega,fun _=>⟨q,rfl,⟨hq,?_⟩,fun m' hm' hh=> ?_⟩⟩,by dsimp only;omega⟩
     ·rw[List.take_succ_eq_append_getElem hkl,List.mem_append];exact .inl hql
     ·rcases hnew m' hm' hh with h|h
      ·exact hqm m' hm' h
      ·omega
  ·obtain rfl:k=l.length:=by omega
   simp only[A4,cond_false]
   refine⟨_,rfl,?_⟩
   show x=_
   by_cases hn:l=[]
   ·subst hn
    rw[h0 rfl]
    unfold nxt
    cases hd:o.drop (i+1) with
    |nil=>simp
    |cons a t=>simp[List.findIdx_cons]
   ·obtain⟨m,rfl,⟨hm,hml⟩,hmin⟩:=h1 (List.length_pos_iff.2 hn)
    rw[List.take_length] at hml
    simp only[List.take_length] at hmin
    have hmp:=hpos m hm hml
    have:(o.drop (i+1)).findIdx (fun x=>decide (l=[])||decide (x∈l))=m-(i+1):=by
     rw[List.findIdx_eq (by simp;omega)]
     refine⟨?_,fun j hj=> ?_⟩
     ·have:(o.drop (i+1))[m-(i+1)]'(by simp;omega)=o[m]:=by
       rw[List.getElem_drop];congr 1;omega
      rw[this];simp[hml]
     ·rw[List.getElem_drop]
      simp only[hn,decide_false,Bool.false_or,decide_eq_false_iff_not]
      intro hh
      have:=hmin (i+1+j) (by omega) hh
      omega
    unfold nxt
    rw[this]
    omega
theorem F4 :D.M (g.map mk) o=some ((List.range o.length).map (By o L),(List.range (o.length-1)).map (Co o L)):=by
 have h16:=hg.n16;have hl:=ho.len;have hn1:=hg.n1
 unfold D.M
 rw[hF.elim,Option.bind_some,CE (by omega) (by omega),Option.bind_some]
 obtain⟨P,e1,hP,hPp⟩:=places_ok hg ho hF (List.replicate o.length 0) (by simpa using hl)
 rw[e1,Option.bind_some]
 have hsort:CC ((List.range (o.length-1)).map (Co o L))=some ((List.range (o.length-1)).map (Co o L)):=by
  refine sortRows_ok (by simp;omega) (fun x hx=> ?_) (List.Perm.refl _) ?_
  ·obtain⟨j,hj,rfl⟩:=List.mem_map.1 hx
   have:=List.mem_range.1 hj
   exact Fp hg ho hF (by omega)
  ·rw[List.pairwise_map]
   refine List.pairwise_lt_range.imp_of_mem (fun{a b} ha hb hab=> ?_)
   have:=List.mem_range.1 hb
   exact lnkD_le hg ho hF hab (by omega)
 refine(Bx (fun i=>((i:Int),(List.range i).map (By o L),(List.range i).map (Co o L))) (o.length-1) ((List.range o.length).map (By o L),(List.range (o.length-1)).map (Co o L)) (by simp) (fun i hi=> ?_) ?_).trans ?_
 ·have hio:i<o.length:=by omega
  have hr:=ho.rng _ (List.getElem_mem hio)
  obtain⟨v,hv⟩:∃v:Nat,o[i]=(v:Int):=⟨o[i].toNat,by omega⟩
  have hvn:v<g.length:=by omega
  have hvL:v<L.length:=by rw[hF.lenL];exact hvn
  have hd:o.getD i 0=(v:Int):=by rw[Ay hio,hv]
  have hgL:L.getD v 0=L[v]:=Ay hvL 0
  have hlast:(((i:Nat):Int)==IntKind.i64.wrap ((o.length:Int)-1))=false:=by
   rw[w64 (by omega) (by omega)];simp;omega
  have hvs:=hF.vsL v hvn
  have hbag:=Fw hg ho hF hio hv hvn
  rw[hgL] at hvs hbag
  have he:=BR L[v]
  simp only[dlt hio,cond_true,Au hio,hv,Option.bind_some,Au hvL,BH,DD _ (VS.ior _ _),hbag,hlast,cond_false,C9 _ hvs]
  rw[AU (by simp;omega),Option.bind_some,wi (show i<4611686018427387904 by omega)]
  rw[least_ok hg ho hF hio hP hPp (by omega) (fun x hx=>later_in hg ho hF hvn (by rw[hgL];exact hx)) (fun m hm hh=>later_pos hg ho hF (i:=i) (v:=v) (by rw[List.getElem?_eq_getElem hio,hv]) hm (by rw[hgL];exact hh)),Option.bind_some,Fh,Option.bind_some,AU (by simp;omega),Option.bind_some]
  have el:BN (i:Int) ((nxt o (Al L[v]) i:Nat):Int)=Co o L i:=by unfold Co;rw[hd,Int.toNat_natCast,hgL]
  rw[el,List.range_succ,List.map_append,List.map_append,List.map_singleton,List.map_singleton]
 ·have hio:o.length-1<o.length:=by omega
  have hr:=ho.rng _ (List.getElem_mem hio)
  obtain⟨v,hv⟩:∃v:Nat,o[o.length-1]=(v:Int):=⟨o[o.length-1].toNat,by omega⟩
  have hvn:v<g.length:=by omega
  have hvL:v<L.length:=by rw[hF.lenL];exact hvn
  have hgL:L.getD v 0=L[v]:=Ay hvL 0
  have hlast:(((o.length-1:Nat):Int)==IntKind.i64.wrap ((o.length:Int)-1))=true:=by
   rw[w64 (by omega) (by omega)];simp;omega
  have hbag:=Fw hg ho hF hio hv hvn
  rw[hgL] at hbag
  simp only[dlt hio,cond_true,Au hio,hv,Option.bind_some,Au hvL,BH,DD _ (VS.ior _ _),hbag,hlast]
  rw[AU (by simp;omega),Option.bind_some]
  have:(List.range o.length).map (By o L)=(List.range (o.length-1)).map (By o L)++[By o L (o.length-1)]:=by
   have e:o.length=(o.length-1)+1:=by omega
   conv=>lhs;rw[e,List.range_succ,List.map_append,List.map_singleton]
  rw[this]
 ·simp only[hsort,Option.bind_some]
theorem F2 :D.K1 g o=some ((List.range o.length).map (By o L),(List.range (o.length-1)).map (Co o L),true):=by
 unfold D.K1
 rw[Dg hg ho,Option.bind_some,Bool.not_true,cond_false,C5 g hg,Option.bind_some,FG o (ho.sh hg),Option.bind_some,F4 hg ho hF,Option.bind_some]
end
end Go.Sx

namespace Go.Sx
theorem conn_up {links:List (List Int)}{sel:List Int}{n:Nat}(hr:∀x∈sel,∃i:Nat,x=i∧i<n)(p:Int)(hp:p∈sel)(hup:∀x∈sel,x≠p→∃y∈sel,x<y∧Lk links x y):DC links sel:=by
 intro m hm
 have hs:∀x y,x∈sel→y∈sel→Lk links x y→(x∈m↔y∈m):=fun x y hx hy h=>
  ⟨fun hxm=>hm.step x hxm y hy h,fun hym=>hm.step y hym x hx (Or.elim h (fun h=>Or.inr h) (fun h=>Or.inl h))⟩
 have key:∀(k:Nat) (x:Int),x∈sel→n-x.toNat≤k→(x∈m↔p∈m):=by
  intro k
  induction k with
  |zero=>intro x hx hk;obtain⟨i,rfl,hi⟩:=hr x hx;omega
  |succ k ih=>
   intro x hx hk
   by_cases hxp:x=p
   ·rw[hxp]
   ·obtain⟨y,hy,hxy,hl⟩:=hup x hx hxp
    rw[hs x y hx hy hl]
    obtain⟨i,rfl,hi⟩:=hr x hx
    obtain⟨j,rfl,hj⟩:=hr y hy
    exact ih _ hy (by omega)
 have hpm:p∈m:=by
  cases hsel:sel with
  |nil=>rw[hsel] at hp;simp at hp
  |cons x0 t=>
   have h0:x0∈m:=hm.first x0 (by rw[hsel];rfl)
   exact(key n x0 (by rw[hsel];simp) (by omega)).1 h0
 exact fun x hx=>(key n x hx (by omega)).2 hpm
section
variable {g : List (List Int)} {o F L : List Int} (hg : GOk g) (ho : OOk g o) (hF : Fill g o F L)
include hg ho hF
theorem C4 {i v:Nat}(hi:i<o.length)(hv:o[i]=(v:Int)){w:Nat}:(w:Int)∈By o L i↔w=v∨(nb F v w=true∧(w:Int)∉o.take (i+1)):=by
 have hl:=ho.len
 have hr:=ho.rng _ (List.getElem_mem hi)
 unfold By
 rw[Ay hi,hv,Int.toNat_natCast,mem_into,AZ (hF.vsL v (by omega))]
 have:=hF.lat i v (by omega) (by rw[List.getElem?_eq_getElem hi,hv]) w
 unfold nb at this ⊢
 rw[this,Bool.and_eq_true,decide_eq_true_eq]
 constructor
 ·rintro(h|h)
  ·exact .inl (by omega)
  ·exact .inr h
 ·rintro(h|h)
  ·exact .inl (by rw[h])
  ·exact .inr h
theorem bagD_pos {i w:Nat}(hi:i<o.length)(h:(w:Int)∈By o L i):∃m,∃hm:m<o.length,o[m]=(w:Int)∧i≤m:=by
 have hl:=ho.len
 have hr:=ho.rng _ (List.getElem_mem hi)
 obtain⟨v,hv⟩:∃v:Nat,o[i]=(v:Int):=⟨o[i].toNat,by omega⟩
 rcases(C4 hg ho hF hi hv).1 h with rfl|⟨h1,h2⟩
 ·exact⟨i,hi,hv,Nat.le_refl _⟩
 ·have hwn:=hF.f.lt v w (by omega) h1
  obtain⟨m,hm,e⟩:=C8 ho hwn
  obtain⟨hm',e'⟩:=List.getElem?_eq_some_iff.1 e
  refine⟨m,hm',e',?_⟩
  apply Classical.byContradiction
  intro hc
  exact h2 (mem_take_iff.2 ⟨m,hm',by omega,e'⟩)
theorem nxt_first {i:Nat}(hi:i<o.length){w m:Nat}(hm:m<o.length)(e:o[m]=(w:Int))(him:i<m)(h:(w:Int)∈By o L i):nxt o (Al (L.getD (o.getD i 0).toNat 0)) i≤m∧∃hx:nxt o (Al (L.getD (o.getD i 0).toNat 0)) i<o.length,o[nxt o (Al (L.getD (o.getD i 0).toNat 0)) i]∈By o L i:=by
 have hb:(w:Int)∈Al (L.getD (o.getD i 0).toNat 0):=by
  unfold By at h
  rcases mem_into.1 h with h|h
  ·have hr:=Ay hi 0
   rw[hr] at h
   have:=Cv ho.nd hm hi (by rw[e,h])
   omega
  ·exact h
 generalize hls:Al (L.getD (o.getD i 0).toNat 0)=l at hb
 have hdl:(o.drop (i+1))[m-(i+1)]'(by simp;omega)=(w:Int):=by
  rw[List.getElem_drop,←e];congr 1;omega
 have h1:(o.drop (i+1)).findIdx (fun x=>decide (l=[])||decide (x∈l))≤m-(i+1):=by
  apply Classical.byContradiction
  intro hc
  have:=List.not_of_lt_findIdx (p:=fun x=>decide (l=[])||decide (x∈l)) (xs:=o.drop (i+1)) (i:=m-(i+1)) (by omega)
  rw[hdl] at this
  simp[hb] at this
 have h2:(o.drop (i+1)).findIdx (fun x=>decide (l=[])||decide (x∈l))<(o.drop (i+1)).length:=by simp;omega
 have h3:=List.findIdx_getElem (w:=h2)
 have hne:l≠[]:=fun e=>by rw[e] at hb;simp at hb
 rw[Bool.or_eq_true,decide_eq_true_eq,decide_eq_true_eq] at h3
 have h3:=h3.resolve_left hne
 rw[List.getElem_drop] at h3
 unfold nxt
 refine⟨by omega,by omega,?_⟩
 unfold By
 rw[hls]
 exact mem_into.2 (.inr h3)
theorem bagD_next {i w m:Nat}(hi:i<o.length)(hm:m<o.length)(e:o[m]=(w:Int))(him:i<m)(h:(w:Int)∈By o L i):∃j,j<o.length∧i<j∧i+1<o.length∧Co o L i=[(i:Int),(j:Int)]∧(w:Int)∈By o L j:=by
 have hl:=ho.len
 obtain⟨h1,h2,h3⟩:=nxt_first hg ho hF hi hm e him h
 have hgt:=nxt_gt o (Al (L.getD (o.getD i 0).toNat 0)) i
 refine⟨nxt o (Al (L.getD (o.getD i 0).toNat 0)) i,h2,hgt,by omega,Ej i,?_⟩
 generalize nxt o (Al (L.getD (o.getD i 0).toNat 0)) i=j at*
 have hri:=ho.rng _ (List.getElem_mem hi);have hrj:=ho.rng _ (List.getElem_mem h2)
 obtain⟨v,hv⟩:∃v:Nat,o[i]=(v:Int):=⟨o[i].toNat,by omega⟩
 obtain⟨u,hu⟩:∃u:Nat,o[j]=(u:Int):=⟨o[j].toNat,by omega⟩
 rw[hu] at h3
 by_cases hjm:j=m
 ·subst hjm
  rw[C4 hg ho hF h2 hu]
  left;omega
 ·have hnp:∀{a b:Nat} {x:Nat} (hb:b<o.length),o[b]=(x:Int)→a≤b→(x:Int)∉o.take a:=by
   intro a b x hb ex hab hc
   obtain⟨c,hc1,hc2,hc3⟩:=mem_take_iff.1 hc
   have:=Cv ho.nd hc1 hb (by rw[hc3,ex])
   omega
  have hwv:w≠v:=fun e2=>by
   have:=Cv ho.nd hm hi (by rw[e,hv,e2]);omega
  have huv:u≠v:=fun e2=>by
   have:=Cv ho.nd h2 hi (by rw[hu,hv,e2]);omega
  have huw:u≠w:=fun e2=>hjm (Cv ho.nd h2 hm (by rw[hu,e,e2]))
  have hw1:nb F v w=true:=by
   rcases(C4 hg ho hF hi hv).1 h with h|h
   ·exact absurd h hwv
   ·exact h.1
  have hu1:nb F v u=true:=by
   rcases(C4 hg ho hF hi hv).1 h3 with h|h
   ·exact absurd h huv
   ·exact h.1
  have hp:=hF.peo i v u w (by rw[List.getElem?_eq_getElem hi,hv]) hu1 hw1 (hnp h2 hu (by omega)) (hnp hm e (by omega)) huw
  exact(C4 hg ho hF h2 hu).2 (.inr ⟨hp,hnp hm e (by omega)⟩)
theorem DecompBy_TB :TB g ((List.range o.length).map (By o L)) ((List.range (o.length-1)).map (Co o L)):=by
 have hl:=ho.len;have hn1:=hg.n1;have hn16:=hg.n16
 have hbl:((List.range o.length).map (By o L)).length=o.length:=by simp
 have hbg:∀i,i<o.length→((List.range o.length).map (By o L)).getD i []=By o L i:=fun i hi=>by rw[Ay (by simpa using hi)];simp
 have hlk:∀i,i+1<o.length→Co o L i∈(List.range (o.length-1)).map (Co o L):=fun i hi=>List.mem_map.2 ⟨i,List.mem_range.2 (by omega),rfl⟩
 have hwith:∀(v:Nat) (x:Int),x∈Cf ((List.range o.length).map (By o L)) (v:Int)↔∃b:Nat,x=b∧b<o.length∧(v:Int)∈By o L b:=fun v x=>by
  rw[mem_withV,hbl]
  constructor
  ·rintro⟨b,h1,h2,h3⟩;rw[hbg b h2] at h3;exact⟨b,h1,h2,h3⟩
  ·rintro⟨b,h1,h2,h3⟩;exact⟨b,h1,h2,by rw[hbg b h2];exact h3⟩
 have hself:∀(p v:Nat) (hp:p<o.length),o[p]=(v:Int)→(v:Int)∈By o L p:=fun p v hp e=>(C4 hg ho hF hp e).2 (.inl rfl)
 refine⟨by omega,by omega,by simp;omega,fun l h=> ?_,fun b h=> ?_,?_,fun u v hu ha=> ?_,fun v hv=> ?_,fun v hv=> ?_⟩
 ·obtain⟨i,hi,rfl⟩:=List.mem_map.1 h
  have hi:=List.mem_range.1 hi
  have:=nxt_lt hg ho hF (show i+1<o.length by omega)
  have:=nxt_gt o (Al (L.getD (o.getD i 0).toNat 0)) i
  exact⟨i,_,Ej i,by omega,by omega⟩
 ·obtain⟨i,hi,rfl⟩:=List.mem_map.1 h
  have hi:=List.mem_range.1 hi
  have hr:=ho.rng _ (List.getElem_mem hi)
  refine⟨(Bv _).into _,fun x hx=> ?_⟩
  have hx0:0≤x:=by
   unfold By at hx
   rcases mem_into.1 hx with hx|hx
   ·rw[hx,Ay hi];omega
   ·obtain⟨w,_,_,rfl⟩:=mem_elems.1 hx;omega
  obtain⟨m,hm,e,_⟩:=bagD_pos hg ho hF hi (w:=x.toNat) (by rw[show ((x.toNat:Nat):Int)=x by omega];exact hx)
  have:=ho.rng _ (List.getElem_mem hm)
  omega
 ·rw[hbl]
  refine conn_up (n:=o.length) (fun x hx=> ?_) ((o.length-1:Nat):Int) (List.mem_map.2 ⟨o.length-1,List.mem_range.2 (by omega),rfl⟩) (fun x hx hne=> ?_)
  ·obtain⟨i,hi,rfl⟩:=List.mem_map.1 hx
   exact⟨i,rfl,List.mem_range.1 hi⟩
  ·obtain⟨i,hi,rfl⟩:=List.mem_map.1 hx
   have hi:=List.mem_range.1 hi
   have hi2:i+1<o.length:=by
    apply Classical.byContradiction
    intro hc
    exact hne (by show (i:Int)=_;congr 1;omega)
   have h1:=nxt_lt hg ho hF hi2
   have h2:=nxt_gt o (Al (L.getD (o.getD i 0).toNat 0)) i
   refine⟨_,List.mem_map.2 ⟨_,List.mem_range.2 h1,rfl⟩,?_,.inl ?_⟩
   ·show (i:Int)<((_:Nat):Int)
    omega
   ·have:=hlk i hi2
    rw[Ej] at this
    exact this
 ·have hv:=hg.lt hu ha
  obtain⟨p,hp,ep⟩:=C8 ho hu
  obtain⟨q,hq,eq⟩:=C8 ho hv
  obtain⟨hp',ep'⟩:=List.getElem?_eq_some_iff.1 ep
  obtain⟨hq',eq'⟩:=List.getElem?_eq_some_iff.1 eq
  have hne:u≠v:=fun e=>hg.irr u hu (by rw[e] at ha ⊢;exact ha)
  have hmn:=hF.mono u v hu ha
  have hmn2:=hF.f.sym u v hu hmn
  have hbm:∀i,i<o.length→By o L i∈(List.range o.length).map (By o L):=fun i hi=>List.mem_map.2 ⟨i,List.mem_range.2 hi,rfl⟩
  have hnp:∀{a b:Nat} {x:Nat} (hb:b<o.length),o[b]=(x:Int)→a≤b→(x:Int)∉o.take a:=by
   intro a b x hb ex hab hc
   obtain⟨c,hc1,hc2,hc3⟩:=mem_take_iff.1 hc
   have:=Cv ho.nd hc1 hb (by rw[hc3,ex])
   omega
  rcases Nat.lt_trichotomy p q with c|c|c
  ·exact⟨_,hbm p hp',hself p u hp' ep',(C4 hg ho hF hp' ep').2 (.inr ⟨hmn,hnp hq' eq' (by omega)⟩)⟩
  ·subst c;rw[ep'] at eq';omega
  ·exact⟨_,hbm q hq',(C4 hg ho hF hq' eq').2 (.inr ⟨hmn2,hnp hp' ep' (by omega)⟩),hself q v hq' eq'⟩
 ·obtain⟨p,hp,ep⟩:=C8 ho hv
  obtain⟨hp',ep'⟩:=List.getElem?_eq_some_iff.1 ep
  intro hc
  have:=(hwith v p).2 ⟨p,rfl,hp',hself p v hp' ep'⟩
  rw[hc] at this
  simp at this
 ·obtain⟨p,hp,ep⟩:=C8 ho hv
  obtain⟨hp',ep'⟩:=List.getElem?_eq_some_iff.1 ep
  refine conn_up (n:=o.length) (fun x hx=> ?_) (p:Int) ((hwith v p).2 ⟨p,rfl,hp',hself p v hp' ep'⟩) (fun x hx hne=> ?_)
  ·obtain⟨b,rfl,hb,_⟩:=(hwith v x).1 hx
   exact⟨b,rfl,hb⟩
  ·obtain⟨b,rfl,hb,hvb⟩:=(hwith v x).1 hx
   obtain⟨m,hm,em,hbm⟩:=bagD_pos hg ho hF hb hvb
   have hmp:m=p:=Cv ho.nd hm hp' (by rw[em,ep'])
   subst hmp
   have hbp:b≠m:=fun e=>hne (by rw[e])
   obtain⟨j,hj,hbj,hb1,hlj,hvj⟩:=bagD_next hg ho hF hb hm em (by omega) hvb
   refine⟨(j:Int),(hwith v j).2 ⟨j,rfl,hj,hvj⟩,by omega,.inl ?_⟩
   have:=hlk b hb1
   rw[hlj] at this
   exact this
end
end Go.Sx

namespace Go.Sx
theorem Lk.symm {links:List (List Int)}{x y:Int}(h:Lk links x y):Lk links y x:=Or.elim h (fun h=>Or.inr h) (fun h=>Or.inl h)
theorem conn_iff {links:List (List Int)}{sel:List Int}:DC links sel↔∀T:Int→Prop,(∃x∈sel,T x)→(∀x y,x∈sel→y∈sel→T x→Lk links x y→T y)→∀x∈sel,T x:=by
 constructor
 ·intro h T ⟨x0,hx0,hT⟩ hs
  classical
  have hall:∀U:Int→Prop,(∀x,sel.head? =some x→U x)→(∀x y,x∈sel→y∈sel→U x→Lk links x y→U y)→∀x∈sel,U x:=fun U h1 h2 x hx=>by
   have:=h (sel.filter fun z=>decide (U z)) ⟨fun z hz=>(List.mem_filter.1 hz).1,fun z hz=>List.mem_filter.2 ⟨List.mem_of_mem_head? hz,decide_eq_true (h1 z hz)⟩,fun a ha b hb hl=>by
    have ha:=List.mem_filter.1 ha
    exact List.mem_filter.2 ⟨hb,decide_eq_true (h2 a b ha.1 hb (of_decide_eq_true ha.2) hl)⟩⟩ x hx
   exact of_decide_eq_true (List.mem_filter.1 this).2
  cases hsel:sel with
  |nil=>intro x hx;simp at hx
  |cons z t=>
   rw[←hsel]
   have hz:T z:=by
    apply Classical.byContradiction
    intro hc
    have:=hall (fun x=>¬T x) (fun x hx=>by rw[hsel] at hx;simp at hx;rw[←hx];exact hc) (fun a b ha hb hna hl hTb=>hna (hs b a hb ha hTb hl.symm)) x0 hx0
    exact this hT
   exact hall T (fun x hx=>by rw[hsel] at hx;simp at hx;rw[←hx];exact hz) hs
 ·intro h m hm x hx
  cases hsel:sel with
  |nil=>rw[hsel] at hx;simp at hx
  |cons z t=>
   exact h (fun z=>z∈m) ⟨z,by rw[hsel];simp,hm.first z (by rw[hsel];rfl)⟩ (fun a b _ hb ha hl=>hm.step a ha b hb hl) x hx
theorem conn_map {K K':List (List Int)}{sel sel':List Int}(φ:Int→Int)(h:DC K sel)(h1:∀x∈sel,φ x∈sel')(h2:∀y∈sel',∃x∈sel,φ x=y)(h3:∀x y,x∈sel→y∈sel→Lk K x y→φ x=φ y∨Lk K' (φ x) (φ y)):DC K' sel':=by
 rw[conn_iff] at h ⊢
 intro T ⟨y0,hy0,hT⟩ hs y hy
 obtain⟨x0,hx0,rfl⟩:=h2 y0 hy0
 obtain⟨x,hx,rfl⟩:=h2 y hy
 refine h (fun z=>T (φ z)) ⟨x0,hx0,hT⟩ (fun a b ha hb hTa hl=> ?_) x hx
 rcases h3 a b ha hb hl with e|e
 ·rw[←e];exact hTa
 ·exact hs _ _ (h1 a ha) (h1 b hb) hTa e
theorem countP_lt {α:Type}{p q:α→Bool}:∀{l:List α},(∀x∈l,p x=true→q x=true)→(∃x∈l,q x=true∧p x=false)→l.countP p+1≤l.countP q
 |[],_,h=>by obtain⟨x,hx,_⟩:=h;simp at hx
 |a::l,h1,h2=>by
  have hm:l.countP p≤l.countP q:=List.countP_mono_left fun x hx=>h1 x (List.mem_cons_of_mem _ hx)
  obtain⟨x,hx,hq,hp⟩:=h2
  rw[List.countP_cons,List.countP_cons]
  rcases List.mem_cons.1 hx with rfl|hx
  ·rw[hq,hp];simp;omega
  ·have:=countP_lt (fun x hx=>h1 x (List.mem_cons_of_mem _ hx)) ⟨x,hx,hq,hp⟩
   have h3:=h1 a (List.mem_cons_self ..)
   cases hpa:p a
   ·cases q a<;>simp<;>omega
   ·rw[h3 hpa];simp;omega
theorem conn_many {links:List (List Int)}{sel:List Int}(hn:sel.Nodup)(h:DC links sel):sel.length≤links.length+1:=by
 rw[conn_iff] at h
 have key:∀k,k+1≤sel.length→∃T:List Int,T.Nodup∧(∀x∈T,x∈sel)∧T.length=k+1∧k≤links.countP (fun l=>decide (l.getD 0 0∈T)&&decide (l.getD 1 0∈T)):=by
  intro k
  induction k with
  |zero=>
   intro hk
   have hs:0<sel.length:=by omega
   exact⟨[sel[0]],by simp,fun x hx=>by simp at hx;rw[hx];exact List.getElem_mem hs,rfl,by omega⟩
  |succ k ih=>
   intro hk
   obtain⟨T,hT1,hT2,hT3,hT4⟩:=ih (by omega)
   have hex:∃x y,x∈T∧y∈sel∧y∉T∧Lk links x y:=by
    apply Classical.byContradiction
    intro hc
    have hall:=h (fun z=>z∈T) ⟨T[0]'(by omega),hT2 _ (List.getElem_mem _),List.getElem_mem _⟩ (fun x y _ hy hx hl=>by
     apply Classical.byContradiction
     intro hy2
     exact hc ⟨x,y,hx,hy,hy2,hl⟩)
    have:=B4 hn hall
    omega
   obtain⟨x,y,hx,hy,hyT,hl⟩:=hex
   refine⟨y::T,List.nodup_cons.2 ⟨hyT,hT1⟩,fun z hz=> ?_,by simp[hT3],?_⟩
   ·rcases List.mem_cons.1 hz with rfl|hz
    ·exact hy
    ·exact hT2 z hz
   ·refine Nat.le_trans (Nat.succ_le_succ hT4) (countP_lt (fun l _ hl=> ?_) ?_)
    ·simp only[Bool.and_eq_true,decide_eq_true_eq] at hl ⊢
     exact⟨List.mem_cons_of_mem _ hl.1,List.mem_cons_of_mem _ hl.2⟩
    ·rcases hl with hl|hl
     ·exact⟨[x,y],hl,by simp[hx],by simp[hyT]⟩
     ·exact⟨[y,x],hl,by simp[hx],by simp[hyT]⟩
 cases hs:sel.length with
 |zero=>omega
 |succ k=>
  obtain⟨T,_,_,_,h4⟩:=key k (by omega)
  have:=List.countP_le_length (p:=fun l:List Int=>decide (l.getD 0 0∈T)&&decide (l.getD 1 0∈T)) (l:=links)
  omega
theorem conn_perm {K K':List (List Int)}{sel:List Int}(h:DC K sel)(hp:∀x y,Lk K x y→Lk K' x y):DC K' sel:=
 conn_map id h (fun x hx=>hx) (fun y hy=>⟨y,hy,rfl⟩) (fun x y _ _ hl=> .inr (hp x y hl))
theorem TB.perm {g B K K':List (List Int)}(h:TB g B K)(p:K'.Perm K):TB g B K':=by
 have hl:∀x y,Lk K x y→Lk K' x y:=fun x y hl=>Or.elim hl (fun h=>Or.inl (p.mem_iff.2 h)) (fun h=>Or.inr (p.mem_iff.2 h))
 exact⟨h.n1,h.n16,by rw[p.length_eq];exact h.many,fun l hl'=>h.lks l (p.mem_iff.1 hl'),h.sets,conn_perm h.tree hl,h.edges,h.some,fun v hv=>conn_perm (h.conn v hv) hl⟩
def phi (g k:Nat)(x:Nat):Nat:=if g<(if x=g then k else x) then(if x=g then k else x)-1 else(if x=g then k else x)
theorem FM (g k x:Nat):ren (g:Int) (k:Int) (x:Int)=((phi g k x:Nat):Int):=by
 unfold ren phi
 by_cases h:x=g
 ·simp only[h,if_true]
  by_cases h2:g<k
  ·rw[if_pos (by omega),if_pos h2];omega
  ·rw[if_neg (by omega),if_neg h2]
 ·rw[if_neg (show¬(x:Int)=g by omega),if_neg h]
  by_cases h2:g<x
  ·rw[if_pos (by omega),if_pos h2];omega
  ·rw[if_neg (by omega),if_neg h2]
theorem phi_lt {n g k x:Nat}(hg:g<n)(hk:k<n)(hgk:g≠k)(hx:x<n):phi g k x<n-1:=by
 unfold phi
 by_cases h:x=g
 ·simp only[h,if_true]
  by_cases h2:g<k
  ·rw[if_pos h2];omega
  ·rw[if_neg h2];omega
 ·simp only[h,if_false]
  by_cases h2:g<x
  ·rw[if_pos h2];omega
  ·rw[if_neg h2];omega
theorem phi_gk {g k:Nat}(hgk:g≠k):phi g k g=phi g k k:=by
 unfold phi;simp[hgk.symm]
theorem phi_ex {n g k y:Nat}(hg:g<n)(hy:y<n-1):∃x,x<n∧x≠g∧phi g k x=y:=by
 by_cases h:y<g
 ·exact⟨y,by omega,by omega,by unfold phi;rw[if_neg (show¬y=g by omega),if_neg (by omega)]⟩
 ·exact⟨y+1,by omega,by omega,by unfold phi;rw[if_neg (show¬y+1=g by omega),if_pos (by omega)];omega⟩
theorem FK {M:List Int}{g k x:Nat}(hg:g<M.length)(hx:x<M.length)(hxg:x≠g):(M.eraseIdx g).getD (phi g k x) 0=M.getD x 0:=by
 unfold phi
 rw[if_neg hxg,List.getD_eq_getElem?_getD,List.getD_eq_getElem?_getD,List.getElem?_eraseIdx]
 by_cases h:g<x
 ·rw[if_pos h,if_neg (by omega)];congr 2;omega
 ·rw[if_neg h,if_pos (by omega)]
theorem prt_has {s t:Int}(hs:VS s)(ht:VS t)(h:prt s t=true){v:Nat}(hv:has s v=true):has t v=true:=by
 unfold prt at h
 rw[beq_iff_eq] at h
 have:=congrArg (fun z=>has z v) h
 rw[Bc hs ht,BQ,hv] at this
 simpa using this
section
variable {G : List (List Int)} {M : List Int} {K : List (List Int)} (h : TS M K) (hT : TB G (M.map Al) K) {g k : Nat} (hg : g < M.length) (hk : k < M.length) (hgk : g ≠ k)
include h hT hg hk hgk
theorem lnk_of {a b:Nat}(ha:a<M.length)(hb:b<M.length)(hl:Lk K (a:Int) (b:Int)):phi g k a=phi g k b∨Lk ((BT g k K).mergeSort BL) ((phi g k a:Nat):Int) ((phi g k b:Nat):Int):=by
 by_cases he:phi g k a=phi g k b
 ·exact .inl he
 ·right
  have hm:∀l,lnk (g:Int) (k:Int) l=some (BN ((phi g k a:Nat):Int) ((phi g k b:Nat):Int))→l∈K→Lk ((BT g k K).mergeSort BL) ((phi g k a:Nat):Int) ((phi g k b:Nat):Int):=fun l e hl=>by
   have hin:BN ((phi g k a:Nat):Int) ((phi g k b:Nat):Int)∈(BT g k K).mergeSort BL:=(BB _).mem_iff.2 (List.mem_filterMap.2 ⟨l,hl,e⟩)
   unfold BN at hin
   rcases Nat.lt_or_ge (phi g k a) (phi g k b) with c|c
   ·rw[Int.min_eq_left (by omega),Int.max_eq_right (by omega)] at hin;exact .inl hin
   ·rw[Int.min_eq_right (by omega),Int.max_eq_left (by omega)] at hin;exact .inr hin
  rcases hl with hl|hl
  ·refine hm _ ?_ hl
   unfold lnk
   simp only[List.getD_cons_zero,List.getD_cons_succ,FM]
   rw[if_neg (by omega)]
  ·refine hm _ ?_ hl
   unfold lnk
   simp only[List.getD_cons_zero,List.getD_cons_succ,FM]
   rw[if_neg (by omega)]
   unfold BN
   rw[Int.min_comm,Int.max_comm]
theorem merge_TB (hsub:∀v,has (M.getD g 0) v=true→has (M.getD k 0) v=true)(hl:Lk K (g:Int) (k:Int)):TB G ((M.eraseIdx g).map Al) ((BT g k K).mergeSort BL):=by
 have hml:(M.eraseIdx g).length=M.length-1:=by rw[List.length_eraseIdx,if_pos hg]
 have hTS:=h.merge hg hk hgk
 have hM:M.length=K.length+1:=by have:=hT.many;simpa using this.symm
 have hmem:∀i (hi:i<M.length) (v:Nat),(v:Int)∈(M.map Al).getD i []↔has (M.getD i 0) v=true:=fun i hi v=>by
  rw[Ay (by simpa using hi),List.getElem_map,Ay hi,AZ (h.vs _ (List.getElem_mem hi))]
 have hmem':∀i (hi:i<M.length-1) (v:Nat),(v:Int)∈((M.eraseIdx g).map Al).getD i []↔has ((M.eraseIdx g).getD i 0) v=true:=fun i hi v=>by
  rw[Ay (by simp;omega),List.getElem_map,Ay (by omega),AZ (hTS.vs _ (List.getElem_mem _))]
 have hphi:∀x v,x<M.length→has (M.getD x 0) v=true→has ((M.eraseIdx g).getD (phi g k x) 0) v=true:=fun x v hx hv=>by
  by_cases hxg:x=g
  ·subst hxg
   rw[phi_gk hgk,FK hg hk hgk.symm];exact hsub v hv
  ·rw[FK hg hx hxg];exact hv
 have hwith:∀(v:Nat) (x:Int),x∈Cf (M.map Al) (v:Int)↔∃b:Nat,x=b∧b<M.length∧has (M.getD b 0) v=true:=fun v x=>by
  rw[mem_withV,List.length_map]
  constructor
  ·rintro⟨b,h1,h2,h3⟩;exact⟨b,h1,h2,(hmem b h2 v).1 h3⟩
  ·rintro⟨b,h1,h2,h3⟩;exact⟨b,h1,h2,(hmem b h2 v).2 h3⟩
 have hwith':∀(v:Nat) (x:Int),x∈Cf ((M.eraseIdx g).map Al) (v:Int)↔∃b:Nat,x=b∧b<M.length-1∧has ((M.eraseIdx g).getD b 0) v=true:=fun v x=>by
  rw[mem_withV,List.length_map,hml]
  constructor
  ·rintro⟨b,h1,h2,h3⟩;exact⟨b,h1,h2,(hmem' b h2 v).1 h3⟩
  ·rintro⟨b,h1,h2,h3⟩;exact⟨b,h1,h2,(hmem' b h2 v).2 h3⟩
 have htree:DC ((BT g k K).mergeSort BL) ((List.range ((M.eraseIdx g).map Al).length).map Int.ofNat):=by
  have ht:=hT.tree
  rw[List.length_map] at ht ⊢
  rw[hml]
  refine conn_map (fun x=>((phi g k x.toNat:Nat):Int)) ht (fun x hx=> ?_) (fun y hy=> ?_) (fun x y hx hy hxy=> ?_)
  ·obtain⟨i,hi,rfl⟩:=List.mem_map.1 hx
   exact List.mem_map.2 ⟨_,List.mem_range.2 (phi_lt hg hk hgk (List.mem_range.1 hi)),rfl⟩
  ·obtain⟨j,hj,rfl⟩:=List.mem_map.1 hy
   obtain⟨x,hx,_,e⟩:=phi_ex (k:=k) hg (List.mem_range.1 hj)
   exact⟨(x:Int),List.mem_map.2 ⟨x,List.mem_range.2 hx,rfl⟩,by rw[Int.toNat_natCast,e];rfl⟩
  ·obtain⟨i,hi,rfl⟩:=List.mem_map.1 hx
   obtain⟨j,hj,rfl⟩:=List.mem_map.1 hy
   rcases lnk_of h hT hg hk hgk (List.mem_range.1 hi) (List.mem_range.1 hj) hxy with e|e
   ·left;show ((phi g k i:Nat):Int)=((phi g k j:Nat):Int);rw[e]
   ·right;exact e
 refine⟨by rw[List.length_map,hml];omega,by rw[List.length_map];exact hTS.n16,?_,by rw[List.length_map];exact hTS.lk,fun b hb=> ?_,htree,fun u v hu ha=> ?_,fun v hv=> ?_,fun v hv=> ?_⟩
 ·rw[List.length_map,hml]
  have hnd:((List.range ((M.eraseIdx g).map Al).length).map Int.ofNat).Nodup:=by
   unfold List.Nodup
   rw[List.pairwise_map]
   exact List.Pairwise.imp (fun{a b} h e=>by have:(a:Int)=(b:Int):=e;omega) List.pairwise_lt_range
  have h1:=conn_many hnd htree
  rw[List.length_map,List.length_range,List.length_map,hml] at h1
  have h2:(BT g k K).length+1≤K.length:=by
   have hle:∀L:List (List Int),(∃l∈L,lnk (g:Int) (k:Int) l=none)→(L.filterMap (lnk (g:Int) (k:Int))).length+1≤L.length:=by
    intro L
    induction L with
    |nil=>rintro⟨l,hl,_⟩;simp at hl
    |cons a L ih=>
     rintro⟨l,hl,e⟩
     rcases List.mem_cons.1 hl with rfl|hl
     ·rw[List.filterMap_cons_none e]
      have:=List.length_filterMap_le (lnk (g:Int) (k:Int)) L
      simp only[List.length_cons];omega
     ·have:=ih ⟨l,hl,e⟩
      cases ha:lnk (g:Int) (k:Int) a with
      |none=>rw[List.filterMap_cons_none ha];simp only[List.length_cons];omega
      |some r=>rw[List.filterMap_cons_some ha];simp only[List.length_cons];omega
   refine hle K ?_
   rcases hl with hl|hl
   ·exact⟨_,hl,by unfold lnk;simp only[List.getD_cons_zero,List.getD_cons_succ,FM];rw[if_pos (by rw[phi_gk hgk])]⟩
   ·exact⟨_,hl,by unfold lnk;simp only[List.getD_cons_zero,List.getD_cons_succ,FM];rw[if_pos (by rw[phi_gk hgk])]⟩
  have h3:=(BB (BT g k K)).length_eq
  rw[h3] at h1 ⊢
  omega
 ·obtain⟨s,hs,rfl⟩:=List.mem_map.1 hb
  exact hT.sets _ (List.mem_map.2 ⟨s,List.mem_of_mem_eraseIdx hs,rfl⟩)
 ·obtain⟨b,hb,hub,hvb⟩:=hT.edges u v hu ha
  obtain⟨i,hi,rfl⟩:=List.getElem_of_mem hb
  have hi':i<M.length:=by simpa using hi
  rw[←Ay hi [],hmem i hi'] at hub hvb
  have hp:=phi_lt hg hk hgk hi'
  refine⟨((M.eraseIdx g).map Al).getD (phi g k i) [],?_,(hmem' _ hp u).2 (hphi i u hi' hub),(hmem' _ hp v).2 (hphi i v hi' hvb)⟩
  rw[Ay (by simp;omega)]
  exact List.getElem_mem _
 ·obtain⟨x,hx⟩:=List.exists_mem_of_ne_nil _ (hT.some v hv)
  obtain⟨b,rfl,hb,hvb⟩:=(hwith v x).1 hx
  intro hc
  have:=(hwith' v _).2 ⟨_,rfl,phi_lt hg hk hgk hb,hphi b v hb hvb⟩
  rw[hc] at this
  simp at this
 ·refine conn_map (fun x=>((phi g k x.toNat:Nat):Int)) (hT.conn v hv) (fun x hx=> ?_) (fun y hy=> ?_) (fun x y hx hy hxy=> ?_)
  ·obtain⟨b,rfl,hb,hvb⟩:=(hwith v x).1 hx
   exact(hwith' v _).2 ⟨_,rfl,phi_lt hg hk hgk hb,hphi b v hb hvb⟩
  ·obtain⟨b,rfl,hb,hvb⟩:=(hwith' v y).1 hy
   obtain⟨x,hx,hxg,e⟩:=phi_ex (k:=k) hg hb
   refine⟨(x:Int),(hwith v _).2 ⟨x,rfl,hx,?_⟩,by rw[Int.toNat_natCast,e]⟩
   rw[←e,FK hg hx hxg] at hvb
   exact hvb
  ·obtain⟨a,rfl,ha,_⟩:=(hwith v x).1 hx
   obtain⟨b,rfl,hb,_⟩:=(hwith v y).1 hy
   rcases lnk_of h hT hg hk hgk ha hb hxy with e|e
   ·left;rw[Int.toNat_natCast,Int.toNat_natCast,e]
   ·right;exact e
end
structure Kept (G:List (List Int))(M0:List Int)(M:List Int)(K:List (List Int)):Prop where
 tb:TB G (M.map Al) K
 len:M.length≤M0.length
 old:∀s∈M,s∈M0
 sup:∀s∈M0,∃t∈M,∀v,has s v=true→has t v=true
theorem spare_link {M:List Int}{K:List (List Int)}(h:TS M K){g k:Nat}(e:Cj M K=some (g,k)):Lk K (g:Int) (k:Int)∧prt (M.getD g 0) (M.getD k 0)=true:=by
 obtain⟨i,hi,e2⟩:=List.exists_of_findSome?_eq_some e
 have hi':=List.mem_range.1 hi
 rw[Ay hi'] at e2
 obtain⟨a,b,el,hab,hb⟩:=h.lk _ (List.getElem_mem hi')
 have hm:=List.getElem_mem hi'
 rw[el] at e2 hm
 unfold Dh at e2
 simp only[List.getD_cons_zero,List.getD_cons_succ,Int.toNat_natCast] at e2
 split at e2
 ·rename_i h1;cases e2;exact⟨.inr hm,h1⟩
 ·split at e2
  ·rename_i h1;cases e2;exact⟨.inl hm,h1⟩
  ·cases e2
theorem Kept.step {G:List (List Int)}{M0 M:List Int}{K:List (List Int)}(hM:Kept G M0 M K)(h:TS M K){g k:Nat}(e:Cj M K=some (g,k)):Kept G M0 (M.eraseIdx g) ((BT g k K).mergeSort BL):=by
 obtain⟨hg,hk,hgk⟩:=spare_in h e
 obtain⟨hl,hp⟩:=spare_link h e
 have hvs:∀i,i<M.length→VS (M.getD i 0):=fun i hi=>by rw[Ay hi];exact h.vs _ (List.getElem_mem hi)
 have hsub:∀v,has (M.getD g 0) v=true→has (M.getD k 0) v=true:=fun v hv=>prt_has (hvs g hg) (hvs k hk) hp hv
 refine⟨merge_TB h hM.tb hg hk hgk hsub hl,?_,fun s hs=>hM.old s (List.mem_of_mem_eraseIdx hs),fun s hs=> ?_⟩
 ·have:=hM.len
  rw[List.length_eraseIdx,if_pos hg];omega
 ·obtain⟨t,ht,hst⟩:=hM.sup s hs
  obtain⟨i,hi,rfl⟩:=List.getElem_of_mem ht
  have hml:(M.eraseIdx g).length=M.length-1:=by rw[List.length_eraseIdx,if_pos hg]
  have hin:∀x,x<M.length→x≠g→M.getD x 0∈M.eraseIdx g:=fun x hx hxg=>by
   rw[←FK (k:=k) hg hx hxg,Ay (by rw[hml];exact phi_lt hg hk hgk hx)]
   exact List.getElem_mem _
  by_cases hig:i=g
  ·subst hig
   exact⟨_,hin k hk hgk.symm,fun v hv=>hsub v (by rw[Ay hi];exact hst v hv)⟩
  ·refine⟨_,hin i hi hig,fun v hv=>by rw[Ay hi];exact hst v hv⟩
end Go.Sx

namespace Go.Sx
theorem TB.sh {g B K:List (List Int)}(hg:GOk g)(h:TB g B K):Sh2 B∧Sh2 K:=by
 have h16:=hg.n16;have:=h.n16;have:=h.many
 refine⟨⟨by unfold Sh;omega,fun b hb=>by have:=(h.sets b hb).length_le (by omega);unfold Sh;omega⟩,⟨by unfold Sh;omega,fun l hl=> ?_⟩⟩
 obtain⟨a,b,rfl,_⟩:=h.lks l hl
 simp[Sh]
section
variable {g B K : List (List Int)} (hg : GOk g) (h : TB g B K)
include hg h
theorem tidied_both :∃B' K':List (List Int),D.L1 B K=some (B,K.mergeSort BL)∧D.i0 B K=some (B',K')∧
  (Ao (σ:=(List (List Int))×(List (List Int))) (ρ:=(((List (List Int)))×((List (List Int)))×Bool)) (fun(s_125:(List (List Int))×(List (List Int)))=>match s_125 with|(l_128,l_133)=>(D.w1 l_128 l_133).bind fun y_139=>cond (decide (y_139.1<0)) (some (.inr (l_128,l_133,true))) ((D.s1 l_128 l_133 y_139.1 y_139.2).bind fun y_160=>some (.inl (y_160.1,y_160.2)))) (B,K.mergeSort BL)=some (B',K',true))∧
  B'.length≤16∧(∀x∈B',x.length≤32)∧K'.length≤16∧(∀x∈K',x.length=2)∧
  ∃M',B'=M'.map Al∧TS M' K'∧Cj M' K'=none∧Kept g (B.map mk) M' K':=by
 have h16:=hg.n16;have b16:=h.n16;have hm:=h.many
 obtain⟨hB,hK⟩:=h.sh hg
 have hgood:∀x∈K,BW x:=fun x hx=>(h.lks x hx).good (by omega)
 have hBe:(B.map mk).map Al=B:=by
  rw[List.map_map]
  conv=>rhs;rw[←List.map_id B]
  refine List.map_congr_left (fun b hb=> ?_)
  have hs:=h.sets b hb
  exact elems_mk' h16 hs.1 hs.2
 have hT:TS (B.map mk) (K.mergeSort BL):=by
  refine⟨by simpa using b16,fun s hs=> ?_,fun l hl=> ?_,by rw[(BB _).length_eq];omega⟩
  ·obtain⟨b,_,rfl⟩:=List.mem_map.1 hs
   exact VS.mk _
  ·rw[List.length_map]
   exact h.lks l ((BB K).mem_iff.1 hl)
 obtain⟨M',K',hT',e1,e2,e3,e4⟩:=tidy_both 16 (B.map mk) (K.mergeSort BL) (by simpa using b16) hT
 rw[hBe] at e2
 have hkept:Kept g (B.map mk) M' K':=e4 (Kept g (B.map mk)) ⟨by rw[hBe];exact TB.perm h (BB K),Nat.le_refl _,fun s hs=>hs,fun s hs=>⟨s,hs,fun v hv=>hv⟩⟩ (fun M K g k hTS e hI=>hI.step hTS e)
 refine⟨M'.map Al,K',?_,?_,e2,by rw[List.length_map];exact hT'.n16,fun x hx=> ?_,hT'.k16,fun x hx=> ?_,M',rfl,hT',e3,hkept⟩
 ·unfold D.L1
  refine(Bx (fun i=>((i:Int),B.take i)) B.length B (by simp) (fun i hi=> ?_) ?_).trans ?_
  ·simp only[dlt hi,cond_true,Au hi,Option.bind_some,DU _ (hB.2 _ (List.getElem_mem hi)),wi (show i<4611686018427387904 by omega)]
   rw[AU (by simp;omega),Option.bind_some,List.take_succ_eq_append_getElem hi]
  ·simp only[A4,cond_false,List.take_length]
  ·refine(Bx (fun i=>((i:Int),Cw [] (K.take i))) K.length (Cw [] K) (by simp[Cw]) (fun i hi=> ?_) ?_).trans ?_
   ·obtain⟨a,b,e,hab,hb⟩:=h.lks _ (List.getElem_mem hi)
    have i0:idx K[i] 0=some (a:Int):=by rw[e];rfl
    have i1:idx K[i] 1=some (b:Int):=by rw[e];rfl
    have el:BN (a:Int) (b:Int)=K[i]:=by
     rw[e];unfold BN
     rw[show min (a:Int) (b:Int)=a by omega,show max (a:Int) (b:Int)=b by omega]
    obtain⟨hp,_⟩:=DR (K.take i) [] (by simp[Ed])
    rw[List.append_nil] at hp
    have hlen:(Cw [] (K.take i)).length≤16:=by rw[hp.length_eq,List.length_take];omega
    simp only[dlt hi,cond_true,Au hi,Option.bind_some,i0,i1,wi (show i<4611686018427387904 by omega)]
    rw[Fo (fun x hx=>hgood x (List.mem_of_mem_take (hp.mem_iff.1 hx))) (by rw[el];exact hgood _ (List.getElem_mem hi)) (by omega),Option.bind_some,el,List.take_succ_eq_append_getElem hi,FY]
   ·simp only[A4,cond_false,List.take_length]
   ·rw[FP hgood]
 ·unfold D.i0
  rw[masks_eq hg h.sets b16,Option.bind_some]
  unfold D.Y0
  rw[AU (by simp;omega)]
  simp only[Option.bind_some,List.nil_append]
  rw[FA (by omega) hgood,Option.bind_some,e1,Option.bind_some]
  dsimp only
  have hl:=hT'.n16;have hk:=hT'.k16
  rw[results_eq M' (by unfold Sh;omega) hT'.vs,Option.bind_some]
  refine(Bx (fun i=>((i:Int),K'.take i)) K'.length K' (by simp) (fun i hi=> ?_) ?_).trans rfl
  ·obtain⟨a,b,e,_⟩:=hT'.lk _ (List.getElem_mem hi)
   have hc:D.x0 K'[i]=some K'[i]:=by
    unfold D.x0
    rw[AU (by rw[e];simp)];rfl
   simp only[dlt hi,cond_true,Au hi,Option.bind_some,hc,wi (show i<4611686018427387904 by omega)]
   rw[AU (by simp;omega),Option.bind_some,List.take_succ_eq_append_getElem hi]
  ·simp only[A4,cond_false,List.take_length]
 ·obtain⟨s,_,rfl⟩:=List.mem_map.1 hx
  exact BR s
 ·obtain⟨a,b,rfl,_⟩:=hT'.lk x hx
  rfl
end
end Go.Sx

namespace Go.Sx
noncomputable def bo (F:List Int)(n:Nat)(most:Int):Nat→Int→List Int
 |0,_=>[]
 |k+1,m=>match(Al (rm n m)).find? (fun v=>decide (wv F (wd F n k) m v≤most)) with
  |some v=>v::bo F n most k (ior .u32 m (ishl .u32 1 v))
  |none=>[]
theorem EM {F:List Int}{n k:Nat}{m most:Int}(hn:n≤16)(hF:FOk F n)(hm:GS n m (k+1))(hw:wd F n (k+1) m≤most):
  ∃v:Nat,(Al (rm n m)).find? (fun v=>decide (wv F (wd F n k) m v≤most))=some (v:Int)∧v<n∧has m v=false∧wv F (wd F n k) m (v:Int)≤most∧GS n (ior .u32 m (ishl .u32 1 (v:Int))) k∧wd F n k (ior .u32 m (ishl .u32 1 (v:Int)))≤most∧
   bo F n most (k+1) m=(v:Int)::bo F n most k (ior .u32 m (ishl .u32 1 (v:Int))):=by
 obtain⟨u,hu1,hu2,hu3⟩:=some_attains hn hF hm
 cases hf:(Al (rm n m)).find? (fun v=>decide (wv F (wd F n k) m v≤most)) with
 |none=>
  rw[List.find?_eq_none] at hf
  have:=hf (u:Int) ((CW hn hm.vs).2 ⟨u,rfl,hu1,hu2⟩)
  simp at this
  omega
 |some x=>
  obtain⟨v,rfl,h1,h2⟩:=(CW hn hm.vs).1 (List.mem_of_find?_eq_some hf)
  have h3:wv F (wd F n k) m (v:Int)≤most:=by simpa using List.find?_some hf
  have h4:=(wv_ge F (wd F n k) m (v:Int)).2
  exact⟨v,rfl,h1,h2,h3,hm.add hn h1 h2,by omega,by rw[bo,hf]⟩
theorem bo_ok {F:List Int}{n:Nat}{most:Int}(hn:n≤16)(hF:FOk F n):∀(k:Nat) (m:Int),GS n m k→wd F n k m≤most→(bo F n most k m).length=k∧(bo F n most k m).Nodup∧∀x∈bo F n most k m,∃v:Nat,x=v∧v<n∧has m v=false
 |0,_,_,_=>by simp[bo]
 |k+1,m,hm,hw=>by
  obtain⟨v,_,hv,hmv,_,hg,hw',e⟩:=EM hn hF hm hw
  obtain⟨h1,h2,h3⟩:=bo_ok hn hF k _ hg hw'
  rw[e]
  refine⟨by rw[List.length_cons,h1],List.nodup_cons.2 ⟨fun hc=> ?_,h2⟩,fun x hx=> ?_⟩
  ·obtain⟨u,e1,_,h4⟩:=h3 _ hc
   rw[Du hm.vs (by omega),Bool.or_eq_false_iff] at h4
   have:=of_decide_eq_false h4.2
   omega
  ·rcases List.mem_cons.1 hx with rfl|hx
   ·exact⟨v,rfl,hv,hmv⟩
   ·obtain⟨u,rfl,h5,h4⟩:=h3 _ hx
    rw[Du hm.vs (by omega),Bool.or_eq_false_iff] at h4
    exact⟨u,rfl,h5,h4.1⟩
theorem impl_bo {F:List Int}{n:Nat}{most:Int}(hn:n≤16)(hF:FOk F n):∀(k:Nat) (m:Int) (out:List Int),GS n m k→wd F n k m≤most→out.length+k≤1000→
  Ao (D.q1 F most) (out,m)=some (out++bo F n most k m)
 |0,m,out,hm,_,_=>by
  refine Be ?_
  unfold D.q1
  rw[DY,Option.bind_some,hF.len]
  dsimp only
  rw[hm.done hn,bne_self_eq_false,cond_false,bo,List.append_nil]
 |k+1,m,out,hm,hw,hl=>by
  obtain⟨v,hf,hv,hmv,_,hg,hw',e⟩:=EM hn hF hm hw
  have hle:=hm.le hn
  have hrf:=DA
  have hrl:=BR (rm n m)
  rw[Bu (s':=(out++[(v:Int)],ior .u32 m (ishl .u32 1 (v:Int)))),impl_bo hn hF k _ (out++[(v:Int)]) hg hw' (by simp;omega),e,List.append_assoc];rfl
  unfold D.q1
  rw[DY,Option.bind_some,hF.len]
  dsimp only
  have hne:(m !=full n)=true:=by simpa using hm.undone
  have hlist:D.k (iandNot .u32 (full n) m)=some (Al (rm n m)):=C9 _ (VS.iandNot _ _)
  rw[hne,cond_true,hlist,Option.bind_some]
  rw[loop_first (step:=D.x1 F (Al (rm n m)) most out m) (Al (rm n m)) (fun v=>decide (wv F (wd F n k) m v≤most)) (fun v=>(out++[v],ior .u32 m (ishl .u32 1 v))) (out,m) (fun i hi=> ?_) ?_,hf,Option.bind_some]
  rotate_left
  ·obtain⟨u,eu,hu,hmu⟩:=(CW hn hm.vs).1 (List.getElem_mem hi)
   unfold D.x1
   rw[dlt hi,cond_true,Au hi,Option.bind_some,eu,wWith_ok hn hF hm.vs hu (r:=wd F n k) (Dd hn hF Bs k _ (hm.add hn hu hmu) (by omega)),Option.bind_some]
   by_cases hc:wv F (wd F n k) m (u:Int)≤most
   ·rw[decide_eq_true hc,cond_true,if_pos rfl,AU (by simp;omega),Option.bind_some,BH,Option.bind_some]
   ·rw[decide_eq_false hc,cond_false,if_neg (by simp),wi (show i<4611686018427387904 by omega)]
  ·unfold D.x1
   rw[A4,cond_false]
theorem Fy {F:List Int}{n:Nat}(hn:n≤16)(hF:FOk F n):D.T F=some (bo F n (wd F n n 0) n 0):=by
 have hrf:=DA
 unfold D.T
 rw[Dd hn hF Bs n 0 (GS.zero hn) (by omega),Option.bind_some]
 exact impl_bo hn hF n 0 [] (GS.zero hn) (Int.le_refl _) (by simp;omega)
theorem From_ok {g:List (List Int)}(hg:GOk g)(hn:g.length≤10){k:Nat}{m:Int}{T:List Int}(hm:GS g.length m k)(hT:TOk (g.map mk) g.length T):
  ∃T',D.j g (mks g.length m) T=some (wd (g.map mk) g.length k m,mks g.length m,T')∧TOk (g.map mk) g.length T':=by
 have hrf:=DA
 have:=hm.le hg.n16
 exact FromR_ok hg hn Bs k m T hm (by omega) hT
theorem spec_bo_round {g:List (List Int)}(hg:GOk g)(hn:g.length≤10){k:Nat}{m most:Int}{out T:List Int}(hm:GS g.length m (k+1))(hT:TOk (g.map mk) g.length T)(ho:out.length≤1000){v:Nat}
  (hf:(Al (rm g.length m)).find? (fun v=>decide (wv (g.map mk) (wd (g.map mk) g.length k) m v≤most))=some (v:Int))
  {step:List Int×List Bool×Int→Option ((List Int×List Bool×Int) ⊕ (List Int×List Int×List Bool))}
  (hstep:∀l b x,step (l,b,x)=cond (decide (x<(g.length:Int))) ((idx b x).bind fun e_1712=>(cond e_1712 (some true) ((D.E g b x).bind fun y_1751=>some (decide (most<(y_1751.length:Int))))).bind fun b_1749=>cond b_1749 (some (.inl (l,b,(IntKind.i64.wrap (x+1))))) ((idx b x).bind fun e_1766=>(D.j g (b.set (Int.toNat x) true) l).bind fun y_1772=>cond (decide (y_1772.1≤most)) ((AK out ([x]:List Int)).bind fun l_1788=>some (.inr (l_1788,y_1772.2.2,y_1772.2.1))) ((idx y_1772.2.1 x).bind fun e_1794=>some (.inl (y_1772.2.2,(y_1772.2.1.set (Int.toNat x) false),(IntKind.i64.wrap (x+1))))))) (some (.inr (out,l,b)))):
  ∃T',Ao step (T,mks g.length m,0)=some (out++[(v:Int)],T',mks g.length (ior .u32 m (ishl .u32 1 (v:Int))))∧TOk (g.map mk) g.length T':=by
 have h16:=hg.n16
 have hF:=FOk.of hg
 have hv:=List.mem_of_find?_eq_some hf
 have hvle:wv (g.map mk) (wd (g.map mk) g.length k) m (v:Int)≤most:=by simpa using List.find?_some hf
 obtain⟨v',e,hvn,hmv⟩:=(CW h16 hm.vs).1 hv
 obtain rfl:v=v':=by omega
 have hfirst:∀u,u<v→has m u=false→¬wv (g.map mk) (wd (g.map mk) g.length k) m (u:Int)≤most:=fun u hu hmu hc=>by
  obtain⟨_,a1,b1,e1,e2⟩:=List.find?_eq_some_iff_append.1 hf
  have hi:=Bv (rm g.length m)
  rw[e1] at hi
  have hmem:(u:Int)∈a1++(v:Int)::b1:=by
   rw[←e1]
   exact(CW h16 hm.vs).2 ⟨u,rfl,by omega,hmu⟩
  unfold Inc at hi
  rw[List.pairwise_append] at hi
  rcases List.mem_append.1 hmem with hh|hh
  ·have:=e2 _ hh
   simp at this
   omega
  ·rcases List.mem_cons.1 hh with hh|hh
   ·omega
   ·have:=(List.pairwise_cons.1 hi.2.1).1 _ hh
    omega
 refine opt_ex ?_
 have key:=AH (step:=step) (s:=(T,mks g.length m,0)) (k:=fun r=>some r) (Q:=fun y=>∃T',y=(out++[(v:Int)],T',mks g.length (ior .u32 m (ishl .u32 1 (v:Int))))∧TOk (g.map mk) g.length T')
  (fun s=>∃i:Nat,s.2.2=(i:Int)∧i≤v∧TOk (g.map mk) g.length s.1∧s.2.1=mks g.length m) (fun s=>g.length-s.2.2.toNat)
  (fun y=>∃T',y=(out++[(v:Int)],T',mks g.length (ior .u32 m (ishl .u32 1 (v:Int))))∧TOk (g.map mk) g.length T') ?_ ⟨0,rfl,by omega,hT,rfl⟩ (fun r hr=>⟨r,rfl,hr⟩)
 ·obtain⟨y,h1,h2⟩:=key
  rw[Option.bind_eq_some_iff] at h1
  obtain⟨z,e1,e2⟩:=h1
  rw[Option.some.inj e2] at e1
  exact⟨y,e1,h2⟩
 ·rintro⟨T1,_,_⟩ ⟨i,rfl,hiv,hT1,rfl⟩
  dsimp only at hT1 ⊢
  have hi:i<g.length:=by omega
  rw[hstep,dlt hi,cond_true,Ei hi,Option.bind_some]
  have hgo:∀T2,TOk (g.map mk) g.length T2→(i=v→False)→∃y,(some (Sum.inl (T2,mks g.length m,IntKind.i64.wrap ((i:Int)+1))):Option ((List Int×List Bool×Int) ⊕ (List Int×List Int×List Bool)))=some y∧Stp (fun s:List Int×List Bool×Int=>∃i:Nat,s.2.2=(i:Int)∧i≤v∧TOk (g.map mk) g.length s.1∧s.2.1=mks g.length m) (fun s=>g.length-s.2.2.toNat) (fun y=>∃T',y=(out++[(v:Int)],T',mks g.length (ior .u32 m (ishl .u32 1 (v:Int))))∧TOk (g.map mk) g.length T') (T1,mks g.length m,(i:Int)) y:=fun T2 h2 hne=>by
   have hne':i≠v:=fun e=>hne e
   rw[wi (show i<4611686018427387904 by omega)]
   exact⟨_,rfl,⟨i+1,rfl,by omega,h2,rfl⟩,by dsimp only;omega⟩
  cases hmi:has m i with
  |true=>
   rw[cond_true,Option.bind_some,cond_true]
   exact hgo T1 hT1 (fun e=>by rw[e,hmv] at hmi;cases hmi)
  |false=>
   rw[cond_false,ET hg hm.vs hi,Option.bind_some,Option.bind_some]
   have hwl:=wv_le (F:=g.map mk) (rec:=wd (g.map mk) g.length k) (m:=m) (v:=(i:Int)) (b:=most)
   by_cases hs:most<((Al (bh (g.map mk) m (i:Int))).length:Int)
   ·rw[decide_eq_true hs,cond_true]
    exact hgo T1 hT1 (fun e=>by subst e;have:=hwl.1 hvle;omega)
   ·rw[decide_eq_false hs,cond_false,Option.bind_some,Int.toNat_natCast,mks_set h16 hm.vs hi]
    obtain⟨T2,e2,hT2⟩:=From_ok hg hn (hm.add h16 hi hmi) hT1
    rw[e2,Option.bind_some]
    dsimp only
    by_cases hc:wd (g.map mk) g.length k (ior .u32 m (ishl .u32 1 (i:Int)))≤most
    ·have hiv2:i=v:=by
      rcases Nat.lt_or_ge i v with hlt|hge
      ·exact absurd (hwl.2 ⟨by omega,hc⟩) (hfirst i hlt hmi)
      ·omega
     subst hiv2
     rw[decide_eq_true hc,cond_true,AU (by simp;omega),Option.bind_some]
     exact⟨_,rfl,T2,rfl,hT2⟩
    ·rw[decide_eq_false hc,cond_false,Ei hi,Option.bind_some,mks_unset h16 hm.vs hi hmi]
     exact hgo T2 hT2 (fun e=>by subst e;exact hc (hwl.1 hvle).2)
theorem Ez {g:List (List Int)}(h:Sh2 g):D.F g=some (gB g&&decide (g.length≤10)):=by
 unfold D.F D.a
 rw[CY g h,Option.bind_some]
 have e:decide ((g.length:Int)≤10)=decide (g.length≤10):=by rw[decide_eq_decide];omega
 cases gB g
 ·rfl
 ·rw[cond_true,Option.bind_some,Option.bind_some,e];rfl
theorem D5 {g:List (List Int)}(hg:GOk g)(hn:g.length≤10)(hs:Sh2 g):D.e0 g=some (bo (g.map mk) g.length (wd (g.map mk) g.length g.length 0) g.length 0):=by
 have h16:=hg.n16
 have hF:=FOk.of hg
 unfold D.e0
 rw[Ez hs,(CU g).2 hg,decide_eq_true hn,Bool.true_and,Option.bind_some,Bool.not_true,cond_false]
 obtain⟨T,eT,hT⟩:=Table_ok hn (g.map mk)
 rw[eT,Option.bind_some]
 unfold D.a
 rw[Option.bind_some,CE (by omega) (by omega),Option.bind_some,mks_zero]
 obtain⟨T1,e1,hT1⟩:=From_ok hg hn (GS.zero h16) hT
 rw[e1,Option.bind_some]
 dsimp only
 generalize hmo:wd (g.map mk) g.length g.length 0=most
 refine opt_eq ?_
 refine AH (fun s=>∃(k:Nat) (m:Int),GS g.length m k∧TOk (g.map mk) g.length s.2.1∧s.2.2=mks g.length m∧wd (g.map mk) g.length k m≤most∧s.1.length+k=g.length∧s.1++bo (g.map mk) g.length most k m=bo (g.map mk) g.length most g.length 0)
  (fun s=>g.length-s.1.length) (fun r=>r=bo (g.map mk) g.length most g.length 0) ?_ ⟨g.length,0,GS.zero h16,hT1,rfl,by rw[hmo];exact Int.le_refl _,by simp,by simp⟩ (fun r hr=>⟨r,rfl,hr⟩)
 rintro⟨out,T2,_⟩ ⟨k,m,hm,hT2,rfl,hw,hl,he⟩
 dsimp only at hT2 hl he ⊢
 rw[Option.bind_some]
 cases k with
 |zero=>
  have:decide ((out.length:Int)<(g.length:Int))=false:=by simp;omega
  rw[this,cond_false]
  refine⟨_,rfl,?_⟩
  show out=_
  rw[bo,List.append_nil] at he
  exact he
 |succ k=>
  obtain⟨v,hf,hv,hmv,_,hg',hw',e⟩:=EM h16 hF hm hw
  have hd:decide ((out.length:Int)<(g.length:Int))=true:=by simp;omega
  rw[hd,cond_true]
  refine BA (fun r=>∃T',r=(out++[(v:Int)],T',mks g.length (ior .u32 m (ishl .u32 1 (v:Int))))∧TOk (g.map mk) g.length T') ?_ ?_
  ·obtain⟨T3,e3,hT3⟩:=spec_bo_round hg hn (out:=out) hm hT2 (by omega) hf (step:=(fun(s_1584:(List Int)×(List Bool)×Int)=>match s_1584 with|(l_1587,l_1590,x_1593)=>(some (g.length:Int)).bind fun y_1704=>cond (decide (x_1593<y_1704)) ((idx l_1590 x_1593).bind fun e_1712=>(cond e_1712 (some true) ((D.E g l_1590 x_1593).bind fun y_1751=>some (decide (most<(y_1751.length:Int))))).bind fun b_1749=>cond b_1749 (some (.inl (l_1587,l_1590,(IntKind.i64.wrap (x_1593+1))))) ((idx l_1590 x_1593).bind fun e_1766=>(D.j g (l_1590.set (Int.toNat x_1593) true) l_1587).bind fun y_1772=>cond (decide (y_1772.1≤most)) ((AK out ([x_1593]:List Int)).bind fun l_1788=>some (.inr (l_1788,y_1772.2.2,y_1772.2.1))) ((idx y_1772.2.1 x_1593).bind fun e_1794=>some (.inl (y_1772.2.2,(y_1772.2.1.set (Int.toNat x_1593) false),(IntKind.i64.wrap (x_1593+1))))))) (some (.inr (out,l_1587,l_1590))))) (fun l b x=>rfl)
   exact⟨_,e3,T3,rfl,hT3⟩
  ·rintro _ ⟨T3,rfl,hT3⟩
   refine⟨_,rfl,⟨k,_,hg',hT3,rfl,hw',by simp;omega,?_⟩,by dsimp only;simp;omega⟩
   dsimp only
   rw[←he,e,List.append_assoc];rfl
theorem bo_order {g:List (List Int)}(hg:GOk g):OOk g (bo (g.map mk) g.length (wd (g.map mk) g.length g.length 0) g.length 0):=by
 obtain⟨h1,h2,h3⟩:=bo_ok hg.n16 (FOk.of hg) g.length 0 (GS.zero hg.n16) (Int.le_refl _)
 refine⟨h1,fun x hx=> ?_,h2⟩
 obtain⟨v,rfl,h,_⟩:=h3 x hx
 omega
end Go.Sx
