/- Parts of the proof: Ra, Rb, F1D, Sa, Sb, Sc, Rc, Rd, Sd, Se, Ta, Sf, Qf, Re, Tb, Tc, Td, Va, Xa, Xf, Za, Zb, Zc, Zd, Ua, Ub, Uc, Xg, Xc, Xh, Sg, Xj, Xk, Xl, Qg, U1D, Qh, Xd, Yb, Yc, Xm, Ze, Zg, Zh, Zi, Zj. -/
import Derived.Test.YtebbefpdncgoiaaGreatDoorBa5
import Derived.KernelRfl
set_option linter.unusedVariables false
set_option linter.unusedSimpArgs false
set_option linter.unusedSectionVars false
namespace Go.Sx
structure DK (b:List Int)(i:Int):Prop where
 byte:∀x∈b,0≤x∧x≤255
 len:b.length≤4096
 i0:0≤i
 i1:i≤b.length
theorem iand_u64_le (a:Int)(n:Nat)(hn:n<18446744073709551616):0≤iand .u64 a (n:Int)∧iand .u64 a (n:Int)≤n:=by
 have e:(BitVec.ofInt 64 (n:Int)).toNat=n:=by rw[BitVec.toNat_ofInt];omega
 have h:(BitVec.ofInt 64 a&&&BitVec.ofInt 64 (n:Int)).toNat≤n:=by
  rw[BitVec.toNat_and,e];exact Nat.and_le_right
 have w:∀m:Nat,m<18446744073709551616→IntKind.u64.wrap (m:Int)=m:=fun m hm=>by
  simp[IntKind.wrap,IntKind.signed,IntKind.bits];omega
 have e2:iand .u64 a (n:Int)=(((BitVec.ofInt 64 a&&&BitVec.ofInt 64 (n:Int)).toNat:Nat):Int):=by
  show IntKind.u64.wrap (((BitVec.ofInt 64 a&&&BitVec.ofInt 64 (n:Int)).toNat:Nat):Int)=_
  exact w _ (by omega)
 rw[e2];omega
theorem tmod_rng {x n:Int}(hx:0≤x)(hn:0<n):0≤Int.tmod x n∧Int.tmod x n<n:=
 ⟨Int.tmod_nonneg _ hx,Int.tmod_lt_of_pos _ hn⟩
theorem below_ok {b:List Int}{i:Int}(h:DK b i)(z n:Int)(hn:0<n):∃r i' z',D.k b i z n=some (r,b,i',z')∧0≤r∧r<n∧DK b i':=by
 obtain⟨h1,h2,h3,h4⟩:=h
 unfold D.k
 have hn0:(n==0)=false:=by simp;omega
 have hc:∀y:Int,0≤iand .u64 y 16777215∧iand .u64 y 16777215≤16777215:=fun y=>iand_u64_le y 16777215 (by omega)
 by_cases hi:i<b.length
 ·have hb:=h1 _ (List.getElem_mem (show i.toNat<b.length by omega))
  simp only[hi,decide_true,cond_true,idx_int h3 hi,Option.bind_some,hn0,cond_false]
  have hy:=hc (BJ .u64 (IntKind.u64.wrap ((IntKind.u64.wrap (z*6364136223846793005))+1442695040888963407)) 33)
  generalize iand .u64 (BJ .u64 (IntKind.u64.wrap ((IntKind.u64.wrap (z*6364136223846793005))+1442695040888963407)) 33) 16777215=y at hy ⊢
  rw[w64 (x:=y) (by omega) (by omega),w64 (x:=b[i.toNat]) (by omega) (by omega),w64 (x:=y+b[i.toNat]) (by omega) (by omega),w64 (x:=i+1) (by omega) (by omega)]
  have hr:=tmod_rng (x:=y+b[i.toNat]) (n:=n) (by omega) hn
  exact⟨_,_,_,rfl,hr.1,hr.2,h1,h2,by omega,by omega⟩
 ·simp only[hi,decide_false,cond_false,hn0]
  have hy:=hc (BJ .u64 (IntKind.u64.wrap ((IntKind.u64.wrap (z*6364136223846793005))+1442695040888963407)) 33)
  generalize iand .u64 (BJ .u64 (IntKind.u64.wrap ((IntKind.u64.wrap (z*6364136223846793005))+1442695040888963407)) 33) 16777215=y at hy ⊢
  rw[w64 (x:=y) (by omega) (by omega)]
  have hr:=tmod_rng (x:=y) (n:=n) (by omega) hn
  exact⟨_,_,_,rfl,hr.1,hr.2,h1,h2,h3,h4⟩
theorem DV {b:List Int}{i:Int}(h:DK b i)(z n:Int)(hn:0<n):∃y,D.k b i z n=some y∧(0≤y.1∧y.1<n∧y.2.1=b∧DK b y.2.2.1):=by
 obtain⟨r,i',z',e,h1,h2,h3⟩:=below_ok h z n hn
 exact⟨_,e,h1,h2,rfl,h3⟩
theorem roll_ok (code:List Int)(seed:Int)(h:∀x∈code,0≤x∧x≤255)(hl:code.length≤4096):∃z,D.H0 code seed=some (code,0,z)∧DK code 0:=by
 unfold D.H0
 refine⟨_,(D2 code (fun s i=>(i,s)) (fun s e=>IntKind.u64.wrap ((IntKind.u64.wrap ((IntKind.u64.wrap (s*1099511628211))+(IntKind.u64.wrap e)))+3)) (fun s=>s) (fun _=>True) _ trivial (fun s i hi _=>⟨?_,trivial⟩) (fun s _=> ?_)).trans rfl,h,hl,by omega,by omega⟩
 ·simp only[dlt hi,cond_true,Ay hi,Option.bind_some,wi (show i<4611686018427387904 by omega)]
 ·simp only[A9,cond_false]
theorem l1Empty_eq (n:Nat)(hn:n≤16):D.D0 (n:Int)=some (List.replicate n []):=by
 unfold D.D0
 refine(B9 (fun i=>((i:Int),List.replicate i [])) n (List.replicate n []) (by simp) (fun i hi=> ?_) ?_).trans rfl
 ·simp only[dlt hi,cond_true,wi (show i<4611686018427387904 by omega)]
  rw[A4 (by simp;omega),Option.bind_some,←List.replicate_succ']
 ·simp only[A9,cond_false]
theorem row_set {g:List (List Int)}{u v:Nat}{r:List Int}(hu:u<g.length):row (g.set u r) v=if v=u then r else row g v:=by
 unfold row
 by_cases h:v=u
 ·subst h;simp[hu]
 ·rw[if_neg h,List.getD_eq_getElem?_getD,List.getElem?_set_ne (fun e=>h e.symm),←List.getD_eq_getElem?_getD]
theorem l1Link_ok {g:List (List Int)}(hg:GOk g){u v:Nat}(hu:u<g.length)(hv:v<g.length)(huv:u≠v):
  ∃g',D.J g (u:Int) (v:Int)=some g'∧GOk g'∧g'.length=g.length∧∀a b,adj g' a b↔adj g a b∨(a=u∧b=v)∨(a=v∧b=u):=by
 have h16:=hg.n16
 have hru:=hg.rows u hu;have hrv:=hg.rows v hv
 have hlu:=hg.row_len hu;have hlv:=hg.row_len hv
 refine⟨(g.set u (into (row g u) v)).set v (into (row g v) u),?_,?_⟩
 ·unfold D.J
  have e1:row (g.set u (into (row g u) v)) v=row g v:=by rw[row_set hu,if_neg (Ne.symm huv)]
  simp only[Cd hu,Option.bind_some,Eh _ _ hru.1 (show (row g u).length≤4294967295 by omega),Int.toNat_natCast]
  rw[Cd (show v<(g.set u (into (row g u) v)).length by simpa using hv),e1]
  simp only[Option.bind_some,Eh _ _ hrv.1 (show (row g v).length≤4294967295 by omega)]
 ·have hrow:∀w,row ((g.set u (into (row g u) v)).set v (into (row g v) u)) w=if w=v then into (row g v) u else if w=u then into (row g u) v else row g w:=by
   intro w
   rw[row_set (by simpa using hv),row_set hu]
  have hadj:∀a b,adj ((g.set u (into (row g u) v)).set v (into (row g v) u)) a b↔adj g a b∨(a=u∧b=v)∨(a=v∧b=u):=by
   intro a b
   unfold adj
   rw[hrow]
   by_cases ha:a=v
   ·subst ha
    rw[if_pos rfl,mem_into]
    constructor
    ·rintro(h|h)
     ·exact .inr (.inr ⟨rfl,by omega⟩)
     ·exact .inl h
    ·rintro(h|⟨h,_⟩|⟨_,h⟩)
     ·exact .inr h
     ·exact absurd h.symm huv
     ·exact .inl (by omega)
   ·rw[if_neg ha]
    by_cases ha':a=u
    ·subst ha'
     rw[if_pos rfl,mem_into]
     constructor
     ·rintro(h|h)
      ·exact .inr (.inl ⟨rfl,by omega⟩)
      ·exact .inl h
     ·rintro(h|⟨_,h⟩|⟨h,_⟩)
      ·exact .inr h
      ·exact .inl (by omega)
      ·exact absurd h ha
    ·rw[if_neg ha']
     constructor
     ·exact .inl
     ·rintro(h|⟨h,_⟩|⟨h,_⟩)
      ·exact h
      ·exact absurd h ha'
      ·exact absurd h ha
  refine⟨⟨by simpa using hg.n1,by simpa using h16,fun w hw=> ?_,fun w hw=> ?_,fun a b ha hab=> ?_⟩,by simp,hadj⟩
  ·simp only[List.length_set] at hw ⊢
   rw[hrow]
   split
   ·refine⟨hrv.1.into _,fun x hx=> ?_⟩
    rcases mem_into.1 hx with rfl|hx
    ·omega
    ·exact hrv.2 x hx
   ·split
    ·refine⟨hru.1.into _,fun x hx=> ?_⟩
     rcases mem_into.1 hx with rfl|hx
     ·omega
     ·exact hru.2 x hx
    ·exact hg.rows w hw
  ·simp only[List.length_set] at hw
   rw[hadj]
   rintro(h|⟨h1,h2⟩|⟨h1,h2⟩)
   ·exact hg.irr w hw h
   ·omega
   ·omega
  ·simp only[List.length_set] at ha
   rw[hadj] at hab ⊢
   rcases hab with h|h|h
   ·exact .inl (hg.sym a b ha h)
   ·exact .inr (.inr ⟨h.2,h.1⟩)
   ·exact .inr (.inl ⟨h.2,h.1⟩)
theorem GOk.empty {n:Nat}(h1:1≤n)(h16:n≤16):GOk (List.replicate n []):=by
 have hr:∀v,row (List.replicate n []) v=[]:=fun v=>by
  unfold row
  rw[List.getD_eq_getElem?_getD,List.getElem?_replicate];split<;>rfl
 refine⟨by simpa using h1,by simpa using h16,fun v _=> ?_,fun v _=> ?_,fun u v _ h=> ?_⟩
 ·rw[hr];exact⟨by simp[Inc],by simp⟩
 ·unfold adj;rw[hr];simp
 ·unfold adj at h;rw[hr] at h;simp at h
def EdgeIn (n:Nat)(e:List Int):Prop:=∃a b:Nat,e=[(a:Int),(b:Int)]∧a<b∧b<n
theorem setB_edge {n:Nat}{a b:Nat}(h:a<b)(hb:b<n):Cf [(a:Int),(b:Int)] n=true:=by
 rw[Cs]
 refine⟨by simp[Inc];omega,fun x hx=> ?_⟩
 simp at hx
 rcases hx with rfl|rfl<;>omega
theorem GraphOf_ok (n:Nat)(edges:List (List Int))(h1:1≤n)(h16:n≤16)(he:edges.length≤120)(hE:∀e∈edges,EdgeIn n e):
  ∃g,D.i0 (n:Int) edges=some (g,true)∧GOk g∧g.length=n∧∀a b:Nat,adj g a b↔([(a:Int),(b:Int)]∈edges∧a<b)∨([(b:Int),(a:Int)]∈edges∧b<a):=by
 unfold D.i0
 rw[EC]
 have e1:(decide ((1:Int)≤(n:Int))&&decide ((n:Int)≤16))=true:=by simp;omega
 have e2:decide ((120:Int)<(edges.length:Int))=false:=by simp;omega
 simp only[Option.bind_some,e1,e2,Bool.not_true,Bool.or_false,cond_false,l1Empty_eq n h16]
 have key:∀(k i:Nat) (g:List (List Int)),i+k=edges.length→GOk g→g.length=n→(∀a b:Nat,adj g a b↔([(a:Int),(b:Int)]∈edges.take i∧a<b)∨([(b:Int),(a:Int)]∈edges.take i∧b<a))→
   ∃g',Ap (σ:=Int×(List (List Int))) (ρ:=((List (List Int))) ⊕ (((List (List Int)))×Bool)) (fun(s_217:Int×(List (List Int)))=>match s_217 with|(x_220,l_221)=>cond (decide (x_220<(edges.length:Int))) ((idx edges x_220).bind fun e_319=>(cond ((e_319.length:Int) !=2) (some true) ((idx edges x_220).bind fun e_356=>(D.q e_356 (n:Int)).bind fun y_362=>some (!y_362))).bind fun b_354=>cond b_354 (some (.inr (.inr (([]:List (List Int)),false)))) ((idx edges x_220).bind fun e_375=>(idx e_375 0).bind fun e_381=>(idx edges x_220).bind fun e_387=>(idx e_387 1).bind fun e_393=>(D.J l_221 e_381 e_393).bind fun y_401=>some (.inl ((IntKind.i64.wrap (x_220+1)),y_401)))) (some (.inr (.inl l_221)))) ((i:Int),g)=some (.inl g')∧GOk g'∧g'.length=n∧(∀a b:Nat,adj g' a b↔([(a:Int),(b:Int)]∈edges∧a<b)∨([(b:Int),(a:Int)]∈edges∧b<a)):=by
  intro k
  induction k with
  |zero=>
   intro i g hi hg hl ha
   obtain rfl:i=edges.length:=by omega
   rw[List.take_length] at ha
   exact⟨g,Bp (by simp only[A9,cond_false]),hg,hl,ha⟩
  |succ k ih=>
   intro i g hi hg hl ha
   have hil:i<edges.length:=by omega
   obtain⟨a,b,eab,hab,hbn⟩:=hE _ (List.getElem_mem hil)
   obtain⟨g',k1,k2,k3,k4⟩:=l1Link_ok hg (u:=a) (v:=b) (by omega) (by omega) (by omega)
   obtain⟨g'',m1,m2⟩:=ih (i+1) g' (by omega) k2 (by omega) (fun c d=>by
    rw[k4,ha,List.take_succ_eq_append_getElem hil]
    simp only[List.mem_append,List.mem_singleton,eab,List.cons.injEq,and_true]
    constructor
    ·rintro((⟨h,h'⟩|⟨h,h'⟩)|⟨rfl,rfl⟩|⟨rfl,rfl⟩)
     ·exact .inl ⟨.inl h,h'⟩
     ·exact .inr ⟨.inl h,h'⟩
     ·exact .inl ⟨.inr ⟨rfl,rfl⟩,hab⟩
     ·exact .inr ⟨.inr ⟨rfl,rfl⟩,hab⟩
    ·rintro(⟨h|⟨h,h2⟩,h'⟩|⟨h|⟨h,h2⟩,h'⟩)
     ·exact .inl (.inl ⟨h,h'⟩)
     ·exact .inr (.inl ⟨by omega,by omega⟩)
     ·exact .inl (.inr ⟨h,h'⟩)
     ·exact .inr (.inr ⟨by omega,by omega⟩))
   refine⟨g'',?_,m2⟩
   rw[BC (s':=(((i+1:Nat):Int),g'))]
   ·exact m1
   ·have h0:idx [(a:Int),(b:Int)] 0=some (a:Int):=rfl
    have h1':idx [(a:Int),(b:Int)] 1=some (b:Int):=rfl
    have hlen:((([(a:Int),(b:Int)]).length:Int) !=2)=false:=rfl
    simp only[dlt hil,cond_true,Ay hil,eab,Option.bind_some,hlen,cond_false,EP [(a:Int),(b:Int)] n (by simp[Sh]) (by omega) (by omega),setB_edge hab hbn,Bool.not_true,h0,h1',k1,wi (show i<4611686018427387904 by omega)]
 obtain⟨g',m1,m2,m3,m4⟩:=key edges.length 0 (List.replicate n []) (by omega) (GOk.empty h1 h16) (by simp) (fun a b=>by
  unfold adj row
  rw[List.getD_eq_getElem?_getD,List.getElem?_replicate]
  split<;>simp)
 refine⟨g',?_,m2,m3,m4⟩
 rw[show ((0:Nat):Int)=0 from rfl] at m1
 rw[m1];rfl
end Go.Sx

namespace Go.Sx
theorem w9Graph_ok {b:List Int}{i:Int}(h:DK b i)(z:Int)(most:Nat)(h1:1≤most)(h8:most≤8):
  ∃y,D.H1 b i z (most:Int)=some y∧(GOk y.1∧y.1.length≤most∧y.2.1=b∧DK b y.2.2.1):=by
 unfold D.H1
 refine BI _ (DV h z most (by omega)) ?_
 rintro⟨r,b1,i1,z1⟩ ⟨r0,r1,rfl,k1⟩
 dsimp only at r0 r1 k1 ⊢
 refine BI _ (DV k1 z1 3 (by omega)) ?_
 rintro⟨q,b2,i2,z2⟩ ⟨q0,q1,rfl,k2⟩
 dsimp only at q0 q1 k2 ⊢
 obtain⟨n,en,en'⟩:∃n:Nat,IntKind.i64.wrap (1+r)=(n:Int)∧(n:Int)=1+r:=⟨(1+r).toNat,by rw[w64 (by omega) (by omega)];omega,by omega⟩
 rw[en]
 refine AM (fun s=>∃v:Nat,s.2.1=(v:Int)∧1≤v∧v≤n∧s.2.2.1=b2∧DK b2 s.2.2.2.1∧s.1.length≤8*v+v∧∀e∈s.1,EdgeIn n e) (fun s=>n-s.2.1.toNat)
  (fun r=>r.2.1=b2∧DK b2 r.2.2.1∧r.1.length≤120∧∀e∈r.1,EdgeIn n e) ?_ ?_ ?_
 ·rintro⟨l,_,b2,i,z⟩ ⟨v,rfl,g1,g2,rfl,hk,hl,hE⟩
  dsimp only at hk hl hE ⊢
  by_cases hv:v<n
  ·simp only[dlt hv,cond_true]
   refine AM (fun s=>∃u:Nat,s.2.1=(u:Int)∧u≤v∧s.2.2.1=b2∧DK b2 s.2.2.2.1∧s.1.length≤8*v+v+u∧∀e∈s.1,EdgeIn n e) (fun s=>v-s.2.1.toNat)
    (fun r=>r.2.1=b2∧DK b2 r.2.2.1∧r.1.length≤8*v+v+v∧∀e∈r.1,EdgeIn n e) ?_ ⟨0,rfl,by omega,rfl,hk,by dsimp only;omega,hE⟩ ?_
   ·rintro⟨l,_,b2,i,z⟩ ⟨u,rfl,g3,rfl,hk,hl,hE⟩
    dsimp only at hk hl hE ⊢
    by_cases hu:u<v
    ·simp only[dlt hu,cond_true]
     refine BI _ (DV hk z 4 (by omega)) ?_
     rintro⟨t,b2,i3,z3⟩ ⟨t0,t1,rfl,hk'⟩
     dsimp only at t0 t1 hk' ⊢
     by_cases hc:t<IntKind.i64.wrap (1+q)
     ·simp only[hc,decide_true,cond_true,wi (show u<4611686018427387904 by omega)]
      rw[A4 (by simp;omega),Option.bind_some]
      refine⟨_,rfl,⟨u+1,rfl,by omega,rfl,hk',by simp;omega,fun e he=> ?_⟩,by dsimp only;omega⟩
      rcases List.mem_append.1 he with he|he
      ·exact hE e he
      ·simp at he;subst he;exact⟨u,v,rfl,hu,hv⟩
     ·simp only[hc,decide_false,cond_false,wi (show u<4611686018427387904 by omega)]
      exact⟨_,rfl,⟨u+1,rfl,by omega,rfl,hk',by dsimp only;omega,hE⟩,by dsimp only;omega⟩
    ·obtain rfl:u=v:=by omega
     simp only[A9,cond_false]
     exact⟨_,rfl,rfl,hk,by dsimp only;omega,hE⟩
   ·rintro⟨l,b2,i3,z3⟩ ⟨rfl,hk',hl',hE'⟩
    dsimp only at hk' hl' hE' ⊢
    simp only[wi (show v<4611686018427387904 by omega)]
    exact⟨_,rfl,⟨v+1,rfl,by omega,by omega,rfl,hk',by dsimp only;omega,hE'⟩,by dsimp only;omega⟩
  ·obtain rfl:v=n:=by omega
   simp only[A9,cond_false]
   exact⟨_,rfl,rfl,hk,by dsimp only;omega,hE⟩
 ·exact⟨1,rfl,by omega,by omega,rfl,k2,by simp,by simp⟩
 ·rintro⟨l,b2,i3,z3⟩ ⟨rfl,hk,hl,hE⟩
  dsimp only at hk hl hE ⊢
  obtain⟨g,m1,m2,m3,_⟩:=GraphOf_ok n l (by omega) (by omega) hl hE
  rw[m1,Option.bind_some]
  exact⟨_,rfl,m2,by dsimp only;omega,rfl,hk⟩
theorem insert_perm (o:List Int)(c:Nat)(v:Int):(o.take c++[v]++o.drop c).Perm (v::o):=by
 rw[List.append_assoc]
 have h1:(o.take c++([v]++o.drop c)).Perm (v::(o.take c++o.drop c)):=List.perm_middle
 rwa [List.take_append_drop] at h1
end Go.Sx



namespace Go.Sx
theorem w5Graph_w9 (a:List Int)(b c d:Int):D.O0 a b c d=D.H1 a b c d:=rfl
theorem w5Graph_ok {b:List Int}{i:Int}(h:DK b i)(z:Int)(most:Nat)(h1:1≤most)(h8:most≤8):
  ∃y,D.O0 b i z (most:Int)=some y∧(GOk y.1∧y.1.length≤most∧y.2.1=b∧DK b y.2.2.1):=by
 rw[w5Graph_w9];exact w9Graph_ok h z most h1 h8
theorem ext_getD {a b:List Int}(hl:a.length=b.length)(h:∀j,j<a.length→a.getD j 0=b.getD j 0):a=b:=by
 apply List.ext_getElem hl
 intro j h1 h2
 have:=h j h1
 rwa [Av h1,Av h2] at this
theorem CG (l:List Int)(i j:Nat)(x:Int)(hi:i<l.length):(l.set i x).getD j 0=if j=i then x else l.getD j 0:=by
 simp only[List.getD_eq_getElem?_getD,List.getElem?_set]
 by_cases h:j=i
 ·subst h;simp[hi]
 ·rw[if_neg (fun e=>h e.symm),if_neg h]
theorem getD_snoc (o:List Int)(j:Nat):(o++[0]).getD j 0=o.getD j 0:=by
 simp only[List.getD_eq_getElem?_getD,List.getElem?_append]
 split
 ·rfl
 ·rename_i h
  rw[List.getElem?_eq_none (show o.length≤j by omega)]
  rcases Nat.lt_or_ge (j-o.length) 1 with h1|h1
  ·have:j-o.length=0:=by omega
   simp[this]
  ·rw[List.getElem?_eq_none (by simpa using h1)]
theorem w5Order_ok {b:List Int}{i:Int}(h:DK b i)(z:Int)(n:Nat)(h16:n≤16):
  ∃y,D.y0 b i z (n:Int)=some y∧(y.1.length=n∧(∀x∈y.1,0≤x∧x<n)∧y.1.Nodup∧y.2.1=b∧DK b y.2.2.1):=by
 unfold D.y0
 refine AM (fun s=>∃v:Nat,s.2.1=(v:Int)∧v≤n∧s.2.2.1=b∧DK b s.2.2.2.1∧s.1.length=v∧(∀x∈s.1,0≤x∧x<v)∧s.1.Nodup) (fun s=>n-s.2.1.toNat)
  (fun r=>r.1.length=n∧(∀x∈r.1,0≤x∧x<n)∧r.1.Nodup∧r.2.1=b∧DK b r.2.2.1) ?_ ?_ ?_
 ·rintro⟨o,_,b2,i,z⟩ ⟨v,rfl,g1,rfl,hk,hl,hr,hn⟩
  dsimp only at hk hl hr hn ⊢
  by_cases hv:v<n
  ·have e1:IntKind.i64.wrap ((o.length:Int)+1)=(v:Int)+1:=by rw[w64 (by omega) (by omega)];omega
   simp only[dlt hv,cond_true,e1]
   refine BI _ (DV hk z ((v:Int)+1) (by omega)) ?_
   rintro⟨t,b2,i3,z3⟩ ⟨t0,t1,rfl,hk'⟩
   dsimp only at t0 t1 hk' ⊢
   obtain⟨c,rfl⟩:∃c:Nat,t=(c:Int):=⟨t.toNat,by omega⟩
   rw[A4 (by simp;omega),Option.bind_some]
   have e3:IntKind.i64.wrap (((o++[0]).length:Int)-1)=(v:Int):=by
    rw[List.length_append,List.length_singleton,w64 (by omega) (by omega)];omega
   rw[e3]
   refine AM (fun s=>∃k:Nat,s.2=(k:Int)∧c≤k∧k≤v∧s.1.length=v+1∧∀j,j<v+1→s.1.getD j 0=if j≤k then o.getD j 0 else o.getD (j-1) 0) (fun s=>s.2.toNat)
    (fun r=>r.length=v+1∧∀j,j<v+1→r.getD j 0=if j≤c then o.getD j 0 else o.getD (j-1) 0) ?_ ⟨v,rfl,by omega,by omega,by simp;omega,fun j hj=>by rw[if_pos (by omega),getD_snoc]⟩ ?_
   ·rintro⟨l,_⟩ ⟨k,rfl,hck,hkv,hlen,hall⟩
    dsimp only at hlen hall ⊢
    by_cases hc:c<k
    ·have e2:IntKind.i64.wrap ((k:Int)-1)=((k-1:Nat):Int):=by rw[w64 (by omega) (by omega)];omega
     simp only[dlt hc,cond_true,e2,Ay (show k-1<l.length by omega),Ay (show k<l.length by omega),Option.bind_some]
     refine⟨_,rfl,⟨k-1,rfl,by omega,by omega,by simp;omega,fun j hj=> ?_⟩,by simp;omega⟩
     simp only[Int.toNat_natCast]
     rw[CG _ _ _ _ (by omega)]
     have h1:=hall (k-1) (by omega)
     rw[Av (by omega),if_pos (by omega)] at h1
     by_cases hjk:j=k
     ·subst hjk;rw[if_pos rfl,h1,if_neg (by omega)]
     ·rw[if_neg hjk,hall j hj]
      by_cases hjk':j≤k-1
      ·rw[if_pos (by omega),if_pos hjk']
      ·rw[if_neg (by omega),if_neg hjk']
    ·obtain rfl:c=k:=by omega
     simp only[A9,cond_false]
     exact⟨_,rfl,hlen,hall⟩
   ·rintro l ⟨hlen,hall⟩
    rw[Ay (show c<l.length by omega),Option.bind_some,wi (show v<4611686018427387904 by omega)]
    simp only[Int.toNat_natCast]
    have e4:l.set c (v:Int)=o.take c++[(v:Int)]++o.drop c:=by
     refine ext_getD (by simp;omega) (fun j hj=> ?_)
     rw[List.length_set] at hj
     rw[CG _ _ _ _ (by omega)]
     simp only[List.getD_eq_getElem?_getD,List.getElem?_append,List.length_append,List.length_take,List.length_cons,List.length_nil,show min c o.length=c by omega]
     have h1:=hall j (by omega)
     rw[List.getD_eq_getElem?_getD] at h1
     by_cases hjc:j=c
     ·subst hjc;simp
     ·rw[if_neg hjc,h1]
      by_cases hlt:j<c
      ·rw[if_pos (by omega),if_pos (by omega),if_pos hlt,List.getElem?_take_of_lt hlt,List.getD_eq_getElem?_getD]
      ·rw[if_neg (by omega),if_neg (by omega),List.getElem?_drop,List.getD_eq_getElem?_getD,show c+(j-(c+(0+1)))=j-1 by omega]
    rw[e4]
    have hp:=insert_perm o c v
    refine⟨_,rfl,⟨v+1,rfl,by omega,rfl,hk',by rw[hp.length_eq];simp;omega,fun x hx=> ?_,hp.nodup_iff.2 (List.nodup_cons.2 ⟨fun hm=>by have:=hr _ hm;omega,hn⟩)⟩,by dsimp only;omega⟩
    rcases List.mem_cons.1 (hp.mem_iff.1 hx) with rfl|hx
    ·omega
    ·have:=hr x hx;omega
  ·obtain rfl:v=n:=by omega
   simp only[A9,cond_false]
   exact⟨_,rfl,hl,hr,hn,rfl,hk⟩
 ·exact⟨0,rfl,by omega,rfl,h,by simp,by simp,by simp⟩
 ·rintro⟨o,b2,i3,z3⟩ ⟨h1,h2,h3,rfl,hk⟩
  exact⟨_,rfl,h1,h2,h3,rfl,hk⟩
end Go.Sx

namespace Go.Sx
def nb (F:List Int)(u w:Nat):Bool:=has (F.getD u 0) w
structure FOk (F:List Int)(n:Nat):Prop where
 len:F.length=n
 vs:∀u,u<n→VS (F.getD u 0)
 lt:∀u w,u<n→nb F u w=true→w<n
 irr:∀u,u<n→nb F u u=false
 sym:∀u w,u<n→nb F u w=true→nb F w u=true
theorem FOk.ext {F F':List Int}{n:Nat}(h:F.length=n)(h':F'.length=n)(v:∀u,u<n→VS (F.getD u 0))(v':∀u,u<n→VS (F'.getD u 0))(e:∀u w,u<n→nb F u w=nb F' u w):F=F':=by
 refine ext_getD (by omega) (fun j hj=> ?_)
 exact(v j (by omega)).ext (v' j (by omega)) (fun w _=>e j w (by omega))
theorem Fy (g:List (List Int))(u:Nat):(g.map mk).getD u 0=mk (row g u):=by
 unfold row
 simp only[List.getD_eq_getElem?_getD,List.getElem?_map]
 cases g[u]? with
 |none=>simp[mk]
 |some r=>rfl
theorem nb_mk {g:List (List Int)}(hg:GOk g){u w:Nat}(hu:u<g.length):nb (g.map mk) u w=true↔adj g u w:=by
 have h16:=hg.n16
 unfold nb
 rw[Fy,Dc (fun x hx=>by have:=(hg.rows u hu).2 x hx;omega)]
 simp[adj]
theorem FOk.of {g:List (List Int)}(hg:GOk g):FOk (g.map Sx.mk) g.length:=by
 refine⟨by simp,fun u _=>by rw[Fy];exact VS.mk _,fun u w hu h=>hg.lt hu ((nb_mk hg hu).1 h),fun u hu=> ?_,fun u w hu h=> ?_⟩
 ·cases h:nb (g.map Sx.mk) u u
  ·rfl
  ·exact absurd ((nb_mk hg hu).1 h) (hg.irr u hu)
 ·have ha:=(nb_mk hg hu).1 h
  exact(nb_mk hg (hg.lt hu ha)).2 (hg.sym u w hu ha)
def grow (F:List Int):List (List Int):=F.map Ao
theorem row_grow (F:List Int)(u:Nat):row (grow F) u=Ao (F.getD u 0):=by
 unfold row grow
 simp only[List.getD_eq_getElem?_getD,List.getElem?_map]
 cases F[u]? with
 |none=>simp[DY]
 |some r=>rfl
theorem DC {F:List Int}{n u w:Nat}(h:FOk F n)(hu:u<n):adj (grow F) u w↔nb F u w=true:=by
 unfold adj nb
 rw[row_grow,AU (h.vs u hu)]
theorem GOk.grow {F:List Int}{n:Nat}(h:FOk F n)(h1:1≤n)(h16:n≤16):GOk (grow F):=by
 have hl:(Sx.grow F).length=n:=by unfold Sx.grow;rw[List.length_map,h.len]
 refine⟨by omega,by omega,fun v hv=> ?_,fun v hv ha=> ?_,fun u v hu ha=> ?_⟩
 ·rw[row_grow,hl]
  refine⟨BH _,fun x hx=> ?_⟩
  obtain⟨w,_,h2,rfl⟩:=mem_elems.1 hx
  have:=h.lt v w (by omega) h2
  omega
 ·rw[DC h (by omega)] at ha
  rw[h.irr v (by omega)] at ha;cases ha
 ·rw[DC h (by omega)] at ha
  have:=h.lt u v (by omega) ha
  rw[DC h (by omega)]
  exact h.sym u v (by omega) ha
theorem mk_elems {s:Int}(h:VS s):mk (Ao s)=s:=by
 refine(VS.mk _).ext h (fun v hv=> ?_)
 rw[Dc (fun x hx=>by obtain⟨w,h1,_,rfl⟩:=mem_elems.1 hx;omega),Bool.eq_iff_iff,decide_eq_true_eq,AU h]
theorem all_mask :∀n:Fin 17,∀v:Fin 32,has (IntKind.u32.wrap (ishl .u32 1 (n.val:Int)-1)) v.val=decide (v.val<n.val):=by decide+kernel
theorem Ev (F:List Int)(h:F.length≤16):∃s,D.p F=some s∧VS s∧∀v,has s v=decide (v<F.length):=by
 refine⟨IntKind.u32.wrap (ishl .u32 1 (F.length:Int)-1),?_,VS.wrap _,fun v=> ?_⟩
 ·unfold D.p D.o0
  have:decide ((F.length:Int)<0)=false:=by simp
  rw[this];rfl
 ·by_cases hv:v<32
  ·exact all_mask ⟨F.length,by omega⟩ ⟨v,hv⟩
  ·rw[D5 (VS.wrap _) (by omega)];symm;simp;omega
theorem inner_ok {n v:Nat}(F L:List Int)(S:Int)(h16:n≤16)(hF:F.length=n)(hV:∀u,u<n→VS (F.getD u 0))(hS:VS S)(hSn:∀w,has S w=true→w<n)(hL:idx L (v:Int)=some S):
  ∃F',(Ap (σ:=(List Int)×Int) (ρ:=((List Int))) (fun(s_776:(List Int)×Int)=>match s_776 with|(l_779,x_782)=>cond (decide (x_782<((Ao S).length:Int))) ((idx (Ao S) x_782).bind fun e_820=>(idx l_779 e_820).bind fun e_826=>(idx L (v:Int)).bind fun e_832=>(D.c e_820).bind fun y_838=>(idx l_779 e_820).bind fun e_841=>some (.inl ((l_779.set (Int.toNat e_820) (ior .u32 e_826 (iandNot .u32 e_832 y_838))),(IntKind.i64.wrap (x_782+1))))) (some (.inr l_779))) (F,0))=some F'∧
   (F'.length=n∧(∀u,u<n→VS (F'.getD u 0))∧∀u w,u<n→nb F' u w=(nb F u w||(has S u&&has S w&&decide (w≠u)))):=by
 have key:=AM (k:=fun r=>some r) (Q:=fun F':List Int=>F'.length=n∧(∀u,u<n→VS (F'.getD u 0))∧∀u w,u<n→nb F' u w=(nb F u w||(has S u&&has S w&&decide (w≠u))))
  (step:=(fun(s_776:(List Int)×Int)=>match s_776 with|(l_779,x_782)=>cond (decide (x_782<((Ao S).length:Int))) ((idx (Ao S) x_782).bind fun e_820=>(idx l_779 e_820).bind fun e_826=>(idx L (v:Int)).bind fun e_832=>(D.c e_820).bind fun y_838=>(idx l_779 e_820).bind fun e_841=>some (.inl ((l_779.set (Int.toNat e_820) (ior .u32 e_826 (iandNot .u32 e_832 y_838))),(IntKind.i64.wrap (x_782+1))))) (some (.inr l_779)))) (s:=(F,0))
  (fun s=>∃i:Nat,s.2=(i:Int)∧i≤(Ao S).length∧s.1.length=n∧(∀u,u<n→VS (s.1.getD u 0))∧∀u w,u<n→nb s.1 u w=(nb F u w||(decide ((u:Int)∈(Ao S).take i)&&has S w&&decide (w≠u)))) (fun s=>(Ao S).length-s.2.toNat)
  (fun F'=>F'.length=n∧(∀u,u<n→VS (F'.getD u 0))∧∀u w,u<n→nb F' u w=(nb F u w||(has S u&&has S w&&decide (w≠u)))) ?_ ⟨0,rfl,by omega,hF,hV,fun u w _=>by simp⟩ (fun r hr=>⟨r,rfl,hr⟩)
 ·obtain⟨y,hy,hq⟩:=key
  rw[Option.bind_eq_some_iff] at hy
  obtain⟨a,ha,hb⟩:=hy
  cases hb
  exact⟨_,ha,hq⟩
 ·rintro⟨l,_⟩ ⟨i,rfl,hi,hl,hv,hh⟩
  dsimp only at hl hv hh ⊢
  have hle:=Cc S
  by_cases hlt:i<(Ao S).length
  ·obtain⟨u0,h1,h2,h3⟩:=mem_elems.1 (List.getElem_mem hlt)
   have h4:=hSn u0 h2
   simp only[dlt hlt,cond_true,Ay hlt,Option.bind_some,h3,Ay (show u0<l.length by omega),hL,BG,wi (show i<4611686018427387904 by omega),Int.toNat_natCast]
   refine⟨_,rfl,⟨i+1,rfl,by omega,by simp[hl],fun u hu=> ?_,fun u w hu=> ?_⟩,by dsimp only;omega⟩
   ·rw[CG _ _ _ _ (by omega)]
    split
    ·exact VS.ior _ _
    ·exact hv u hu
   ·have hmem:((u:Int)∈(Ao S).take (i+1))↔((u:Int)∈(Ao S).take i∨u=u0):=by
     rw[List.take_succ_eq_append_getElem hlt,List.mem_append,h3]
     simp[Int.natCast_inj]
    unfold nb
    rw[CG _ _ _ _ (by omega)]
    by_cases hc:u=u0
    ·subst hc
     rw[if_pos rfl]
     have hg:l[u]=l.getD u 0:=(Av (by omega) 0).symm
     rw[hg,Ca (hv u hu) (VS.iandNot _ _),A6 hS (VS.ishl _ _),BA (by omega)]
     have:=hh u w hu
     unfold nb at this
     rw[this,decide_eq_true (hmem.2 (.inr rfl))]
     cases has (F.getD u 0) w<;>cases has S w<;>by_cases hw:w=u<;>simp[hw]
    ·rw[if_neg hc]
     have:=hh u w hu
     unfold nb at this
     rw[this]
     have:decide ((u:Int)∈(Ao S).take (i+1))=decide ((u:Int)∈(Ao S).take i):=by
      rw[Bool.eq_iff_iff,decide_eq_true_eq,decide_eq_true_eq,hmem];simp[hc]
     rw[this]
  ·obtain rfl:i=(Ao S).length:=by omega
   simp only[A9,cond_false]
   refine⟨_,rfl,hl,hv,fun u w hu=> ?_⟩
   rw[hh u w hu,List.take_length]
   congr 3
   rw[Bool.eq_iff_iff,decide_eq_true_eq,AU hS]
def PEO (F:List Int)(o:List Int):Prop:=∀(j:Nat) (v u w:Nat),o[j]? =some (v:Int)→nb F v u=true→nb F v w=true→(u:Int)∉o.take (j+1)→(w:Int)∉o.take (j+1)→u≠w→nb F u w=true
def Lat (F L:List Int)(o:List Int)(i:Nat):Prop:=∀(j:Nat) (v:Nat),j<i→o[j]? =some (v:Int)→∀w,nb L v w=(nb F v w&&decide ((w:Int)∉o.take (j+1)))
inductive Via (F:List Int)(gone:Nat→Prop)(u:Nat):Nat→Prop
 |me:Via F gone u u
 |step {x y:Nat}:Via F gone u x→nb F x y=true→gone y→Via F gone u y
theorem Via.mono {F:List Int}{g g':Nat→Prop}{u x:Nat}(h:Via F g u x)(hg:∀y,g y→g' y):Via F g' u x:=by
 induction h with
 |me=>exact .me
 |step _ h1 h2 ih=>exact .step ih h1 (hg _ h2)
theorem Via.end_ {F:List Int}{g:Nat→Prop}{u x:Nat}(h:Via F g u x):x=u∨g x:=by
 cases h with
 |me=>exact .inl rfl
 |step _ _ h2=>exact .inr h2
theorem Via.lt {F:List Int}{n:Nat}(hF:FOk F n){g:Nat→Prop}{u x:Nat}(hu:u<n)(h:Via F g u x):x<n:=by
 induction h with
 |me=>exact hu
 |step _ h1 _ ih=>exact hF.lt _ _ ih h1
theorem Via.back {F:List Int}{n:Nat}(hF:FOk F n){g g':Nat→Prop}(hg:∀y,g y→g' y){v x:Nat}(hv:v<n)(hgv:g' v)(h:Via F g v x):∀z,Via F g' z x→Via F g' z v:=by
 induction h with
 |me=>exact fun z h=>h
 |step hx h1 h2 ih=>
  intro z hz
  have hxn:=Via.lt hF hv hx
  refine ih z (.step hz (hF.sym _ _ hxn h1) ?_)
  rcases hx.end_ with e|e
  ·rw[e];exact hgv
  ·exact hg _ e
def Bhd (F:List Int)(gone:Nat→Prop)(v w:Nat):Prop:=∃x,Via F gone v x∧nb F x w=true
structure EInv (n:Nat)(F0 o:List Int)(i:Nat)(F L:List Int)(left:Int):Prop where
 f:FOk F n
 lenL:L.length=n
 vsL:∀u,u<n→VS (L.getD u 0)
 vsl:VS left
 left:∀v,has left v=decide (v<n∧(v:Int)∉o.take i)
 mono:∀u w,u<n→nb F0 u w=true→nb F u w=true
 lat:Lat F L o i
 peo:∀(j:Nat) (v u w:Nat),j<i→o[j]? =some (v:Int)→nb F v u=true→nb F v w=true→(u:Int)∉o.take (j+1)→(w:Int)∉o.take (j+1)→u≠w→nb F u w=true
 same:PEO F0 o→F=F0
 via:∀u w:Nat,u<n→(u:Int)∉o.take i→(w:Int)∉o.take i→u≠w→(nb F u w=true↔Bhd F0 (fun x=>(x:Int)∈o.take i) u w)
 latb:∀(j:Nat) (v:Nat),j<i→o[j]? =some (v:Int)→∀w:Nat,nb L v w=true↔(w:Int)∉o.take (j+1)∧Bhd F0 (fun x=>(x:Int)∈o.take j) v w
theorem Df {o:List Int}{j i:Nat}(h:j≤i){x:Int}(hx:x∈o.take j):x∈o.take i:=by
 rw[mem_take_iff] at hx ⊢
 obtain⟨k,h1,h2,h3⟩:=hx
 exact⟨k,h1,by omega,h3⟩
theorem EInv.step {n:Nat}{F0 o F L:List Int}{i v:Nat}{left:Int}(h16:n≤16)(h0:FOk F0 n)(hn:∀x∈o,0≤x∧x<n)(hnd:o.Nodup)(hi:i<o.length)(hv:o[i]=(v:Int))(h:EInv n F0 o i F L left){F':List Int}
  (hl':F'.length=n) (hv':∀u,u<n→VS (F'.getD u 0)) (h':∀u w,u<n→nb F' u w=(nb F u w||(has (iand .u32 (F.getD v 0) (iandNot .u32 left (ishl .u32 1 (v:Int)))) u&&has (iand .u32 (F.getD v 0) (iandNot .u32 left (ishl .u32 1 (v:Int)))) w&&decide (w≠u)))):
  EInv n F0 o (i+1) F' (L.set v (iand .u32 (F.getD v 0) (iandNot .u32 left (ishl .u32 1 (v:Int))))) (iandNot .u32 left (ishl .u32 1 (v:Int))):=by
 have hvn:v<n:=by have:=hn _ (List.getElem_mem hi);omega
 have hvt:(v:Int)∉o.take i:=by rw[←hv];exact nodup_iff.1 hnd i hi
 have htk:∀x:Nat,((x:Int)∈o.take (i+1))↔((x:Int)∈o.take i∨x=v):=fun x=>by
  rw[List.take_succ_eq_append_getElem hi,List.mem_append,hv];simp[Int.natCast_inj]
 have hleft:∀w,has (iandNot .u32 left (ishl .u32 1 (v:Int))) w=decide (w<n∧(w:Int)∉o.take (i+1)):=fun w=>by
  rw[A6 h.vsl (VS.ishl _ _),BA (by omega),h.left,Bool.eq_iff_iff]
  simp only[Bool.and_eq_true,decide_eq_true_eq,Bool.not_eq_true',decide_eq_false_iff_not,htk]
  constructor
  ·rintro⟨⟨a,b⟩,c⟩;exact⟨a,fun hh=>hh.elim b c⟩
  ·rintro⟨a,b⟩;exact⟨⟨a,fun hh=>b (.inl hh)⟩,fun hh=>b (.inr hh)⟩
 have hS:∀w,has (iand .u32 (F.getD v 0) (iandNot .u32 left (ishl .u32 1 (v:Int)))) w=(nb F v w&&decide ((w:Int)∉o.take (i+1))):=fun w=>by
  rw[B6 (h.f.vs v hvn) (VS.iandNot _ _),hleft,Bool.eq_iff_iff]
  show (nb F v w&&_)=true↔_
  simp only[Bool.and_eq_true,decide_eq_true_eq]
  exact⟨fun⟨a,b,c⟩=>⟨a,c⟩,fun⟨a,c⟩=>⟨a,h.f.lt v w hvn a,c⟩⟩
 have hlV:VS (iandNot .u32 left (ishl .u32 1 (v:Int))):=VS.iandNot _ _
 generalize iandNot .u32 left (ishl .u32 1 (v:Int))=left' at*
 generalize hSS:iand .u32 (F.getD v 0) left'=S at*
 have hSV:VS S:=by rw[←hSS];exact VS.iand _ _
 have hSlt:∀w,has S w=true→w<n∧(w:Int)∉o.take (i+1):=fun w hw=>by
  rw[hS] at hw
  simp only[Bool.and_eq_true,decide_eq_true_eq] at hw
  exact⟨h.f.lt v w hvn hw.1,hw.2⟩
 have hmono:∀u w,u<n→nb F u w=true→nb F' u w=true:=fun u w hu hh=>by rw[h' u w hu,hh];rfl
 have hold:∀x:Nat,x<n→(x:Int)∈o.take (i+1)→∀w,nb F' x w=nb F x w:=fun x hx hm w=>by
  rw[h' x w hx]
  have:has S x=false:=by
   cases hc:has S x
   ·rfl
   ·exact absurd hm (hSlt x hc).2
  simp[this]
 have hf':FOk F' n:=by
  refine⟨hl',hv',fun u w hu hh=> ?_,fun u hu=> ?_,fun u w hu hh=> ?_⟩
  ·rw[h' u w hu] at hh
   simp only[Bool.or_eq_true,Bool.and_eq_true] at hh
   rcases hh with hh|⟨⟨_,hh⟩,_⟩
   ·exact h.f.lt u w hu hh
   ·exact(hSlt w hh).1
  ·rw[h' u u hu,h.f.irr u hu];simp
  ·rw[h' u w hu] at hh
   simp only[Bool.or_eq_true,Bool.and_eq_true,decide_eq_true_eq] at hh
   rcases hh with hh|⟨⟨h1,h2⟩,h3⟩
   ·exact hmono w u (h.f.lt u w hu hh) (h.f.sym u w hu hh)
   ·rw[h' w u (hSlt w h2).1,h1,h2]
    have:decide (u≠w)=true:=by simpa using fun e=>h3 e.symm
    simp[this]
 have hjv:∀j (x:Nat),o[j]? =some (x:Int)→j<o.length∧x<n∧(x:Int)∈o.take (j+1):=fun j x hx=>by
  obtain⟨h1,h2⟩:=List.getElem?_eq_some_iff.1 hx
  have:=hn _ (List.getElem_mem h1)
  refine⟨h1,by omega,?_⟩
  rw[mem_take_iff];exact⟨j,h1,by omega,h2⟩
 refine⟨hf',by simp[h.lenL],fun u hu=> ?_,hlV,hleft,fun u w hu hh=>hmono u w hu (h.mono u w hu hh),fun j x hj hx w=> ?_,fun j x u w hj hx h1 h2 h3 h4 h5=> ?_,fun hp=> ?_,fun u w hu k1 k2 huw=> ?_,fun j x hj hx w=> ?_⟩
 ·rw[CG _ _ _ _ (by rw[h.lenL];exact hvn)]
  split
  ·exact hSV
  ·exact h.vsL u hu
 ·obtain⟨k1,k2,k3⟩:=hjv j x hx
  have k4:=Df (show j+1≤i+1 by omega) k3
  rw[hold x k2 k4 w]
  unfold nb
  rw[CG _ _ _ _ (by rw[h.lenL];exact hvn)]
  by_cases hji:j=i
  ·subst hji
   rw[List.getElem?_eq_getElem hi,hv] at hx
   have:x=v:=by
    have:(v:Int)=(x:Int):=by simpa using hx
    omega
   subst this
   rw[if_pos rfl,hS];rfl
  ·have hne:x≠v:=fun e=>by
    subst e
    exact hvt (Df (show j+1≤i by omega) k3)
   rw[if_neg hne]
   exact h.lat j x (by omega) hx w
 ·obtain⟨k1,k2,k3⟩:=hjv j x hx
  have k4:=Df (show j+1≤i+1 by omega) k3
  rw[hold x k2 k4] at h1 h2
  by_cases hji:j=i
  ·subst hji
   rw[List.getElem?_eq_getElem hi,hv] at hx
   have:x=v:=by
    have:(v:Int)=(x:Int):=by simpa using hx
    omega
   subst this
   have hu:has S u=true:=by rw[hS,h1];simpa using h3
   have hw:has S w=true:=by rw[hS,h2];simpa using h4
   rw[h' u w (hSlt u hu).1,hu,hw]
   have:decide (w≠u)=true:=by simpa using fun e=>h5 e.symm
   simp[this]
  ·exact hmono u w (h.f.lt x u k2 h1) (h.peo j x u w (by omega) hx h1 h2 h3 h4 h5)
 ·have hFF:=h.same hp
  subst hFF
  refine FOk.ext hl' h.f.len hv' h.f.vs (fun u w hu=> ?_)
  rw[h' u w hu,Bool.eq_iff_iff]
  simp only[Bool.or_eq_true,Bool.and_eq_true,decide_eq_true_eq]
  constructor
  ·rintro(hh|⟨⟨h1,h2⟩,h3⟩)
   ·exact hh
   ·have k1:=(hSlt u h1).2;have k2:=(hSlt w h2).2
    rw[hS] at h1 h2
    simp only[Bool.and_eq_true] at h1 h2
    exact hp i v u w (by rw[List.getElem?_eq_getElem hi,hv]) h1.1 h2.1 k1 k2 (fun e=>h3 e.symm)
  ·exact .inl
 ·have q1:(u:Int)∉o.take i:=fun e=>k1 ((htk u).2 (.inl e))
  have q2:(w:Int)∉o.take i:=fun e=>k2 ((htk w).2 (.inl e))
  have huv:u≠v:=fun e=>k1 ((htk u).2 (.inr e))
  have hwv:w≠v:=fun e=>k2 ((htk w).2 (.inr e))
  have hgg:∀y:Nat,(y:Int)∈o.take i→(y:Int)∈o.take (i+1):=fun y hy=>(htk y).2 (.inl hy)
  rw[h' u w hu]
  simp only[Bool.or_eq_true,Bool.and_eq_true,decide_eq_true_eq]
  constructor
  ·rintro(hh|⟨⟨a1,a2⟩,_⟩)
   ·obtain⟨x,hx,e⟩:=(h.via u w hu q1 q2 huw).1 hh
    exact⟨x,hx.mono hgg,e⟩
   ·rw[hS] at a1 a2
    simp only[Bool.and_eq_true,decide_eq_true_eq] at a1 a2
    obtain⟨x,hx,ex⟩:=(h.via v u hvn hvt q1 (fun e=>huv e.symm)).1 a1.1
    obtain⟨y,hy,ey⟩:=(h.via v w hvn hvt q2 (fun e=>hwv e.symm)).1 a2.1
    have hvg:(v:Int)∈o.take (i+1):=(htk v).2 (.inr rfl)
    have hxn:=Via.lt h0 hvn hx
    have hxg:(x:Int)∈o.take (i+1):=by
     rcases hx.end_ with e|e
     ·rw[e];exact hvg
     ·exact hgg x e
    have hux:Via F0 (fun x=>(x:Int)∈o.take (i+1)) u x:= .step .me (h0.sym x u hxn ex) hxg
    have huv':=Via.back h0 (g':=fun x=>(x:Int)∈o.take (i+1)) hgg hvn hvg hx u hux
    have hgo:∀y,Via F0 (fun x=>(x:Int)∈o.take i) v y→Via F0 (fun x=>(x:Int)∈o.take (i+1)) u y:=fun y hy=>by
     induction hy with
     |me=>exact huv'
     |step _ b1 b2 ih=>exact .step ih b1 (hgg _ b2)
    exact⟨y,hgo y hy,ey⟩
  ·rintro⟨x,hx,ex⟩
   have hcl:∀x,Via F0 (fun x=>(x:Int)∈o.take (i+1)) u x→Via F0 (fun x=>(x:Int)∈o.take i) u x∨(Bhd F0 (fun x=>(x:Int)∈o.take i) u v∧Via F0 (fun x=>(x:Int)∈o.take i) v x):=fun x hx=>by
    induction hx with
    |me=>exact .inl .me
    | @step a b _ b1 b2 ih=>
     rcases(htk b).1 b2 with b2|b2
     ·rcases ih with ih|⟨ih1,ih2⟩
      ·exact .inl (.step ih b1 b2)
      ·exact .inr ⟨ih1,.step ih2 b1 b2⟩
     ·rcases ih with ih|⟨ih1,ih2⟩
      ·subst b2;exact .inr ⟨⟨a,ih,b1⟩,.me⟩
      ·subst b2;exact .inr ⟨ih1,.me⟩
   rcases hcl x hx with hx|⟨hx1,hx2⟩
   ·exact .inl ((h.via u w hu q1 q2 huw).2 ⟨x,hx,ex⟩)
   ·right
    have a1:=(h.via u v hu q1 hvt huv).2 hx1
    have a2:=(h.via v w hvn hvt q2 (fun e=>hwv e.symm)).2 ⟨x,hx2,ex⟩
    refine⟨⟨?_,?_⟩,fun e=>huw e.symm⟩
    ·rw[hS,h.f.sym u v hu a1];simpa using k1
    ·rw[hS,a2];simpa using k2
 ·obtain⟨k1,k2,k3⟩:=hjv j x hx
  unfold nb
  rw[CG _ _ _ _ (by rw[h.lenL];exact hvn)]
  by_cases hji:j=i
  ·subst hji
   rw[List.getElem?_eq_getElem hi,hv] at hx
   have:x=v:=by
    have:(v:Int)=(x:Int):=by simpa using hx
    omega
   subst this
   rw[if_pos rfl,hS,Bool.and_eq_true,decide_eq_true_eq]
   constructor
   ·rintro⟨b1,b2⟩
    have b3:(w:Int)∉o.take j:=fun e=>b2 ((htk w).2 (.inl e))
    have b4:x≠w:=fun e=>b2 ((htk w).2 (.inr e.symm))
    exact⟨b2,(h.via x w hvn hvt b3 b4).1 b1⟩
   ·rintro⟨b2,b1⟩
    have b3:(w:Int)∉o.take j:=fun e=>b2 ((htk w).2 (.inl e))
    have b4:x≠w:=fun e=>b2 ((htk w).2 (.inr e.symm))
    exact⟨(h.via x w hvn hvt b3 b4).2 b1,b2⟩
  ·have hne:x≠v:=fun e=>by
    subst e
    exact hvt (Df (show j+1≤i by omega) k3)
   rw[if_neg hne]
   exact h.latb j x (by omega) hx w
theorem elim_ok {n:Nat}{F0 o:List Int}(h16:n≤16)(h0:FOk F0 n)(hl:o.length=n)(hn:∀x∈o,0≤x∧x<n)(hnd:o.Nodup):
  ∃y,D.B F0 o=some y∧∃left,EInv n F0 o n y.1 y.2 left:=by
 have hlen:=h0.len
 unfold D.B
 rw[A4 (by simp;omega),Option.bind_some]
 obtain⟨s,e1,hs1,hs2⟩:=Ev F0 (by omega)
 rw[e1,Option.bind_some,Di (by omega) (by omega),Option.bind_some]
 simp only[Option.bind_some,List.nil_append]
 refine AM (fun st=>∃i:Nat,st.2.2.2=(i:Int)∧i≤n∧EInv n F0 o i st.1 st.2.1 st.2.2.1) (fun st=>n-st.2.2.2.toNat) (fun r=>∃left,EInv n F0 o n r.1 r.2 left) ?_ ?_ ?_
 ·rintro⟨F,L,left,_⟩ ⟨i,rfl,hi,h⟩
  dsimp only at h ⊢
  rw[hl]
  by_cases hlt:i<n
  ·have hio:i<o.length:=by omega
   obtain⟨v,hv⟩:∃v:Nat,o[i]=(v:Int):=⟨(o[i]).toNat,by have:=hn _ (List.getElem_mem hio);omega⟩
   have hvn:v<n:=by have:=hn _ (List.getElem_mem hio);omega
   have hFv:idx F (v:Int)=some (F.getD v 0):=by rw[Ay (by rw[h.f.len];omega),Av (by rw[h.f.len];omega)]
   have hLs:idx (L.set v (iand .u32 (F.getD v 0) (iandNot .u32 left (ishl .u32 1 (v:Int))))) (v:Int)=some (iand .u32 (F.getD v 0) (iandNot .u32 left (ishl .u32 1 (v:Int)))):=by
    rw[Ay (by simp[h.lenL];omega)];simp
   simp only[dlt hlt,cond_true,Ay hio,hv,Option.bind_some,BG,hFv,Ay (show v<L.length by rw[h.lenL];omega),Int.toNat_natCast]
   rw[hLs]
   simp only[Option.bind_some,Dq _ (VS.iand _ _)]
   have hSlt:∀w,has (iand .u32 (F.getD v 0) (iandNot .u32 left (ishl .u32 1 (v:Int)))) w=true→w<n:=fun w hw=>by
    rw[B6 (h.f.vs v hvn) (VS.iandNot _ _)] at hw
    simp only[Bool.and_eq_true] at hw
    exact h.f.lt v w hvn hw.1
   obtain⟨F',e2,k1,k2,k3⟩:=inner_ok F _ _ h16 h.f.len h.f.vs (VS.iand _ _) hSlt hLs
   rw[hLs] at e2
   refine bind_eq (x:=F') e2 ?_
   rw[wi (show i<4611686018427387904 by omega)]
   exact⟨_,rfl,⟨i+1,rfl,by omega,h.step h16 h0 hn hnd hio hv k1 k2 k3⟩,by dsimp only;omega⟩
  ·obtain rfl:i=n:=by omega
   simp only[A9,cond_false]
   exact⟨_,rfl,_,h⟩
 ·refine⟨0,rfl,by omega,h0,by simp[hlen],fun u hu=> ?_,hs1,fun v=>by rw[hs2,hlen];simp,fun u w _ h=>h,fun j v hj=>by omega,fun j v u w hj=>by omega,fun _=>rfl,fun u w hu _ _ _=>⟨fun hh=>⟨u,.me,hh⟩,fun⟨x,hx,e⟩=> ?_⟩,fun j v hj=>by omega⟩
  ·rw[List.getD_eq_getElem?_getD,List.getElem?_replicate]
   split<;>exact VS.zero
  ·rcases hx.end_ with e2|e2
   ·rw[←e2];exact e
   ·simp at e2
 ·rintro⟨F,L⟩ h
  exact⟨_,rfl,h⟩
end Go.Sx

namespace Go.Sx
end Go.Sx

namespace Go.Sx
theorem Ce :∀{l m:List Int},l.Nodup→(∀x∈l,x∈m)→l.length≤m.length
 |[],_,_,_=>by simp
 |x::l,m,h,hs=>by
  have h':=List.nodup_cons.1 h
  have hx:=hs x (by simp)
  have:=Ce (l:=l) (m:=m.erase x) h'.2 (fun y hy=>by
   have hne:y≠x:=fun e=>h'.1 (e▸hy)
   exact(List.mem_erase_of_ne hne).2 (hs y (by simp[hy])))
  rw[List.length_erase_of_mem hx] at this
  have hp:0<m.length:=List.length_pos_of_mem hx
  simp;omega
theorem nodup_all {l m:List Int}(hl:l.Nodup)(hm:m.Nodup)(h:∀x∈l,x∈m)(h':∀x∈m,x∈l):l.length=m.length:=
 Nat.le_antisymm (Ce hl h) (Ce hm h')
theorem Inc.nodup {l:List Int}(h:Inc l):l.Nodup:=List.Pairwise.imp (fun h e=>by omega) h
theorem l1All_eq (n:Nat)(hn:n≤4294967295):D.T0 (n:Int)=some ((List.range n).map Int.ofNat):=by
 unfold D.T0
 refine(B9 (fun i=>((List.range i).map Int.ofNat,(i:Int))) n ((List.range n).map Int.ofNat) (by simp) (fun i hi=> ?_) ?_).trans rfl
 ·simp only[dlt hi,cond_true,wi (show i<4611686018427387904 by omega)]
  rw[A4 (by simp;omega),Option.bind_some,List.range_succ,List.map_append];rfl
 ·simp only[A9,cond_false]
theorem l8Meet_eq (a b:List Int)(ha:Sh a)(hb:Sh b):D.v0 a b=some (a.filter fun x=>decide (x∈b)):=by
 unfold Sh at ha
 unfold D.v0
 have key:∀(k i:Nat),i+k=a.length→∃y,(Ap (σ:=(List Int)×Int) (ρ:=((List Int))) (fun(s_78:(List Int)×Int)=>match s_78 with|(l_81,x_86)=>cond (decide (x_86<(a.length:Int))) ((idx a x_86).bind fun e_127=>(D.h b e_127).bind fun y_133=>cond y_133 ((idx a x_86).bind fun e_141=>(AV l_81 ([e_141]:List Int)).bind fun l_151=>some (.inl (l_151,(IntKind.i64.wrap (x_86+1))))) (some (.inl (l_81,(IntKind.i64.wrap (x_86+1)))))) (some (.inr l_81))) ((a.take i).filter (fun x=>decide (x∈b)),(i:Int)))=some y∧y=a.filter fun x=>decide (x∈b):=by
  intro k
  induction k with
  |zero=>
   intro i hi
   obtain rfl:i=a.length:=by omega
   rw[List.take_length]
   exact⟨_,Bp (by simp only[A9,cond_false]),rfl⟩
  |succ k ih=>
   intro i hi
   have hil:i<a.length:=by omega
   obtain⟨y,h1,h2⟩:=ih (i+1) (by omega)
   refine⟨y,?_,h2⟩
   rw[BC]
   ·exact h1
   ·have hlen:((a.take i).filter (fun x=>decide (x∈b))).length≤i:=Nat.le_trans (List.length_filter_le _ _) (by simp;omega)
    rw[List.take_succ_eq_append_getElem hil,List.filter_append]
    simp only[dlt hil,cond_true,Ay hil,Option.bind_some,Dk b _ hb,wi (show i<4611686018427387904 by omega)]
    by_cases hc:a[i]∈b
    ·simp only[hc,decide_true,cond_true,List.filter_cons,if_true,List.filter_nil]
     rw[A4 (by simp;omega)];rfl
    ·simp[hc]
 obtain⟨y,h1,rfl⟩:=key a.length 0 (by omega)
 simp only[List.take_zero,List.filter_nil] at h1
 rw[show ((0:Nat):Int)=0 from rfl] at h1
 rw[h1];rfl
theorem l9Part_eq (a b:List Int)(ha:Sh a)(hb:Sh b):D.y a b=some (a.all fun x=>decide (x∈b)):=by
 unfold D.y
 rw[l8Meet_eq a b ha hb,Option.bind_some]
 congr 1
 rw[Bool.eq_iff_iff,List.all_eq_true]
 constructor
 ·intro h x hx
  have h1:(a.filter fun x=>decide (x∈b)).length=a.length:=by have:=beq_iff_eq.1 h;omega
  exact(List.length_filter_eq_length_iff.1 h1) x hx
 ·intro h
  have:(a.filter fun x=>decide (x∈b))=a:=List.filter_eq_self.2 h
  simp[this]
theorem l9In_eq (bags links:List (List Int))(l:List Int)(hb:Sh2 bags)(hl:Sh l):D.t0 bags links l=some (bags.any fun b=>l.all fun x=>decide (x∈b)):=by
 have hbl:bags.length≤4294967296:=hb.1
 unfold D.t0
 refine(loop_anyb bags.length (fun i=>l.all fun x=>decide (x∈bags.getD i [])) true (fun i hi=> ?_) ?_ rfl rfl).trans ?_
 ·simp only[dlt hi,cond_true,Ay hi,Option.bind_some,wi (show i<4611686018427387904 by omega),Av hi,l9Part_eq l _ hl (hb.2 _ (List.getElem_mem hi))]
  cases l.all fun x=>decide (x∈bags[i])<;>rfl
 ·simp only[A9,cond_false]
 ·rw[Ex bags (fun b=>l.all fun x=>decide (x∈b)) _ (fun i hi=>by rw[Av hi])]
def BX (bags:List (List Int))(v:Int):List Int:=((List.range bags.length).filter fun b=>decide (v∈bags.getD b [])).map Int.ofNat
theorem mem_withV {bags:List (List Int)}{v x:Int}:x∈BX bags v↔∃b:Nat,x=b∧b<bags.length∧v∈bags.getD b []:=by
 unfold BX
 rw[List.mem_map]
 constructor
 ·rintro⟨b,hb,rfl⟩
  rw[List.mem_filter,List.mem_range] at hb
  exact⟨b,rfl,hb.1,of_decide_eq_true hb.2⟩
 ·rintro⟨b,rfl,h1,h2⟩
  exact⟨b,List.mem_filter.2 ⟨List.mem_range.2 h1,decide_eq_true h2⟩,rfl⟩
theorem EY (bags:List (List Int))(v:Int):Inc (BX bags v):=by
 unfold BX Inc
 rw[List.pairwise_map]
 refine List.Pairwise.filter _ ?_
 refine List.Pairwise.imp ?_ (List.pairwise_lt_range (n:=bags.length))
 intro a b h
 show (a:Int)<(b:Int)
 omega
theorem l9With_eq (bags links:List (List Int))(v:Int)(hb:Sh2 bags)(hl:bags.length≤4294967295):D.q0 bags links v=some (BX bags v):=by
 unfold D.q0
 refine(B9 (fun i=>(((List.range i).filter fun b=>decide (v∈bags.getD b [])).map Int.ofNat,(i:Int))) bags.length (BX bags v) (by simp) (fun i hi=> ?_) ?_).trans rfl
 ·have hlen:(((List.range i).filter fun b=>decide (v∈bags.getD b [])).map Int.ofNat).length≤i:=by
   rw[List.length_map];exact Nat.le_trans (List.length_filter_le _ _) (by simp)
  simp only[dlt hi,cond_true,Ay hi,Option.bind_some,Dk _ _ (hb.2 _ (List.getElem_mem hi)),wi (show i<4611686018427387904 by omega)]
  rw[List.range_succ,List.filter_append,List.map_append]
  by_cases hc:v∈bags[i]
  ·have:decide (v∈bags.getD i [])=true:=by rw[Av hi];simpa using hc
   simp only[hc,decide_true,cond_true,List.filter_cons,this,if_true,List.filter_nil]
   rw[A4 (by simp;simp at hlen;omega)];rfl
  ·have:decide (v∈bags.getD i [])=false:=by rw[Av hi];simpa using hc
   simp only[hc,decide_false,cond_false,List.filter_cons,this,List.filter_nil,List.map_nil,List.append_nil]
   simp
 ·simp only[A9,cond_false];rfl
def Lk (links:List (List Int))(x y:Int):Prop:=[x,y]∈links∨[y,x]∈links
def Pairs (links:List (List Int)):Prop:=∀l∈links,∃a b:Int,l=[a,b]
theorem l9Near_ok (bags links:List (List Int))(b:Int)(hl:links.length≤1000000)(hp:Pairs links):
  ∃y,D.L0 bags links b=some y∧(Inc y∧(∀w,w∈y↔Lk links b w)∧y.length≤2*links.length):=by
 unfold D.L0
 refine AM (fun s=>∃i:Nat,s.2=(i:Int)∧i≤links.length∧Inc s.1∧(∀w,w∈s.1↔Lk (links.take i) b w)∧s.1.length≤2*i) (fun s=>links.length-s.2.toNat)
  (fun r=>Inc r∧(∀w,w∈r↔Lk links b w)∧r.length≤2*links.length) ?_ ⟨0,rfl,by omega,by simp[Inc],by simp[Lk],by simp⟩ ?_
 ·rintro⟨s,_⟩ ⟨i,rfl,hi,hs,hm,hsl⟩
  dsimp only at hs hm hsl ⊢
  by_cases hil:i<links.length
  ·obtain⟨x,y,exy⟩:=hp _ (List.getElem_mem hil)
   have h0:idx [x,y] 0=some x:=rfl
   have h1:idx [x,y] 1=some y:=rfl
   simp only[dlt hil,cond_true,Ay hil,exy,h0,h1,Option.bind_some,wi (show i<4611686018427387904 by omega)]
   have hLk:∀w,Lk (links.take (i+1)) b w↔Lk (links.take i) b w∨(x=b∧y=w)∨(y=b∧x=w):=by
    intro w
    unfold Lk
    rw[List.take_succ_eq_append_getElem hil,exy]
    simp only[List.mem_append,List.mem_singleton,List.cons.injEq,and_true]
    constructor
    ·rintro((h|⟨rfl,rfl⟩)|(h|⟨rfl,rfl⟩))
     ·exact .inl (.inl h)
     ·exact .inr (.inl ⟨rfl,rfl⟩)
     ·exact .inl (.inr h)
     ·exact .inr (.inr ⟨rfl,rfl⟩)
    ·rintro((h|h)|⟨rfl,rfl⟩|⟨rfl,rfl⟩)
     ·exact .inl (.inl h)
     ·exact .inr (.inl h)
     ·exact .inl (.inr ⟨rfl,rfl⟩)
     ·exact .inr (.inr ⟨rfl,rfl⟩)
   refine BI (fun t=>Inc t∧(∀w,w∈t↔w∈s∨(x=b∧y=w))∧t.length≤s.length+1) ?_ ?_
   ·by_cases hx:x=b
    ·have:(x==b)=true:=by simp[hx]
     simp only[this,cond_true,Eh s y hs (by omega),Option.bind_some]
     exact⟨_,rfl,hs.into _,fun w=>by rw[mem_into];simp[hx];constructor<;>(rintro(h|h)<;>simp[h]),into_len _ _⟩
    ·have:(x==b)=false:=by simpa using hx
     simp only[this,cond_false]
     exact⟨_,rfl,hs,fun w=>by simp[hx],by omega⟩
   ·rintro t ⟨ht,htm,htl⟩
    by_cases hy:y=b
    ·have:(y==b)=true:=by simp[hy]
     simp only[this,cond_true,Eh t x ht (by omega),Option.bind_some]
     refine⟨_,rfl,⟨i+1,rfl,by omega,ht.into _,fun w=> ?_,?_⟩,by dsimp only;omega⟩
     ·dsimp only
      rw[hLk,mem_into,htm,hm]
      constructor
      ·rintro(rfl|h|h)
       ·exact .inr (.inr ⟨hy,rfl⟩)
       ·exact .inl h
       ·exact .inr (.inl h)
      ·rintro(h|h|⟨_,rfl⟩)
       ·exact .inr (.inl h)
       ·exact .inr (.inr h)
       ·exact .inl rfl
     ·have:=into_len t x;dsimp only;omega
    ·have:(y==b)=false:=by simpa using hy
     simp only[this,cond_false]
     refine⟨_,rfl,⟨i+1,rfl,by omega,ht,fun w=> ?_,by dsimp only;omega⟩,by dsimp only;omega⟩
     dsimp only
     rw[hLk,htm,hm]
     constructor
     ·rintro(h|h)
      ·exact .inl h
      ·exact .inr (.inl h)
     ·rintro(h|h|⟨h,_⟩)
      ·exact .inl h
      ·exact .inr h
      ·exact absurd h hy
  ·obtain rfl:i=links.length:=by omega
   simp only[A9,cond_false]
   rw[List.take_length] at hm
   exact⟨_,rfl,hs,hm,hsl⟩
 ·rintro r hr
  exact⟨_,rfl,hr⟩
structure Closed (links:List (List Int))(sel m:List Int):Prop where
 sub:∀x∈m,x∈sel
 first:∀x,sel.head? =some x→x∈m
 step:∀x∈m,∀y∈sel,Lk links x y→y∈m
theorem l9Reached_ok (bags links:List (List Int))(sel:List Int)(hl:links.length≤1000000)(hp:Pairs links)(hs:sel.length≤1000000)(hne:sel≠[]):
  ∃y,D.A bags links sel=some y∧∃m:List Int,y=m.length∧m.Nodup∧Closed links sel m∧∀m',Closed links sel m'→∀x∈m,x∈m':=by
 unfold D.A
 obtain⟨x0,sel',rfl⟩:∃x l,sel=x::l:=by cases sel with
  |nil=>exact absurd rfl hne
  |cons x l=>exact⟨x,l,rfl⟩
 generalize hsel:x0::sel'=sel at*
 have hsh:Sh sel:=by unfold Sh;omega
 have e0:((sel.length:Int)==0)=false:=by rw[←hsel];simp;omega
 have e1:idx sel 0=some x0:=by rw[←hsel];rfl
 have hx0:x0∈sel:=by rw[←hsel];simp
 simp only[e0,cond_false,e1,Option.bind_some]
 refine AM (fun s=>∃i:Nat,s.2=(i:Int)∧i≤s.1.length∧s.1.Nodup∧(∀x∈s.1,x∈sel)∧x0∈s.1∧(∀m',Closed links sel m'→∀x∈s.1,x∈m')∧∀x∈s.1.take i,∀y∈sel,Lk links x y→y∈s.1) (fun s=>sel.length-s.2.toNat)
  (fun r=>r.Nodup∧Closed links sel r∧∀m',Closed links sel m'→∀x∈r,x∈m') ?_ ⟨0,rfl,by simp,by simp,by simpa using hx0,by simp,fun m' hm' x hx=>by simp at hx;subst hx;exact hm'.first _ (by rw[←hsel];rfl),by simp⟩ ?_
 ·rintro⟨m,_⟩ ⟨i,rfl,hi,hn,hsub,hx,hmn,hc⟩
  dsimp only at hi hn hsub hx hmn hc ⊢
  have hml:=Ce hn hsub
  by_cases him:i<m.length
  ·simp only[dlt him,cond_true,Ay him,Option.bind_some]
   refine BI _ (l9Near_ok bags links m[i] hl hp) ?_
   rintro near ⟨hni,hnm,hnl⟩
   refine AM (fun s=>∃k:Nat,s.2=(k:Int)∧k≤near.length∧s.1.Nodup∧(∀x∈s.1,x∈sel)∧(∃t,s.1=m++t)∧(∀m',Closed links sel m'→∀x∈s.1,x∈m')∧∀y∈near.take k,y∈sel→y∈s.1) (fun s=>near.length-s.2.toNat)
    (fun r=>r.Nodup∧(∀x∈r,x∈sel)∧(∃t,r=m++t)∧(∀m',Closed links sel m'→∀x∈r,x∈m')∧∀y∈near,y∈sel→y∈r) ?_ ⟨0,rfl,by simp,hn,hsub,⟨[],by simp⟩,hmn,by simp⟩ ?_
   ·rintro⟨r,_⟩ ⟨k,rfl,hk,hrn,hrs,⟨t,rfl⟩,hrm,hrc⟩
    dsimp only at hrn hrs hrm hrc ⊢
    have hrl:=Ce hrn hrs
    have hrsh:Sh (m++t):=by unfold Sh;omega
    by_cases hkn:k<near.length
    ·have htk:=List.take_succ_eq_append_getElem hkn
     simp only[dlt hkn,cond_true,Ay hkn,Option.bind_some,Dk _ _ hsh,Dk _ _ hrsh,wi (show k<4611686018427387904 by omega)]
     by_cases h1:near[k]∈sel
     ·by_cases h2:near[k]∈m++t
      ·simp only[h1,h2,decide_true,cond_true,Bool.not_true,cond_false,Option.bind_some]
       refine⟨_,rfl,⟨k+1,rfl,by omega,hrn,hrs,⟨t,rfl⟩,hrm,fun y hy hys=> ?_⟩,by dsimp only;omega⟩
       rw[htk] at hy
       rcases List.mem_append.1 hy with hy|hy
       ·exact hrc y hy hys
       ·simp at hy;subst hy;exact h2
      ·simp only[h1,h2,decide_true,decide_false,cond_true,Bool.not_false,Option.bind_some]
       rw[A4 (by simp at hrl ⊢;omega),Option.bind_some]
       refine⟨_,rfl,⟨k+1,rfl,by omega,?_,fun y hy=> ?_,⟨t++[near[k]],by simp⟩,fun m' hm' y hy=> ?_,fun y hy hys=> ?_⟩,by dsimp only;omega⟩
       ·have hp:(m++t++[near[k]]).Perm (near[k]::(m++t)):=List.perm_append_comm
        exact hp.nodup_iff.2 (List.nodup_cons.2 ⟨h2,hrn⟩)
       ·rcases List.mem_append.1 hy with hy|hy
        ·exact hrs y hy
        ·simp at hy;subst hy;exact h1
       ·rcases List.mem_append.1 hy with hy|hy
        ·exact hrm m' hm' y hy
        ·simp at hy;subst hy
         exact hm'.step m[i] (hmn m' hm' _ (List.getElem_mem him)) _ h1 ((hnm _).1 (List.getElem_mem hkn))
       ·dsimp only
        rw[htk] at hy
        rcases List.mem_append.1 hy with hy|hy
        ·exact List.mem_append_left _ (hrc y hy hys)
        ·simp at hy;subst hy;simp
     ·simp only[h1,decide_false,cond_false,Option.bind_some]
      refine⟨_,rfl,⟨k+1,rfl,by omega,hrn,hrs,⟨t,rfl⟩,hrm,fun y hy hys=> ?_⟩,by dsimp only;omega⟩
      rw[htk] at hy
      rcases List.mem_append.1 hy with hy|hy
      ·exact hrc y hy hys
      ·simp at hy;subst hy;exact absurd hys h1
    ·obtain rfl:k=near.length:=by omega
     simp only[A9,cond_false]
     rw[List.take_length] at hrc
     exact⟨_,rfl,hrn,hrs,⟨t,rfl⟩,hrm,hrc⟩
   ·rintro r ⟨hrn,hrs,⟨t,rfl⟩,hrm,hrc⟩
    simp only[wi (show i<4611686018427387904 by omega)]
    refine⟨_,rfl,⟨i+1,rfl,by simp;omega,hrn,hrs,List.mem_append_left _ hx,hrm,fun x hx' y hy hxy=> ?_⟩,by dsimp only;omega⟩
    dsimp only at hx' ⊢
    rw[List.take_append_of_le_length (by omega),List.take_succ_eq_append_getElem him] at hx'
    rcases List.mem_append.1 hx' with hx'|hx'
    ·exact List.mem_append_left _ (hc x hx' y hy hxy)
    ·simp at hx';subst hx'
     exact hrc y ((hnm y).2 hxy) hy
  ·obtain rfl:i=m.length:=by omega
   simp only[A9,cond_false]
   rw[List.take_length] at hc
   exact⟨_,rfl,hn,⟨hsub,fun x hx'=>by rw[←hsel] at hx';simp at hx';subst hx';exact hx,hc⟩,hmn⟩
 ·rintro r ⟨h1,h2,h3⟩
  exact⟨_,rfl,r,rfl,h1,h2,h3⟩
def CJ (links:List (List Int))(sel:List Int):Prop:=∀m,Closed links sel m→∀x∈sel,x∈m
end Go.Sx

namespace Go.Sx
def LinkIn (n:Nat)(l:List Int):Prop:=∃a b:Nat,l=[(a:Int),(b:Int)]∧a<b∧b<n
theorem l1Edges_ok (g:List (List Int))(hg:GOk g):∃y,D.e0 g=some y∧(y.length≤256∧∀e∈y,∃u v:Nat,e=[(u:Int),(v:Int)]∧u<g.length∧adj g u v∧u<v):=by
 have h16:=hg.n16
 unfold D.e0
 refine AM (fun s=>∃u:Nat,s.2=(u:Int)∧u≤g.length∧s.1.length≤16*u∧∀e∈s.1,∃u v:Nat,e=[(u:Int),(v:Int)]∧u<g.length∧adj g u v∧u<v) (fun s=>g.length-s.2.toNat)
  (fun r=>r.length≤256∧∀e∈r,∃u v:Nat,e=[(u:Int),(v:Int)]∧u<g.length∧adj g u v∧u<v) ?_ ⟨0,rfl,by omega,by simp,by simp⟩ ?_
 ·rintro⟨l,_⟩ ⟨u,rfl,hu,hl,hE⟩
  dsimp only at hl hE ⊢
  unfold D.d
  simp only[Option.bind_some]
  by_cases hug:u<g.length
  ·have hrl:=hg.row_len hug
   simp only[dlt hug,cond_true]
   refine AM (fun s=>∃i:Nat,s.2=(i:Int)∧i≤(row g u).length∧s.1.length≤16*u+i∧∀e∈s.1,∃u v:Nat,e=[(u:Int),(v:Int)]∧u<g.length∧adj g u v∧u<v) (fun s=>(row g u).length-s.2.toNat)
    (fun r=>r.length≤16*u+16∧∀e∈r,∃u v:Nat,e=[(u:Int),(v:Int)]∧u<g.length∧adj g u v∧u<v) ?_ ⟨0,rfl,by omega,by dsimp only;omega,hE⟩ ?_
   ·rintro⟨l,_⟩ ⟨i,rfl,hi,hl,hE⟩
    dsimp only at hl hE ⊢
    simp only[Cd hug,Option.bind_some]
    by_cases hir:i<(row g u).length
    ·obtain⟨v,ev,hv,hav⟩:=hg.mem hug (List.getElem_mem hir)
     simp only[dlt hir,cond_true,Ay hir,ev,Option.bind_some,wi (show i<4611686018427387904 by omega)]
     by_cases huv:u<v
     ·simp only[dlt huv,cond_true]
      rw[A4 (by simp;omega),Option.bind_some]
      refine⟨_,rfl,⟨i+1,rfl,by omega,by simp;omega,fun e he=> ?_⟩,by dsimp only;omega⟩
      rcases List.mem_append.1 he with he|he
      ·exact hE e he
      ·simp at he;subst he;exact⟨u,v,rfl,hug,hav,huv⟩
     ·have:decide ((u:Int)<(v:Int))=false:=by simp;omega
      simp only[this,cond_false]
      exact⟨_,rfl,⟨i+1,rfl,by omega,by dsimp only;omega,hE⟩,by dsimp only;omega⟩
    ·obtain rfl:i=(row g u).length:=by omega
     simp only[A9,cond_false]
     exact⟨_,rfl,by omega,hE⟩
   ·rintro r ⟨h1,h2⟩
    simp only[wi (show u<4611686018427387904 by omega)]
    exact⟨_,rfl,⟨u+1,rfl,by omega,by dsimp only;omega,h2⟩,by dsimp only;omega⟩
  ·obtain rfl:u=g.length:=by omega
   simp only[A9,cond_false]
   exact⟨_,rfl,by omega,hE⟩
 ·rintro r hr
  exact⟨_,rfl,hr⟩
structure TB (g bags links:List (List Int)):Prop where
 n1:1≤bags.length
 n16:bags.length≤16
 many:links.length+1=bags.length
 lks:∀l∈links,LinkIn bags.length l
 sets:∀b∈bags,SetOf b g.length
 tree:CJ links ((List.range bags.length).map Int.ofNat)
 edges:∀u v:Nat,u<g.length→adj g u v→∃b∈bags,(u:Int)∈b∧(v:Int)∈b
 some:∀v,v<g.length→BX bags v≠[]
 conn:∀v,v<g.length→CJ links (BX bags v)
end Go.Sx

namespace Go.Sx
def rowF (r:List Int)(u:Nat)(s:List (List Int)):List (List Int):=(List.range r.length).foldl (fun s i=>if(u:Int)<r.getD i 0 then s++[[(u:Int),r.getD i 0]] else s) s
theorem Fx (r:List Int)(u:Nat)(s0:List (List Int))(h:s0.length+r.length≤4294967296){step:List (List Int)×Int→Option ((List (List Int)×Int) ⊕ List (List Int))}
  (hstep:∀s (i:Nat) (hi:i<r.length),step (s,(i:Int))=cond (decide ((u:Int)<r[i])) ((AV s [[(u:Int),r[i]]]).bind fun l=>some (.inl (l,((i+1:Nat):Int)))) (some (.inl (s,((i+1:Nat):Int)))))
  (hend:∀s,step (s,(r.length:Int))=some (.inr s)):Ap step (s0,0)=some (rowF r u s0)∧(rowF r u s0).length≤s0.length+r.length:=by
 have key:=loop_nat (step:=step) r.length (fun s i=>(s,i)) (fun s i=>if(u:Int)<r.getD i 0 then s++[[(u:Int),r.getD i 0]] else s) (fun s=>s) (fun i s=>s.length≤s0.length+i) s0 (by omega)
  (fun s i hi hs=> ?_) (fun s _=>hend s)
 ·exact key
 ·have hg:r.getD i 0=r[i]:=Av hi 0
  refine⟨?_,?_⟩
  ·rw[hstep s i hi,hg]
   by_cases hc:(u:Int)<r[i]
   ·rw[decide_eq_true hc,cond_true,A4 (by simp;omega),if_pos hc];rfl
   ·rw[decide_eq_false hc,cond_false,if_neg hc]
  ·rw[hg]
   split
   ·rw[List.length_append,List.length_singleton];omega
   ·omega
def Ct (g:List (List Int)):List (List Int):=(List.range g.length).foldl (fun s u=>rowF (row g u) u s) []
theorem FF (g:List (List Int))(hg:GOk g):D.G1 g=some (Ct g):=by
 have h16:=hg.n16
 unfold D.G1
 have key:=loop_nat (ρ:=List (List Int)) (step:=(fun(s_288:(List (List Int))×Int)=>match s_288 with|(l_291,x_296)=>cond (decide (x_296<(g.length:Int))) ((idx g x_296).bind fun e_441=>(Ap (σ:=(List (List Int))×Int) (ρ:=((List (List Int)))) (fun(s_508:(List (List Int))×Int)=>match s_508 with|(l_511,x_516)=>cond (decide (x_516<(e_441.length:Int))) ((idx e_441 x_516).bind fun e_551=>cond (decide (x_296<e_551)) ((AV l_511 ([([x_296,e_551]:List Int)]:List (List Int))).bind fun l_569=>some (.inl (l_569,(IntKind.i64.wrap (x_516+1))))) (some (.inl (l_511,(IntKind.i64.wrap (x_516+1)))))) (some (.inr l_511))) (l_291,0)).bind fun l_544=>some (.inl (l_544,(IntKind.i64.wrap (x_296+1))))) (some (.inr l_291))))
  g.length (fun s i=>(s,i)) (fun s u=>rowF (row g u) u s) (fun s=>s) (fun i s=>s.length≤16*i) [] (by simp) (fun s u hu hs=> ?_) (fun s _=> ?_)
 ·exact congrArg (fun z=>Option.bind z fun l=>some l) key.1
 ·have hr:=hg.row_len hu
  obtain⟨k1,k2⟩:=Fx (row g u) u s (by omega) (step:=(fun(s_508:(List (List Int))×Int)=>match s_508 with|(l_511,x_516)=>cond (decide (x_516<((row g u).length:Int))) ((idx (row g u) x_516).bind fun e_551=>cond (decide ((u:Int)<e_551)) ((AV l_511 ([([(u:Int),e_551]:List Int)]:List (List Int))).bind fun l_569=>some (.inl (l_569,(IntKind.i64.wrap (x_516+1))))) (some (.inl (l_511,(IntKind.i64.wrap (x_516+1)))))) (some (.inr l_511)))) (fun s i hi=>by
    simp only[dlt hi,cond_true,Ay hi,Option.bind_some,wi (show i<4611686018427387904 by omega)]) (fun s=>by simp only[A9,cond_false])
  refine⟨?_,by omega⟩
  simp only[dlt hu,cond_true,Cd hu,Option.bind_some,wi (show u<4611686018427387904 by omega)]
  exact(congrArg (fun z=>Option.bind z _) k1).trans rfl
 ·simp only[A9,cond_false]
theorem l1Edges_eq (g:List (List Int))(hg:GOk g):D.e0 g=some (Ct g):=by
 have h16:=hg.n16
 unfold D.e0 D.d
 have key:=loop_nat (ρ:=List (List Int)) (step:=(fun(s_482:(List (List Int))×Int)=>match s_482 with|(l_485,x_490)=>(some (g.length:Int)).bind fun y_731=>cond (decide (x_490<y_731)) ((Ap (σ:=(List (List Int))×Int) (ρ:=((List (List Int)))) (fun(s_848:(List (List Int))×Int)=>match s_848 with|(l_851,x_856)=>(idx g x_490).bind fun e_914=>cond (decide (x_856<(e_914.length:Int))) ((idx g x_490).bind fun e_921=>(idx e_921 x_856).bind fun e_927=>cond (decide (x_490<e_927)) ((idx g x_490).bind fun e_934=>(idx e_934 x_856).bind fun e_940=>(AV l_851 ([([x_490,e_940]:List Int)]:List (List Int))).bind fun l_957=>some (.inl (l_957,(IntKind.i64.wrap (x_856+1))))) (some (.inl (l_851,(IntKind.i64.wrap (x_856+1)))))) (some (.inr l_851))) (l_485,0)).bind fun l_908=>some (.inl (l_908,(IntKind.i64.wrap (x_490+1))))) (some (.inr l_485))))
  g.length (fun s i=>(s,i)) (fun s u=>rowF (row g u) u s) (fun s=>s) (fun i s=>s.length≤16*i) [] (by simp) (fun s u hu hs=> ?_) (fun s _=> ?_)
 ·exact congrArg (fun z=>Option.bind z fun l=>some l) key.1
 ·have hr:=hg.row_len hu
  obtain⟨k1,k2⟩:=Fx (row g u) u s (by omega) (step:=(fun(s_848:(List (List Int))×Int)=>match s_848 with|(l_851,x_856)=>(idx g (u:Int)).bind fun e_914=>cond (decide (x_856<(e_914.length:Int))) ((idx g (u:Int)).bind fun e_921=>(idx e_921 x_856).bind fun e_927=>cond (decide ((u:Int)<e_927)) ((idx g (u:Int)).bind fun e_934=>(idx e_934 x_856).bind fun e_940=>(AV l_851 ([([(u:Int),e_940]:List Int)]:List (List Int))).bind fun l_957=>some (.inl (l_957,(IntKind.i64.wrap (x_856+1))))) (some (.inl (l_851,(IntKind.i64.wrap (x_856+1)))))) (some (.inr l_851)))) (fun s i hi=>by
    simp only[Cd hu,dlt hi,cond_true,Ay hi,Option.bind_some,wi (show i<4611686018427387904 by omega)]) (fun s=>by simp only[Cd hu,Option.bind_some,A9,cond_false])
  refine⟨?_,by omega⟩
  simp only[Option.bind_some,dlt hu,cond_true,wi (show u<4611686018427387904 by omega)]
  exact(congrArg (fun z=>Option.bind z _) k1).trans rfl
 ·simp only[Option.bind_some,A9,cond_false]
theorem GOk.sh2 {g:List (List Int)}(hg:GOk g):Sh2 g:=by
 have h16:=hg.n16
 exact⟨by unfold Sh;omega,fun r hr=>by have:=(hg.mem0 hr).1;unfold Sh;omega⟩
theorem Fg {g:List (List Int)}(hg:GOk g):gB g=true:=(gB_iff g).2 hg
theorem DS (g:List (List Int))(hg:GOk g):D.E1 g=some ((Ct g).length:Int):=by
 unfold D.E1 D.N1
 rw[Dy g hg.sh2,Fg hg,Option.bind_some,Bool.not_true,cond_false,FF g hg];rfl
theorem nets_graph_eq (F:List Int)(h:F.length≤16)(hV:∀u,u<F.length→VS (F.getD u 0)):D.K1 F=some (grow F):=by
 unfold D.K1
 refine(Dm F (fun s i=>(i,s)) Ao (by omega) (fun s i hi _=> ?_) (fun s=> ?_)).trans rfl
 ·have:=hV i hi
  rw[Av hi] at this
  simp only[dlt hi,cond_true,Ay hi,Option.bind_some,DW _ this,wi (show i<4611686018427387904 by omega)]
 ·simp only[A9,cond_false]
theorem OOk.sh {g:List (List Int)}{o:List Int}(hg:GOk g)(ho:OOk g o):Sh o:=by
 have:=hg.n16;have:=ho.len;unfold Sh;omega
theorem DR {g:List (List Int)}{o:List Int}(hg:GOk g)(ho:OOk g o):D.X g o=some true:=by
 rw[FG g o hg.sh2 (ho.sh hg),Fg hg,(ordB_iff g o).2 ho];rfl
structure Fill (g:List (List Int))(o F L:List Int):Prop where
 elim:D.B (g.map mk) o=some (F,L)
 f:FOk F g.length
 lenL:L.length=g.length
 vsL:∀u,u<g.length→VS (L.getD u 0)
 mono:∀u w,u<g.length→adj g u w→nb F u w=true
 lat:Lat F L o g.length
 peo:PEO F o
 same:PEO (g.map mk) o→F=g.map mk
 latb:∀(j:Nat) (v:Nat),o[j]? =some (v:Int)→∀w:Nat,nb L v w=true↔(w:Int)∉o.take (j+1)∧Bhd (g.map mk) (fun x=>(x:Int)∈o.take j) v w
theorem fill_ex {g:List (List Int)}{o:List Int}(hg:GOk g)(ho:OOk g o):∃F L,Fill g o F L:=by
 obtain⟨⟨F,L⟩,e,left,h⟩:=elim_ok hg.n16 (FOk.of hg) ho.len ho.rng ho.nd
 refine⟨F,L,e,h.f,h.lenL,h.vsL,fun u w hu ha=>h.mono u w hu ((nb_mk hg hu).2 ha),h.lat,fun j v u w hj=> ?_,h.same,fun j v hj=>h.latb j v (by have:=(List.getElem?_eq_some_iff.1 hj).1;have:=ho.len;omega) hj⟩
 have hjl:=(List.getElem?_eq_some_iff.1 hj).1
 have:=ho.len
 exact h.peo j v u w (by omega) hj
theorem Fill.FillOf {g:List (List Int)}{o F L:List Int}(hg:GOk g)(ho:OOk g o)(h:Fill g o F L):D.J1 g o=some (grow F,true):=by
 have h16:=hg.n16
 unfold D.J1
 rw[DR hg ho,Option.bind_some,Bool.not_true,cond_false,Eo g hg,Option.bind_some,narrow_eq o (ho.sh hg),Option.bind_some,h.elim,Option.bind_some,nets_graph_eq F (by rw[h.f.len];omega) (fun u hu=>h.f.vs u (by rw[h.f.len] at hu;exact hu))]
 rfl
theorem Fill.gok {g:List (List Int)}{o F L:List Int}(hg:GOk g)(h:Fill g o F L):GOk (grow F):=GOk.grow h.f hg.n1 hg.n16
theorem C2 (F:List Int):(grow F).length=F.length:=by simp[grow]
theorem Db {g:List (List Int)}{o:List Int}(ho:OOk g o){v:Nat}(hv:v<g.length):∃i:Nat,i<g.length∧o[i]? =some (v:Int):=by
 have hsub:∀x∈o,x∈(List.range g.length).map Int.ofNat:=fun x hx=>by
  have:=ho.rng x hx
  exact List.mem_map.2 ⟨x.toNat,List.mem_range.2 (by omega),by show ((x.toNat:Nat):Int)=x;omega⟩
 by_cases hm:(v:Int)∈o
 ·obtain⟨i,hi,e⟩:=List.getElem_of_mem hm
  exact⟨i,by have:=ho.len;omega,by rw[List.getElem?_eq_getElem hi,e]⟩
 ·exfalso
  have h1:((v:Int)::o).length≤((List.range g.length).map Int.ofNat).length:=Ce (List.nodup_cons.2 ⟨hm,ho.nd⟩) (fun x hx=>by
   rcases List.mem_cons.1 hx with rfl|hx
   ·exact List.mem_map.2 ⟨v,List.mem_range.2 hv,rfl⟩
   ·exact hsub x hx)
  have:=ho.len
  simp at h1
  omega
end Go.Sx

namespace Go.Sx
theorem FD {α:Type}(p:α→Bool){l:List α}{i:Nat}(hi:i<l.length):(l.take (i+1)).filter p=(l.take i).filter p++(if p l[i] then [l[i]] else []):=by
 rw[List.take_succ_eq_append_getElem hi,List.filter_append]
 congr 1
 rw[List.filter_cons,List.filter_nil]
def lft (g:List (List Int))(v:Nat)(gone:List Bool):List Int:=(row g v).filter fun x=> !gone.getD x.toNat false
theorem l7Left_eq (g:List (List Int))(hg:GOk g){v:Nat}(hv:v<g.length)(gone:List Bool)(hl:gone.length=g.length):D.d0 g (v:Int) gone=some (lft g v gone):=by
 have hr:=hg.row_len hv
 unfold D.d0 lft
 refine(B9 (fun i=>(((row g v).take i).filter (fun x=> !gone.getD x.toNat false),(i:Int))) (row g v).length ((row g v).filter fun x=> !gone.getD x.toNat false) (by simp) (fun i hi=> ?_) ?_).trans rfl
 ·obtain⟨w,e1,h1,_⟩:=hg.mem hv (List.getElem_mem hi)
  have hlen:(((row g v).take i).filter (fun x=> !gone.getD x.toNat false)).length≤16:=Nat.le_trans (List.length_filter_le _ _) (by simp;omega)
  simp only[Cd hv,Option.bind_some,dlt hi,cond_true,Ay hi,e1,Ay (show w<gone.length by omega),wi (show i<4611686018427387904 by omega)]
  have e3:=FD (fun x:Int=> !gone.getD x.toNat false) hi
  rw[e1] at e3
  simp only[Int.toNat_natCast,Av (show w<gone.length by omega)] at e3
  rw[e3]
  cases hc:gone[w]
  ·rw[Bool.not_false,cond_true,A4 (by rw[List.length_singleton];omega),Option.bind_some];rfl
  ·rw[Bool.not_true,cond_false];simp
 ·simp only[Cd hv,Option.bind_some,A9,cond_false,List.take_length]
theorem lft_inc {g:List (List Int)}(hg:GOk g){v:Nat}(hv:v<g.length)(gone:List Bool):Inc (lft g v gone):=List.Pairwise.filter _ (hg.rows v hv).1
end Go.Sx

namespace Go.Sx
def sumN (f:Nat→Nat):Nat→Nat
 |0=>0
 |n+1=>sumN f n+f n
def bit (b:Bool):Nat:=if b then 1 else 0
def S2 (n:Nat)(p:Nat→Nat→Bool):Nat:=sumN (fun u=>sumN (fun w=>bit (p u w)) n) n
def ast (f:Int→Int)(s:Int×Int)(v:Int):Int×Int:=if s.1<0∨f v<s.2 then(v,f v) else s
def amin (f:Int→Int)(l:List Int):Int×Int:=l.foldl (ast f) (-1,0)
theorem ast_run (f:Int→Int):∀(l:List Int) (b:Int),0≤b→(∀x∈l,0≤x)→∃c,l.foldl (ast f) (b,f b)=(c,f c)∧(c=b∨c∈l)∧0≤c∧f c≤f b∧∀x∈l,f c≤f x
 |[],b,hb,_=>⟨b,rfl,.inl rfl,hb,Int.le_refl _,by simp⟩
 |x::l,b,hb,hl=>by
  have hx:=hl x (by simp)
  have hl':=fun y hy=>hl y (List.mem_cons_of_mem x hy)
  rw[List.foldl_cons]
  by_cases hc:f x<f b
  ·have e:ast f (b,f b) x=(x,f x):=by unfold ast;rw[if_pos (.inr hc)]
   rw[e]
   obtain⟨c,h1,h2,h3,h4,h5⟩:=ast_run f l x hx hl'
   refine⟨c,h1,.inr ?_,h3,by omega,fun y hy=> ?_⟩
   ·rcases h2 with rfl|h2
    ·simp
    ·exact List.mem_cons_of_mem _ h2
   ·rcases List.mem_cons.1 hy with rfl|hy
    ·exact h4
    ·exact h5 y hy
  ·have e:ast f (b,f b) x=(b,f b):=by unfold ast;rw[if_neg (fun h=>h.elim (fun h=>by dsimp only at h;omega) hc)]
   rw[e]
   obtain⟨c,h1,h2,h3,h4,h5⟩:=ast_run f l b hb hl'
   refine⟨c,h1,?_,h3,h4,fun y hy=> ?_⟩
   ·rcases h2 with h2|h2
    ·exact .inl h2
    ·exact .inr (List.mem_cons_of_mem _ h2)
   ·rcases List.mem_cons.1 hy with rfl|hy
    ·omega
    ·exact h5 y hy
theorem ast_first (f:Int→Int)(x:Int):ast f (-1,0) x=(x,f x):=by unfold ast;rw[if_pos (.inl (by decide))]
theorem amin_ok (f:Int→Int){l:List Int}(hne:l≠[])(hl:∀x∈l,0≤x):∃c,amin f l=(c,f c)∧c∈l∧∀x∈l,f c≤f x:=by
 cases l with
 |nil=>exact absurd rfl hne
 |cons x l=>
  unfold amin
  rw[List.foldl_cons,ast_first]
  obtain⟨c,h1,h2,h3,h4,h5⟩:=ast_run f l x (hl x (by simp)) (fun y hy=>hl y (List.mem_cons_of_mem _ hy))
  refine⟨c,h1,?_,fun y hy=> ?_⟩
  ·rcases h2 with rfl|h2
   ·simp
   ·exact List.mem_cons_of_mem _ h2
  ·rcases List.mem_cons.1 hy with rfl|hy
   ·exact h4
   ·exact h5 y hy
def els (s:Int)(i:Nat):List Int:=((List.range i).filter (has s)).map Int.ofNat
theorem els_all {s:Int}{n:Nat}(hn:n≤32)(h:∀v,has s v=true→v<n):els s n=Ao s:=by
 unfold els Ao
 obtain⟨k,hk⟩:∃k,32=n+k:=⟨32-n,by omega⟩
 rw[hk,List.range_add,List.filter_append]
 have:((List.range k).map (fun x=>n+x)).filter (has s)=[]:=by
  rw[List.filter_eq_nil_iff]
  intro x hx hc
  obtain⟨y,_,rfl⟩:=List.mem_map.1 hx
  have:=h _ hc;omega
 rw[this,List.append_nil]
theorem elems_nonneg (s:Int):∀x∈Ao s,0≤x:=fun x hx=>by
 obtain⟨v,_,_,rfl⟩:=mem_elems.1 hx;omega
theorem elems_rm {s:Int}{b:Nat}(h:VS s)(hb:has s b=true):(Ao s).length=(Ao (iandNot .u32 s (ishl .u32 1 (b:Int)))).length+1:=by
 have hb32:b<32:=by
  by_cases hv:b<32
  ·exact hv
  ·rw[D5 h (by omega)] at hb;cases hb
 have hm:∀x,x∈Ao s↔x∈(b:Int)::Ao (iandNot .u32 s (ishl .u32 1 (b:Int))):=fun x=>by
  rw[List.mem_cons,mem_elems,mem_elems]
  constructor
  ·rintro⟨v,h1,h2,rfl⟩
   by_cases e:v=b
   ·left;omega
   ·right;exact⟨v,h1,by rw[A6 h (VS.ishl _ _),BA hb32,h2];simp[e],rfl⟩
  ·rintro(rfl|⟨v,h1,h2,rfl⟩)
   ·exact⟨b,hb32,hb,rfl⟩
   ·rw[A6 h (VS.ishl _ _),Bool.and_eq_true] at h2
    exact⟨v,h1,h2.1,rfl⟩
 have hn:((b:Int)::Ao (iandNot .u32 s (ishl .u32 1 (b:Int)))).Nodup:=by
  refine List.nodup_cons.2 ⟨fun hc=> ?_,(BH _).nodup⟩
  rw[AU (VS.iandNot _ _),A6 h (VS.ishl _ _),BA hb32] at hc
  simp at hc
 have:=nodup_all (BH s).nodup hn (fun x hx=>(hm x).1 hx) (fun x hx=>(hm x).2 hx)
 simpa using this
def full (n:Nat):Int:=IntKind.u32.wrap (ishl .u32 1 (n:Int)-1)
theorem Cx (n:Nat):VS (full n):=VS.wrap _
theorem C4 {n:Nat}(h:n≤16)(v:Nat):has (full n) v=decide (v<n):=by
 by_cases hv:v<32
 ·exact all_mask ⟨n,by omega⟩ ⟨v,hv⟩
 ·rw[D5 (Cx n) (by omega)];symm;simp;omega
theorem nets_all_full (F:List Int):D.p F=some (full F.length):=by
 unfold D.p D.o0
 have:decide ((F.length:Int)<0)=false:=by simp
 rw[this];rfl
def BU (n:Nat)(s:Int):List Bool:=(List.range n).map fun v=> !has s v
theorem D4 (n:Nat)(s:Int):(BU n s).length=n:=by simp[BU]
theorem EW {n:Nat}{s:Int}{v:Nat}(h:v<n){h':v<(BU n s).length}:(BU n s)[v]= !has s v:=by
 simp[BU]
theorem EL {n:Nat}{s:Int}{v:Nat}(h:v<n):(BU n s).getD v false= !has s v:=by
 unfold BU
 rw[Av (by simpa using h)];simp
theorem goneOf_idx {n:Nat}{s:Int}{v:Nat}(h:v<n):idx (BU n s) (v:Int)=some (!has s v):=by
 rw[Ay (by rw[D4];exact h),←EL h,Av (by rw[D4];exact h)]
theorem goneOf_set {n b:Nat}{s:Int}(hs:VS s)(hb:b<n)(hn:n≤32):(BU n s).set b true=BU n (iandNot .u32 s (ishl .u32 1 (b:Int))):=by
 apply List.ext_getElem
 ·simp[BU]
 ·intro i h1 h2
  have hi:i<n:=by simpa [BU] using h2
  rw[List.getElem_set,EW hi,EW hi,A6 hs (VS.ishl _ _),BA (by omega)]
  by_cases e:b=i
  ·subst e;simp
  ·rw[if_neg e]
   have:decide (i=b)=false:=by simp;omega
   simp[this]
theorem Fo {n:Nat}(h:n≤16):List.replicate n false=BU n (full n):=by
 apply List.ext_getElem
 ·simp[BU]
 ·intro i h1 h2
  have hi:i<n:=by simpa [BU] using h2
  rw[List.getElem_replicate,EW hi,C4 h]
  simp[hi]
theorem lft_gone {g:List (List Int)}(hg:GOk g){s:Int}(hs:VS s){v:Nat}(hv:v<g.length):lft g v (BU g.length s)=Ao (iand .u32 (mk (row g v)) s):=by
 have h16:=hg.n16
 refine Inc.ext (lft_inc hg hv _) (BH _) (fun x=> ?_)
 unfold lft
 rw[List.mem_filter,mem_elems]
 constructor
 ·rintro⟨h1,h2⟩
  obtain⟨w,rfl,hw,ha⟩:=hg.mem hv h1
  rw[Int.toNat_natCast,EL hw,Bool.not_not] at h2
  refine⟨w,by omega,?_,rfl⟩
  rw[B6 (VS.mk _) hs,h2,Dc (fun x hx=>by have:=(hg.rows v hv).2 x hx;omega)]
  simpa using h1
 ·rintro⟨w,_,h2,rfl⟩
  rw[B6 (VS.mk _) hs,Dc (fun x hx=>by have:=(hg.rows v hv).2 x hx;omega)] at h2
  simp only[Bool.and_eq_true,decide_eq_true_eq] at h2
  have hw:w<g.length:=by have:=(hg.rows v hv).2 _ h2.1;omega
  exact⟨h2.1,by rw[Int.toNat_natCast,EL hw,h2.2];rfl⟩
end Go.Sx

namespace Go.Sx
def maxsz (L:List Int):Int:=L.foldl (fun s x=>if s<((Ao x).length:Int) then((Ao x).length:Int) else s) 0
theorem Fill.many {g:List (List Int)}{o F L:List Int}(hg:GOk g)(ho:OOk g o)(h:Fill g o F L):D.L1 g o=some (IntKind.i64.wrap (((Ct (grow F)).length:Int)-((Ct g).length:Int))):=by
 unfold D.L1
 rw[h.FillOf hg ho,Option.bind_some]
 simp only[Bool.not_true,cond_false]
 rw[DS _ (h.gok hg),Option.bind_some,DS _ hg]
 rfl
end Go.Sx

namespace Go.Sx
section
variable {g : List (List Int)} {o : List Int} (hg : GOk g) (ho : OOk g o)
include hg ho
theorem take_ok (i:Nat):(o.take i).length≤16∧∀x∈o.take i,0≤x∧x<g.length:=by
 have:=hg.n16;have:=ho.len
 exact⟨by rw[List.length_take];omega,fun x hx=>ho.rng x (List.mem_of_mem_take hx)⟩
theorem has_take (i:Nat)(v:Nat):has (mk (o.take i)) v=decide ((v:Int)∈o.take i):=by
 have:=hg.n16
 exact Dc (fun x hx=>by have:=(take_ok hg ho i).2 x hx;omega) v
omit hg ho in
theorem mk_take {i:Nat}(hi:i<o.length):ior .u32 (mk (o.take i)) (ishl .u32 1 o[i])=mk (o.take (i+1)):=by
 unfold mk
 rw[List.take_succ_eq_append_getElem hi,List.foldl_append];rfl
end
end Go.Sx

namespace Go.Sx
section
variable {g : List (List Int)} {o : List Int} (hg : GOk g) (ho : OOk g o)
include hg ho
omit hg ho in
theorem l1Max_eq (a b:Int):D.L a b=some (max a b):=by
 unfold D.L
 by_cases h:b<a
 ·simp only[h,decide_true,cond_true];congr 1;omega
 ·simp only[h,decide_false,cond_false];congr 1;omega
def mx (f:Nat→Int):Nat→Int
 |0=>0
 |n+1=>max (mx f n) (f n)
end
end Go.Sx

namespace Go.Sx
def dg (g:List (List Int))(s:Int)(v:Int):Int:=((Ao (iand .u32 (mk (row g v.toNat)) s)).length:Int)
structure SQ (n:Nat)(s:Int)(k:Nat):Prop where
 vs:VS s
 lt:∀v,has s v=true→v<n
 card:(Ao s).length=k
theorem SQ.full {n:Nat}(h:n≤16):SQ n (full n) n:=by
 refine⟨Cx n,fun v hv=>by rw[C4 h] at hv;exact of_decide_eq_true hv,?_⟩
 rw[←els_all (n:=n) (by omega) (fun v hv=>by rw[C4 h] at hv;exact of_decide_eq_true hv)]
 unfold els
 rw[List.length_map,List.filter_eq_self.2 (fun v hv=>by rw[C4 h];exact decide_eq_true (List.mem_range.1 hv)),List.length_range]
theorem SQ.rm {n k b:Nat}{s:Int}(h:SQ n s (k+1))(hb:has s b=true):SQ n (iandNot .u32 s (ishl .u32 1 (b:Int))) k:=by
 refine⟨VS.iandNot _ _,fun v hv=> ?_,?_⟩
 ·rw[A6 h.vs (VS.ishl _ _),Bool.and_eq_true] at hv
  exact h.lt v hv.1
 ·have:=elems_rm h.vs hb
  have:=h.card
  omega
theorem SQ.ne {n k:Nat}{s:Int}(h:SQ n s (k+1)):Ao s≠[]:=fun e=>by have:=h.card;rw[e] at this;simp at this
theorem SQ.nz {n k:Nat}{s:Int}(h:SQ n s (k+1)):s≠0:=fun e=>by have:=h.ne;rw[e,DY] at this;exact this rfl
theorem SQ.z {n:Nat}{s:Int}(h:SQ n s 0):s=0:=by
 rw[h.vs.eq_zero]
 intro v hv
 cases hc:has s v
 ·rfl
 ·have:(v:Int)∈Ao s:=(AU h.vs).2 hc
  have h0:=h.card
  rw[List.length_eq_zero_iff] at h0
  rw[h0] at this;simp at this
theorem SQ.min {n k:Nat}{s:Int}(h:SQ n s (k+1))(f:Int→Int):∃c:Nat,c<n∧has s c=true∧amin f (Ao s)=((c:Int),f c)∧∀v:Nat,has s v=true→f c≤f v:=by
 obtain⟨c,h1,h2,h3⟩:=amin_ok f h.ne (elems_nonneg s)
 obtain⟨v,_,h5,rfl⟩:=mem_elems.1 h2
 exact⟨v,h.lt v h5,h5,h1,fun w hw=>h3 w ((AU h.vs).2 hw)⟩
theorem elems_head {s:Int}(h:VS s){k:Nat}(hk:has s k=true)(hm:∀v,v<k→has s v=false):∃t,Ao s=(k:Int)::t:=by
 cases he:Ao s with
 |nil=>have:=(AU h).2 hk;rw[he] at this;simp at this
 |cons x t=>
  refine⟨t,?_⟩
  congr 1
  have hx:x∈Ao s:=by rw[he];simp
  obtain⟨v,_,h2,rfl⟩:=mem_elems.1 hx
  have hkm:=(AU h).2 hk
  rw[he] at hkm
  have hi:=BH s
  rw[he] at hi
  rcases List.mem_cons.1 hkm with e|e
  ·exact e.symm
  ·have:=(List.pairwise_cons.1 hi).1 _ e
   have:=hm v (by omega)
   rw[this] at h2;cases h2
theorem maxsz_nonneg (L:List Int):0≤maxsz L:=by
 unfold maxsz
 have key:∀(L:List Int) (a:Int),a≤L.foldl (fun s x=>if s<((Ao x).length:Int) then((Ao x).length:Int) else s) a:=by
  intro L
  induction L with
  |nil=>intro a;simp
  |cons y L ih=>
   intro a
   rw[List.foldl_cons]
   have h1:=ih (if a<((Ao y).length:Int) then((Ao y).length:Int) else a)
   have h2:a≤(if a<((Ao y).length:Int) then((Ao y).length:Int) else a):=by split<;>omega
   omega
 exact key L 0
end Go.Sx

namespace Go.Sx
theorem graph_ext {g g':List (List Int)}(hg:GOk g)(hg':GOk g')(hl:g.length=g'.length)(h:∀a b:Nat,a<g.length→(adj g a b↔adj g' a b)):g=g':=by
 apply List.ext_getElem hl
 intro i h1 h2
 rw[←DL h1,←DL h2]
 refine Inc.ext (hg.rows i h1).1 (hg'.rows i h2).1 (fun x=> ?_)
 constructor
 ·intro hx
  obtain⟨w,rfl,_,ha⟩:=hg.mem h1 hx
  exact(h i w h1).1 ha
 ·intro hx
  obtain⟨w,rfl,_,ha⟩:=hg'.mem h2 hx
  exact(h i w h1).2 ha
theorem grow_of {g:List (List Int)}(hg:GOk g):grow (g.map mk)=g:=by
 have hf:=FOk.of hg
 refine graph_ext (GOk.grow hf hg.n1 hg.n16) hg (by rw[C2,hf.len]) (fun a b ha=> ?_)
 rw[C2,hf.len] at ha
 rw[DC hf ha,nb_mk hg ha]
theorem l7Clique_ok {g:List (List Int)}(hg:GOk g){l:List Int}(hi:Inc l)(hr:∀x∈l,0≤x∧x<g.length):
  ∃g',D.j0 g l=some g'∧(GOk g'∧g'.length=g.length∧∀a b:Nat,adj g' a b↔adj g a b∨(a≠b∧(a:Int)∈l∧(b:Int)∈l)):=by
 have h16:=hg.n16
 have hl:=hi.short (n:=g.length) hr
 unfold D.j0
 refine AM (fun s=>∃i:Nat,s.2=(i:Int)∧i≤l.length∧GOk s.1∧s.1.length=g.length∧∀a b:Nat,adj s.1 a b↔adj g a b∨(a≠b∧(a:Int)∈l.take i∧(b:Int)∈l.take i)) (fun s=>l.length-s.2.toNat)
  (fun r=>GOk r∧r.length=g.length∧∀a b:Nat,adj r a b↔adj g a b∨(a≠b∧(a:Int)∈l∧(b:Int)∈l)) ?_ ⟨0,rfl,by omega,hg,rfl,fun a b=>by simp⟩ (fun r h=>⟨r,rfl,h⟩)
 rintro⟨G,_⟩ ⟨i,rfl,hil,hG,hGl,hA⟩
 dsimp only at hG hGl hA ⊢
 by_cases hlt:i<l.length
 ·have r1:=hr _ (List.getElem_mem hlt)
  obtain⟨v,ev⟩:∃v:Nat,l[i]=(v:Int):=⟨l[i].toNat,by omega⟩
  simp only[dlt hlt,cond_true]
  refine AM (fun s=>∃k:Nat,s.2=(k:Int)∧k≤i∧GOk s.1∧s.1.length=g.length∧∀a b:Nat,adj s.1 a b↔adj G a b∨(a=v∧(b:Int)∈l.take k)∨(b=v∧(a:Int)∈l.take k)) (fun s=>i-s.2.toNat)
   (fun r=>GOk r∧r.length=g.length∧∀a b:Nat,adj r a b↔adj G a b∨(a=v∧(b:Int)∈l.take i)∨(b=v∧(a:Int)∈l.take i)) ?_ ⟨0,rfl,by omega,hG,hGl,fun a b=>by simp⟩ ?_
  ·rintro⟨G',_⟩ ⟨k,rfl,hk,hG',hGl',hA'⟩
   dsimp only at hG' hGl' hA' ⊢
   by_cases hkl:k<i
   ·have hkk:k<l.length:=by omega
    have r2:=hr _ (List.getElem_mem hkk)
    obtain⟨u,eu⟩:∃u:Nat,l[k]=(u:Int):=⟨l[k].toNat,by omega⟩
    have hne:l[k]<l[i]:=(List.pairwise_iff_getElem.1 hi) k i hkk hlt hkl
    obtain⟨g2,q1,q2,q3,q4⟩:=l1Link_ok hG' (u:=u) (v:=v) (by omega) (by omega) (by omega)
    simp only[dlt hkl,cond_true,Ay hkk,Ay hlt,Option.bind_some,eu,ev,q1,wi (show k<4611686018427387904 by omega)]
    refine⟨_,rfl,⟨k+1,rfl,by omega,q2,by dsimp only;omega,fun a b=> ?_⟩,by dsimp only;omega⟩
    dsimp only
    rw[q4,hA',List.take_succ_eq_append_getElem hkk,eu]
    simp only[List.mem_append,List.mem_singleton,Int.natCast_inj]
    constructor
    ·rintro((h|⟨h1,h2⟩|⟨h1,h2⟩)|⟨h1,h2⟩|⟨h1,h2⟩)
     ·exact .inl h
     ·exact .inr (.inl ⟨h1,.inl h2⟩)
     ·exact .inr (.inr ⟨h1,.inl h2⟩)
     ·exact .inr (.inr ⟨h2,.inr h1⟩)
     ·exact .inr (.inl ⟨h1,.inr h2⟩)
    ·rintro(h|⟨h1,h2|h2⟩|⟨h1,h2|h2⟩)
     ·exact .inl (.inl h)
     ·exact .inl (.inr (.inl ⟨h1,h2⟩))
     ·exact .inr (.inr ⟨h1,h2⟩)
     ·exact .inl (.inr (.inr ⟨h1,h2⟩))
     ·exact .inr (.inl ⟨h2,h1⟩)
   ·obtain rfl:k=i:=by omega
    simp only[A9,cond_false]
    exact⟨_,rfl,hG',hGl',hA'⟩
  ·rintro r ⟨q1,q2,q3⟩
   rw[wi (show i<4611686018427387904 by omega)]
   refine⟨_,rfl,⟨i+1,rfl,by omega,q1,q2,fun a b=> ?_⟩,by dsimp only;omega⟩
   dsimp only
   have hvt:(v:Int)∉l.take i:=by
    rw[←ev];exact nodup_iff.1 hi.nodup i hlt
   rw[q3,hA,List.take_succ_eq_append_getElem hlt,ev]
   simp only[List.mem_append,List.mem_singleton,Int.natCast_inj]
   constructor
   ·rintro((h|⟨h0,h1,h2⟩)|⟨h1,h2⟩|⟨h1,h2⟩)
    ·exact .inl h
    ·exact .inr ⟨h0,.inl h1,.inl h2⟩
    ·refine .inr ⟨fun e=> ?_,.inr h1,.inl h2⟩
     subst e;subst h1;exact hvt h2
    ·refine .inr ⟨fun e=> ?_,.inl h2,.inr h1⟩
     subst e;subst h1;exact hvt h2
   ·rintro(h|⟨h0,h1|h1,h2|h2⟩)
    ·exact .inl (.inl h)
    ·exact .inl (.inr ⟨h0,h1,h2⟩)
    ·exact .inr (.inr ⟨h2,h1⟩)
    ·exact .inr (.inl ⟨h1,h2⟩)
    ·exact absurd (h1.trans h2.symm) h0
 ·obtain rfl:i=l.length:=by omega
  simp only[A9,cond_false]
  rw[List.take_length] at hA
  exact⟨_,rfl,hG,hGl,hA⟩
theorem FOk.clique {F F':List Int}{n:Nat}{S:Int}(h:FOk F n)(hS:∀w,has S w=true→w<n)(hl:F'.length=n)(hv:∀u,u<n→VS (F'.getD u 0))(h':∀u w,u<n→nb F' u w=(nb F u w||(has S u&&has S w&&decide (w≠u)))):FOk F' n:=by
 refine⟨hl,hv,fun u w hu hh=> ?_,fun u hu=> ?_,fun u w hu hh=> ?_⟩
 ·rw[h' u w hu] at hh
  simp only[Bool.or_eq_true,Bool.and_eq_true] at hh
  rcases hh with hh|⟨⟨_,hh⟩,_⟩
  ·exact h.lt u w hu hh
  ·exact hS w hh
 ·rw[h' u u hu,h.irr u hu];simp
 ·rw[h' u w hu] at hh
  simp only[Bool.or_eq_true,Bool.and_eq_true,decide_eq_true_eq] at hh
  rcases hh with hh|⟨⟨h1,h2⟩,h3⟩
  ·rw[h' w u (h.lt u w hu hh),h.sym u w hu hh];rfl
  ·rw[h' w u (hS w h2),h1,h2]
   have:decide (u≠w)=true:=by simpa using fun e=>h3 e.symm
   simp[this]
theorem Fd {F:List Int}{n b:Nat}{s:Int}(h16:n≤16)(h:FOk F n)(hs:VS s)(hb:b<n):
  ∃F',D.a0 F s (b:Int)=some F'∧(FOk F' n∧∀u w,u<n→nb F' u w=(nb F u w||((nb F b u&&has s u)&&(nb F b w&&has s w)&&decide (w≠u)))):=by
 have hlen:=h.len
 unfold D.a0
 have hFb:idx F (b:Int)=some (F.getD b 0):=by rw[Ay (by omega),Av (by omega)]
 rw[hFb]
 simp only[Option.bind_some,BG]
 have hSV:VS (iandNot .u32 (iand .u32 (F.getD b 0) s) (ishl .u32 1 (b:Int))):=VS.iandNot _ _
 have hS:∀w,has (iandNot .u32 (iand .u32 (F.getD b 0) s) (ishl .u32 1 (b:Int))) w=(nb F b w&&has s w):=fun w=>by
  rw[A6 (VS.iand _ _) (VS.ishl _ _),B6 (h.vs b hb) hs,BA (by omega)]
  by_cases e:w=b
  ·subst e
   have:=h.irr w hb
   unfold nb at this ⊢
   rw[this];simp
  ·unfold nb;simp[e]
 have hSn:∀w,has (iandNot .u32 (iand .u32 (F.getD b 0) s) (ishl .u32 1 (b:Int))) w=true→w<n:=fun w hw=>by
  rw[hS,Bool.and_eq_true] at hw
  exact h.lt b w hb hw.1
 generalize iandNot .u32 (iand .u32 (F.getD b 0) s) (ishl .u32 1 (b:Int))=S at*
 rw[Dq S hSV,Option.bind_some]
 refine AM (fun st=>∃i:Nat,st.2=(i:Int)∧i≤(Ao S).length∧st.1.length=n∧(∀u,u<n→VS (st.1.getD u 0))∧∀u w,u<n→nb st.1 u w=(nb F u w||(decide ((u:Int)∈(Ao S).take i)&&has S w&&decide (w≠u)))) (fun st=>(Ao S).length-st.2.toNat)
  (fun F'=>F'.length=n∧(∀u,u<n→VS (F'.getD u 0))∧∀u w,u<n→nb F' u w=(nb F u w||(has S u&&has S w&&decide (w≠u)))) ?_ ⟨0,rfl,by omega,hlen,h.vs,fun u w _=>by simp⟩ ?_
 ·rintro⟨l,_⟩ ⟨i,rfl,hi,hl,hv,hh⟩
  dsimp only at hl hv hh ⊢
  have hle:=Cc S
  by_cases hlt:i<(Ao S).length
  ·obtain⟨u0,h1,h2,h3⟩:=mem_elems.1 (List.getElem_mem hlt)
   have h4:=hSn u0 h2
   simp only[dlt hlt,cond_true,Ay hlt,Option.bind_some,h3,Ay (show u0<l.length by omega),BG,wi (show i<4611686018427387904 by omega),Int.toNat_natCast]
   refine⟨_,rfl,⟨i+1,rfl,by omega,by simp[hl],fun u hu=> ?_,fun u w hu=> ?_⟩,by dsimp only;omega⟩
   ·rw[CG _ _ _ _ (by omega)]
    split
    ·exact VS.ior _ _
    ·exact hv u hu
   ·have hmem:((u:Int)∈(Ao S).take (i+1))↔((u:Int)∈(Ao S).take i∨u=u0):=by
     rw[List.take_succ_eq_append_getElem hlt,List.mem_append,h3]
     simp[Int.natCast_inj]
    unfold nb
    rw[CG _ _ _ _ (by omega)]
    by_cases hc:u=u0
    ·subst hc
     rw[if_pos rfl]
     have hg:l[u]=l.getD u 0:=(Av (by omega) 0).symm
     rw[hg,Ca (hv u hu) (VS.iandNot _ _),A6 hSV (VS.ishl _ _),BA (by omega)]
     have:=hh u w hu
     unfold nb at this
     rw[this,decide_eq_true (hmem.2 (.inr rfl))]
     cases has (F.getD u 0) w<;>cases has S w<;>by_cases hw:w=u<;>simp[hw]
    ·rw[if_neg hc]
     have:=hh u w hu
     unfold nb at this
     rw[this]
     have:decide ((u:Int)∈(Ao S).take (i+1))=decide ((u:Int)∈(Ao S).take i):=by
      rw[Bool.eq_iff_iff,decide_eq_true_eq,decide_eq_true_eq,hmem];simp[hc]
     rw[this]
  ·obtain rfl:i=(Ao S).length:=by omega
   simp only[A9,cond_false]
   refine⟨_,rfl,hl,hv,fun u w hu=> ?_⟩
   rw[hh u w hu,List.take_length]
   congr 3
   rw[Bool.eq_iff_iff,decide_eq_true_eq,AU hSV]
 ·rintro F' ⟨q1,q2,q3⟩
  refine⟨_,rfl,h.clique hSn q1 q2 q3,fun u w hu=> ?_⟩
  rw[q3 u w hu,hS,hS]
noncomputable def Ep (F:List Int)(s b:Int):List Int:=(D.a0 F s b).getD []
theorem elimF_ok {F:List Int}{n b:Nat}{s:Int}(h16:n≤16)(h:FOk F n)(hs:VS s)(hb:b<n):
  D.a0 F s (b:Int)=some (Ep F s b)∧FOk (Ep F s b) n∧∀u w,u<n→nb (Ep F s b) u w=(nb F u w||((nb F b u&&has s u)&&(nb F b w&&has s w)&&decide (w≠u))):=by
 obtain⟨F',e,h1,h2⟩:=Fd h16 h hs hb
 have:Ep F s b=F':=by unfold Ep;rw[e];rfl
 rw[this];exact⟨e,h1,h2⟩
theorem lft_grow {F:List Int}{n v:Nat}{s:Int}(h1:1≤n)(h16:n≤16)(h:FOk F n)(hs:VS s)(hv:v<n):lft (grow F) v (BU n s)=Ao (iand .u32 (F.getD v 0) s):=by
 have hl:(grow F).length=n:=by rw[C2,h.len]
 have:=lft_gone (GOk.grow h h1 h16) hs (v:=v) (by omega)
 rw[hl,row_grow,mk_elems (h.vs v hv)] at this
 exact this
theorem clique_grow {F:List Int}{n b:Nat}{s:Int}(h1:1≤n)(h16:n≤16)(h:FOk F n)(hs:VS s)(hb:b<n):
  D.j0 (grow F) (lft (grow F) b (BU n (iandNot .u32 s (ishl .u32 1 (b:Int)))))=some (grow (Ep F s b)):=by
 obtain⟨_,e2,e3⟩:=elimF_ok h16 h hs hb
 have hG:=GOk.grow h h1 h16
 have hl:(grow F).length=n:=by rw[C2,h.len]
 rw[lft_grow h1 h16 h (VS.iandNot _ _) hb]
 have hm:∀w:Nat,(w:Int)∈Ao (iand .u32 (F.getD b 0) (iandNot .u32 s (ishl .u32 1 (b:Int))))↔(nb F b w&&has s w)=true:=fun w=>by
  rw[AU (VS.iand _ _),B6 (h.vs b hb) (VS.iandNot _ _),A6 hs (VS.ishl _ _),BA (by omega)]
  by_cases e:w=b
  ·subst e
   have:=h.irr w hb
   unfold nb at this ⊢
   rw[this];simp
  ·unfold nb;simp[e]
 obtain⟨g',q1,q2,q3,q4⟩:=l7Clique_ok hG (l:=Ao (iand .u32 (F.getD b 0) (iandNot .u32 s (ishl .u32 1 (b:Int))))) (BH _) (fun x hx=>by
  obtain⟨w,_,_,rfl⟩:=mem_elems.1 hx
  have:=(hm w).1 hx
  rw[Bool.and_eq_true] at this
  have:=h.lt b w hb this.1
  omega)
 rw[q1]
 congr 1
 refine graph_ext q2 (GOk.grow e2 h1 h16) (by rw[q3,C2,C2,h.len,e2.len]) (fun u w hu=> ?_)
 have hu':u<n:=by omega
 rw[q4,DC e2 hu',DC h hu',e3 u w hu',hm,hm]
 simp only[Bool.or_eq_true,Bool.and_eq_true,decide_eq_true_eq]
 constructor
 ·rintro(h|⟨h,h1,h2⟩)
  ·exact .inl h
  ·exact .inr ⟨⟨h1,h2⟩,fun e=>h e.symm⟩
 ·rintro(h|⟨⟨h1,h2⟩,h⟩)
  ·exact .inl h
  ·exact .inr ⟨fun e=>h e.symm,h1,h2⟩
structure GQ (n i:Nat)(F o:List Int)(s:Int):Prop where
 f:FOk F n
 left:SQ n s (n-i)
 len:o.length=i
 rng:∀x∈o,∃v:Nat,x=v∧v<n∧has s v=false
 nd:o.Nodup
theorem l1CopyGraph_eq {g:List (List Int)}(hg:GOk g):D.w0 g=some g:=by
 have h16:=hg.n16
 unfold D.w0
 refine(Dm g (fun s i=>(i,s)) (fun r=>r) (by omega) (fun s i hi _=> ?_) (fun s=> ?_)).trans (by simp)
 ·simp only[dlt hi,cond_true,Ay hi,Option.bind_some,Ek _ (hg.sh2.2 _ (List.getElem_mem hi)),wi (show i<4611686018427387904 by omega)]
 ·simp only[A9,cond_false]
end Go.Sx

namespace Go.Sx
def mis (F:List Int)(n:Nat)(S:Int):Nat:=S2 n (fun u w=>has S u&&(has S w&&(decide (w<u)&& !nb F w u)))
def cd (F:List Int)(s v:Int):Int:=((Ao (iand .u32 (F.getD v.toNat 0) s)).length:Int)
def cf (n:Nat)(F:List Int)(s v:Int):Int:=(mis F n (iand .u32 (F.getD v.toNat 0) s):Int)
section
variable {g : List (List Int)} (hg : GOk g)
include hg
theorem OOk.shl {o:List Int}(ho:OOk g o):Sh o:=ho.sh hg
end
end Go.Sx

namespace Go.Sx
def Dw {α:Type}(b:List Int)(P:α→Prop)(e:Option (α×List Int×Int×Int)):Prop:=∃y,e=some y∧(P y.1∧y.2.1=b∧DK b y.2.2.1)
theorem Dw.then {α β:Type}{b:List Int}{P:α→Prop}{e:Option (α×List Int×Int×Int)}{k:α×List Int×Int×Int→Option β}{Q:β→Prop}(h:Dw b P e)
  (hk:∀a i z,P a→DK b i→∃y,k (a,b,i,z)=some y∧Q y):∃y,e.bind k=some y∧Q y:=by
 obtain⟨⟨a,b',i,z⟩,rfl,h1,h2,h3⟩:=h
 dsimp only at h1 h2 h3
 subst h2
 exact hk a i z h1 h3
def Few (g:List (List Int)):Prop:=g.length≤17∧∀r∈g,r.length≤17
theorem Few.sh2 {g:List (List Int)}(h:Few g):Sh2 g:=⟨by have:=h.1;unfold Sh;omega,fun r hr=>by have:=h.2 r hr;unfold Sh;omega⟩
theorem Few.set {g:List (List Int)}(h:Few g)(k:Nat){r:List Int}(hr:r.length≤17):Few (g.set k r):=by
 refine⟨by have:=h.1;simpa using this,fun x hx=> ?_⟩
 rcases List.mem_or_eq_of_mem_set hx with hx|rfl
 ·exact h.2 x hx
 ·exact hr
end Go.Sx

namespace Go.Sx
noncomputable def ef (g:List (List Int))(o:List Int):Nat→List Int×List Int×Int
 |0=>(g.map mk,List.replicate g.length 0,full g.length)
 |i+1=>(Ep (ef g o i).1 (ef g o i).2.2 (o.getD i 0),(ef g o i).2.1.set (o.getD i 0).toNat (iand .u32 ((ef g o i).1.getD (o.getD i 0).toNat 0) (iandNot .u32 (ef g o i).2.2 (ishl .u32 1 (o.getD i 0)))),
   iandNot .u32 (ef g o i).2.2 (ishl .u32 1 (o.getD i 0)))
section
variable {g : List (List Int)} {o : List Int} (hg : GOk g) (ho : OOk g o)
include hg ho
theorem EE :∀i,i≤g.length→EInv g.length (g.map mk) o i (ef g o i).1 (ef g o i).2.1 (ef g o i).2.2
 |0,_=>by
  have h16:=hg.n16
  refine⟨FOk.of hg,by simp[ef],fun u hu=> ?_,Cx _,fun v=> ?_,fun u w _ h=>h,fun j v hj=>by omega,fun j v u w hj=>by omega,fun _=>rfl,fun u w hu _ _ _=>⟨fun hh=>⟨u,.me,hh⟩,fun⟨x,hx,e⟩=> ?_⟩,fun j v hj=>by omega⟩
  ·rw[show (ef g o 0).2.1=List.replicate g.length 0 from rfl,List.getD_eq_getElem?_getD,List.getElem?_replicate]
   split<;>exact VS.zero
  ·rw[show (ef g o 0).2.2=full g.length from rfl,C4 h16];simp
  ·rcases hx.end_ with e2|e2
   ·rw[←e2];exact e
   ·simp at e2
 |i+1,hi=>by
  have h16:=hg.n16;have hl:=ho.len
  have ih:=EE i (by omega)
  have hio:i<o.length:=by omega
  have hr:=ho.rng _ (List.getElem_mem hio)
  obtain⟨v,hv⟩:∃v:Nat,o[i]=(v:Int):=⟨o[i].toNat,by omega⟩
  have hvn:v<g.length:=by omega
  have hd:o.getD i 0=(v:Int):=by rw[Av hio,hv]
  obtain⟨_,k1,k2⟩:=elimF_ok (b:=v) h16 ih.f ih.vsl hvn
  simp only[ef,hd,Int.toNat_natCast]
  refine ih.step h16 (FOk.of hg) ho.rng ho.nd hio hv k1.len k1.vs (fun u w hu=> ?_)
  rw[k2 u w hu,B6 (ih.f.vs v hvn) (VS.iandNot _ _),B6 (ih.f.vs v hvn) (VS.iandNot _ _),A6 ih.vsl (VS.ishl _ _),A6 ih.vsl (VS.ishl _ _),BA (by omega),BA (by omega)]
  have hirr:=ih.f.irr v hvn
  have e:∀x,(has ((ef g o i).1.getD v 0) x&&(has (ef g o i).2.2 x&& !decide (x=v)))=(nb (ef g o i).1 v x&&has (ef g o i).2.2 x):=fun x=>by
   by_cases e:x=v
   ·subst e;rw[show has ((ef g o i).1.getD x 0) x=nb (ef g o i).1 x x from rfl,hirr];simp
   ·unfold nb;simp[e]
  rw[e,e]
theorem elim_ef :D.B (g.map mk) o=some ((ef g o g.length).1,(ef g o g.length).2.1):=by
 have h16:=hg.n16;have hl:=ho.len
 have hlen:(g.map mk).length=g.length:=by simp
 unfold D.B
 rw[A4 (by simp;omega),Option.bind_some]
 obtain⟨s,e1,hs1,hs2⟩:=Ev (g.map mk) (by omega)
 rw[e1,Option.bind_some,Di (by omega) (by omega),Option.bind_some]
 simp only[Option.bind_some,List.nil_append]
 have hsf:s=full g.length:=hs1.ext (Cx _) (fun w _=>by rw[hs2,C4 h16,hlen])
 refine(B9 (fun i=>((ef g o i).1,(ef g o i).2.1,(ef g o i).2.2,(i:Int))) g.length ((ef g o g.length).1,(ef g o g.length).2.1) (by simp[ef,hsf]) (fun i hi=> ?_) ?_).trans rfl
 ·have h:=EE hg ho i (by omega)
  have h':=EE hg ho (i+1) (by omega)
  have hio:i<o.length:=by omega
  have hr:=ho.rng _ (List.getElem_mem hio)
  obtain⟨v,hv⟩:∃v:Nat,o[i]=(v:Int):=⟨o[i].toNat,by omega⟩
  have hvn:v<g.length:=by omega
  have hd:o.getD i 0=(v:Int):=by rw[Av hio,hv]
  obtain⟨_,q1,q2⟩:=elimF_ok (b:=v) h16 h.f h.vsl hvn
  simp only[ef,hd,Int.toNat_natCast] at h' ⊢
  generalize (ef g o i).1=F at*
  generalize (ef g o i).2.1=L at*
  generalize (ef g o i).2.2=left at*
  have hFv:idx F (v:Int)=some (F.getD v 0):=by rw[Ay (by rw[h.f.len];omega),Av (by rw[h.f.len];omega)]
  have hLs:idx (L.set v (iand .u32 (F.getD v 0) (iandNot .u32 left (ishl .u32 1 (v:Int))))) (v:Int)=some (iand .u32 (F.getD v 0) (iandNot .u32 left (ishl .u32 1 (v:Int)))):=by
   rw[Ay (by simp[h.lenL];omega)];simp
  simp only[dlt hio,cond_true,Ay hio,hv,Option.bind_some,BG,hFv,Ay (show v<L.length by rw[h.lenL];omega),Int.toNat_natCast]
  rw[hLs]
  simp only[Option.bind_some,Dq _ (VS.iand _ _)]
  have hSlt:∀w,has (iand .u32 (F.getD v 0) (iandNot .u32 left (ishl .u32 1 (v:Int)))) w=true→w<g.length:=fun w hw=>by
   rw[B6 (h.f.vs v hvn) (VS.iandNot _ _)] at hw
   simp only[Bool.and_eq_true] at hw
   exact h.f.lt v w hvn hw.1
  obtain⟨F',e2,k1,k2,k3⟩:=inner_ok F _ _ h16 h.f.len h.f.vs (VS.iand _ _) hSlt hLs
  have hFF:F'=Ep F left (v:Int):=by
   refine FOk.ext k1 q1.len k2 q1.vs (fun u w hu=> ?_)
   rw[k3 u w hu,q2 u w hu,B6 (h.f.vs v hvn) (VS.iandNot _ _),B6 (h.f.vs v hvn) (VS.iandNot _ _),A6 h.vsl (VS.ishl _ _),A6 h.vsl (VS.ishl _ _),BA (by omega),BA (by omega)]
   have hirr:=h.f.irr v hvn
   have e:∀x,(has (F.getD v 0) x&&(has left x&& !decide (x=v)))=(nb F v x&&has left x):=fun x=>by
    by_cases e:x=v
    ·subst e;rw[show has (F.getD x 0) x=nb F x x from rfl,hirr];simp
    ·unfold nb;simp[e]
   rw[e,e]
  rw[hLs] at e2
  simp only[Option.bind_some] at e2
  rw[e2,Option.bind_some,wi (show i<4611686018427387904 by omega),hFF]
 ·simp only[hl,A9,cond_false]
theorem l7Fill_ef :D.l0 g o=some (grow (ef g o g.length).1):=by
 have h16:=hg.n16;have hl:=ho.len;have hn1:=hg.n1
 unfold D.l0 D.d
 rw[l1CopyGraph_eq hg,Option.bind_some,Option.bind_some,Di (by omega) (by omega),Option.bind_some]
 refine(B9 (fun i=>(BU g.length (ef g o i).2.2,(i:Int),grow (ef g o i).1)) g.length (grow (ef g o g.length).1) (by simp only[ef];rw[Fo h16,grow_of hg];rfl) (fun i hi=> ?_) ?_).trans rfl
 ·have h:=EE hg ho i (by omega)
  have hio:i<o.length:=by omega
  have hr:=ho.rng _ (List.getElem_mem hio)
  obtain⟨v,hv⟩:∃v:Nat,o[i]=(v:Int):=⟨o[i].toNat,by omega⟩
  have hvn:v<g.length:=by omega
  have hd:o.getD i 0=(v:Int):=by rw[Av hio,hv]
  simp only[ef,hd]
  generalize (ef g o i).1=F at*
  generalize (ef g o i).2.1=L at*
  generalize (ef g o i).2.2=s at*
  have hG:=GOk.grow h.f hn1 h16
  have hGl:(grow F).length=g.length:=by rw[C2,h.f.len]
  have hl7:=l7Left_eq (grow F) hG (show v<(grow F).length by omega) (BU g.length (iandNot .u32 s (ishl .u32 1 (v:Int)))) (by rw[D4];omega)
  simp only[dlt hio,cond_true,Ay hio,hv,Option.bind_some,goneOf_idx hvn,Int.toNat_natCast,goneOf_set h.vsl hvn (show g.length≤32 by omega),hl7,clique_grow hn1 h16 h.f h.vsl hvn,wi (show i<4611686018427387904 by omega)]
 ·simp only[hl,A9,cond_false]
end
end Go.Sx

namespace Go.Sx
structure Net (A:List Int)(n:Nat):Prop where
 len:A.length=n
 vs:∀u,u<n→VS (A.getD u 0)
 lt:∀u w,u<n→nb A u w=true→w<n
theorem FOk.net {A:List Int}{n:Nat}(h:FOk A n):Net A n:=⟨h.len,h.vs,h.lt⟩
structure Rch (A:List Int)(W:Int)(v:Nat)(S:Int):Prop where
 vs:VS S
 me:has S v=true
 step:∀x y,has S x=true→nb A x y=true→has W y=true→has S y=true
 least:∀T:Nat→Prop,T v→(∀x y,T x→nb A x y=true→has W y=true→T y)→∀x,has S x=true→T x
theorem reach_ok {A:List Int}{n:Nat}(hn:n≤16)(hA:Net A n){v:Nat}(hv:v<n){W:Int}(hW:VS W):∃S,D.h0 A (v:Int) W=some S∧Rch A W v S∧∀x,has S x=true→x<n:=by
 unfold D.h0
 rw[BG,Option.bind_some]
 refine AM (fun S=>VS S∧has S v=true∧(∀x,has S x=true→x<n)∧∀T:Nat→Prop,T v→(∀x y,T x→nb A x y=true→has W y=true→T y)→∀x,has S x=true→T x) (fun S=>n-(Ao S).length)
  (fun S=>Rch A W v S∧∀x,has S x=true→x<n) ?_ ?_ (fun r hr=>⟨r,rfl,hr⟩)
 ·rintro S ⟨hS,hv',hlt,hT⟩
  have hle:=Cc S
  simp only[Dq S hS,Option.bind_some]
  have hin:=AM (step:=(fun(s_223:Int×Int)=>match s_223 with|(x_226,x_227)=>cond (decide (x_227<((Ao S).length:Int))) ((idx (Ao S) x_227).bind fun e_246=>(idx A e_246).bind fun e_252=>some (.inl ((ior .u32 x_226 (iand .u32 e_252 W)),(IntKind.i64.wrap (x_227+1))))) (some (.inr x_226)))) (s:=(S,0)) (k:=fun r=>some r) (Q:=fun X:Int=>VS X∧∀y,has X y=true↔has S y=true∨∃u:Nat,has S u=true∧nb A u y=true∧has W y=true)
   (fun s=>∃k:Nat,s.2=(k:Int)∧k≤(Ao S).length∧VS s.1∧∀y,has s.1 y=true↔has S y=true∨∃u:Nat,(u:Int)∈(Ao S).take k∧nb A u y=true∧has W y=true) (fun s=>(Ao S).length-s.2.toNat) (fun X=>VS X∧∀y,has X y=true↔has S y=true∨∃u:Nat,has S u=true∧nb A u y=true∧has W y=true)
   ?_ ⟨0,rfl,by omega,hS,fun y=>by simp⟩ (fun r hr=>⟨r,rfl,hr⟩)
  ·obtain⟨X,hX,hX1,hX2⟩:=hin
   rw[Option.bind_eq_some_iff] at hX
   obtain⟨z,e1,e2⟩:=hX
   cases e2
   rw[e1,Option.bind_some]
   by_cases hc:X=S
   ·subst hc
    simp only[beq_self_eq_true,cond_true]
    refine⟨_,rfl,⟨hS,hv',fun x y h1 h2 h3=>(hX2 y).2 (.inr ⟨x,h1,h2,h3⟩),hT⟩,hlt⟩
   ·have e3:(X==S)=false:=by simpa using hc
    simp only[e3,cond_false]
    have hXlt:∀x,has X x=true→x<n:=fun x hx=>by
     rcases(hX2 x).1 hx with h|⟨u,h1,h2,_⟩
     ·exact hlt x h
     ·exact hA.lt u x (hlt u h1) h2
    refine⟨_,rfl,⟨hX1,(hX2 v).2 (.inl hv'),hXlt,fun T h1 h2 x hx=> ?_⟩,?_⟩
    ·rcases(hX2 x).1 hx with h|⟨u,h3,h4,h5⟩
     ·exact hT T h1 h2 x h
     ·exact h2 u x (hT T h1 h2 u h3) h4 h5
    ·
     obtain⟨w,hw,hws⟩:∃w:Nat,has X w=true∧has S w=false:=by
      apply Classical.byContradiction
      intro hno
      refine hc (hX1.ext hS (fun w _=> ?_))
      rw[Bool.eq_iff_iff]
      refine⟨fun h=> ?_,fun h=>(hX2 w).2 (.inl h)⟩
      cases hh:has S w
      ·exact absurd ⟨w,h,hh⟩ hno
      ·rfl
     have h1:((w:Int)::Ao S).length≤(Ao X).length:=Ce (List.nodup_cons.2 ⟨fun hm=>by rw[AU hS,hws] at hm;exact Bool.noConfusion hm,(BH S).nodup⟩) (fun x hx=>by
      rcases List.mem_cons.1 hx with rfl|hx
      ·rw[AU hX1];exact hw
      ·obtain⟨u,_,h2,rfl⟩:=mem_elems.1 hx
       rw[AU hX1];exact(hX2 u).2 (.inl h2))
     have h2:(Ao X).length≤n:=(BH X).short (n:=n) (fun x hx=>by
      obtain⟨u,_,h2,rfl⟩:=mem_elems.1 hx
      have:=hXlt u h2;omega)
     simp at h1
     show n-(Ao X).length<n-(Ao S).length
     omega
  ·rintro⟨X,_⟩ ⟨k,rfl,hk,hX1,hX2⟩
   dsimp only at hX1 hX2 ⊢
   by_cases hkl:k<(Ao S).length
   ·obtain⟨u,_,h2,h3⟩:=mem_elems.1 (List.getElem_mem hkl)
    have hu:=hlt u h2
    have hAu:idx A (u:Int)=some (A.getD u 0):=by rw[Ay (by rw[hA.len];exact hu),Av (by rw[hA.len];exact hu)]
    simp only[dlt hkl,cond_true,Ay hkl,Option.bind_some,h3,hAu,wi (show k<4611686018427387904 by omega)]
    refine⟨_,rfl,⟨k+1,rfl,hkl,VS.ior _ _,fun y=> ?_⟩,by dsimp only;omega⟩
    dsimp only
    rw[Ca hX1 (VS.iand _ _),Bool.or_eq_true,B6 (hA.vs u hu) hW,Bool.and_eq_true,hX2,List.take_succ_eq_append_getElem hkl,h3]
    constructor
    ·rintro((h|⟨u',h4,h5⟩)|⟨h4,h5⟩)
     ·exact .inl h
     ·exact .inr ⟨u',List.mem_append_left _ h4,h5⟩
     ·exact .inr ⟨u,List.mem_append_right _ (by simp),h4,h5⟩
    ·rintro(h|⟨u',h4,h5,h6⟩)
     ·exact .inl (.inl h)
     ·rcases List.mem_append.1 h4 with h4|h4
      ·exact .inl (.inr ⟨u',h4,h5,h6⟩)
      ·simp at h4
       obtain rfl:u'=u:=by omega
       exact .inr ⟨h5,h6⟩
   ·obtain rfl:k=(Ao S).length:=by omega
    simp only[A9,cond_false]
    refine⟨_,rfl,hX1,fun y=> ?_⟩
    rw[hX2,List.take_length]
    constructor
    ·rintro(h|⟨u,h1,h2⟩)
     ·exact .inl h
     ·exact .inr ⟨u,(AU hS).1 h1,h2⟩
    ·rintro(h|⟨u,h1,h2⟩)
     ·exact .inl h
     ·exact .inr ⟨u,(AU hS).2 h1,h2⟩
 ·refine⟨VS.ishl _ _,by rw[BA (by omega)];simp,fun x hx=> ?_,fun T h1 _ x hx=> ?_⟩
  ·rw[BA (by omega)] at hx
   have:=of_decide_eq_true hx;omega
  ·rw[BA (by omega)] at hx
   rw[of_decide_eq_true hx];exact h1
theorem join_net {n:Nat}(hn:n≤16){X:List Int}(hX:Net X n){v t:Nat}(hv:v<n)(ht:t<n)(hvt:v≠t):
  ∃y,D.n0 X (v:Int) (t:Int)=some y∧Net y n∧∀u w,u<n→nb y u w=(nb X u w||(decide (u=v)&&decide (w=t))||(decide (u=t)&&decide (w=v))):=by
 have hl:=hX.len;have hV:=hX.vs
 have hx:∀k,k<n→idx X (k:Int)=some (X.getD k 0):=fun k hk=>by rw[Ay (by omega),Av (by omega)]
 have hform:∀u w,u<n→nb ((X.set v (ior .u32 (X.getD v 0) (ishl .u32 1 (t:Int)))).set t (ior .u32 (X.getD t 0) (ishl .u32 1 (v:Int)))) u w=(nb X u w||(decide (u=v)&&decide (w=t))||(decide (u=t)&&decide (w=v))):=fun u w hu=>by
  unfold nb
  rw[List.getD_eq_getElem?_getD,List.getElem?_set]
  by_cases h:t=u
  ·subst h
   rw[if_pos rfl,if_pos (by simp;omega),Option.getD_some,Ca (hV _ hu) (VS.ishl _ _),BA (by omega)]
   have:decide (t=v)=false:=decide_eq_false (fun e=>hvt e.symm)
   rw[this];simp
  ·rw[if_neg h,List.getElem?_set]
   have e2:decide (u=t)=false:=decide_eq_false (fun e=>h e.symm)
   by_cases h2:v=u
   ·subst h2
    rw[if_pos rfl,if_pos (by omega),Option.getD_some,Ca (hV _ hu) (VS.ishl _ _),BA (by omega),e2]
    simp
   ·have e3:decide (u=v)=false:=decide_eq_false (fun e=>h2 e.symm)
    rw[if_neg h2,←List.getD_eq_getElem?_getD,e2,e3];simp
 refine⟨(X.set v (ior .u32 (X.getD v 0) (ishl .u32 1 (t:Int)))).set t (ior .u32 (X.getD t 0) (ishl .u32 1 (v:Int))),?_,⟨by simp[hl],fun u hu=> ?_,fun u w hu hw=> ?_⟩,hform⟩
 ·unfold D.n0
  have e1:idx (X.set v (ior .u32 (X.getD v 0) (ishl .u32 1 (t:Int)))) (t:Int)=some (X.getD t 0):=by
   rw[Ay (by simp;omega),List.getElem_set_ne hvt]
   exact congrArg some (Av (by omega) 0).symm
  simp only[hx v hv,Option.bind_some,BG,Int.toNat_natCast,e1]
 ·rw[List.getD_eq_getElem?_getD,List.getElem?_set]
  by_cases h:t=u
  ·rw[if_pos h,if_pos (by simp;omega)];exact VS.ior _ _
  ·rw[if_neg h,List.getElem?_set]
   by_cases h2:v=u
   ·rw[if_pos h2,if_pos (by omega)];exact VS.ior _ _
   ·rw[if_neg h2,←List.getD_eq_getElem?_getD];exact hV u hu
 ·rw[hform u w hu] at hw
  simp only[Bool.or_eq_true,Bool.and_eq_true,decide_eq_true_eq] at hw
  rcases hw with(h|h)|h
  ·exact hX.lt u w hu h
  ·omega
  ·omega
end Go.Sx

namespace Go.Sx
structure GS (n:Nat)(m:Int)(k:Nat):Prop where
 vs:VS m
 lt:∀v,has m v=true→v<n
 left:SQ n (iandNot .u32 (full n) m) k
def rm (n:Nat)(m:Int):Int:=iandNot .u32 (full n) m
theorem DN {n:Nat}{m:Int}(hn:n≤16)(hm:VS m)(v:Nat):has (rm n m) v=(decide (v<n)&& !has m v):=by
 unfold rm;rw[A6 (Cx n) hm,C4 hn]
theorem GS.zero {n:Nat}(hn:n≤16):GS n 0 n:=by
 refine⟨VS.zero,fun v hv=>absurd hv (by rw[B4];simp),?_⟩
 have:iandNot .u32 (full n) 0=full n:=(VS.iandNot _ _).ext (Cx n) (fun v _=>by rw[A6 (Cx n) VS.zero,B4];simp)
 rw[this];exact SQ.full hn
theorem GS.add {n k v:Nat}{m:Int}(hn:n≤16)(h:GS n m (k+1))(hv:v<n)(hm:has m v=false):GS n (ior .u32 m (ishl .u32 1 (v:Int))) k:=by
 refine⟨VS.ior _ _,fun w hw=> ?_,?_⟩
 ·rw[Ca h.vs (VS.ishl _ _),BA (by omega),Bool.or_eq_true] at hw
  rcases hw with hw|hw
  ·exact h.lt w hw
  ·have:=of_decide_eq_true hw;omega
 ·have e:iandNot .u32 (full n) (ior .u32 m (ishl .u32 1 (v:Int)))=iandNot .u32 (iandNot .u32 (full n) m) (ishl .u32 1 (v:Int)):=by
   refine(VS.iandNot _ _).ext (VS.iandNot _ _) (fun w _=> ?_)
   rw[A6 (Cx n) (VS.ior _ _),A6 (VS.iandNot _ _) (VS.ishl _ _),A6 (Cx n) h.vs,Ca h.vs (VS.ishl _ _)]
   cases has (full n) w<;>cases has m w<;>simp
  rw[e]
  refine h.left.rm ?_
  have:=DN hn h.vs v
  unfold rm at this
  rw[this,hm,decide_eq_true hv];rfl
theorem Fk {v w:Nat}{m:Int}(hm:VS m)(hv:v<32):has (ior .u32 m (ishl .u32 1 (v:Int))) w=(has m w||decide (w=v)):=by
 rw[Ca hm (VS.ishl _ _),BA hv]
theorem has_joins (F:List Int)(w:Nat):∀(xs:List Int) (s:Int),VS s→(∀x∈xs,VS (F.getD x.toNat 0))→
  VS (xs.foldl (fun s x=>ior .u32 s (F.getD x.toNat 0)) s)∧(has (xs.foldl (fun s x=>ior .u32 s (F.getD x.toNat 0)) s) w=true↔has s w=true∨∃x∈xs,nb F x.toNat w=true)
 |[],s,hs,_=>⟨hs,by simp⟩
 |x::xs,s,hs,hx=>by
  obtain⟨h1,h2⟩:=has_joins F w xs (ior .u32 s (F.getD x.toNat 0)) (VS.ior _ _) (fun y hy=>hx y (by simp[hy]))
  rw[List.foldl_cons]
  refine⟨h1,h2.trans ?_⟩
  rw[Ca hs (hx x (by simp)),Bool.or_eq_true]
  simp only[List.mem_cons,exists_eq_or_imp]
  unfold nb
  rw[or_assoc]
noncomputable def bh (F:List Int)(m v:Int):Int:=(D.B1 F m v).getD 0
theorem rch_via {F:List Int}{n v:Nat}{m S:Int}(hn:n≤16)(hm:VS m)(hv:v<n)(h:Rch F (ior .u32 m (ishl .u32 1 (v:Int))) v S)(x:Nat):has S x=true↔Via F (fun y=>has m y=true) v x:=by
 constructor
 ·intro hx
  refine h.least (fun x=>Via F (fun y=>has m y=true) v x) .me (fun x y h1 h2 h3=> ?_) x hx
  rw[Fk hm (by omega),Bool.or_eq_true] at h3
  rcases h3 with h3|h3
  ·exact .step h1 h2 h3
  ·rw[of_decide_eq_true h3];exact .me
 ·intro hx
  induction hx with
  |me=>exact h.me
  |step _ h1 h2 ih=>exact h.step _ _ ih h1 (by rw[Fk hm (by omega),h2];rfl)
theorem EX {F:List Int}{n v:Nat}{m:Int}(hn:n≤16)(hF:FOk F n)(hm:VS m)(hv:v<n):
  D.B1 F m (v:Int)=some (bh F m (v:Int))∧VS (bh F m (v:Int))∧∀w,has (bh F m (v:Int)) w=true↔Bhd F (fun x=>has m x=true) v w∧has m w=false∧w≠v:=by
 suffices H:∃X,D.B1 F m (v:Int)=some X∧VS X∧∀w,has X w=true↔Bhd F (fun x=>has m x=true) v w∧has m w=false∧w≠v by
  obtain⟨X,e,h⟩:=H
  unfold bh
  rw[e]
  exact⟨rfl,h⟩
 obtain⟨S,e1,hS,hlt⟩:=reach_ok hn hF.net hv (VS.ior m (ishl .u32 1 (v:Int)))
 unfold D.B1
 rw[BG,Option.bind_some,e1,Option.bind_some,Dq S hS.vs,Option.bind_some]
 have hel:∀x∈Ao S,∃u:Nat,x=u∧u<n∧has S u=true:=fun x hx=>by
  obtain⟨u,_,h2,rfl⟩:=mem_elems.1 hx
  exact⟨u,rfl,hlt u h2,h2⟩
 have hfold:=fun w=>has_joins F w (Ao S) 0 VS.zero (fun x hx=>by
  obtain⟨u,rfl,h1,_⟩:=hel x hx
  exact hF.vs u h1)
 have hloop:=loop_list (σ:=Int) (Ao S) (fun s i=>(s,i)) (fun s x=>ior .u32 s (F.getD x.toNat 0)) (fun s=>s) (fun _=>True) 0 trivial
  (step:=(fun(s_59:Int×Int)=>match s_59 with|(x_62,x_63)=>cond (decide (x_63<((Ao S).length:Int))) ((idx (Ao S) x_63).bind fun e_82=>(idx F e_82).bind fun e_88=>some (.inl ((ior .u32 x_62 e_88),(IntKind.i64.wrap (x_63+1))))) (some (.inr x_62))))
  (fun s i hi _=>by
   obtain⟨u,h1,h2,_⟩:=hel _ (List.getElem_mem hi)
   have hl:=Cc S
   refine⟨?_,trivial⟩
   simp only[dlt hi,cond_true,Ay hi,Option.bind_some,h1]
   rw[Ay (show u<F.length by rw[hF.len];exact h2),Option.bind_some,wi (show i<4611686018427387904 by omega)]
   simp[hF.len,h2])
  (fun s _=>by simp only[A9,cond_false])
 rw[hloop.1,Option.bind_some,Option.bind_some]
 refine⟨_,rfl,VS.iandNot _ _,fun w=> ?_⟩
 have hw:=hfold w
 rw[A6 (VS.iandNot _ _) (VS.ishl _ _),A6 hw.1 hm,BA (by omega),Bool.and_eq_true,Bool.and_eq_true,hw.2]
 simp only[B4,Bool.false_eq_true,false_or,Bool.not_eq_true',decide_eq_false_iff_not]
 constructor
 ·rintro⟨⟨⟨x,hx,h1⟩,h2⟩,h3⟩
  obtain⟨u,rfl,h4,h5⟩:=hel x hx
  exact⟨⟨u,(rch_via hn hm hv hS u).1 h5,by simpa using h1⟩,h2,h3⟩
 ·rintro⟨⟨u,h1,h2⟩,h3,h4⟩
  exact⟨⟨⟨(u:Int),(AU hS.vs).2 ((rch_via hn hm hv hS u).2 h1),by simpa using h2⟩,h3⟩,h4⟩
theorem bh_lt {F:List Int}{n v:Nat}{m:Int}(hn:n≤16)(hF:FOk F n)(hm:VS m)(hv:v<n){w:Nat}(h:has (bh F m (v:Int)) w=true):w<n:=by
 obtain⟨⟨u,h1,h2⟩,_⟩:=((EX hn hF hm hv).2.2 w).1 h
 exact hF.lt u w (h1.lt hF hv) h2
end Go.Sx

namespace Go.Sx
end Go.Sx

namespace Go.Sx
noncomputable def wv (F:List Int)(rec:Int→Int)(m v:Int):Int:=if((Ao (bh F m v)).length:Int)<rec (ior .u32 m (ishl .u32 1 v)) then rec (ior .u32 m (ishl .u32 1 v)) else((Ao (bh F m v)).length:Int)
noncomputable def wd (F:List Int)(n:Nat):Nat→Int→Int
 |0,_=>0
 |k+1,m=>(Ao (rm n m)).foldl (fun b v=>if wv F (wd F n k) m v<b then wv F (wd F n k) m v else b) 16
theorem mem_rm {n:Nat}{m:Int}(hn:n≤16)(hm:VS m){x:Int}:x∈Ao (rm n m)↔∃v:Nat,x=v∧v<n∧has m v=false:=by
 rw[mem_elems]
 constructor
 ·rintro⟨v,_,h,rfl⟩
  rw[DN hn hm,Bool.and_eq_true,decide_eq_true_eq,Bool.not_eq_true'] at h
  exact⟨v,rfl,h⟩
 ·rintro⟨v,rfl,h1,h2⟩
  exact⟨v,by omega,by rw[DN hn hm,decide_eq_true h1,h2];rfl,rfl⟩
theorem GS.done {n:Nat}{m:Int}(hn:n≤16)(h:GS n m 0):m=full n:=by
 have hz:rm n m=0:=h.left.z
 refine h.vs.ext (Cx n) (fun v _=> ?_)
 rw[C4 hn]
 have:=DN hn h.vs v
 rw[hz,B4] at this
 cases hm:has m v with
 |true=>exact(decide_eq_true (h.lt v hm)).symm
 |false=>
  rw[hm] at this
  simp at this
  simp;exact this
end Go.Sx

namespace Go.Sx
theorem toNat_lt {n:Nat}{m:Int}(h:∀v,has m v=true→v<n):m.toNat<2^n:=by
 refine Nat.lt_pow_two_of_testBit _ (fun i hi=> ?_)
 cases hc:m.toNat.testBit i with
 |false=>rfl
 |true=>have:=h i hc;omega
structure TOk (F:List Int)(n:Nat)(T:List Int):Prop where
 len:T.length=2^n
 ok:∀m k,GS n m k→T.getD m.toNat (-1)= -1∨T.getD m.toNat (-1)=wd F n k m
theorem GS.tlt {n k:Nat}{m:Int}(h:GS n m k):m.toNat<2^n:=toNat_lt h.lt
theorem GS.card {n k k':Nat}{m:Int}(h:GS n m k)(h':GS n m k'):k=k':=by rw[←h.left.card,h'.left.card]
theorem TOk.set {F:List Int}{n k:Nat}{T:List Int}{m:Int}(h:TOk F n T)(hm:GS n m k):TOk F n (T.set m.toNat (wd F n k m)):=by
 refine⟨by rw[List.length_set,h.len],fun m' k' hm'=> ?_⟩
 have hl:=hm'.tlt
 rw[←h.len] at hl
 rw[List.getD_eq_getElem?_getD,List.getElem?_set]
 by_cases he:m.toNat=m'.toNat
 ·have e:m=m':=by have:=hm.vs.1;have:=hm'.vs.1;omega
  subst e
  rw[if_pos rfl,if_pos hl]
  obtain rfl:=hm.card hm'
  exact .inr rfl
 ·rw[if_neg he,←List.getD_eq_getElem?_getD]
  exact h.ok m' k' hm'
end Go.Sx

namespace Go.Sx
def cz :List Int→List Int→Int
 |[],[]=>0
 |[],_::_=> -1
 |_::_,[]=>1
 |a::x,b::y=>if a<b then-1 else if b<a then 1 else cz x y
def lk :Nat→List Int→Int
 |0,_=>0
 |_+1,[]=>0
 |d+1,a::l=>(a+1)*33^d+lk d l
end Go.Sx

namespace Go.Sx
end Go.Sx

namespace Go.Sx
def CQ (F:List Int)(K:Int):Prop:=∀u w,has K u=true→has K w=true→u≠w→nb F u w=true
def MX (F:List Int)(n:Nat)(K:Int):Prop:=CQ F K∧∀w,w<n→has K w=false→∃u,has K u=true∧nb F u w=false
def In (n:Nat)(K:Int):Prop:=VS K∧∀w,has K w=true→w<n
structure Tgt (F:List Int)(n:Nat)(C O K:Int):Prop where
 ok:In n K
 mx:MX F n K
 sup:∀w,has C w=true→has K w=true
 sub:∀w,has K w=true→has C w=true∨has O w=true
theorem In.lt {n:Nat}{K:Int}(h:In n K)(hn:n≤16):0≤K∧K<65536:=by
 obtain⟨m,rfl,hm⟩:=h.1.nat
 refine⟨by omega,?_⟩
 have:m<2^16:=by
  apply Nat.lt_pow_two_of_testBit
  intro i hi
  cases hc:m.testBit i
  ·rfl
  ·have:=h.2 i (by rw[Cn];exact hc)
   omega
 omega
structure BK (F:List Int)(n:Nat)(C O S:Int):Prop where
 c:In n C
 o:In n O
 s:In n S
 cq:CQ F C
 cn:∀w,w<n→((has O w=true∨has S w=true)↔∀u,has C u=true→nb F u w=true)
 dis:∀w,has O w=true→has S w=false
end Go.Sx

namespace Go.Sx
section
variable {g : List (List Int)} (hg : GOk g)
include hg
end
end Go.Sx

namespace Go.Sx
theorem less2 (a b c d:Int):D.e1 [a,b] [c,d]=some (decide (a<c∨(a=c∧b<d))):=by
 unfold D.e1
 have i0:∀x y:Int,idx [x,y] 0=some x:=fun x y=>by unfold idx;simp
 have i1:∀x y:Int,idx [x,y] 1=some y:=fun x y=>by unfold idx;simp
 have w1:IntKind.i64.wrap 1=1:=by decide
 have w2:IntKind.i64.wrap 2=2:=by decide
 have e0:((([a,b]:List Int).length:Int) !=(([c,d]:List Int).length:Int))=false:=by simp
 rw[e0,cond_false]
 by_cases h1:a=c
 ·subst h1
  rw[BC (s':=1) (by simp[i0,w1])]
  by_cases h2:b=d
  ·subst h2
   rw[BC (s':=2) (by simp[i1,w2]),Bp (r:= .inl ()) (by simp)];simp
  ·have e:(b !=d)=true:=by simpa using h2
   rw[Bp (r:= .inr (decide (b<d))) (by simp[i1,e])];simp
 ·have e:(a !=c)=true:=by simpa using h1
  rw[Bp (r:= .inr (decide (a<c))) (by simp[i0,e])];simp[h1]
theorem less_key {x y:List Int}(hx:Cb x)(hy:Cb y):D.e1 x y=some (decide (Bc x<Bc y)):=by
 obtain⟨h1,h2,h3,h4,h5⟩:=hx
 obtain⟨k1,k2,k3,k4,k5⟩:=hy
 obtain⟨a,b,rfl⟩:=list2 h1
 obtain⟨c,d,rfl⟩:=list2 k1
 rw[less2]
 unfold Bc
 simp only[List.getD_cons_zero,List.getD_cons_succ] at*
 congr 1
 rw[decide_eq_decide]
 constructor<;>intro h<;>omega
def Dx (l:List Int)(xs:List (List Int)):Nat:=xs.findIdx fun x=>decide (Bc l<Bc x)
def ins (l:List Int)(xs:List (List Int)):List (List Int):=xs.take (Dx l xs)++l::xs.drop (Dx l xs)
theorem ins_perm (l:List Int)(xs:List (List Int)):(ins l xs).Perm (l::xs):=by
 unfold ins
 refine List.perm_middle.trans ?_
 rw[List.take_append_drop]
def D3 (xs:List (List Int)):Prop:=xs.Pairwise (fun a b=>Bc a≤Bc b)
theorem ins_sorted (l:List Int){xs:List (List Int)}(h:D3 xs):D3 (ins l xs):=by
 unfold ins D3
 have hlt:∀x∈xs.take (Dx l xs),Bc x≤Bc l:=fun x hx=>by
  obtain⟨j,hj,hji,rfl⟩:=mem_take_iff.1 hx
  have:=List.not_of_lt_findIdx (p:=fun x=>decide (Bc l<Bc x)) (xs:=xs) hji
  simp at this
  omega
 have hge:∀x∈xs.drop (Dx l xs),Bc l<Bc x:=fun x hx=>by
  obtain⟨j,hj,rfl⟩:=List.getElem_of_mem hx
  have hk:Dx l xs<xs.length:=by simp at hj;omega
  have h1:decide (Bc l<Bc (xs[Dx l xs]))=true:=List.findIdx_getElem (p:=fun x=>decide (Bc l<Bc x)) (xs:=xs) (w:=hk)
  have h1:=of_decide_eq_true h1
  rw[List.getElem_drop]
  rcases Nat.eq_zero_or_pos j with e|e
  ·subst e;simpa using h1
  ·have:=(List.pairwise_iff_getElem.1 h) (Dx l xs) (Dx l xs+j) hk (by simp at hj;omega) (by omega)
   omega
 rw[List.pairwise_append]
 refine⟨h.sublist (List.take_sublist _ _),?_,fun a ha b hb=> ?_⟩
 ·rw[List.pairwise_cons]
  exact⟨fun b hb=>by have:=hge b hb;omega,h.sublist (List.drop_sublist _ _)⟩
 ·have:=hlt a ha
  rcases List.mem_cons.1 hb with rfl|hb
  ·exact this
  ·have:=hge b hb;omega
def BT (a b:Int):List Int:=[min a b,max a b]
theorem l1Min_eq (a b:Int):D.I1 a b=some (min a b):=by
 unfold D.I1
 by_cases h:a<b
 ·simp only[h,decide_true,cond_true];congr 1;omega
 ·simp only[h,decide_false,cond_false];congr 1;omega
theorem l1Max_eq2 (a b:Int):D.L a b=some (max a b):=by
 unfold D.L
 by_cases h:b<a
 ·simp only[h,decide_true,cond_true];congr 1;omega
 ·simp only[h,decide_false,cond_false];congr 1;omega
theorem EV (a b:Int):D.R a b=some (BT a b):=by
 unfold D.R BT
 congr 2
 ·split<;>omega
 ·congr 1;split<;>omega
theorem l9Link_eq {xs:List (List Int)}{a b:Int}(hg:∀x∈xs,Cb x)(hl:Cb (BT a b))(hx:xs.length≤1000000):D.F1 xs a b=some (ins (BT a b) xs):=by
 unfold D.F1
 rw[l1Min_eq,Option.bind_some,l1Max_eq2,Option.bind_some]
 have el:([min a b,max a b]:List Int)=BT a b:=rfl
 simp only[el]
 have hk:=List.findIdx_le_length (p:=fun x=>decide (Bc (BT a b)<Bc x)) (xs:=xs)
 generalize hkk:Dx (BT a b) xs=k
 have hkl:k≤xs.length:=by rw[←hkk];exact hk
 generalize hL:BT a b=l at*
 have hlo:∀i (hi:i<xs.length),i<k→D.e1 l xs[i]=some false:=fun i hi hik=>by
  rw[less_key hl (hg _ (List.getElem_mem hi))]
  have:=List.not_of_lt_findIdx (p:=fun x=>decide (Bc l<Bc x)) (xs:=xs) (i:=i) (by unfold Dx at hkk;omega)
  simp at this
  simp;omega
 have hhi:∀(h:k<xs.length),D.e1 l xs[k]=some true:=fun h=>by
  rw[less_key hl (hg _ (List.getElem_mem h))]
  unfold Dx at hkk
  have h1:decide (Bc l<Bc (xs[xs.findIdx fun x=>decide (Bc l<Bc x)]'(by rw[hkk];exact h)))=true:=List.findIdx_getElem (p:=fun x=>decide (Bc l<Bc x)) (xs:=xs) (w:=by rw[hkk];exact h)
  simp only[hkk] at h1
  rw[h1]
 let st:Nat→List Int×List (List Int)×Bool×Int:=fun i=>if i≤k then(l,xs.take i,false,(i:Int)) else(l,xs.take k++l::(xs.drop k).take (i-k),true,(i:Int))
 have hst:st xs.length=(l,if k=xs.length then xs else ins l xs,decide (k<xs.length),(xs.length:Int)):=by
  by_cases e:k=xs.length
  ·simp[st,e]
  ·have h1:¬xs.length≤k:=by omega
   have h2:k<xs.length:=by omega
   simp only[st,h1,if_false,e,h2,decide_true]
   unfold ins;rw[hkk,List.take_of_length_le (l:=xs.drop k) (by simp)]
 refine(B9 st xs.length (l,if k=xs.length then xs else ins l xs,decide (k<xs.length)) (by simp[st]) (fun i hi=> ?_) ?_).trans ?_
 ·by_cases h1:i<k
  ·have e1:st i=(l,xs.take i,false,(i:Int)):=by simp only[st];rw[if_pos (by omega)]
   have e2:st (i+1)=(l,xs.take (i+1),false,((i+1:Nat):Int)):=by simp only[st];rw[if_pos (by omega)]
   rw[e1,e2]
   simp only[dlt hi,cond_true,Bool.not_false,Ay hi,Option.bind_some,hlo i hi h1,cond_false,wi (show i<4611686018427387904 by omega)]
   rw[A4 (by simp;omega),Option.bind_some,List.take_succ_eq_append_getElem hi]
  ·by_cases h2:i=k
   ·subst h2
    have e1:st i=(l,xs.take i,false,(i:Int)):=by simp only[st];rw[if_pos (by omega)]
    have e2:st (i+1)=(l,xs.take i++l::(xs.drop i).take 1,true,((i+1:Nat):Int)):=by simp only[st];rw[if_neg (by omega)];congr;omega
    rw[e1,e2]
    simp only[dlt hi,cond_true,Bool.not_false,Ay hi,Option.bind_some,hhi hi,wi (show i<4611686018427387904 by omega)]
    rw[A4 (by simp;omega),Option.bind_some,A4 (by simp;omega),Option.bind_some]
    have:(xs.drop i).take 1=[xs[i]]:=by rw[List.drop_eq_getElem_cons hi,List.take_succ_cons,List.take_zero]
    rw[this];simp
   ·have e1:st i=(l,xs.take k++l::(xs.drop k).take (i-k),true,(i:Int)):=by simp only[st];rw[if_neg (by omega)]
    have e2:st (i+1)=(l,xs.take k++l::(xs.drop k).take (i+1-k),true,((i+1:Nat):Int)):=by simp only[st];rw[if_neg (by omega)]
    rw[e1,e2]
    simp only[dlt hi,cond_true,Bool.not_true,cond_false,Option.bind_some,Ay hi,wi (show i<4611686018427387904 by omega)]
    rw[A4 (by simp;omega),Option.bind_some]
    have:(xs.drop k).take (i+1-k)=(xs.drop k).take (i-k)++[xs[i]]:=by
     rw[show i+1-k=(i-k)+1 by omega,List.take_succ_eq_append_getElem (by simp;omega)]
     congr 2
     rw[List.getElem_drop];congr 1;omega
    rw[this];simp
 ·rw[hst]
  simp only[A9,cond_false]
 ·by_cases e:k=xs.length
  ·simp only[e,if_true,Nat.lt_irrefl,decide_false,Bool.not_false,cond_true]
   rw[A4 (by simp;omega),Option.bind_some]
   unfold ins;rw[hkk,e];simp
  ·have h2:k<xs.length:=by omega
   simp only[e,if_false,h2,decide_true,Bool.not_true,cond_false]
end Go.Sx

namespace Go.Sx
structure KOk (n:Nat)(K:List (List Int)):Prop where
 nd:K.Nodup
 lk:∀l∈K,LinkIn n l
theorem LinkIn.good {n:Nat}(hn:n≤1000){l:List Int}(h:LinkIn n l):Cb l:=by
 obtain⟨a,b,rfl,h1,h2⟩:=h
 refine⟨rfl,?_⟩
 simp only[List.getD_cons_zero,List.getD_cons_succ]
 omega
theorem KOk.len {n:Nat}(hn:n≤16){K:List (List Int)}(h:KOk n K):K.length≤256:=by
 have h1:(K.map Bc).Nodup:=by
  unfold List.Nodup
  rw[List.pairwise_map]
  refine List.Pairwise.imp_of_mem (fun{a b} ha hb hab e=> ?_) h.nd
  exact hab (row_inj ((h.lk a ha).good (by omega)) ((h.lk b hb).good (by omega)) e)
 have h2:=Ce (m:=(List.range 16).flatMap (fun a=>(List.range 16).map fun b=>((a:Nat):Int)*1048576+((b:Nat):Int))) h1 (fun x hx=>by
  obtain⟨l,hl,rfl⟩:=List.mem_map.1 hx
  obtain⟨a,b,rfl,h3,h4⟩:=h.lk l hl
  exact List.mem_flatMap.2 ⟨a,List.mem_range.2 (by omega),List.mem_map.2 ⟨b,List.mem_range.2 (by omega),rfl⟩⟩)
 have h3:((List.range 16).flatMap (fun a=>(List.range 16).map fun b=>((a:Nat):Int)*1048576+((b:Nat):Int))).length=256:=by decide+kernel
 rw[h3,List.length_map] at h2
 exact h2
def WayP (K:List (List Int))(a b:Int):Prop:=∀T:Int→Prop,T a→(∀x y,T x→Lk K x y→T y)→T b
theorem Lk.perm {K K':List (List Int)}(h:K.Perm K'){x y:Int}:Lk K x y↔Lk K' x y:=by
 unfold Lk;rw[h.mem_iff,h.mem_iff]
theorem WayP.perm {K K':List (List Int)}(h:K.Perm K'){a b:Int}:WayP K a b↔WayP K' a b:=by
 unfold WayP
 constructor
 ·intro hh T h1 h2;exact hh T h1 (fun x y hx hl=>h2 x y hx ((Lk.perm h).1 hl))
 ·intro hh T h1 h2;exact hh T h1 (fun x y hx hl=>h2 x y hx ((Lk.perm h).2 hl))
structure NetL (A:List Int)(n:Nat)(K:List (List Int)):Prop where
 net:Net A n
 nb:∀x y,x<n→y<n→(nb A x y=true↔Lk K (x:Int) (y:Int))
end Go.Sx

namespace Go.Sx
theorem GOk.shr {g:List (List Int)}(hg:GOk g):Sh2 g:=by
 have h16:=hg.n16
 exact⟨by unfold Sh;omega,fun r hr=>by have:=(hg.mem0 hr).1;unfold Sh;omega⟩
structure PB (g bags:List (List Int)):Prop where
 n16:bags.length≤16
 sets:∀i,i<bags.length→SetOf (bags.getD i []) g.length
 some:∀i,i<bags.length→bags.getD i []≠[]
 all:∀v:Nat,v<g.length→∃i,i<bags.length∧(v:Int)∈bags.getD i []
 edge:∀u v:Nat,u<g.length→adj g u v→∃i,i<bags.length∧(u:Int)∈bags.getD i []∧(v:Int)∈bags.getD i []
 run:∀(v:Nat) (i j k:Nat),i<j→j<k→k<bags.length→(v:Int)∈bags.getD i []→(v:Int)∈bags.getD k []→(v:Int)∈bags.getD j []
theorem PB.sh {g bags:List (List Int)}(hg:GOk g)(h:PB g bags):Sh2 bags:=by
 have:=h.n16;have:=hg.n16
 refine⟨by unfold Sh;omega,fun b hb=> ?_⟩
 obtain⟨i,hi,rfl⟩:=List.getElem_of_mem hb
 have:=(h.sets i hi).length_le (by omega)
 rw[Av hi] at this
 unfold Sh;omega
section
variable {g : List (List Int)} {o : List Int} (hg : GOk g) (ho : OOk g o)
include hg ho
end
section
variable {g : List (List Int)} {o : List Int} (hg : GOk g) (ho : OOk g o)
include hg ho
end
section
variable {g bags : List (List Int)} (hg : GOk g) (h : PB g bags)
include hg h
end
section
variable {g : List (List Int)} {o : List Int} (hg : GOk g) (ho : OOk g o)
include hg ho
end
end Go.Sx

namespace Go.Sx
theorem link_iff (n:Nat)(l:List Int):LinkIn n l↔l.length=2∧SetOf l (n:Int):=by
 constructor
 ·rintro⟨a,b,rfl,h1,h2⟩
  refine⟨rfl,by simp[Inc];omega,fun x hx=> ?_⟩
  simp at hx;omega
 ·rintro⟨h1,h2,h3⟩
  obtain⟨x,y,rfl⟩:=list2 h1
  have a1:=h3 x (by simp);have a2:=h3 y (by simp)
  simp[Inc] at h2
  exact⟨x.toNat,y.toNat,by rw[show ((x.toNat:Nat):Int)=x by omega,show ((y.toNat:Nat):Int)=y by omega],by omega,by omega⟩
def lkB (n:Nat)(l:List Int):Bool:=decide (l.length=2)&&Cf l (n:Int)
theorem Ez (n:Nat)(l:List Int):lkB n l=true↔LinkIn n l:=by
 unfold lkB
 rw[link_iff,Bool.and_eq_true,decide_eq_true_eq,Cs]
section
variable {B K : List (List Int)} (hB : Sh2 B) (hK : Sh2 K)
include hB hK
theorem l9Form_eq :D.B0 B K=some ((decide (1≤B.length)&&decide (B.length≤16))&&decide (K.length≤16)&&K.all (lkB B.length)):=by
 have hBl:B.length≤4294967296:=hB.1
 have hKl:K.length≤4294967296:=hK.1
 unfold D.B0
 rw[EC,Option.bind_some]
 have e1:(decide ((1:Int)≤(B.length:Int))&&decide ((B.length:Int)≤16))=(decide (1≤B.length)&&decide (B.length≤16)):=by
  congr 1<;>rw[decide_eq_decide]<;>omega
 rw[e1]
 cases hb:(decide (1≤B.length)&&decide (B.length≤16))
 ·simp
 ·by_cases hk:K.length≤16
  ·have e2:decide ((16:Int)<(K.length:Int))=false:=by rw[decide_eq_false_iff_not];omega
   rw[e2,decide_eq_true hk,Bool.not_true,Bool.or_self,cond_false,Bool.and_self,Bool.true_and]
   refine(CA K.length (fun i=>lkB B.length (K.getD i [])) false (fun i hi=> ?_) ?_ rfl rfl).trans ?_
   ·have hs:=hK.2 _ (List.getElem_mem hi)
    simp only[dlt hi,cond_true,Ay hi,Option.bind_some,wi (show i<4611686018427387904 by omega),Av hi]
    unfold lkB
    by_cases h2:K[i].length=2
    ·have:((K[i].length:Int) !=2)=false:=by simp;omega
     rw[this,cond_false,EP _ _ hs (by omega) (by omega),Option.bind_some,decide_eq_true h2,Bool.true_and,Option.bind_some]
     cases Cf K[i] (B.length:Int)<;>rfl
    ·have:((K[i].length:Int) !=2)=true:=by simp;omega
     rw[this,cond_true,Option.bind_some,decide_eq_false h2,Bool.false_and];rfl
   ·simp only[A9,cond_false]
   ·rw[Cr K (lkB B.length) _ (fun i hi=>by rw[Av hi])]
  ·have e2:decide ((16:Int)<(K.length:Int))=true:=by rw[decide_eq_true_eq];omega
   rw[e2,decide_eq_false hk,Bool.or_true,cond_true];simp
theorem E8 (hn:B.length≤16):D.l K (B.length:Int)=some (K.all (lkB B.length)):=by
 have hKl:K.length≤4294967296:=hK.1
 unfold D.l D.r1 D.p1
 have key:=CM (ρ:=Unit ⊕ Int) (step:=(fun(x_40:Int)=>cond (decide (x_40<(K.length:Int))) ((idx K x_40).bind fun e_60=>(D.K0 e_60 (B.length:Int)).bind fun y_66=>cond y_66 (some (.inr (.inr x_40))) (some (.inl (IntKind.i64.wrap (x_40+1))))) (some (.inr (.inl ()))))) K.length (fun i=>if lkB B.length (K.getD i []) then none else some (.inr (i:Int))) (.inl ()) (fun i hi=>by
   have hs:=hK.2 _ (List.getElem_mem hi)
   simp only[dlt hi,cond_true,Ay hi,Option.bind_some,wi (show i<4611686018427387904 by omega),Av hi]
   unfold D.K0 lkB
   by_cases h2:K[i].length=2
   ·have:((K[i].length:Int) !=2)=false:=by simp;omega
    rw[this,cond_false,Dd _ _ hs (by omega) (by omega),Option.bind_some,decide_eq_true h2,Bool.true_and,Option.bind_some,Option.bind_some]
    cases Cf K[i] (B.length:Int)<;>rfl
   ·have:((K[i].length:Int) !=2)=true:=by simp;omega
    rw[this,cond_true,Option.bind_some,decide_eq_false h2,Bool.false_and];rfl) (by simp only[A9,cond_false])
 rw[key,Option.bind_some]
 by_cases ha:K.all (lkB B.length)=true
 ·have:(List.range K.length).findSome? (fun i=>if lkB B.length (K.getD i []) then none else some (Sum.inr (α:=Unit) (i:Int)))=none:=by
   rw[List.findSome?_eq_none_iff]
   intro i hi
   have hi':=List.mem_range.1 hi
   rw[if_pos]
   rw[Av hi']
   exact List.all_eq_true.1 ha _ (List.getElem_mem hi')
  rw[this,ha];rfl
 ·have ha:K.all (lkB B.length)=false:=by simpa using ha
  obtain⟨x,hx,hxb⟩:=List.all_eq_false.1 ha
  obtain⟨i,hi,rfl⟩:=List.getElem_of_mem hx
  cases hf:(List.range K.length).findSome? (fun i=>if lkB B.length (K.getD i []) then none else some (Sum.inr (α:=Unit) (i:Int))) with
  |none=>
   rw[List.findSome?_eq_none_iff] at hf
   have:=hf i (List.mem_range.2 hi)
   rw[Av hi,if_neg (by simpa using hxb)] at this
   cases this
  |some z=>
   obtain⟨j,_,hj⟩:=List.exists_of_findSome?_eq_some hf
   split at hj
   ·cases hj
   ·cases hj
    have:decide ((0:Int)≤(j:Int))=true:=by rw[decide_eq_true_eq];omega
    simp[ha]
open Classical in
theorem reached_eq (sel:List Int)(hl:K.length≤1000000)(hp:Pairs K)(hs:sel.length≤1000000)(hne:sel≠[])(hn:sel.Nodup):
  ∃y,D.A B K sel=some y∧(y=(sel.length:Int)↔CJ K sel):=by
 obtain⟨y,h1,m,rfl,h2,h3,h4⟩:=l9Reached_ok B K sel hl hp hs hne
 refine⟨_,h1,fun h m' hm' x hx=> ?_,fun hc=> ?_⟩
 ·have hxm:x∈m:=by
   apply Classical.byContradiction
   intro hno
   have:=Ce (l:=x::m) (m:=sel) (List.nodup_cons.2 ⟨hno,h2⟩) (fun z hz=>by
    rcases List.mem_cons.1 hz with rfl|hz
    ·exact hx
    ·exact h3.sub z hz)
   simp at this;omega
  exact h4 m' hm' x hxm
 ·rw[nodup_all h2 hn h3.sub (hc m h3)]
end
def DP (n:Nat):List Int:=(List.range n).map Int.ofNat
theorem allB_nodup (n:Nat):(DP n).Nodup:=by
 refine Inc.nodup ?_
 unfold Inc DP
 rw[List.pairwise_map]
 exact List.Pairwise.imp (fun{a b} h=>by show (a:Int)<(b:Int);omega) List.pairwise_lt_range
theorem allB_ne {n:Nat}(h:1≤n):DP n≠[]:=by
 intro hc
 have:=congrArg List.length hc
 simp[DP] at this;omega
theorem E6 {α:Type}(p:Nat→Bool)(f:Nat→α)(s0:List α)(x:α):∀n,x∈(List.range n).foldl (fun s i=>if p i then s++[f i] else s) s0↔x∈s0∨∃i,i<n∧p i=true∧x=f i
 |0=>by simp
 |n+1=>by
  rw[List.range_succ,List.foldl_append,List.foldl_cons,List.foldl_nil]
  have ih:=E6 p f s0 x n
  by_cases hp:p n=true
  ·rw[if_pos hp,List.mem_append,ih]
   constructor
   ·rintro((h|⟨i,h1,h2⟩)|h)
    ·exact .inl h
    ·exact .inr ⟨i,by omega,h2⟩
    ·simp at h;exact .inr ⟨n,by omega,hp,h⟩
   ·rintro(h|⟨i,h1,h2,h3⟩)
    ·exact .inl (.inl h)
    ·by_cases e:i=n
     ·subst e;exact .inr (by simp[h3])
     ·exact .inl (.inr ⟨i,by omega,h2,h3⟩)
  ·rw[if_neg hp,ih]
   constructor
   ·rintro(h|⟨i,h1,h2⟩)
    ·exact .inl h
    ·exact .inr ⟨i,by omega,h2⟩
   ·rintro(h|⟨i,h1,h2,h3⟩)
    ·exact .inl h
    ·by_cases e:i=n
     ·subst e;exact absurd h2 hp
     ·exact .inr ⟨i,by omega,h2,h3⟩
theorem mem_rowF (r:List Int)(u:Nat)(s:List (List Int))(x:List Int):x∈rowF r u s↔x∈s∨∃v∈r,(u:Int)<v∧x=[(u:Int),v]:=by
 unfold rowF
 have:=E6 (fun i=>decide ((u:Int)<r.getD i 0)) (fun i=>[(u:Int),r.getD i 0]) s x r.length
 simp only[decide_eq_true_eq] at this
 rw[this]
 constructor
 ·rintro(h|⟨i,h1,h2,h3⟩)
  ·exact .inl h
  ·rw[Av h1] at h2 h3
   exact .inr ⟨r[i],List.getElem_mem h1,h2,h3⟩
 ·rintro(h|⟨v,h1,h2,h3⟩)
  ·exact .inl h
  ·obtain⟨i,hi,rfl⟩:=List.getElem_of_mem h1
   exact .inr ⟨i,hi,by rw[Av hi];exact h2,by rw[Av hi];exact h3⟩
theorem EJ {g:List (List Int)}(hg:GOk g)(x:List Int):x∈Ct g↔∃u v:Nat,u<g.length∧adj g u v∧u<v∧x=[(u:Int),(v:Int)]:=by
 have key:∀n,n≤g.length→(x∈(List.range n).foldl (fun s u=>rowF (row g u) u s) []↔∃u v:Nat,u<n∧adj g u v∧u<v∧x=[(u:Int),(v:Int)]):=by
  intro n
  induction n with
  |zero=>intro _;simp
  |succ n ih=>
   intro hn
   rw[List.range_succ,List.foldl_append,List.foldl_cons,List.foldl_nil,mem_rowF,ih (by omega)]
   constructor
   ·rintro(⟨u,v,h1,h2⟩|⟨v,h1,h2,h3⟩)
    ·exact⟨u,v,by omega,h2⟩
    ·obtain⟨w,rfl,hw,ha⟩:=hg.mem (by omega) h1
     exact⟨n,w,by omega,ha,by omega,h3⟩
   ·rintro⟨u,v,h1,h2,h3,h4⟩
    by_cases e:u=n
    ·subst e;exact .inr ⟨v,h2,by omega,h4⟩
    ·exact .inl ⟨u,v,by omega,h2,h3,h4⟩
 exact key g.length (Nat.le_refl _)
section
variable {g B K : List (List Int)} (hg : GOk g) (hB : Sh2 B) (hK : Sh2 K)
include hg hB hK
open Classical in
theorem Ed :D.P g B K=some (decide (TB g B K)):=by
 have h16:=hg.n16
 have hKl:K.length≤4294967296:=hK.1
 have hBl:B.length≤4294967296:=hB.1
 unfold D.P
 rw[Et g hg.shr,(gB_iff g).2 hg]
 simp only[Option.bind_some,Bool.not_true,cond_false]
 unfold D.s1
 rw[l9Form_eq hB hK,Option.bind_some]
 by_cases hform:(1≤B.length∧B.length≤16∧K.length+1=B.length)∧∀l∈K,LinkIn B.length l
 case neg=>
  have hT:¬TB g B K:=fun h=>hform ⟨⟨h.n1,h.n16,h.many⟩,h.lks⟩
  have e:(((decide (1≤B.length)&&decide (B.length≤16))&&decide (K.length≤16)&&K.all (lkB B.length))&&((K.length:Int)==IntKind.i64.wrap ((B.length:Int)-1)))=false:=by
   rw[w64 (by omega) (by omega)]
   cases hc:(((decide (1≤B.length)&&decide (B.length≤16))&&decide (K.length≤16)&&K.all (lkB B.length))&&((K.length:Int)==(B.length:Int)-1))
   ·rfl
   ·exfalso
    simp only[Bool.and_eq_true,decide_eq_true_eq,beq_iff_eq,List.all_eq_true] at hc
    exact hform ⟨⟨hc.1.1.1.1,hc.1.1.1.2,by omega⟩,fun l hl=>(Ez _ _).1 (hc.1.2 l hl)⟩
  rw[e,cond_false,decide_eq_false hT]
  rfl
 case pos=>
  obtain⟨⟨n1,n16,hm⟩,hlk⟩:=hform
  have hpairs:Pairs K:=fun l hl=>by obtain⟨a,b,e,_⟩:=hlk l hl;exact⟨a,b,e⟩
  have e:(((decide (1≤B.length)&&decide (B.length≤16))&&decide (K.length≤16)&&K.all (lkB B.length))&&((K.length:Int)==IntKind.i64.wrap ((B.length:Int)-1)))=true:=by
   rw[w64 (by omega) (by omega)]
   simp only[Bool.and_eq_true,decide_eq_true_eq,beq_iff_eq,List.all_eq_true]
   exact⟨⟨⟨⟨n1,n16⟩,by omega⟩,fun l hl=>(Ez _ _).2 (hlk l hl)⟩,by omega⟩
  rw[e,cond_true,l1All_eq B.length (by omega),Option.bind_some]
  obtain⟨y,e1,hy⟩:=reached_eq hB hK (DP B.length) (by omega) hpairs (by simp[DP];omega) (allB_ne n1) (allB_nodup _)
  have hal:(DP B.length).length=B.length:=by simp[DP]
  rw[hal] at hy
  have e1':D.A B K ((List.range B.length).map Int.ofNat)=some y:=e1
  rw[e1',Option.bind_some,Option.bind_some,Option.bind_some]
  by_cases hc:CJ K (DP B.length)
  case neg=>
   have:(y==(B.length:Int))=false:=by rw[beq_eq_false_iff_ne];exact fun h=>hc (hy.1 h)
   rw[this,Bool.not_false,cond_true,decide_eq_false (fun h=>hc h.tree)]
  case pos=>
   have:(y==(B.length:Int))=true:=by rw[beq_iff_eq];exact hy.2 hc
   rw[this,Bool.not_true,cond_false]
   unfold D.d
   refine(DD B.length (fun i=>Cf (B.getD i []) g.length) (.inl ()) (.inr false) (fun i hi=> ?_) ?_).trans ?_
   ·simp only[dlt hi,cond_true,Ay hi,Option.bind_some,EP _ _ (hB.2 _ (List.getElem_mem hi)) (show (0:Int)≤(g.length:Int) by omega) (by omega),wi (show i<4611686018427387904 by omega),Av hi]
    cases Cf B[i] (g.length:Int)<;>rfl
   ·simp only[A9,cond_false]
   ·rw[Cr B (fun b=>Cf b g.length) _ (fun i hi=>by rw[Av hi])]
    by_cases hs:∀b∈B,SetOf b (g.length:Int)
    case neg=>
     have:(B.all fun b=>Cf b g.length)=false:=by
      cases hh:(B.all fun b=>Cf b g.length)
      ·rfl
      ·exact absurd (fun b hb=>(Cs _ _).1 (List.all_eq_true.1 hh b hb)) hs
     rw[this,cond_false,decide_eq_false (fun h=>hs h.sets)]
    case pos=>
     have:(B.all fun b=>Cf b g.length)=true:=List.all_eq_true.2 (fun b hb=>(Cs _ _).2 (hs b hb))
     rw[this,cond_true]
     dsimp only
     rw[l1Edges_eq g hg,Option.bind_some]
     have hel:(Ct g).length≤256:=by
      obtain⟨y,y1,y2,_⟩:=l1Edges_ok g hg
      rw[l1Edges_eq g hg] at y1
      cases y1;exact y2
     refine(DD (Ct g).length (fun i=>B.any fun b=>((Ct g).getD i []).all fun x=>decide (x∈b)) (.inl ()) (.inr false) (fun i hi=> ?_) ?_).trans ?_
     ·obtain⟨u,v,_,_,_,e2⟩:=(EJ hg _).1 (List.getElem_mem hi)
      simp only[dlt hi,cond_true,Ay hi,Option.bind_some,l9In_eq B K (Ct g)[i] hB (by rw[e2];simp[Sh]),wi (show i<4611686018427387904 by omega),Av hi]
      cases (B.any fun b=>((Ct g)[i]).all fun x=>decide (x∈b))<;>rfl
     ·simp only[A9,cond_false]
     ·rw[Cr (Ct g) (fun e=>B.any fun b=>e.all fun x=>decide (x∈b)) _ (fun i hi=>by rw[Av hi])]
      by_cases hE:∀u v:Nat,u<g.length→adj g u v→∃b∈B,(u:Int)∈b∧(v:Int)∈b
      case neg=>
       have:((Ct g).all fun e=>B.any fun b=>e.all fun x=>decide (x∈b))=false:=by
        cases hh:((Ct g).all fun e=>B.any fun b=>e.all fun x=>decide (x∈b))
        ·rfl
        ·exfalso
         refine hE (fun u v hu ha=> ?_)
         have hlt:∀u v:Nat,u<g.length→adj g u v→u<v→∃b∈B,(u:Int)∈b∧(v:Int)∈b:=fun u v hu ha huv=>by
          obtain⟨b,hb,hbb⟩:=List.any_eq_true.1 (List.all_eq_true.1 hh _ ((EJ hg _).2 ⟨u,v,hu,ha,huv,rfl⟩))
          simp at hbb
          exact⟨b,hb,hbb⟩
         rcases Nat.lt_trichotomy u v with c|c|c
         ·exact hlt u v hu ha c
         ·subst c;exact absurd ha (hg.irr u hu)
         ·obtain⟨b,hb,h1,h2⟩:=hlt v u (hg.lt hu ha) (hg.sym u v hu ha) c
          exact⟨b,hb,h2,h1⟩
       rw[this,cond_false,decide_eq_false (fun h=>hE h.edges)]
      case pos=>
       have:((Ct g).all fun e=>B.any fun b=>e.all fun x=>decide (x∈b))=true:=List.all_eq_true.2 (fun e he=>by
        obtain⟨u,v,hu,ha,_,rfl⟩:=(EJ hg _).1 he
        obtain⟨b,hb,h1,h2⟩:=hE u v hu ha
        exact List.any_eq_true.2 ⟨b,hb,by simp[h1,h2]⟩)
       rw[this,cond_true]
       dsimp only
       refine(CA g.length (fun v=>decide (BX B (v:Int)≠[]∧CJ K (BX B (v:Int)))) false (fun v hv=> ?_) ?_ rfl rfl).trans ?_
       ·have hwl:(BX B (v:Int)).length≤16:=by
         have:=(EY B (v:Int)).short (n:=B.length) (fun x hx=>by
          obtain⟨b,rfl,hb,_⟩:=mem_withV.1 hx;omega)
         omega
        simp only[Option.bind_some,dlt hv,cond_true,l9With_eq B K (v:Int) hB (by omega),wi (show v<4611686018427387904 by omega)]
        by_cases hne:BX B (v:Int)=[]
        ·rw[hne];simp
        ·have e0:(((BX B (v:Int)).length:Int)==0)=false:=by
          rw[beq_eq_false_iff_ne]
          have:=List.length_pos_iff.2 hne
          omega
         obtain⟨y,e2,hy2⟩:=reached_eq hB hK (BX B (v:Int)) (by omega) hpairs (by omega) hne (EY B (v:Int)).nodup
         rw[e0,cond_false,e2,Option.bind_some,Option.bind_some]
         by_cases hcv:CJ K (BX B (v:Int))
         ·have:(y !=((BX B (v:Int)).length:Int))=false:=by rw[bne_eq_false_iff_eq];exact hy2.2 hcv
          rw[this,cond_false,if_pos (decide_eq_true ⟨hne,hcv⟩)]
         ·have:(y !=((BX B (v:Int)).length:Int))=true:=by rw[bne_iff_ne];exact fun h=>hcv (hy2.1 h)
          rw[this,cond_true,if_neg (by simpa using fun h=>hcv)]
       ·simp only[Option.bind_some,A9,cond_false]
       ·congr 1
        rw[Bool.eq_iff_iff,CR,decide_eq_true_eq]
        simp only[decide_eq_true_eq]
        constructor
        ·intro hv
         exact⟨n1,n16,hm,hlk,hs,hc,hE,fun v h=>(hv v h).1,fun v h=>(hv v h).2⟩
        ·intro h v hv
         exact⟨h.some v hv,h.conn v hv⟩
end
end Go.Sx

namespace Go.Sx
theorem least_mem {s:Int}(hs:VS s){k:Nat}(hk:has s k=true)(hm:∀v,v<k→has s v=false):(Ao s).head? =some (k:Int):=by
 obtain⟨t,e⟩:=elems_head hs hk hm
 rw[e];rfl
open Classical in
theorem E3 {A:List Int}{n:Nat}{K:List (List Int)}(hn:n≤16)(h:NetL A n K)(hk:∀l∈K,LinkIn n l){W:Int}(hW:VS W)(hlt:∀v,has W v=true→v<n):
  D.T A W=some (decide (Ao W≠[]∧CJ K (Ao W))):=by
 unfold D.T
 by_cases hz:W=0
 ·subst hz
  have:Ao 0=[]:=DY
  simp[this]
 ·have e1:(W !=0)=true:=by simpa using hz
  obtain⟨v,hv32,e2,hv,hmin,_⟩:=least_eq hW hz
  obtain⟨S,e3,hS,hSn⟩:=reach_ok hn h.net (hlt v hv) hW
  have hhead:=least_mem hW hv hmin
  have hne:Ao W≠[]:=by intro e;rw[e] at hhead;cases hhead
  rw[e1,cond_true,e2,Option.bind_some,e3,Option.bind_some,Option.bind_some]
  congr 1
  rw[Bool.eq_iff_iff,beq_iff_eq,decide_eq_true_eq]
  have hsub:∀x,has S x=true→has W x=true:=hS.least (fun x=>has W x=true) hv (fun x y _ _ hy=>hy)
  constructor
  ·rintro rfl
   refine⟨hne,fun m hm x hx=> ?_⟩
   obtain⟨u,_,hu,rfl⟩:=mem_elems.1 hx
   refine hS.least (fun z=>(z:Int)∈m) (hm.first _ hhead) (fun p q hp hpq hq=> ?_) u hu
   have hpW:has S p=true:=(AU hW).1 (hm.sub _ hp)
   exact hm.step _ hp _ ((AU hW).2 hq) ((h.nb p q (hlt p hpW) (hlt q hq)).1 hpq)
  ·rintro⟨_,hc⟩
   refine hS.vs.ext hW (fun w _=> ?_)
   rw[Bool.eq_iff_iff]
   refine⟨hsub w,fun hw=> ?_⟩
   have:=hc (Ao S) ⟨fun x hx=>by
    obtain⟨u,_,hu,rfl⟩:=mem_elems.1 hx
    exact(AU hW).2 (hsub u hu),fun x hx=>by
    rw[hhead] at hx;cases hx;exact(AU hS.vs).2 hS.me,fun x hx y hy hxy=>by
    obtain⟨p,_,hp,rfl⟩:=mem_elems.1 hx
    obtain⟨q,_,hq,rfl⟩:=mem_elems.1 hy
    exact(AU hS.vs).2 (hS.step p q hp ((h.nb p q (hSn p hp) (hlt q hq)).2 hxy) hq)⟩ (w:Int) ((AU hW).2 hw)
   exact(AU hS.vs).1 this
theorem linkNets_ok {B K:List (List Int)}(hn:B.length≤16)(hk:∀l∈K,LinkIn B.length l)(hKl:K.length≤1000000):∃A,D.S0 B K=some A∧NetL A B.length K:=by
 unfold D.S0
 rw[Di (by omega) (by omega),Option.bind_some]
 refine AM (fun s=>∃i:Nat,s.2=(i:Int)∧i≤K.length∧NetL s.1 B.length (K.take i)) (fun s=>K.length-s.2.toNat) (fun A=>NetL A B.length K) ?_ ⟨0,rfl,by omega,?_⟩ (fun r hr=>⟨r,rfl,hr⟩)
 ·rintro⟨A,_⟩ ⟨i,rfl,hi,hA⟩
  dsimp only at hA ⊢
  by_cases hil:i<K.length
  ·obtain⟨a,b,e,hab,hb⟩:=hk _ (List.getElem_mem hil)
   have i0:idx K[i] 0=some (a:Int):=by rw[e];rfl
   have i1:idx K[i] 1=some (b:Int):=by rw[e];rfl
   obtain⟨A',e2,h1,h2⟩:=join_net hn hA.net (show a<B.length by omega) hb (by omega)
   simp only[dlt hil,cond_true,Ay hil,Option.bind_some,i0,i1,e2,wi (show i<4611686018427387904 by omega)]
   refine⟨_,rfl,⟨i+1,rfl,hil,h1,fun x y hx hy=> ?_⟩,by dsimp only;omega⟩
   dsimp only
   rw[h2 x y hx,List.take_succ_eq_append_getElem hil,e]
   simp only[Bool.or_eq_true,Bool.and_eq_true,decide_eq_true_eq]
   rw[hA.nb x y hx hy]
   unfold Lk
   simp only[List.mem_append,List.mem_singleton,List.cons.injEq,and_true,Int.natCast_inj]
   constructor
   ·rintro((h1|h1)|⟨h1,h2⟩)
    ·exact h1.elim (fun h=> .inl (.inl h)) (fun h=> .inr (.inl h))
    ·exact .inl (.inr h1)
    ·exact .inr (.inr ⟨h2,h1⟩)
   ·rintro((h1|h1)|(h1|⟨h1,h2⟩))
    ·exact .inl (.inl (.inl h1))
    ·exact .inl (.inr h1)
    ·exact .inl (.inl (.inr h1))
    ·exact .inr ⟨h2,h1⟩
  ·obtain rfl:i=K.length:=by omega
   simp only[A9,cond_false]
   rw[List.take_length] at hA
   exact⟨_,rfl,hA⟩
 ·have hz:∀u,(List.replicate B.length (0:Int)).getD u 0=0:=fun u=>by
   rw[List.getD_eq_getElem?_getD,List.getElem?_replicate];split<;>rfl
  refine⟨⟨by simp,fun u _=>by rw[hz];exact VS.zero,fun u w _ h=>by unfold nb at h;rw[hz,B4] at h;cases h⟩,fun x y _ _=> ?_⟩
  unfold nb Lk
  rw[hz,B4];simp
section
variable {g B K : List (List Int)} (hg : GOk g) (hs : ∀ b ∈ B, SetOf b (g.length : Int)) (hBl : B.length ≤ 16)
include hg hs hBl
theorem masks_eq :D.x B=some (B.map mk):=by
 have h16:=hg.n16
 unfold D.x
 refine(Dm B (fun s i=>(s,i)) mk (by omega) (fun s i hi _=> ?_) (fun s=> ?_)).trans rfl
 ·have hb:=hs _ (List.getElem_mem hi)
  have hl:=hb.length_le (by omega)
  simp only[dlt hi,cond_true,Ay hi,Option.bind_some,maskOf_eq _ (show Sh B[i] by unfold Sh;omega) (fun x hx=>(hb.2 x hx).1),wi (show i<4611686018427387904 by omega)]
 ·simp only[A9,cond_false]
theorem EN {i:Nat}(hi:i<B.length)(v:Nat):has (mk B[i]) v=decide ((v:Int)∈B[i]):=by
 have h16:=hg.n16
 have hb:=hs _ (List.getElem_mem hi)
 exact Dc (fun x hx=>by have:=hb.2 x hx;omega) v
open Classical in
theorem coversEdges_eq :D.m0 (g.map mk) (B.map mk)=some (decide (∀v,v<g.length→(∃j,∃hj:j<B.length,(v:Int)∈B[j])∧∀w,adj g v w→∃j,∃hj:j<B.length,(v:Int)∈B[j]∧(w:Int)∈B[j])):=by
 have h16:=hg.n16
 unfold D.m0
 refine(CA g.length (fun v=>decide ((∃j,∃hj:j<B.length,(v:Int)∈B[j])∧∀w,adj g v w→∃j,∃hj:j<B.length,(v:Int)∈B[j]∧(w:Int)∈B[j])) false (fun v hv=> ?_) ?_ rfl rfl).trans ?_
 ·have hv':v<(g.map mk).length:=by simpa using hv
  have e1:decide ((v:Int)<((g.map mk).length:Int))=true:=dlt hv'
  simp only[e1,cond_true,Ay hv',Option.bind_some,List.getElem_map]
  obtain⟨y,hy,hq⟩:=AM (step:=(fun(s_340:Int×Int)=>match s_340 with|(x_343,x_344)=>cond (decide (x_344<((B.map mk).length:Int))) ((idx (B.map mk) x_344).bind fun e_365=>(D.j e_365 (v:Int)).bind fun y_371=>cond y_371 (some (.inl ((ior .u32 x_343 e_365),(IntKind.i64.wrap (x_344+1))))) (some (.inl (x_343,(IntKind.i64.wrap (x_344+1)))))) (some (.inr x_343)))) (s:=(0,0))
   (k:=fun r=>some r) (Q:=fun x=>VS x∧∀u,has x u=true↔∃j,∃hj:j<B.length,(v:Int)∈B[j]∧(u:Int)∈B[j])
   (fun s=>∃i:Nat,s.2=(i:Int)∧i≤B.length∧VS s.1∧∀u,has s.1 u=true↔∃j,∃hj:j<B.length,j<i∧(v:Int)∈B[j]∧(u:Int)∈B[j]) (fun s=>B.length-s.2.toNat)
   (fun x=>VS x∧∀u,has x u=true↔∃j,∃hj:j<B.length,(v:Int)∈B[j]∧(u:Int)∈B[j]) (by
    rintro⟨x,_⟩ ⟨i,rfl,hi,hx,hh⟩
    dsimp only at hx hh ⊢
    by_cases hlt:i<B.length
    ·have hlt':i<(B.map mk).length:=by simpa using hlt
     have hhas:D.j (mk B[i]) (v:Int)=some (has (mk B[i]) v):=by
      unfold D.j
      have:decide ((v:Int)<0)=false:=by simp
      rw[this,cond_false,bitAt_eq (VS.mk _) (by omega)]
     simp only[dlt hlt',cond_true,Ay hlt',Option.bind_some,List.getElem_map,hhas,EN hg hs hBl hlt,wi (show i<4611686018427387904 by omega)]
     by_cases hm:(v:Int)∈B[i]
     ·simp only[hm,decide_true,cond_true]
      refine⟨_,rfl,⟨i+1,rfl,by omega,VS.ior _ _,fun u=> ?_⟩,by dsimp only;omega⟩
      dsimp only
      rw[Ca hx (VS.mk _),Bool.or_eq_true,hh,EN hg hs hBl hlt,decide_eq_true_eq]
      constructor
      ·rintro(⟨j,h0,h1,h2,h3⟩|h1)
       ·exact⟨j,h0,by omega,h2,h3⟩
       ·exact⟨i,hlt,by omega,hm,h1⟩
      ·rintro⟨j,h0,h1,h2,h3⟩
       by_cases hji:j=i
       ·subst hji;exact .inr h3
       ·exact .inl ⟨j,h0,by omega,h2,h3⟩
     ·simp only[hm,decide_false,cond_false]
      refine⟨_,rfl,⟨i+1,rfl,by omega,hx,fun u=> ?_⟩,by dsimp only;omega⟩
      dsimp only
      rw[hh]
      constructor
      ·rintro⟨j,h0,h1,h2⟩;exact⟨j,h0,by omega,h2⟩
      ·rintro⟨j,h0,h1,h2,h3⟩
       by_cases hji:j=i
       ·subst hji;exact absurd h2 hm
       ·exact⟨j,h0,by omega,h2,h3⟩
    ·obtain rfl:i=B.length:=by omega
     have:decide (((B.length:Nat):Int)<((B.map mk).length:Int))=false:=by simp
     simp only[this,cond_false]
     refine⟨_,rfl,hx,fun u=> ?_⟩
     rw[hh]
     exact⟨fun⟨j,h0,_,h2⟩=>⟨j,h0,h2⟩,fun⟨j,h0,h2⟩=>⟨j,h0,h0,h2⟩⟩) ⟨0,rfl,by omega,VS.zero,fun u=>by simp[B4]⟩ (fun r hr=>⟨r,rfl,hr⟩)
  rw[Option.bind_eq_some_iff] at hy
  obtain⟨a,ha,hb⟩:=hy
  cases hb
  obtain⟨hy1,hy2⟩:=hq
  rw[ha,Option.bind_some]
  have hhas:D.j y (v:Int)=some (has y v):=by
   unfold D.j
   have:decide ((v:Int)<0)=false:=by simp
   rw[this,cond_false,bitAt_eq hy1 (by omega)]
  rw[hhas,Option.bind_some,wi (show v<4611686018427387904 by omega)]
  have hrow:∀x∈g[v],0≤x∧x<32:=fun x hx=>by
   rw[←DL hv] at hx
   have:=(hg.rows v hv).2 x hx;omega
  by_cases h1:∃j,∃hj:j<B.length,(v:Int)∈B[j]
  case neg=>
   have:has y v=false:=by
    cases hh:has y v
    ·rfl
    ·obtain⟨j,hj,m1,_⟩:=(hy2 v).1 hh
     exact absurd ⟨j,hj,m1⟩ h1
   rw[this,Bool.not_false,Bool.true_or,cond_true,if_neg (by rw[decide_eq_true_eq];exact fun h=>h1 h.1)]
  case pos=>
   have:has y v=true:=by
    obtain⟨j,hj,m1⟩:=h1
    exact(hy2 v).2 ⟨j,hj,m1,m1⟩
   rw[this,Bool.not_true,Bool.false_or]
   by_cases h2:∀w,adj g v w→∃j,∃hj:j<B.length,(v:Int)∈B[j]∧(w:Int)∈B[j]
   case neg=>
    have hz:(iandNot .u32 (mk g[v]) y !=0)=true:=by
     rw[bne_iff_ne]
     intro hz
     rw[(VS.iandNot _ _).eq_zero] at hz
     refine h2 (fun w hw=> ?_)
     have hw':=hg.lt hv hw
     have:=hz w (by omega)
     rw[A6 (VS.mk _) hy1,Dc hrow] at this
     have hm:(w:Int)∈g[v]:=by rw[←DL hv];exact hw
     simp only[hm,decide_true,Bool.true_and,Bool.not_eq_false'] at this
     exact(hy2 w).1 this
    rw[hz,cond_true,if_neg (by rw[decide_eq_true_eq];exact fun h=>h2 h.2)]
   case pos=>
    have hz:(iandNot .u32 (mk g[v]) y !=0)=false:=by
     rw[bne_eq_false_iff_eq,(VS.iandNot _ _).eq_zero]
     intro u hu
     rw[A6 (VS.mk _) hy1,Dc hrow]
     by_cases ha:(u:Int)∈g[v]
     ·rw[←DL hv] at ha
      have:has y u=true:=(hy2 u).2 (h2 u ha)
      simp[this]
     ·simp[ha]
    rw[hz,cond_false,if_pos (decide_eq_true ⟨h1,h2⟩)]
 ·have:decide (((g.length:Nat):Int)<((g.map mk).length:Int))=false:=by simp
  simp only[this,cond_false]
 ·congr 1
  rw[Bool.eq_iff_iff,CR,decide_eq_true_eq]
  simp only[decide_eq_true_eq]
theorem with_ok {v:Nat}(hv:v<g.length):∃x,(Ap (σ:=Int×Int) (ρ:=(Int)) (fun(s_662:Int×Int)=>match s_662 with|(x_665,x_666)=>cond (decide (x_666<((B.map mk).length:Int))) ((idx (B.map mk) x_666).bind fun e_694=>(D.j e_694 (v:Int)).bind fun y_700=>cond y_700 ((D.c x_666).bind fun y_708=>some (.inl ((ior .u32 x_665 y_708),(IntKind.i64.wrap (x_666+1))))) (some (.inl (x_665,(IntKind.i64.wrap (x_666+1)))))) (some (.inr x_665))) (0,0))=some x∧VS x∧(∀u,has x u=true→u<B.length)∧Ao x=BX B (v:Int):=by
 have h16:=hg.n16
 obtain⟨y,hy,hq⟩:=AM (step:=(fun(s_662:Int×Int)=>match s_662 with|(x_665,x_666)=>cond (decide (x_666<((B.map mk).length:Int))) ((idx (B.map mk) x_666).bind fun e_694=>(D.j e_694 (v:Int)).bind fun y_700=>cond y_700 ((D.c x_666).bind fun y_708=>some (.inl ((ior .u32 x_665 y_708),(IntKind.i64.wrap (x_666+1))))) (some (.inl (x_665,(IntKind.i64.wrap (x_666+1)))))) (some (.inr x_665)))) (s:=(0,0))
  (k:=fun r=>some r) (Q:=fun x=>VS x∧∀u,has x u=true↔∃hj:u<B.length,(v:Int)∈B[u])
  (fun s=>∃i:Nat,s.2=(i:Int)∧i≤B.length∧VS s.1∧∀u,has s.1 u=true↔∃hj:u<B.length,u<i∧(v:Int)∈B[u]) (fun s=>B.length-s.2.toNat)
  (fun x=>VS x∧∀u,has x u=true↔∃hj:u<B.length,(v:Int)∈B[u]) (by
   rintro⟨x,_⟩ ⟨i,rfl,hi,hx,hh⟩
   dsimp only at hx hh ⊢
   by_cases hlt:i<B.length
   ·have hlt':i<(B.map mk).length:=by simpa using hlt
    have hhas:D.j (mk B[i]) (v:Int)=some (has (mk B[i]) v):=by
     unfold D.j
     have:decide ((v:Int)<0)=false:=by simp
     rw[this,cond_false,bitAt_eq (VS.mk _) (by omega)]
    simp only[dlt hlt',cond_true,Ay hlt',Option.bind_some,List.getElem_map,hhas,EN hg hs hBl hlt,BG,wi (show i<4611686018427387904 by omega)]
    by_cases hm:(v:Int)∈B[i]
    ·simp only[hm,decide_true,cond_true]
     refine⟨_,rfl,⟨i+1,rfl,by omega,VS.ior _ _,fun u=> ?_⟩,by dsimp only;omega⟩
     dsimp only
     rw[Ca hx (VS.ishl _ _),Bool.or_eq_true,hh,BA (by omega),decide_eq_true_eq]
     constructor
     ·rintro(⟨h0,h1,h2⟩|rfl)
      ·exact⟨h0,by omega,h2⟩
      ·exact⟨hlt,by omega,hm⟩
     ·rintro⟨h0,h1,h2⟩
      by_cases hji:u=i
      ·exact .inr hji
      ·exact .inl ⟨h0,by omega,h2⟩
    ·simp only[hm,decide_false,cond_false]
     refine⟨_,rfl,⟨i+1,rfl,by omega,hx,fun u=> ?_⟩,by dsimp only;omega⟩
     dsimp only
     rw[hh]
     constructor
     ·rintro⟨h0,h1,h2⟩;exact⟨h0,by omega,h2⟩
     ·rintro⟨h0,h1,h2⟩
      by_cases hji:u=i
      ·subst hji;exact absurd h2 hm
      ·exact⟨h0,by omega,h2⟩
   ·obtain rfl:i=B.length:=by omega
    have:decide (((B.length:Nat):Int)<((B.map mk).length:Int))=false:=by simp
    simp only[this,cond_false]
    refine⟨_,rfl,hx,fun u=> ?_⟩
    rw[hh]
    exact⟨fun⟨h0,_,h2⟩=>⟨h0,h2⟩,fun⟨h0,h2⟩=>⟨h0,h0,h2⟩⟩) ⟨0,rfl,by omega,VS.zero,fun u=>by simp[B4]⟩ (fun r hr=>⟨r,rfl,hr⟩)
 rw[Option.bind_eq_some_iff] at hy
 obtain⟨a,ha,hb⟩:=hy
 cases hb
 obtain⟨hy1,hy2⟩:=hq
 refine⟨_,ha,hy1,fun u hu=>((hy2 u).1 hu).1,?_⟩
 refine Inc.ext (BH _) (EY B (v:Int)) (fun x=> ?_)
 rw[mem_elems,mem_withV]
 constructor
 ·rintro⟨u,_,h2,rfl⟩
  obtain⟨h3,h4⟩:=(hy2 u).1 h2
  exact⟨u,rfl,h3,by rw[Av h3];exact h4⟩
 ·rintro⟨u,rfl,h3,h4⟩
  rw[Av h3] at h4
  exact⟨u,by omega,(hy2 u).2 ⟨h3,h4⟩,rfl⟩
end
section
variable {g B K : List (List Int)} (hg : GOk g) (hB : Sh2 B) (hK : Sh2 K)
include hg hB hK
open Classical in
theorem Dl :D.C g B K=some (decide (TB g B K)):=by
 have h16:=hg.n16
 have hKl:K.length≤4294967296:=hK.1
 have hBl:B.length≤4294967296:=hB.1
 unfold D.C
 rw[Dy g hg.shr,(gB_iff g).2 hg]
 simp only[Option.bind_some,Bool.not_true,Bool.false_or]
 rw[w64 (by omega) (by omega)]
 by_cases hb:1≤B.length∧B.length≤16∧K.length+1=B.length
 case neg=>
  have hT:¬TB g B K:=fun h=>hb ⟨h.n1,h.n16,h.many⟩
  have e:((decide ((B.length:Int)<1)||decide ((16:Int)<(B.length:Int)))||((K.length:Int) !=(B.length:Int)-1))=true:=by
   simp only[Bool.or_eq_true,decide_eq_true_eq,bne_iff_ne]
   omega
  rw[e,cond_true,Option.bind_some,cond_true,decide_eq_false hT]
 case pos=>
  obtain⟨n1,n16,hm⟩:=hb
  have e:((decide ((B.length:Int)<1)||decide ((16:Int)<(B.length:Int)))||((K.length:Int) !=(B.length:Int)-1))=false:=by
   cases hc:((decide ((B.length:Int)<1)||decide ((16:Int)<(B.length:Int)))||((K.length:Int) !=(B.length:Int)-1))
   ·rfl
   ·simp only[Bool.or_eq_true,decide_eq_true_eq,bne_iff_ne] at hc;omega
  rw[e,cond_false,E8 hB hK n16,Option.bind_some,Option.bind_some]
  by_cases hlk:∀l∈K,LinkIn B.length l
  case neg=>
   have:K.all (lkB B.length)=false:=by
    cases hh:K.all (lkB B.length)
    ·rfl
    ·exact absurd (fun l hl=>(Ez _ _).1 (List.all_eq_true.1 hh l hl)) hlk
   rw[this,Bool.not_false,cond_true,decide_eq_false (fun h=>hlk h.lks)]
  case pos=>
   have:K.all (lkB B.length)=true:=List.all_eq_true.2 (fun l hl=>(Ez _ _).2 (hlk l hl))
   rw[this,Bool.not_true,cond_false]
   refine(DD B.length (fun i=>Cf (B.getD i []) g.length) (.inl ()) (.inr false) (fun i hi=> ?_) ?_).trans ?_
   ·simp only[dlt hi,cond_true,Ay hi,Option.bind_some,Dd _ _ (hB.2 _ (List.getElem_mem hi)) (show (0:Int)≤(g.length:Int) by omega) (by omega),wi (show i<4611686018427387904 by omega),Av hi]
    cases Cf B[i] (g.length:Int)<;>rfl
   ·simp only[A9,cond_false]
   ·rw[Cr B (fun b=>Cf b g.length) _ (fun i hi=>by rw[Av hi])]
    by_cases hs:∀b∈B,SetOf b (g.length:Int)
    case neg=>
     have:(B.all fun b=>Cf b g.length)=false:=by
      cases hh:(B.all fun b=>Cf b g.length)
      ·rfl
      ·exact absurd (fun b hb=>(Cs _ _).1 (List.all_eq_true.1 hh b hb)) hs
     rw[this,cond_false,decide_eq_false (fun h=>hs h.sets)]
    case pos=>
     have:(B.all fun b=>Cf b g.length)=true:=List.all_eq_true.2 (fun b hb=>(Cs _ _).2 (hs b hb))
     rw[this,cond_true]
     dsimp only
     obtain⟨A,e1,hA⟩:=linkNets_ok n16 hlk (by omega)
     obtain⟨s,e2,hs1,hs2⟩:=Ev A (by rw[hA.net.len];omega)
     have hsel:Ao s=DP B.length:=by
      have hsn:∀v,has s v=true→v<B.length:=fun v hv=>by rw[hs2,hA.net.len] at hv;exact of_decide_eq_true hv
      rw[←els_all (n:=B.length) (by omega) hsn]
      unfold els DP
      congr 1
      rw[List.filter_eq_self]
      intro v hv
      rw[hs2,hA.net.len];exact decide_eq_true (List.mem_range.1 hv)
     rw[e1,Option.bind_some,masks_eq hg hs n16,Option.bind_some,e2,Option.bind_some,E3 n16 hA hlk hs1 (fun v hv=>by rw[hs2,hA.net.len] at hv;exact of_decide_eq_true hv),Option.bind_some,hsel]
     by_cases hc:CJ K (DP B.length)
     case neg=>
      rw[decide_eq_false (fun h=>hc h.2),Bool.not_false,cond_true,Option.bind_some,cond_true,decide_eq_false (fun h=>hc h.tree)]
     case pos=>
      rw[decide_eq_true (⟨allB_ne n1,hc⟩:_∧_),Bool.not_true,cond_false,Eo g hg,Option.bind_some,coversEdges_eq hg hs n16,Option.bind_some,Option.bind_some]
      by_cases hE:∀v,v<g.length→(∃j,∃hj:j<B.length,(v:Int)∈B[j])∧∀w,adj g v w→∃j,∃hj:j<B.length,(v:Int)∈B[j]∧(w:Int)∈B[j]
      case neg=>
       rw[decide_eq_false hE,Bool.not_false,cond_true,decide_eq_false]
       intro h
       refine hE (fun v hv=>⟨?_,fun w hw=> ?_⟩)
       ·obtain⟨x,hx⟩:=List.exists_mem_of_ne_nil _ (h.some v hv)
        obtain⟨b,_,hb,hvb⟩:=mem_withV.1 hx
        rw[Av hb] at hvb
        exact⟨b,hb,hvb⟩
       ·obtain⟨b,hb,h1,h2⟩:=h.edges v w hv hw
        obtain⟨j,hj,rfl⟩:=List.getElem_of_mem hb
        exact⟨j,hj,h1,h2⟩
      case pos=>
       rw[decide_eq_true hE,Bool.not_true,cond_false]
       refine(CA g.length (fun v=>decide (BX B (v:Int)≠[]∧CJ K (BX B (v:Int)))) false (fun v hv=> ?_) ?_ rfl rfl).trans ?_
       ·obtain⟨x,e3,hx1,hx2,hx3⟩:=with_ok hg hs n16 hv
        rw[dlt hv,cond_true,e3,Option.bind_some,E3 n16 hA hlk hx1 hx2,Option.bind_some,hx3,wi (show v<4611686018427387904 by omega)]
        cases decide (BX B (v:Int)≠[]∧CJ K (BX B (v:Int)))<;>rfl
       ·simp only[A9,cond_false]
       ·congr 1
        rw[Bool.eq_iff_iff,CR,decide_eq_true_eq]
        simp only[decide_eq_true_eq]
        constructor
        ·intro hv
         refine⟨n1,n16,hm,hlk,hs,hc,fun u v hu ha=> ?_,fun v h=>(hv v h).1,fun v h=>(hv v h).2⟩
         obtain⟨j,hj,h1,h2⟩:=(hE u hu).2 v ha
         exact⟨B[j],List.getElem_mem hj,h1,h2⟩
        ·intro h v hv
         exact⟨h.some v hv,h.conn v hv⟩
end
end Go.Sx

namespace Go.Sx
theorem elems_mk' {n:Nat}{x:List Int}(hn:n≤16)(hi:Inc x)(hr:∀z∈x,0≤z∧z<n):Ao (mk x)=x:=by
 refine Inc.ext (BH _) hi (fun z=> ?_)
 rw[mem_elems]
 constructor
 ·rintro⟨v,_,h2,rfl⟩
  rw[Dc (fun y hy=>by have:=hr y hy;omega)] at h2
  exact of_decide_eq_true h2
 ·intro hz
  have:=hr z hz
  refine⟨z.toNat,by omega,?_,by omega⟩
  rw[Dc (fun y hy=>by have:=hr y hy;omega)]
  exact decide_eq_true (by rw[show ((z.toNat:Nat):Int)=z by omega];exact hz)
theorem Eb {α β γ:Type}(f:α→Option β)(h:β→γ):∀xs:List α,xs.findSome? (fun i=>(f i).map h)=(xs.findSome? f).map h
 |[]=>rfl
 |x::xs=>by
  rw[List.findSome?_cons,List.findSome?_cons]
  cases f x with
  |none=>exact Eb f h xs
  |some y=>rfl
def prt (s t:Int):Bool:=(iandNot .u32 s t)==0
theorem Fe {s t:Int}(hs:VS s)(ht:VS t):D.y (Ao s) (Ao t)=some (prt s t):=by
 have h1:=Cc s;have h2:=Cc t
 rw[l9Part_eq _ _ (show Sh (Ao s) by unfold Sh;omega) (show Sh (Ao t) by unfold Sh;omega)]
 congr 1
 unfold prt
 rw[Bool.eq_iff_iff,List.all_eq_true,beq_iff_eq,(VS.iandNot _ _).eq_zero]
 constructor
 ·intro h v hv
  rw[A6 hs ht]
  cases hh:has s v
  ·rfl
  ·have:=h (v:Int) ((AU hs).2 hh)
   rw[decide_eq_true_eq,AU ht] at this
   rw[this];rfl
 ·intro h x hx
  obtain⟨v,hv,h3,rfl⟩:=mem_elems.1 hx
  have:=h v hv
  rw[A6 hs ht,h3,Bool.true_and,Bool.not_eq_false'] at this
  rw[decide_eq_true_eq,AU ht];exact this
def ren (gone kept x:Int):Int:=if gone<(if x=gone then kept else x) then(if x=gone then kept else x)-1 else(if x=gone then kept else x)
def lnk (gone kept:Int)(l:List Int):Option (List Int):=if ren gone kept (l.getD 0 0)=ren gone kept (l.getD 1 0) then none else some (BT (ren gone kept (l.getD 0 0)) (ren gone kept (l.getD 1 0)))
structure TS (M:List Int)(K:List (List Int)):Prop where
 n16:M.length≤16
 vs:∀s∈M,VS s
 lk:∀l∈K,LinkIn M.length l
 k16:K.length≤16
theorem Fj {n g k:Nat}(hg:g<n)(hk:k<n)(hgk:g≠k){a:Nat}(ha:a<n):0≤ren g k a∧ren g k a<((n-1:Nat):Int):=by
 unfold ren
 by_cases e:(a:Int)=g
 ·simp only[e,if_true];split<;>omega
 ·simp only[e,if_false];split<;>omega
theorem lnk_in {n g k:Nat}(hg:g<n)(hk:k<n)(hgk:g≠k){l r:List Int}(hl:LinkIn n l)(h:lnk g k l=some r):LinkIn (n-1) r:=by
 obtain⟨a,b,rfl,hab,hb⟩:=hl
 unfold lnk at h
 simp only[List.getD_cons_zero,List.getD_cons_succ] at h
 have h1:=Fj hg hk hgk (show a<n by omega)
 have h2:=Fj hg hk hgk hb
 split at h
 ·cases h
 ·rename_i hne
  cases h
  generalize ren g k a=x at*
  generalize ren g k b=y at*
  refine⟨(min x y).toNat,(max x y).toNat,?_,by omega,by omega⟩
  unfold BT
  rw[show (((min x y).toNat:Nat):Int)=min x y by omega,show (((max x y).toNat:Nat):Int)=max x y by omega]
def BW (g k:Nat)(K:List (List Int)):List (List Int):=K.filterMap (lnk g k)
theorem DU {n g k:Nat}{K:List (List Int)}(hK:∀l∈K,LinkIn n l)(hg:g<n)(hk:k<n)(hgk:g≠k):∀r∈BW g k K,LinkIn (n-1) r:=fun r hr=>by
 obtain⟨l,hl,e⟩:=List.mem_filterMap.1 hr
 exact lnk_in hg hk hgk (hK l hl) e
theorem merged_len (g k:Nat)(K:List (List Int)):(BW g k K).length≤K.length:=List.length_filterMap_le _ _
theorem Fa {xs:List (List Int)}(hl:xs.length≤1000000)(hg:∀x∈xs,Cb x):CF xs=some (xs.mergeSort BQ):=by
 unfold CF;rw[if_pos ⟨hl,hg⟩]
theorem Es {g k:Nat}(hg:g≤1000000)(hk:k≤1000000){x:Int}(h0:0≤x)(h1:x≤1000000):D.b0 x (g:Int) (k:Int)=some (ren g k x):=by
 unfold D.b0 ren
 rw[w64 (by omega) (by omega),w64 (by omega) (by omega)]
 by_cases e:x=(g:Int)
 ·have:(x==(g:Int))=true:=by simpa using e
  rw[this,cond_true]
  simp only[e,if_true]
  by_cases h:(g:Int)<(k:Int)
  ·rw[decide_eq_true h,cond_true,if_pos h]
  ·rw[decide_eq_false h,cond_false,if_neg h]
 ·have:(x==(g:Int))=false:=by simpa using e
  rw[this,cond_false]
  simp only[e,if_false]
  by_cases h:(g:Int)<x
  ·rw[decide_eq_true h,cond_true,if_pos h]
  ·rw[decide_eq_false h,cond_false,if_neg h]
theorem Dz {α β:Type}(f:α→Option β){l:List α}{i:Nat}(hi:i<l.length):(l.take (i+1)).filterMap f=(l.take i).filterMap f++(f l[i]).toList:=by
 rw[List.take_succ_eq_append_getElem hi,List.filterMap_append]
 cases hf:f l[i]<;>simp[hf]
section
variable {M : List Int} {K : List (List Int)} (h : TS M K) {g k : Nat} (hg : g < M.length) (hk : k < M.length) (hgk : g ≠ k)
include h hg hk hgk
theorem impl_merge :D.f M K (g:Int) (k:Int)=some (M.eraseIdx g,(BW g k K).mergeSort BQ):=by
 have h16:=h.n16;have hk16:=h.k16
 unfold D.f
 refine(B9 (fun i=>((K.take i).filterMap (lnk g k),(i:Int))) K.length (BW g k K) (by simp) (fun i hi=> ?_) ?_).trans ?_
 ·obtain⟨a,b,e,hab,hb⟩:=h.lk _ (List.getElem_mem hi)
  have i0:idx K[i] 0=some (a:Int):=by rw[e];rfl
  have i1:idx K[i] 1=some (b:Int):=by rw[e];rfl
  simp only[dlt hi,cond_true,Ay hi,Option.bind_some,i0,i1,Es (show g≤1000000 by omega) (show k≤1000000 by omega) (show (0:Int)≤(a:Int) by omega) (by omega),Es (show g≤1000000 by omega) (show k≤1000000 by omega) (show (0:Int)≤(b:Int) by omega) (by omega),wi (show i<4611686018427387904 by omega),Dz (lnk g k) hi]
  have el:lnk (g:Int) (k:Int) K[i]=if ren g k a=ren g k b then none else some (BT (ren g k a) (ren g k b)):=by rw[e];rfl
  rw[el]
  have hfl:((K.take i).filterMap (lnk g k)).length≤16:=by
   have:=List.length_filterMap_le (lnk (g:Int) (k:Int)) (K.take i)
   rw[List.length_take] at this;omega
  by_cases hc:ren g k a=ren g k b
  ·have:(ren g k a !=ren g k b)=false:=by simpa using hc
   rw[this,cond_false,if_pos hc];simp
  ·have:(ren g k a !=ren g k b)=true:=by simpa using hc
   rw[this,cond_true,if_neg hc,EV,Option.bind_some,A4 (by simp;omega),Option.bind_some];simp
 ·simp only[A9,cond_false,List.take_length];rfl
 ·have hml:=merged_len g k K
  rw[Fa (by omega) (fun x hx=>(DU h.lk hg hk hgk x hx).good (by omega)),Option.bind_some]
  unfold D.n1 D.q1 delD
  rw[A4 (by simp;omega)]
  simp only[Option.bind_some,List.nil_append]
  rw[wi (show g<4611686018427387904 by omega),if_pos ⟨by omega,by omega,by omega⟩,Option.bind_some]
  congr 2
  rw[Int.toNat_natCast,Int.toNat_natCast,List.eraseIdx_eq_take_drop_succ]
def Cy (acc xs:List (List Int)):List (List Int):=xs.foldl (fun acc l=>ins l acc) acc
omit h hg hk hgk in
theorem DO :∀(xs acc:List (List Int)),D3 acc→(Cy acc xs).Perm (xs++acc)∧D3 (Cy acc xs)
 |[],acc,h=>⟨List.Perm.refl _,h⟩
 |x::xs,acc,h=>by
  obtain⟨h1,h2⟩:=DO xs (ins x acc) (ins_sorted x h)
  refine⟨h1.trans ?_,h2⟩
  exact((ins_perm x acc).append_left xs).trans List.perm_middle
omit h hg hk hgk in
theorem Fw {xs:List (List Int)}(hx:∀x∈xs,Cb x):Cy [] xs=xs.mergeSort BQ:=by
 obtain⟨h1,h2⟩:=DO xs [] (by simp[D3])
 rw[List.append_nil] at h1
 exact E2 (h1.trans (BE xs).symm) (fun x hx'=>hx x ((BE xs).mem_iff.1 hx')) h2 (Dr xs)
omit h hg hk hgk in
theorem Fp (acc xs:List (List Int))(x:List Int):Cy acc (xs++[x])=ins x (Cy acc xs):=by
 unfold Cy;rw[List.foldl_append];rfl
theorem spec_merge :D.D1 (M.map Ao) K (g:Int) (k:Int)=some ((M.eraseIdx g).map Ao,(BW g k K).mergeSort BQ):=by
 have h16:=h.n16;have hk16:=h.k16
 unfold D.D1
 refine(B9 (fun i=>((i:Int),(if i≤g then M.take i else M.take g++(M.drop (g+1)).take (i-(g+1))).map Ao)) M.length ((M.eraseIdx g).map Ao) (by simp) (fun i hi=> ?_) ?_).trans ?_
 ·have hd:decide ((i:Int)<((M.map Ao).length:Int))=true:=by simp;omega
  have hcp:D.g (Ao M[i])=some (Ao M[i]):=Ek _ (by have:=Cc M[i];unfold Sh;omega)
  simp only[hd,cond_true,wi (show i<4611686018427387904 by omega)]
  by_cases e:i=g
  ·subst e
   have:(((i:Nat):Int) !=(i:Int))=false:=by simp
   rw[this,cond_false,if_pos (Nat.le_refl i),if_neg (by omega)];simp
  ·have:(((i:Nat):Int) !=(g:Int))=true:=by rw[bne_iff_ne];omega
   rw[this,cond_true,Ay (show i<(M.map Ao).length by simpa using hi),Option.bind_some,List.getElem_map,hcp,Option.bind_some]
   rcases Nat.lt_or_gt_of_ne e with c|c
   ·rw[if_pos (by omega),if_pos (by omega),A4 (by simp;omega),Option.bind_some,List.take_succ_eq_append_getElem hi,List.map_append];rfl
   ·rw[if_neg (by omega),if_neg (by omega),A4 (by simp;omega),Option.bind_some]
    have e2:(M.drop (g+1)).take (i+1-(g+1))=(M.drop (g+1)).take (i-(g+1))++[M[i]]:=by
     rw[show i+1-(g+1)=(i-(g+1))+1 by omega,List.take_succ_eq_append_getElem (by simp;omega)]
     congr 2
     rw[List.getElem_drop];congr 1;omega
    rw[e2];simp
 ·have hd:decide (((M.length:Nat):Int)<((M.map Ao).length:Int))=false:=by simp
  simp only[hd,cond_false]
  rw[if_neg (by omega),List.eraseIdx_eq_take_drop_succ,List.take_of_length_le (l:=M.drop (g+1)) (by simp)]
 ·refine(B9 (fun i=>((i:Int),Cy [] ((K.take i).filterMap (lnk g k)))) K.length (Cy [] (BW g k K)) (by simp[Cy]) (fun i hi=> ?_) ?_).trans ?_
  ·obtain⟨a,b,e,hab,hb⟩:=h.lk _ (List.getElem_mem hi)
   have i0:idx K[i] 0=some (a:Int):=by rw[e];rfl
   have i1:idx K[i] 1=some (b:Int):=by rw[e];rfl
   have ra:=Fj hg hk hgk (show a<M.length by omega)
   have rb:=Fj hg hk hgk hb
   have el:lnk (g:Int) (k:Int) K[i]=if ren g k a=ren g k b then none else some (BT (ren g k a) (ren g k b)):=by rw[e];rfl
   simp only[dlt hi,cond_true,Ay hi,Option.bind_some,i0,i1,wi (show i<4611686018427387904 by omega),Dz (lnk g k) hi,el]
   have hsub:∀x:Int,(cond (x==(g:Int)) (some (k:Int)) (some x))=some (if x=(g:Int) then(k:Int) else x):=fun x=>by
    by_cases hx:x=(g:Int)
    ·simp[hx]
    ·have:(x==(g:Int))=false:=by simpa using hx
     rw[this,cond_false,if_neg hx]
   have hfl:∀x:Int,D.C1 (decide ((g:Int)<x))=some (if(g:Int)<x then 1 else 0):=fun x=>by
    unfold D.C1
    by_cases hx:(g:Int)<x
    ·simp[hx]
    ·simp[hx]
   have hren:∀x:Int,ren g k x=(if x=(g:Int) then(k:Int) else x)-(if(g:Int)<(if x=(g:Int) then(k:Int) else x) then 1 else 0):=fun x=>by
    unfold ren
    by_cases hx:(g:Int)<(if x=(g:Int) then(k:Int) else x)
    ·rw[if_pos hx,if_pos hx]
    ·rw[if_neg hx,if_neg hx];omega
   have ne1:(if(a:Int)=(g:Int) then(k:Int) else a)≠(g:Int):=by split<;>omega
   have ne2:(if(b:Int)=(g:Int) then(k:Int) else b)≠(g:Int):=by split<;>omega
   have hA:=hren (a:Int);have hBb:=hren (b:Int)
   rw[hsub,Option.bind_some,hsub,Option.bind_some]
   generalize (if(a:Int)=(g:Int) then(k:Int) else a)=x at*
   generalize (if(b:Int)=(g:Int) then(k:Int) else b)=y at*
   have hiff:ren g k a=ren g k b↔x=y:=by
    rw[hA,hBb]
    constructor
    ·intro hh;split at hh<;>split at hh<;>omega
    ·rintro rfl;rfl
   by_cases hc:x=y
   ·have:(x !=y)=false:=by simpa using hc
    rw[this,cond_false,if_pos (hiff.2 hc)];simp
   ·have:(x !=y)=true:=by simpa using hc
    rw[this,cond_true,if_neg (fun hh=>hc (hiff.1 hh)),hfl,Option.bind_some,hfl,Option.bind_some,←hA,←hBb,w64 (by omega) (by omega),w64 (by omega) (by omega)]
    have hlen:(Cy [] ((K.take i).filterMap (lnk g k))).length≤16:=by
     obtain⟨hp,_⟩:=DO ((K.take i).filterMap (lnk g k)) [] (by simp[D3])
     rw[hp.length_eq,List.append_nil]
     have:=List.length_filterMap_le (lnk (g:Int) (k:Int)) (K.take i)
     rw[List.length_take] at this;omega
    have hin:LinkIn (M.length-1) (BT (ren g k a) (ren g k b)):=lnk_in hg hk hgk (h.lk _ (List.getElem_mem hi)) (by rw[el,if_neg (fun hh=>hc (hiff.1 hh))])
    rw[l9Link_eq (fun x hx=> ?_) (hin.good (by omega)) (by omega),Option.bind_some,Option.toList_some,Fp]
    obtain⟨hp,_⟩:=DO ((K.take i).filterMap (lnk g k)) [] (by simp[D3])
    rw[List.append_nil] at hp
    exact((DU (fun l hl=>h.lk l (List.mem_of_mem_take hl)) hg hk hgk x (hp.mem_iff.1 hx))).good (by omega)
  ·simp only[A9,cond_false,List.take_length];rfl
  ·rw[Fw (fun x hx=>(DU h.lk hg hk hgk x hx).good (by omega))]
theorem TS.merge :TS (M.eraseIdx g) ((BW g k K).mergeSort BQ):=by
 have h16:=h.n16
 have hl:(M.eraseIdx g).length=M.length-1:=by rw[List.length_eraseIdx,if_pos hg]
 refine⟨by omega,fun s hs=>h.vs s (List.mem_of_mem_eraseIdx hs),fun l hl'=> ?_,?_⟩
 ·rw[hl]
  exact DU h.lk hg hk hgk l ((BE _).mem_iff.1 hl')
 ·rw[(BE _).length_eq]
  exact Nat.le_trans (merged_len g k K) h.k16
end
def C9 (M:List Int)(l:List Int):Option (Nat×Nat):=
 if prt (M.getD (l.getD 1 0).toNat 0) (M.getD (l.getD 0 0).toNat 0) then some ((l.getD 1 0).toNat,(l.getD 0 0).toNat)
 else if prt (M.getD (l.getD 0 0).toNat 0) (M.getD (l.getD 1 0).toNat 0) then some ((l.getD 0 0).toNat,(l.getD 1 0).toNat) else none
def Cp (M:List Int)(K:List (List Int)):Option (Nat×Nat):=(List.range K.length).findSome? (fun i=>C9 M (K.getD i []))
section
variable {M : List Int} {K : List (List Int)} (h : TS M K)
include h
theorem spareM_in {l:List Int}(hl:l∈K){g k:Nat}(e:C9 M l=some (g,k)):g<M.length∧k<M.length∧g≠k:=by
 obtain⟨a,b,rfl,hab,hb⟩:=h.lk l hl
 unfold C9 at e
 simp only[List.getD_cons_zero,List.getD_cons_succ,Int.toNat_natCast] at e
 split at e
 ·cases e;omega
 ·split at e
  ·cases e;omega
  ·cases e
theorem spare_in {g k:Nat}(e:Cp M K=some (g,k)):g<M.length∧k<M.length∧g≠k:=by
 obtain⟨i,hi,e2⟩:=List.exists_of_findSome?_eq_some e
 have hi':=List.mem_range.1 hi
 rw[Av hi'] at e2
 exact spareM_in h (List.getElem_mem hi') e2
theorem EM :D.A1 (M.map Ao) K=some (match Cp M K with|some (g,k)=>((g:Int),(k:Int))|none=>(-1,-1)):=by
 have h16:=h.n16;have hk16:=h.k16
 unfold D.A1
 have key:=CM (ρ:=Unit ⊕ (Int×Int)) (step:=(fun(x_134:Int)=>cond (decide (x_134<(K.length:Int))) ((idx K x_134).bind fun e_200=>(idx e_200 0).bind fun e_206=>(idx K x_134).bind fun e_212=>(idx e_212 1).bind fun e_218=>(idx (M.map Ao) e_218).bind fun e_224=>(idx (M.map Ao) e_206).bind fun e_230=>(D.y e_224 e_230).bind fun y_236=>cond y_236 (some (.inr (.inr (e_218,e_206)))) ((idx (M.map Ao) e_206).bind fun e_242=>(idx (M.map Ao) e_218).bind fun e_248=>(D.y e_242 e_248).bind fun y_254=>cond y_254 (some (.inr (.inr (e_206,e_218)))) (some (.inl (IntKind.i64.wrap (x_134+1)))))) (some (.inr (.inl ()))))) K.length (fun i=>(C9 M (K.getD i [])).map fun p=> .inr ((p.1:Int),(p.2:Int))) (.inl ()) (fun i hi=>by
  obtain⟨a,b,e,hab,hb⟩:=h.lk _ (List.getElem_mem hi)
  have i0:idx K[i] 0=some (a:Int):=by rw[e];rfl
  have i1:idx K[i] 1=some (b:Int):=by rw[e];rfl
  have hm:∀x:Nat,x<M.length→idx (M.map Ao) (x:Int)=some (Ao (M.getD x 0))∧VS (M.getD x 0):=fun x hx=>by
   rw[Ay (by simpa using hx),List.getElem_map,Av hx]
   exact⟨rfl,h.vs _ (List.getElem_mem hx)⟩
  obtain⟨ma,va⟩:=hm a (by omega)
  obtain⟨mb,vb⟩:=hm b hb
  simp only[dlt hi,cond_true,Ay hi,Option.bind_some,i0,i1,ma,mb,Fe vb va,Fe va vb,wi (show i<4611686018427387904 by omega),Av hi]
  have es:C9 M K[i]=if prt (M.getD b 0) (M.getD a 0) then some (b,a) else if prt (M.getD a 0) (M.getD b 0) then some (a,b) else none:=by rw[e];rfl
  rw[es]
  cases prt (M.getD b 0) (M.getD a 0)
  ·cases prt (M.getD a 0) (M.getD b 0)<;>rfl
  ·rfl) (by simp only[A9,cond_false])
 rw[key,Option.bind_some,Eb]
 unfold Cp
 cases (List.range K.length).findSome? (fun i=>C9 M (K.getD i [])) with
 |none=>rfl
 |some p=>rfl
theorem EO :Ap (σ:=Int) (ρ:=((List Int)×(List (List Int))×Bool)) (fun(x_1473:Int)=>cond (decide (x_1473<(K.length:Int))) ((idx K x_1473).bind fun e_1582=>(idx e_1582 0).bind fun e_1588=>(idx e_1582 1).bind fun e_1594=>(idx M e_1594).bind fun e_1602=>(idx M e_1588).bind fun e_1608=>cond ((iandNot .u32 e_1602 e_1608)==0) ((D.f M K e_1594 e_1588).bind fun y_1623=>some (.inr (y_1623.1,y_1623.2,true))) ((idx M e_1588).bind fun e_1638=>(idx M e_1594).bind fun e_1644=>cond ((iandNot .u32 e_1638 e_1644)==0) ((D.f M K e_1588 e_1594).bind fun y_1659=>some (.inr (y_1659.1,y_1659.2,true))) (some (.inl (IntKind.i64.wrap (x_1473+1)))))) (some (.inr (M,K,false)))) 0=
  some (match Cp M K with|some (g,k)=>(M.eraseIdx g,(BW g k K).mergeSort BQ,true)|none=>(M,K,false)):=by
 have h16:=h.n16;have hk16:=h.k16
 have key:=CM (ρ:=((List Int)×(List (List Int))×Bool)) (step:=(fun(x_1473:Int)=>cond (decide (x_1473<(K.length:Int))) ((idx K x_1473).bind fun e_1582=>(idx e_1582 0).bind fun e_1588=>(idx e_1582 1).bind fun e_1594=>(idx M e_1594).bind fun e_1602=>(idx M e_1588).bind fun e_1608=>cond ((iandNot .u32 e_1602 e_1608)==0) ((D.f M K e_1594 e_1588).bind fun y_1623=>some (.inr (y_1623.1,y_1623.2,true))) ((idx M e_1588).bind fun e_1638=>(idx M e_1594).bind fun e_1644=>cond ((iandNot .u32 e_1638 e_1644)==0) ((D.f M K e_1588 e_1594).bind fun y_1659=>some (.inr (y_1659.1,y_1659.2,true))) (some (.inl (IntKind.i64.wrap (x_1473+1)))))) (some (.inr (M,K,false))))) K.length (fun i=>(C9 M (K.getD i [])).map fun p=>(M.eraseIdx p.1,(BW p.1 p.2 K).mergeSort BQ,true)) (M,K,false) (fun i hi=>by
  obtain⟨a,b,e,hab,hb⟩:=h.lk _ (List.getElem_mem hi)
  have i0:idx K[i] 0=some (a:Int):=by rw[e];rfl
  have i1:idx K[i] 1=some (b:Int):=by rw[e];rfl
  have hm:∀x:Nat,x<M.length→idx M (x:Int)=some (M.getD x 0):=fun x hx=>by
   rw[Ay hx,Av hx]
  have ma:=hm a (by omega)
  have mb:=hm b hb
  simp only[dlt hi,cond_true,Ay hi,Option.bind_some,i0,i1,ma,mb,impl_merge h hb (show a<M.length by omega) (by omega),impl_merge h (show a<M.length by omega) hb (by omega),wi (show i<4611686018427387904 by omega),Av hi]
  have es:C9 M K[i]=if prt (M.getD b 0) (M.getD a 0) then some (b,a) else if prt (M.getD a 0) (M.getD b 0) then some (a,b) else none:=by rw[e];rfl
  rw[es]
  have p1:((iandNot .u32 (M.getD b 0) (M.getD a 0))==0)=prt (M.getD b 0) (M.getD a 0):=rfl
  have p2:((iandNot .u32 (M.getD a 0) (M.getD b 0))==0)=prt (M.getD a 0) (M.getD b 0):=rfl
  rw[p1,p2]
  cases prt (M.getD b 0) (M.getD a 0)
  ·cases prt (M.getD a 0) (M.getD b 0)<;>rfl
  ·rfl) (by simp only[A9,cond_false])
 rw[key,Eb]
 unfold Cp
 cases (List.range K.length).findSome? (fun i=>C9 M (K.getD i [])) with
 |none=>rfl
 |some p=>rfl
end
theorem tidy_both :∀(m:Nat) (M:List Int) (K:List (List Int)),M.length≤m→TS M K→∃M' K',TS M' K'∧
  Ap (σ:=(List Int)×(List (List Int))×Bool) (ρ:=((List Int)×(List (List Int)))) (fun(s_853:(List Int)×(List (List Int))×Bool)=>match s_853 with|(l_856,l_861,b_866)=>cond b_866 ((Ap (σ:=Int) (ρ:=((List Int)×(List (List Int))×Bool)) (fun(x_1473:Int)=>cond (decide (x_1473<(l_861.length:Int))) ((idx l_861 x_1473).bind fun e_1582=>(idx e_1582 0).bind fun e_1588=>(idx e_1582 1).bind fun e_1594=>(idx l_856 e_1594).bind fun e_1602=>(idx l_856 e_1588).bind fun e_1608=>cond ((iandNot .u32 e_1602 e_1608)==0) ((D.f l_856 l_861 e_1594 e_1588).bind fun y_1623=>some (.inr (y_1623.1,y_1623.2,true))) ((idx l_856 e_1588).bind fun e_1638=>(idx l_856 e_1594).bind fun e_1644=>cond ((iandNot .u32 e_1638 e_1644)==0) ((D.f l_856 l_861 e_1588 e_1594).bind fun y_1659=>some (.inr (y_1659.1,y_1659.2,true))) (some (.inl (IntKind.i64.wrap (x_1473+1)))))) (some (.inr (l_856,l_861,false)))) 0).bind fun(l_1569,l_1574,b_1579)=>some (.inl (l_1569,l_1574,b_1579))) (some (.inr (l_856,l_861)))) (M,K,true)=some (M',K')∧
  Ap (σ:=(List (List Int))×(List (List Int))) (ρ:=(((List (List Int)))×((List (List Int)))×Bool)) (fun(s_125:(List (List Int))×(List (List Int)))=>match s_125 with|(l_128,l_133)=>(D.A1 l_128 l_133).bind fun y_139=>cond (decide (y_139.1<0)) (some (.inr (l_128,l_133,true))) ((D.D1 l_128 l_133 y_139.1 y_139.2).bind fun y_160=>some (.inl (y_160.1,y_160.2)))) (M.map Ao,K)=some (M'.map Ao,K',true)∧Cp M' K'=none∧
  ∀I:List Int→List (List Int)→Prop,I M K→(∀M K g k,TS M K→Cp M K=some (g,k)→I M K→I (M.eraseIdx g) ((BW g k K).mergeSort BQ))→I M' K':=by
 intro m
 induction m with
 |zero=>
  intro M K hm h
  have hK:K=[]:=by
   cases K with
   |nil=>rfl
   |cons l K=>
    obtain⟨a,b,_,h1,h2⟩:=h.lk l (by simp)
    omega
  subst hK
  refine⟨M,[],h,?_,?_,rfl,fun I hI _=>hI⟩
  ·rw[BC (s':=(M,[],false)) (by simp only[cond_true];rw[EO h];rfl),Bp (r:=(M,[])) (by rfl)]
  ·rw[Bp (r:=(M.map Ao,[],true)) (by simp only[EM h];rfl)]
 |succ m ih=>
  intro M K hm h
  cases hsp:Cp M K with
  |none=>
   refine⟨M,K,h,?_,?_,hsp,fun I hI _=>hI⟩
   ·rw[BC (s':=(M,K,false)) (by simp only[cond_true];rw[EO h,hsp];rfl),Bp (r:=(M,K)) (by rfl)]
   ·rw[Bp (r:=(M.map Ao,K,true)) (by simp only[EM h,hsp];rfl)]
  |some p=>
   obtain⟨g,k⟩:=p
   obtain⟨hg,hk,hgk⟩:=spare_in h hsp
   obtain⟨M',K',h1,h2,h3,h4,h5⟩:=ih (M.eraseIdx g) ((BW g k K).mergeSort BQ) (by rw[List.length_eraseIdx,if_pos hg];omega) (h.merge hg hk hgk)
   refine⟨M',K',h1,?_,?_,h4,fun I hI hs=>h5 I (hs M K g k h hsp hI) hs⟩
   ·rw[BC (s':=(M.eraseIdx g,(BW g k K).mergeSort BQ,true)) (by simp only[cond_true];rw[EO h,hsp];rfl)]
    exact h2
   ·have hn:decide ((g:Int)<0)=false:=by simp
    rw[BC (s':=((M.eraseIdx g).map Ao,(BW g k K).mergeSort BQ)) (by simp only[EM h,hsp,Option.bind_some,hn,cond_false,spec_merge h hg hk hgk])]
    exact h3
end Go.Sx

namespace Go.Sx
end Go.Sx



namespace Go.Sx
end Go.Sx

namespace Go.Sx
theorem into_elems' {s:Int}(hs:VS s){v:Nat}(hv:v<32):into (Ao s) (v:Int)=Ao (ior .u32 s (ishl .u32 1 (v:Int))):=by
 refine Inc.ext ((BH _).into _) (BH _) (fun z=> ?_)
 rw[mem_into,mem_elems,mem_elems]
 constructor
 ·rintro(rfl|⟨w,h3,h4,rfl⟩)
  ·exact⟨v,hv,by rw[Ca hs (VS.ishl _ _),BA hv];simp,rfl⟩
  ·exact⟨w,h3,by rw[Ca hs (VS.ishl _ _),h4];rfl,rfl⟩
 ·rintro⟨w,h3,h4,rfl⟩
  rw[Ca hs (VS.ishl _ _),BA hv,Bool.or_eq_true] at h4
  rcases h4 with h4|h4
  ·exact .inr ⟨w,h3,h4,rfl⟩
  ·exact .inl (by rw[of_decide_eq_true h4])
theorem Cz {o:List Int}(h:o.Nodup){i j:Nat}(hi:i<o.length)(hj:j<o.length)(e:o[i]=o[j]):i=j:=by
 rcases Nat.lt_trichotomy i j with c|c|c
 ·exact absurd (mem_take_iff.2 ⟨i,hi,c,e⟩) (nodup_iff.1 h j hj)
 ·exact c
 ·exact absurd (mem_take_iff.2 ⟨j,hj,c,e.symm⟩) (nodup_iff.1 h i hi)
def nxt (o l:List Int)(i:Nat):Nat:=(i+1)+(o.drop (i+1)).findIdx (fun x=>decide (l=[])||decide (x∈l))
theorem nxt_gt (o l:List Int)(i:Nat):i<nxt o l i:=by unfold nxt;omega
section
variable {g : List (List Int)} {o F L : List Int} (hg : GOk g) (ho : OOk g o) (hF : Fill g o F L)
include hg ho hF
theorem Fill.efF :F=(ef g o g.length).1∧L=(ef g o g.length).2.1:=by
 have h:=hF.elim
 rw[elim_ef hg ho] at h
 have:=Option.some.inj h
 exact⟨(congrArg (·.1) this).symm,(congrArg (·.2) this).symm⟩
theorem l7Later_eq :D.P0 g o=some (L.map Ao):=by
 have h16:=hg.n16;have hn1:=hg.n1;have hl:=ho.len
 have hLl:=hF.lenL
 unfold D.P0 D.d
 rw[l7Fill_ef hg ho,Option.bind_some,←(hF.efF hg ho).1,Option.bind_some,Di (by omega) (by omega),Option.bind_some,Option.bind_some,Di (by omega) (by omega),Option.bind_some]
 have hG:=GOk.grow hF.f hn1 h16
 have hGl:(grow F).length=g.length:=by rw[C2,hF.f.len]
 refine(B9 (fun i=>(BU g.length (ef g o i).2.2,(List.range g.length).map (fun v=>if((v:Nat):Int)∈o.take i then Ao (L.getD v 0) else []),(i:Int))) g.length (L.map Ao) ?_ (fun i hi=> ?_) ?_).trans rfl
 ·have:(ef g o 0).2.2=full g.length:=rfl
  rw[this,←Fo h16]
  congr 2
  apply List.ext_getElem
  ·simp
  ·intro j h1 h2;simp
 ·have h:=EE hg ho i (by omega)
  have h':=EE hg ho (i+1) (by omega)
  have hio:i<o.length:=by omega
  have hr:=ho.rng _ (List.getElem_mem hio)
  obtain⟨v,hv⟩:∃v:Nat,o[i]=(v:Int):=⟨o[i].toNat,by omega⟩
  have hvn:v<g.length:=by omega
  have hd:o.getD i 0=(v:Int):=by rw[Av hio,hv]
  have hs':(ef g o (i+1)).2.2=iandNot .u32 (ef g o i).2.2 (ishl .u32 1 (v:Int)):=by simp only[ef,hd]
  rw[hs'] at h' ⊢
  have hl7:=l7Left_eq (grow F) hG (show v<(grow F).length by omega) (BU g.length (iandNot .u32 (ef g o i).2.2 (ishl .u32 1 (v:Int)))) (by rw[D4];omega)
  simp only[dlt hio,cond_true,Ay hio,hv,Option.bind_some,goneOf_idx hvn,Int.toNat_natCast,goneOf_set h.vsl hvn (show g.length≤32 by omega),hl7,Ay (show v<((List.range g.length).map (fun v=>if((v:Nat):Int)∈o.take i then Ao (L.getD v 0) else [])).length by simpa using hvn),wi (show i<4611686018427387904 by omega)]
  rw[lft_grow hn1 h16 hF.f (VS.iandNot _ _) hvn]
  have hel:iand .u32 (F.getD v 0) (iandNot .u32 (ef g o i).2.2 (ishl .u32 1 (v:Int)))=L.getD v 0:=by
   refine(VS.iand _ _).ext (hF.vsL v hvn) (fun w _=> ?_)
   rw[B6 (hF.f.vs v hvn) (VS.iandNot _ _),h'.left]
   have hlat:=hF.lat i v hi (by rw[List.getElem?_eq_getElem hio,hv]) w
   unfold nb at hlat
   rw[hlat,Bool.eq_iff_iff]
   simp only[Bool.and_eq_true,decide_eq_true_eq]
   exact⟨fun⟨a,_,c⟩=>⟨a,c⟩,fun⟨a,c⟩=>⟨a,hF.f.lt v w hvn a,c⟩⟩
  rw[hel]
  congr 4
  apply List.ext_getElem
  ·simp
  ·intro j h1 h2
   rw[List.getElem_set]
   simp only[List.getElem_map,List.getElem_range]
   have htk:((j:Int)∈o.take (i+1))↔((j:Int)∈o.take i∨j=v):=by
    rw[List.take_succ_eq_append_getElem hio,List.mem_append,hv];simp[Int.natCast_inj]
   by_cases e:v=j
   ·subst e
    rw[if_pos rfl,if_pos (htk.2 (.inr rfl))]
   ·rw[if_neg e]
    by_cases hm:(j:Int)∈o.take i
    ·rw[if_pos hm,if_pos (htk.2 (.inl hm))]
    ·rw[if_neg hm,if_neg (fun hh=>(htk.1 hh).elim hm (fun e'=>e e'.symm))]
 ·simp only[hl,A9,cond_false]
  congr 2
  apply List.ext_getElem
  ·simp[hLl]
  ·intro j h1 h2
   simp only[List.getElem_map,List.getElem_range]
   obtain⟨q,hq,hq2⟩:=Db ho (v:=j) (by simpa using h1)
   rw[if_pos,Av (by simpa using h2)]
   rw[←hl,List.take_length]
   exact List.mem_of_getElem? hq2
theorem later_pos {i v m:Nat}(hi:o[i]? =some (v:Int))(hm:m<o.length)(h:o[m]∈Ao (L.getD v 0)):i+1≤m:=by
 have hl:=ho.len
 obtain⟨hio,hv⟩:=List.getElem?_eq_some_iff.1 hi
 have hr:=ho.rng _ (List.getElem_mem hio)
 obtain⟨w,_,h2,h3⟩:=mem_elems.1 h
 have hlat:=hF.lat i v (by omega) hi w
 unfold nb at hlat
 rw[hlat] at h2
 simp only[Bool.and_eq_true,decide_eq_true_eq] at h2
 apply Classical.byContradiction
 intro hc
 exact h2.2 (mem_take_iff.2 ⟨m,hm,by omega,h3⟩)
theorem later_in {v:Nat}(hv:v<g.length){x:Int}(h:x∈Ao (L.getD v 0)):∃m:Nat,∃hm:m<o.length,o[m]=x∧0≤x∧x<g.length:=by
 have hl:=ho.len
 obtain⟨i,h1,h2⟩:=Db ho hv
 obtain⟨w,_,h3,rfl⟩:=mem_elems.1 h
 have hlat:=hF.lat i v h1 h2 w
 unfold nb at hlat
 rw[hlat] at h3
 simp only[Bool.and_eq_true,decide_eq_true_eq] at h3
 have hw:=hF.f.lt v w hv h3.1
 obtain⟨m,h4,h5⟩:=Db ho hw
 obtain⟨h6,h7⟩:=List.getElem?_eq_some_iff.1 h5
 exact⟨m,h6,h7,by omega,by omega⟩
noncomputable def BF (o L:List Int)(i:Nat):List Int:=into (Ao (L.getD (o.getD i 0).toNat 0)) (o.getD i 0)
noncomputable def CO (o L:List Int)(i:Nat):List Int:=BT (i:Int) ((nxt o (Ao (L.getD (o.getD i 0).toNat 0)) i:Nat):Int)
omit hg ho hF in
theorem D6 (i:Nat):CO o L i=[(i:Int),((nxt o (Ao (L.getD (o.getD i 0).toNat 0)) i:Nat):Int)]:=by
 have:=nxt_gt o (Ao (L.getD (o.getD i 0).toNat 0)) i
 unfold CO BT
 rw[show min (i:Int) ((nxt o (Ao (L.getD (o.getD i 0).toNat 0)) i:Nat):Int)=i by omega,show max (i:Int) ((nxt o (Ao (L.getD (o.getD i 0).toNat 0)) i:Nat):Int)=((nxt o (Ao (L.getD (o.getD i 0).toNat 0)) i:Nat):Int) by omega]
omit hg ho hF in
theorem nxt_le (l:List Int){i:Nat}(hi:i<o.length):nxt o l i≤o.length:=by
 have hk:=List.findIdx_le_length (p:=fun x=>decide (l=[])||decide (x∈l)) (xs:=o.drop (i+1))
 simp at hk
 unfold nxt;omega
theorem nxt_lt {i:Nat}(hi:i+1<o.length):nxt o (Ao (L.getD (o.getD i 0).toNat 0)) i<o.length:=by
 have hio:i<o.length:=by omega
 have hl:=ho.len
 have hr:=ho.rng _ (List.getElem_mem hio)
 obtain⟨v,hv⟩:∃v:Nat,o[i]=(v:Int):=⟨o[i].toNat,by omega⟩
 have hvn:v<g.length:=by omega
 have hd:o.getD i 0=(v:Int):=by rw[Av hio,hv]
 rw[hd,Int.toNat_natCast]
 have hin:=fun x hx=>later_in hg ho hF hvn (x:=x) hx
 have hps:=fun m hm hh=>later_pos hg ho hF (i:=i) (v:=v) (m:=m) (by rw[List.getElem?_eq_getElem hio,hv]) hm hh
 generalize Ao (L.getD v 0)=l at hin hps ⊢
 have:(o.drop (i+1)).findIdx (fun x=>decide (l=[])||decide (x∈l))<(o.drop (i+1)).length:=by
  rw[List.findIdx_lt_length]
  by_cases hn:l=[]
  ·exact⟨(o.drop (i+1))[0]'(by simp;omega),List.getElem_mem _,by simp[hn]⟩
  ·obtain⟨x,hx⟩:=List.exists_mem_of_ne_nil _ hn
   obtain⟨m,hm,hmx,_⟩:=hin x hx
   have hp:=hps m hm (by rw[hmx];exact hx)
   refine⟨x,?_,by simp[hx]⟩
   have:(o.drop (i+1))[m-(i+1)]'(by simp;omega)=x:=by
    rw[List.getElem_drop,←hmx];congr 1;omega
   rw[←this];exact List.getElem_mem _
 unfold nxt
 simp at this
 omega
theorem lnkD_good {i:Nat}(hi:i<o.length):Cb (CO o L i):=by
 have h1:=nxt_le (o:=o) (Ao (L.getD (o.getD i 0).toNat 0)) hi
 have h16:=hg.n16;have hl:=ho.len
 rw[D6]
 refine⟨rfl,?_⟩
 simp only[List.getD_cons_zero,List.getD_cons_succ]
 omega
theorem lnkD_le {i j:Nat}(hij:i<j)(hj:j<o.length):Bc (CO o L i)≤Bc (CO o L j):=by
 have h1:=nxt_le (o:=o) (Ao (L.getD (o.getD i 0).toNat 0)) (show i<o.length by omega)
 have h16:=hg.n16;have hl:=ho.len
 rw[D6,D6]
 unfold Bc
 simp only[List.getD_cons_zero,List.getD_cons_succ]
 omega
theorem EZ {i v:Nat}(hi:i<o.length)(hv:o[i]=(v:Int))(hvn:v<g.length):Ao (ior .u32 (L.getD v 0) (ishl .u32 1 (v:Int)))=BF o L i:=by
 have h16:=hg.n16
 unfold BF
 rw[Av hi,hv,Int.toNat_natCast,into_elems' (hF.vsL v hvn) (by omega)]
theorem places_ok (l0:List Int)(hl0:l0.length=g.length):∃P,(Ap (σ:=(List Int)×Int) (ρ:=((List Int))) (fun(s_59:(List Int)×Int)=>match s_59 with|(l_62,x_65)=>cond (decide (x_65<(o.length:Int))) ((idx o x_65).bind fun e_86=>(idx l_62 e_86).bind fun e_92=>some (.inl ((l_62.set (Int.toNat e_86) x_65),(IntKind.i64.wrap (x_65+1))))) (some (.inr l_62))) (l0,0))=some P∧P.length=g.length∧∀i (h:i<o.length),P.getD (o[i]).toNat 0=(i:Int):=by
 have h16:=hg.n16;have hl:=ho.len
 have key:=AM (step:=(fun(s_59:(List Int)×Int)=>match s_59 with|(l_62,x_65)=>cond (decide (x_65<(o.length:Int))) ((idx o x_65).bind fun e_86=>(idx l_62 e_86).bind fun e_92=>some (.inl ((l_62.set (Int.toNat e_86) x_65),(IntKind.i64.wrap (x_65+1))))) (some (.inr l_62)))) (s:=(l0,0)) (k:=fun r=>some r) (Q:=fun P:List Int=>P.length=g.length∧∀i (h:i<o.length),P.getD (o[i]).toNat 0=(i:Int))
  (fun s=>∃i:Nat,s.2=(i:Int)∧i≤o.length∧s.1.length=g.length∧∀j (h:j<o.length),j<i→s.1.getD (o[j]).toNat 0=(j:Int)) (fun s=>o.length-s.2.toNat) (fun P=>P.length=g.length∧∀i (h:i<o.length),P.getD (o[i]).toNat 0=(i:Int)) ?_ ⟨0,rfl,by omega,hl0,fun j _ h=>by omega⟩ (fun r hr=>⟨r,rfl,hr⟩)
 ·obtain⟨y,hy,hq⟩:=key
  rw[Option.bind_eq_some_iff] at hy
  obtain⟨z,h1,h2⟩:=hy
  cases h2
  exact⟨_,h1,hq⟩
 ·rintro⟨P,_⟩ ⟨i,rfl,hi,hP,hPp⟩
  dsimp only at hP hPp ⊢
  by_cases hil:i<o.length
  ·have hr:=ho.rng _ (List.getElem_mem hil)
   obtain⟨v,hv⟩:∃v:Nat,o[i]=(v:Int):=⟨o[i].toNat,by omega⟩
   have hvn:v<g.length:=by omega
   simp only[dlt hil,cond_true,Ay hil,hv,Option.bind_some,Ay (show v<P.length by omega),Int.toNat_natCast,wi (show i<4611686018427387904 by omega)]
   refine⟨_,rfl,⟨i+1,rfl,hil,by simpa using hP,fun j hj hji=> ?_⟩,by dsimp only;omega⟩
   dsimp only
   rw[CG _ _ _ _ (by omega)]
   have hrj:=ho.rng _ (List.getElem_mem hj)
   by_cases e:j=i
   ·subst e;rw[hv];simp
   ·rw[if_neg]
    ·exact hPp j hj (by omega)
    ·intro hc
     have:o[j]=o[i]:=by omega
     exact e (Cz ho.nd hj hil this)
  ·obtain rfl:i=o.length:=by omega
   simp only[A9,cond_false]
   exact⟨_,rfl,hP,fun j hj=>hPp j hj hj⟩
theorem least_ok {P l:List Int}{i:Nat}(hi:i<o.length)(hP:P.length=g.length)(hPp:∀i (h:i<o.length),P.getD (o[i]).toNat 0=(i:Int))(hl32:l.length≤32)
  (hin:∀x∈l,∃m:Nat,∃hm:m<o.length,o[m]=x∧0≤x∧x<g.length) (hpos:∀m (hm:m<o.length),o[m]∈l→i+1≤m):
  (Ap (σ:=Int×Int) (ρ:=(Int)) (fun(s_1068:Int×Int)=>match s_1068 with|(x_1071,x_1072)=>cond (decide (x_1072<(l.length:Int))) ((idx l x_1072).bind fun e_1115=>(cond (x_1072==0) (some true) ((idx P e_1115).bind fun e_1138=>some (decide (e_1138<x_1071)))).bind fun b_1136=>cond b_1136 ((idx P e_1115).bind fun e_1145=>some (.inl (e_1145,(IntKind.i64.wrap (x_1072+1))))) (some (.inl (x_1071,(IntKind.i64.wrap (x_1072+1)))))) (some (.inr x_1071))) (((i+1:Nat):Int),0))=some ((nxt o l i:Nat):Int):=by
 have key:=AM (step:=(fun(s_1068:Int×Int)=>match s_1068 with|(x_1071,x_1072)=>cond (decide (x_1072<(l.length:Int))) ((idx l x_1072).bind fun e_1115=>(cond (x_1072==0) (some true) ((idx P e_1115).bind fun e_1138=>some (decide (e_1138<x_1071)))).bind fun b_1136=>cond b_1136 ((idx P e_1115).bind fun e_1145=>some (.inl (e_1145,(IntKind.i64.wrap (x_1072+1))))) (some (.inl (x_1071,(IntKind.i64.wrap (x_1072+1)))))) (some (.inr x_1071)))) (s:=(((i+1:Nat):Int),0)) (k:=fun r=>some r) (Q:=fun x=>x=((nxt o l i:Nat):Int))
  (fun s=>∃k:Nat,s.2=(k:Int)∧k≤l.length∧(k=0→s.1=((i+1:Nat):Int))∧(0<k→∃m:Nat,s.1=(m:Int)∧(∃hm:m<o.length,o[m]∈l.take k)∧∀m' (hm':m'<o.length),o[m']∈l.take k→m≤m')) (fun s=>l.length-s.2.toNat) (fun x=>x=((nxt o l i:Nat):Int)) ?_ ⟨0,rfl,by omega,fun _=>rfl,fun h=>by omega⟩ (fun r hr=>⟨r,rfl,hr⟩)
 ·obtain⟨y,hy,hq⟩:=key
  rw[Option.bind_eq_some_iff] at hy
  obtain⟨z,h1,h2⟩:=hy
  cases h2
  rw[h1,hq]
 ·rintro⟨x,_⟩ ⟨k,rfl,hk,h0,h1⟩
  dsimp only at h0 h1 ⊢
  by_cases hkl:k<l.length
  ·obtain⟨m,hm,hmx,hx0,hxg⟩:=hin _ (List.getElem_mem hkl)
   have hidx:idx P l[k]=some (m:Int):=by
    rw[idx_int hx0 (by omega)]
    have:=hPp m hm
    rw[hmx,Av (by omega)] at this
    rw[this]
   have hnew:∀m' (hm':m'<o.length),o[m']∈l.take (k+1)→o[m']∈l.take k∨m'=m:=fun m' hm' hh=>by
    rw[List.take_succ_eq_append_getElem hkl,List.mem_append] at hh
    rcases hh with hh|hh
    ·exact .inl hh
    ·right
     simp at hh
     rw[←hmx] at hh
     exact Cz ho.nd hm' hm hh
   have hmm:o[m]∈l.take (k+1):=by
    rw[List.take_succ_eq_append_getElem hkl,List.mem_append,hmx];right;simp
   simp only[dlt hkl,cond_true,Ay hkl,Option.bind_some,hidx,wi (show k<4611686018427387904 by omega)]
   rcases Nat.eq_zero_or_pos k with e|e
   ·subst e
    refine⟨.inl ((m:Int),((0+1:Nat):Int)),rfl,⟨1,rfl,by omega,fun h=>by omega,fun _=>⟨m,rfl,⟨hm,hmm⟩,fun m' hm' hh=> ?_⟩⟩,by dsimp only;omega⟩
    rcases hnew m' hm' hh with h|h
    ·simp at h
    ·omega
   ·have ek:(((k:Nat):Int)==0)=false:=by simp;omega
    obtain⟨q,rfl,⟨hq,hql⟩,hqm⟩:=h1 e
    rw[ek,cond_false,Option.bind_some]
    by_cases hlt:(m:Int)<(q:Int)
    ·rw[decide_eq_true hlt,cond_true]
     refine⟨_,rfl,⟨k+1,rfl,hkl,fun h=>by omega,fun _=>⟨m,rfl,⟨hm,hmm⟩,fun m' hm' hh=> ?_⟩⟩,by dsimp only;omega⟩
     rcases hnew m' hm' hh with h|h
     ·have:=hqm m' hm' h;omega
     ·omega
    ·rw[decide_eq_false hlt,cond_false]
     refine⟨_,rfl,⟨k+1,rfl,hkl,fun h=>by omega,fun _=>⟨q,rfl,⟨hq,?_⟩,fun m' hm' hh=> ?_⟩⟩,by dsimp only;omega⟩
     ·rw[List.take_succ_eq_append_getElem hkl,List.mem_append];exact .inl hql
     ·rcases hnew m' hm' hh with h|h
      ·exact hqm m' hm' h
      ·omega
  ·obtain rfl:k=l.length:=by omega
   simp only[A9,cond_false]
   refine⟨_,rfl,?_⟩
   show x=_
   by_cases hn:l=[]
   ·subst hn
    rw[h0 rfl]
    unfold nxt
    cases hd:o.drop (i+1) with
    |nil=>simp
    |cons a t=>simp[List.findIdx_cons]
   ·obtain⟨m,rfl,⟨hm,hml⟩,hmin⟩:=h1 (List.length_pos_iff.2 hn)
    rw[List.take_length] at hml
    simp only[List.take_length] at hmin
    have hmp:=hpos m hm hml
    have:(o.drop (i+1)).findIdx (fun x=>decide (l=[])||decide (x∈l))=m-(i+1):=by
     rw[List.findIdx_eq (by simp;omega)]
     refine⟨?_,fun j hj=> ?_⟩
     ·have:(o.drop (i+1))[m-(i+1)]'(by simp;omega)=o[m]:=by
       rw[List.getElem_drop];congr 1;omega
      rw[this];simp[hml]
     ·rw[List.getElem_drop]
      simp only[hn,decide_false,Bool.false_or,decide_eq_false_iff_not]
      intro hh
      have:=hmin (i+1+j) (by omega) hh
      omega
    unfold nxt
    rw[this]
    omega
theorem Fz :D.Y0 (g.map mk) o=some ((List.range o.length).map (BF o L),(List.range (o.length-1)).map (CO o L)):=by
 have h16:=hg.n16;have hl:=ho.len;have hn1:=hg.n1
 unfold D.Y0
 rw[hF.elim,Option.bind_some,Di (by omega) (by omega),Option.bind_some]
 obtain⟨P,e1,hP,hPp⟩:=places_ok hg ho hF (List.replicate o.length 0) (by simpa using hl)
 rw[e1,Option.bind_some]
 have hsort:CF ((List.range (o.length-1)).map (CO o L))=some ((List.range (o.length-1)).map (CO o L)):=by
  refine sortRows_ok (by simp;omega) (fun x hx=> ?_) (List.Perm.refl _) ?_
  ·obtain⟨j,hj,rfl⟩:=List.mem_map.1 hx
   have:=List.mem_range.1 hj
   exact lnkD_good hg ho hF (by omega)
  ·rw[List.pairwise_map]
   refine List.pairwise_lt_range.imp_of_mem (fun{a b} ha hb hab=> ?_)
   have:=List.mem_range.1 hb
   exact lnkD_le hg ho hF hab (by omega)
 refine(B9 (fun i=>((i:Int),(List.range i).map (BF o L),(List.range i).map (CO o L))) (o.length-1) ((List.range o.length).map (BF o L),(List.range (o.length-1)).map (CO o L)) (by simp) (fun i hi=> ?_) ?_).trans ?_
 ·have hio:i<o.length:=by omega
  have hr:=ho.rng _ (List.getElem_mem hio)
  obtain⟨v,hv⟩:∃v:Nat,o[i]=(v:Int):=⟨o[i].toNat,by omega⟩
  have hvn:v<g.length:=by omega
  have hvL:v<L.length:=by rw[hF.lenL];exact hvn
  have hd:o.getD i 0=(v:Int):=by rw[Av hio,hv]
  have hgL:L.getD v 0=L[v]:=Av hvL 0
  have hlast:(((i:Nat):Int)==IntKind.i64.wrap ((o.length:Int)-1))=false:=by
   rw[w64 (by omega) (by omega)];simp;omega
  have hvs:=hF.vsL v hvn
  have hbag:=EZ hg ho hF hio hv hvn
  rw[hgL] at hvs hbag
  have he:=Cc L[v]
  simp only[dlt hio,cond_true,Ay hio,hv,Option.bind_some,Ay hvL,BG,DW _ (VS.ior _ _),hbag,hlast,cond_false,Dq _ hvs]
  rw[A4 (by simp;omega),Option.bind_some,wi (show i<4611686018427387904 by omega)]
  rw[least_ok hg ho hF hio hP hPp (by omega) (fun x hx=>later_in hg ho hF hvn (by rw[hgL];exact hx)) (fun m hm hh=>later_pos hg ho hF (i:=i) (v:=v) (by rw[List.getElem?_eq_getElem hio,hv]) hm (by rw[hgL];exact hh)),Option.bind_some,EV,Option.bind_some,A4 (by simp;omega),Option.bind_some]
  have el:BT (i:Int) ((nxt o (Ao L[v]) i:Nat):Int)=CO o L i:=by unfold CO;rw[hd,Int.toNat_natCast,hgL]
  rw[el,List.range_succ,List.map_append,List.map_append,List.map_singleton,List.map_singleton]
 ·have hio:o.length-1<o.length:=by omega
  have hr:=ho.rng _ (List.getElem_mem hio)
  obtain⟨v,hv⟩:∃v:Nat,o[o.length-1]=(v:Int):=⟨o[o.length-1].toNat,by omega⟩
  have hvn:v<g.length:=by omega
  have hvL:v<L.length:=by rw[hF.lenL];exact hvn
  have hgL:L.getD v 0=L[v]:=Av hvL 0
  have hlast:(((o.length-1:Nat):Int)==IntKind.i64.wrap ((o.length:Int)-1))=true:=by
   rw[w64 (by omega) (by omega)];simp;omega
  have hbag:=EZ hg ho hF hio hv hvn
  rw[hgL] at hbag
  simp only[dlt hio,cond_true,Ay hio,hv,Option.bind_some,Ay hvL,BG,DW _ (VS.ior _ _),hbag,hlast]
  rw[A4 (by simp;omega),Option.bind_some]
  have:(List.range o.length).map (BF o L)=(List.range (o.length-1)).map (BF o L)++[BF o L (o.length-1)]:=by
   have e:o.length=(o.length-1)+1:=by omega
   conv=>lhs;rw[e,List.range_succ,List.map_append,List.map_singleton]
  rw[this]
 ·simp only[hsort,Option.bind_some]
theorem FE :D.F0 g o=some ((List.range o.length).map (BF o L),(List.range (o.length-1)).map (CO o L),true):=by
 unfold D.F0
 rw[DR hg ho,Option.bind_some,Bool.not_true,cond_false,Eo g hg,Option.bind_some,narrow_eq o (ho.sh hg),Option.bind_some,Fz hg ho hF,Option.bind_some]
end
end Go.Sx

namespace Go.Sx
theorem conn_up {links:List (List Int)}{sel:List Int}{n:Nat}(hr:∀x∈sel,∃i:Nat,x=i∧i<n)(p:Int)(hp:p∈sel)(hup:∀x∈sel,x≠p→∃y∈sel,x<y∧Lk links x y):CJ links sel:=by
 intro m hm
 have hs:∀x y,x∈sel→y∈sel→Lk links x y→(x∈m↔y∈m):=fun x y hx hy h=>
  ⟨fun hxm=>hm.step x hxm y hy h,fun hym=>hm.step y hym x hx (Or.elim h (fun h=>Or.inr h) (fun h=>Or.inl h))⟩
 have key:∀(k:Nat) (x:Int),x∈sel→n-x.toNat≤k→(x∈m↔p∈m):=by
  intro k
  induction k with
  |zero=>intro x hx hk;obtain⟨i,rfl,hi⟩:=hr x hx;omega
  |succ k ih=>
   intro x hx hk
   by_cases hxp:x=p
   ·rw[hxp]
   ·obtain⟨y,hy,hxy,hl⟩:=hup x hx hxp
    rw[hs x y hx hy hl]
    obtain⟨i,rfl,hi⟩:=hr x hx
    obtain⟨j,rfl,hj⟩:=hr y hy
    exact ih _ hy (by omega)
 have hpm:p∈m:=by
  cases hsel:sel with
  |nil=>rw[hsel] at hp;simp at hp
  |cons x0 t=>
   have h0:x0∈m:=hm.first x0 (by rw[hsel];rfl)
   exact(key n x0 (by rw[hsel];simp) (by omega)).1 h0
 exact fun x hx=>(key n x hx (by omega)).2 hpm
section
variable {g : List (List Int)} {o F L : List Int} (hg : GOk g) (ho : OOk g o) (hF : Fill g o F L)
include hg ho hF
theorem CY {i v:Nat}(hi:i<o.length)(hv:o[i]=(v:Int)){w:Nat}:(w:Int)∈BF o L i↔w=v∨(nb F v w=true∧(w:Int)∉o.take (i+1)):=by
 have hl:=ho.len
 have hr:=ho.rng _ (List.getElem_mem hi)
 unfold BF
 rw[Av hi,hv,Int.toNat_natCast,mem_into,AU (hF.vsL v (by omega))]
 have:=hF.lat i v (by omega) (by rw[List.getElem?_eq_getElem hi,hv]) w
 unfold nb at this ⊢
 rw[this,Bool.and_eq_true,decide_eq_true_eq]
 constructor
 ·rintro(h|h)
  ·exact .inl (by omega)
  ·exact .inr h
 ·rintro(h|h)
  ·exact .inl (by rw[h])
  ·exact .inr h
theorem bagD_pos {i w:Nat}(hi:i<o.length)(h:(w:Int)∈BF o L i):∃m,∃hm:m<o.length,o[m]=(w:Int)∧i≤m:=by
 have hl:=ho.len
 have hr:=ho.rng _ (List.getElem_mem hi)
 obtain⟨v,hv⟩:∃v:Nat,o[i]=(v:Int):=⟨o[i].toNat,by omega⟩
 rcases(CY hg ho hF hi hv).1 h with rfl|⟨h1,h2⟩
 ·exact⟨i,hi,hv,Nat.le_refl _⟩
 ·have hwn:=hF.f.lt v w (by omega) h1
  obtain⟨m,hm,e⟩:=Db ho hwn
  obtain⟨hm',e'⟩:=List.getElem?_eq_some_iff.1 e
  refine⟨m,hm',e',?_⟩
  apply Classical.byContradiction
  intro hc
  exact h2 (mem_take_iff.2 ⟨m,hm',by omega,e'⟩)
theorem nxt_first {i:Nat}(hi:i<o.length){w m:Nat}(hm:m<o.length)(e:o[m]=(w:Int))(him:i<m)(h:(w:Int)∈BF o L i):nxt o (Ao (L.getD (o.getD i 0).toNat 0)) i≤m∧∃hx:nxt o (Ao (L.getD (o.getD i 0).toNat 0)) i<o.length,o[nxt o (Ao (L.getD (o.getD i 0).toNat 0)) i]∈BF o L i:=by
 have hb:(w:Int)∈Ao (L.getD (o.getD i 0).toNat 0):=by
  unfold BF at h
  rcases mem_into.1 h with h|h
  ·have hr:=Av hi 0
   rw[hr] at h
   have:=Cz ho.nd hm hi (by rw[e,h])
   omega
  ·exact h
 generalize hls:Ao (L.getD (o.getD i 0).toNat 0)=l at hb
 have hdl:(o.drop (i+1))[m-(i+1)]'(by simp;omega)=(w:Int):=by
  rw[List.getElem_drop,←e];congr 1;omega
 have h1:(o.drop (i+1)).findIdx (fun x=>decide (l=[])||decide (x∈l))≤m-(i+1):=by
  apply Classical.byContradiction
  intro hc
  have:=List.not_of_lt_findIdx (p:=fun x=>decide (l=[])||decide (x∈l)) (xs:=o.drop (i+1)) (i:=m-(i+1)) (by omega)
  rw[hdl] at this
  simp[hb] at this
 have h2:(o.drop (i+1)).findIdx (fun x=>decide (l=[])||decide (x∈l))<(o.drop (i+1)).length:=by simp;omega
 have h3:=List.findIdx_getElem (w:=h2)
 have hne:l≠[]:=fun e=>by rw[e] at hb;simp at hb
 rw[Bool.or_eq_true,decide_eq_true_eq,decide_eq_true_eq] at h3
 have h3:=h3.resolve_left hne
 rw[List.getElem_drop] at h3
 unfold nxt
 refine⟨by omega,by omega,?_⟩
 unfold BF
 rw[hls]
 exact mem_into.2 (.inr h3)
theorem bagD_next {i w m:Nat}(hi:i<o.length)(hm:m<o.length)(e:o[m]=(w:Int))(him:i<m)(h:(w:Int)∈BF o L i):∃j,j<o.length∧i<j∧i+1<o.length∧CO o L i=[(i:Int),(j:Int)]∧(w:Int)∈BF o L j:=by
 have hl:=ho.len
 obtain⟨h1,h2,h3⟩:=nxt_first hg ho hF hi hm e him h
 have hgt:=nxt_gt o (Ao (L.getD (o.getD i 0).toNat 0)) i
 refine⟨nxt o (Ao (L.getD (o.getD i 0).toNat 0)) i,h2,hgt,by omega,D6 i,?_⟩
 generalize nxt o (Ao (L.getD (o.getD i 0).toNat 0)) i=j at*
 have hri:=ho.rng _ (List.getElem_mem hi);have hrj:=ho.rng _ (List.getElem_mem h2)
 obtain⟨v,hv⟩:∃v:Nat,o[i]=(v:Int):=⟨o[i].toNat,by omega⟩
 obtain⟨u,hu⟩:∃u:Nat,o[j]=(u:Int):=⟨o[j].toNat,by omega⟩
 rw[hu] at h3
 by_cases hjm:j=m
 ·subst hjm
  rw[CY hg ho hF h2 hu]
  left;omega
 ·have hnp:∀{a b:Nat} {x:Nat} (hb:b<o.length),o[b]=(x:Int)→a≤b→(x:Int)∉o.take a:=by
   intro a b x hb ex hab hc
   obtain⟨c,hc1,hc2,hc3⟩:=mem_take_iff.1 hc
   have:=Cz ho.nd hc1 hb (by rw[hc3,ex])
   omega
  have hwv:w≠v:=fun e2=>by
   have:=Cz ho.nd hm hi (by rw[e,hv,e2]);omega
  have huv:u≠v:=fun e2=>by
   have:=Cz ho.nd h2 hi (by rw[hu,hv,e2]);omega
  have huw:u≠w:=fun e2=>hjm (Cz ho.nd h2 hm (by rw[hu,e,e2]))
  have hw1:nb F v w=true:=by
   rcases(CY hg ho hF hi hv).1 h with h|h
   ·exact absurd h hwv
   ·exact h.1
  have hu1:nb F v u=true:=by
   rcases(CY hg ho hF hi hv).1 h3 with h|h
   ·exact absurd h huv
   ·exact h.1
  have hp:=hF.peo i v u w (by rw[List.getElem?_eq_getElem hi,hv]) hu1 hw1 (hnp h2 hu (by omega)) (hnp hm e (by omega)) huw
  exact(CY hg ho hF h2 hu).2 (.inr ⟨hp,hnp hm e (by omega)⟩)
theorem DecompBy_TB :TB g ((List.range o.length).map (BF o L)) ((List.range (o.length-1)).map (CO o L)):=by
 have hl:=ho.len;have hn1:=hg.n1;have hn16:=hg.n16
 have hbl:((List.range o.length).map (BF o L)).length=o.length:=by simp
 have hbg:∀i,i<o.length→((List.range o.length).map (BF o L)).getD i []=BF o L i:=fun i hi=>by rw[Av (by simpa using hi)];simp
 have hlk:∀i,i+1<o.length→CO o L i∈(List.range (o.length-1)).map (CO o L):=fun i hi=>List.mem_map.2 ⟨i,List.mem_range.2 (by omega),rfl⟩
 have hwith:∀(v:Nat) (x:Int),x∈BX ((List.range o.length).map (BF o L)) (v:Int)↔∃b:Nat,x=b∧b<o.length∧(v:Int)∈BF o L b:=fun v x=>by
  rw[mem_withV,hbl]
  constructor
  ·rintro⟨b,h1,h2,h3⟩;rw[hbg b h2] at h3;exact⟨b,h1,h2,h3⟩
  ·rintro⟨b,h1,h2,h3⟩;exact⟨b,h1,h2,by rw[hbg b h2];exact h3⟩
 have hself:∀(p v:Nat) (hp:p<o.length),o[p]=(v:Int)→(v:Int)∈BF o L p:=fun p v hp e=>(CY hg ho hF hp e).2 (.inl rfl)
 refine⟨by omega,by omega,by simp;omega,fun l h=> ?_,fun b h=> ?_,?_,fun u v hu ha=> ?_,fun v hv=> ?_,fun v hv=> ?_⟩
 ·obtain⟨i,hi,rfl⟩:=List.mem_map.1 h
  have hi:=List.mem_range.1 hi
  have:=nxt_lt hg ho hF (show i+1<o.length by omega)
  have:=nxt_gt o (Ao (L.getD (o.getD i 0).toNat 0)) i
  exact⟨i,_,D6 i,by omega,by omega⟩
 ·obtain⟨i,hi,rfl⟩:=List.mem_map.1 h
  have hi:=List.mem_range.1 hi
  have hr:=ho.rng _ (List.getElem_mem hi)
  refine⟨(BH _).into _,fun x hx=> ?_⟩
  have hx0:0≤x:=by
   unfold BF at hx
   rcases mem_into.1 hx with hx|hx
   ·rw[hx,Av hi];omega
   ·obtain⟨w,_,_,rfl⟩:=mem_elems.1 hx;omega
  obtain⟨m,hm,e,_⟩:=bagD_pos hg ho hF hi (w:=x.toNat) (by rw[show ((x.toNat:Nat):Int)=x by omega];exact hx)
  have:=ho.rng _ (List.getElem_mem hm)
  omega
 ·rw[hbl]
  refine conn_up (n:=o.length) (fun x hx=> ?_) ((o.length-1:Nat):Int) (List.mem_map.2 ⟨o.length-1,List.mem_range.2 (by omega),rfl⟩) (fun x hx hne=> ?_)
  ·obtain⟨i,hi,rfl⟩:=List.mem_map.1 hx
   exact⟨i,rfl,List.mem_range.1 hi⟩
  ·obtain⟨i,hi,rfl⟩:=List.mem_map.1 hx
   have hi:=List.mem_range.1 hi
   have hi2:i+1<o.length:=by
    apply Classical.byContradiction
    intro hc
    exact hne (by show (i:Int)=_;congr 1;omega)
   have h1:=nxt_lt hg ho hF hi2
   have h2:=nxt_gt o (Ao (L.getD (o.getD i 0).toNat 0)) i
   refine⟨_,List.mem_map.2 ⟨_,List.mem_range.2 h1,rfl⟩,?_,.inl ?_⟩
   ·show (i:Int)<((_:Nat):Int)
    omega
   ·have:=hlk i hi2
    rw[D6] at this
    exact this
 ·have hv:=hg.lt hu ha
  obtain⟨p,hp,ep⟩:=Db ho hu
  obtain⟨q,hq,eq⟩:=Db ho hv
  obtain⟨hp',ep'⟩:=List.getElem?_eq_some_iff.1 ep
  obtain⟨hq',eq'⟩:=List.getElem?_eq_some_iff.1 eq
  have hne:u≠v:=fun e=>hg.irr u hu (by rw[e] at ha ⊢;exact ha)
  have hmn:=hF.mono u v hu ha
  have hmn2:=hF.f.sym u v hu hmn
  have hbm:∀i,i<o.length→BF o L i∈(List.range o.length).map (BF o L):=fun i hi=>List.mem_map.2 ⟨i,List.mem_range.2 hi,rfl⟩
  have hnp:∀{a b:Nat} {x:Nat} (hb:b<o.length),o[b]=(x:Int)→a≤b→(x:Int)∉o.take a:=by
   intro a b x hb ex hab hc
   obtain⟨c,hc1,hc2,hc3⟩:=mem_take_iff.1 hc
   have:=Cz ho.nd hc1 hb (by rw[hc3,ex])
   omega
  rcases Nat.lt_trichotomy p q with c|c|c
  ·exact⟨_,hbm p hp',hself p u hp' ep',(CY hg ho hF hp' ep').2 (.inr ⟨hmn,hnp hq' eq' (by omega)⟩)⟩
  ·subst c;rw[ep'] at eq';omega
  ·exact⟨_,hbm q hq',(CY hg ho hF hq' eq').2 (.inr ⟨hmn2,hnp hp' ep' (by omega)⟩),hself q v hq' eq'⟩
 ·obtain⟨p,hp,ep⟩:=Db ho hv
  obtain⟨hp',ep'⟩:=List.getElem?_eq_some_iff.1 ep
  intro hc
  have:=(hwith v p).2 ⟨p,rfl,hp',hself p v hp' ep'⟩
  rw[hc] at this
  simp at this
 ·obtain⟨p,hp,ep⟩:=Db ho hv
  obtain⟨hp',ep'⟩:=List.getElem?_eq_some_iff.1 ep
  refine conn_up (n:=o.length) (fun x hx=> ?_) (p:Int) ((hwith v p).2 ⟨p,rfl,hp',hself p v hp' ep'⟩) (fun x hx hne=> ?_)
  ·obtain⟨b,rfl,hb,_⟩:=(hwith v x).1 hx
   exact⟨b,rfl,hb⟩
  ·obtain⟨b,rfl,hb,hvb⟩:=(hwith v x).1 hx
   obtain⟨m,hm,em,hbm⟩:=bagD_pos hg ho hF hb hvb
   have hmp:m=p:=Cz ho.nd hm hp' (by rw[em,ep'])
   subst hmp
   have hbp:b≠m:=fun e=>hne (by rw[e])
   obtain⟨j,hj,hbj,hb1,hlj,hvj⟩:=bagD_next hg ho hF hb hm em (by omega) hvb
   refine⟨(j:Int),(hwith v j).2 ⟨j,rfl,hj,hvj⟩,by omega,.inl ?_⟩
   have:=hlk b hb1
   rw[hlj] at this
   exact this
end
end Go.Sx

namespace Go.Sx
theorem Lk.symm {links:List (List Int)}{x y:Int}(h:Lk links x y):Lk links y x:=Or.elim h (fun h=>Or.inr h) (fun h=>Or.inl h)
theorem conn_iff {links:List (List Int)}{sel:List Int}:CJ links sel↔∀T:Int→Prop,(∃x∈sel,T x)→(∀x y,x∈sel→y∈sel→T x→Lk links x y→T y)→∀x∈sel,T x:=by
 constructor
 ·intro h T ⟨x0,hx0,hT⟩ hs
  classical
  have hall:∀U:Int→Prop,(∀x,sel.head? =some x→U x)→(∀x y,x∈sel→y∈sel→U x→Lk links x y→U y)→∀x∈sel,U x:=fun U h1 h2 x hx=>by
   have:=h (sel.filter fun z=>decide (U z)) ⟨fun z hz=>(List.mem_filter.1 hz).1,fun z hz=>List.mem_filter.2 ⟨List.mem_of_mem_head? hz,decide_eq_true (h1 z hz)⟩,fun a ha b hb hl=>by
    have ha:=List.mem_filter.1 ha
    exact List.mem_filter.2 ⟨hb,decide_eq_true (h2 a b ha.1 hb (of_decide_eq_true ha.2) hl)⟩⟩ x hx
   exact of_decide_eq_true (List.mem_filter.1 this).2
  cases hsel:sel with
  |nil=>intro x hx;simp at hx
  |cons z t=>
   rw[←hsel]
   have hz:T z:=by
    apply Classical.byContradiction
    intro hc
    have:=hall (fun x=>¬T x) (fun x hx=>by rw[hsel] at hx;simp at hx;rw[←hx];exact hc) (fun a b ha hb hna hl hTb=>hna (hs b a hb ha hTb hl.symm)) x0 hx0
    exact this hT
   exact hall T (fun x hx=>by rw[hsel] at hx;simp at hx;rw[←hx];exact hz) hs
 ·intro h m hm x hx
  cases hsel:sel with
  |nil=>rw[hsel] at hx;simp at hx
  |cons z t=>
   exact h (fun z=>z∈m) ⟨z,by rw[hsel];simp,hm.first z (by rw[hsel];rfl)⟩ (fun a b _ hb ha hl=>hm.step a ha b hb hl) x hx
theorem conn_map {K K':List (List Int)}{sel sel':List Int}(φ:Int→Int)(h:CJ K sel)(h1:∀x∈sel,φ x∈sel')(h2:∀y∈sel',∃x∈sel,φ x=y)(h3:∀x y,x∈sel→y∈sel→Lk K x y→φ x=φ y∨Lk K' (φ x) (φ y)):CJ K' sel':=by
 rw[conn_iff] at h ⊢
 intro T ⟨y0,hy0,hT⟩ hs y hy
 obtain⟨x0,hx0,rfl⟩:=h2 y0 hy0
 obtain⟨x,hx,rfl⟩:=h2 y hy
 refine h (fun z=>T (φ z)) ⟨x0,hx0,hT⟩ (fun a b ha hb hTa hl=> ?_) x hx
 rcases h3 a b ha hb hl with e|e
 ·rw[←e];exact hTa
 ·exact hs _ _ (h1 a ha) (h1 b hb) hTa e
theorem countP_lt {α:Type}{p q:α→Bool}:∀{l:List α},(∀x∈l,p x=true→q x=true)→(∃x∈l,q x=true∧p x=false)→l.countP p+1≤l.countP q
 |[],_,h=>by obtain⟨x,hx,_⟩:=h;simp at hx
 |a::l,h1,h2=>by
  have hm:l.countP p≤l.countP q:=List.countP_mono_left fun x hx=>h1 x (List.mem_cons_of_mem _ hx)
  obtain⟨x,hx,hq,hp⟩:=h2
  rw[List.countP_cons,List.countP_cons]
  rcases List.mem_cons.1 hx with rfl|hx
  ·rw[hq,hp];simp;omega
  ·have:=countP_lt (fun x hx=>h1 x (List.mem_cons_of_mem _ hx)) ⟨x,hx,hq,hp⟩
   have h3:=h1 a (List.mem_cons_self ..)
   cases hpa:p a
   ·cases q a<;>simp<;>omega
   ·rw[h3 hpa];simp;omega
theorem conn_many {links:List (List Int)}{sel:List Int}(hn:sel.Nodup)(h:CJ links sel):sel.length≤links.length+1:=by
 rw[conn_iff] at h
 have key:∀k,k+1≤sel.length→∃T:List Int,T.Nodup∧(∀x∈T,x∈sel)∧T.length=k+1∧k≤links.countP (fun l=>decide (l.getD 0 0∈T)&&decide (l.getD 1 0∈T)):=by
  intro k
  induction k with
  |zero=>
   intro hk
   have hs:0<sel.length:=by omega
   exact⟨[sel[0]],by simp,fun x hx=>by simp at hx;rw[hx];exact List.getElem_mem hs,rfl,by omega⟩
  |succ k ih=>
   intro hk
   obtain⟨T,hT1,hT2,hT3,hT4⟩:=ih (by omega)
   have hex:∃x y,x∈T∧y∈sel∧y∉T∧Lk links x y:=by
    apply Classical.byContradiction
    intro hc
    have hall:=h (fun z=>z∈T) ⟨T[0]'(by omega),hT2 _ (List.getElem_mem _),List.getElem_mem _⟩ (fun x y _ hy hx hl=>by
     apply Classical.byContradiction
     intro hy2
     exact hc ⟨x,y,hx,hy,hy2,hl⟩)
    have:=Ce hn hall
    omega
   obtain⟨x,y,hx,hy,hyT,hl⟩:=hex
   refine⟨y::T,List.nodup_cons.2 ⟨hyT,hT1⟩,fun z hz=> ?_,by simp[hT3],?_⟩
   ·rcases List.mem_cons.1 hz with rfl|hz
    ·exact hy
    ·exact hT2 z hz
   ·refine Nat.le_trans (Nat.succ_le_succ hT4) (countP_lt (fun l _ hl=> ?_) ?_)
    ·simp only[Bool.and_eq_true,decide_eq_true_eq] at hl ⊢
     exact⟨List.mem_cons_of_mem _ hl.1,List.mem_cons_of_mem _ hl.2⟩
    ·rcases hl with hl|hl
     ·exact⟨[x,y],hl,by simp[hx],by simp[hyT]⟩
     ·exact⟨[y,x],hl,by simp[hx],by simp[hyT]⟩
 cases hs:sel.length with
 |zero=>omega
 |succ k=>
  obtain⟨T,_,_,_,h4⟩:=key k (by omega)
  have:=List.countP_le_length (p:=fun l:List Int=>decide (l.getD 0 0∈T)&&decide (l.getD 1 0∈T)) (l:=links)
  omega
theorem conn_perm {K K':List (List Int)}{sel:List Int}(h:CJ K sel)(hp:∀x y,Lk K x y→Lk K' x y):CJ K' sel:=
 conn_map id h (fun x hx=>hx) (fun y hy=>⟨y,hy,rfl⟩) (fun x y _ _ hl=> .inr (hp x y hl))
theorem TB.perm {g B K K':List (List Int)}(h:TB g B K)(p:K'.Perm K):TB g B K':=by
 have hl:∀x y,Lk K x y→Lk K' x y:=fun x y hl=>Or.elim hl (fun h=>Or.inl (p.mem_iff.2 h)) (fun h=>Or.inr (p.mem_iff.2 h))
 exact⟨h.n1,h.n16,by rw[p.length_eq];exact h.many,fun l hl'=>h.lks l (p.mem_iff.1 hl'),h.sets,conn_perm h.tree hl,h.edges,h.some,fun v hv=>conn_perm (h.conn v hv) hl⟩
def phi (g k:Nat)(x:Nat):Nat:=if g<(if x=g then k else x) then(if x=g then k else x)-1 else(if x=g then k else x)
theorem Ff (g k x:Nat):ren (g:Int) (k:Int) (x:Int)=((phi g k x:Nat):Int):=by
 unfold ren phi
 by_cases h:x=g
 ·simp only[h,if_true]
  by_cases h2:g<k
  ·rw[if_pos (by omega),if_pos h2];omega
  ·rw[if_neg (by omega),if_neg h2]
 ·rw[if_neg (show¬(x:Int)=g by omega),if_neg h]
  by_cases h2:g<x
  ·rw[if_pos (by omega),if_pos h2];omega
  ·rw[if_neg (by omega),if_neg h2]
theorem phi_lt {n g k x:Nat}(hg:g<n)(hk:k<n)(hgk:g≠k)(hx:x<n):phi g k x<n-1:=by
 unfold phi
 by_cases h:x=g
 ·simp only[h,if_true]
  by_cases h2:g<k
  ·rw[if_pos h2];omega
  ·rw[if_neg h2];omega
 ·simp only[h,if_false]
  by_cases h2:g<x
  ·rw[if_pos h2];omega
  ·rw[if_neg h2];omega
theorem phi_gk {g k:Nat}(hgk:g≠k):phi g k g=phi g k k:=by
 unfold phi;simp[hgk.symm]
theorem phi_ex {n g k y:Nat}(hg:g<n)(hy:y<n-1):∃x,x<n∧x≠g∧phi g k x=y:=by
 by_cases h:y<g
 ·exact⟨y,by omega,by omega,by unfold phi;rw[if_neg (show¬y=g by omega),if_neg (by omega)]⟩
 ·exact⟨y+1,by omega,by omega,by unfold phi;rw[if_neg (show¬y+1=g by omega),if_pos (by omega)];omega⟩
theorem Fh {M:List Int}{g k x:Nat}(hg:g<M.length)(hx:x<M.length)(hxg:x≠g):(M.eraseIdx g).getD (phi g k x) 0=M.getD x 0:=by
 unfold phi
 rw[if_neg hxg,List.getD_eq_getElem?_getD,List.getD_eq_getElem?_getD,List.getElem?_eraseIdx]
 by_cases h:g<x
 ·rw[if_pos h,if_neg (by omega)];congr 2;omega
 ·rw[if_neg h,if_pos (by omega)]
theorem prt_has {s t:Int}(hs:VS s)(ht:VS t)(h:prt s t=true){v:Nat}(hv:has s v=true):has t v=true:=by
 unfold prt at h
 rw[beq_iff_eq] at h
 have:=congrArg (fun z=>has z v) h
 rw[A6 hs ht,B4,hv] at this
 simpa using this
section
variable {G : List (List Int)} {M : List Int} {K : List (List Int)} (h : TS M K) (hT : TB G (M.map Ao) K) {g k : Nat} (hg : g < M.length) (hk : k < M.length) (hgk : g ≠ k)
include h hT hg hk hgk
theorem lnk_of {a b:Nat}(ha:a<M.length)(hb:b<M.length)(hl:Lk K (a:Int) (b:Int)):phi g k a=phi g k b∨Lk ((BW g k K).mergeSort BQ) ((phi g k a:Nat):Int) ((phi g k b:Nat):Int):=by
 by_cases he:phi g k a=phi g k b
 ·exact .inl he
 ·right
  have hm:∀l,lnk (g:Int) (k:Int) l=some (BT ((phi g k a:Nat):Int) ((phi g k b:Nat):Int))→l∈K→Lk ((BW g k K).mergeSort BQ) ((phi g k a:Nat):Int) ((phi g k b:Nat):Int):=fun l e hl=>by
   have hin:BT ((phi g k a:Nat):Int) ((phi g k b:Nat):Int)∈(BW g k K).mergeSort BQ:=(BE _).mem_iff.2 (List.mem_filterMap.2 ⟨l,hl,e⟩)
   unfold BT at hin
   rcases Nat.lt_or_ge (phi g k a) (phi g k b) with c|c
   ·rw[Int.min_eq_left (by omega),Int.max_eq_right (by omega)] at hin;exact .inl hin
   ·rw[Int.min_eq_right (by omega),Int.max_eq_left (by omega)] at hin;exact .inr hin
  rcases hl with hl|hl
  ·refine hm _ ?_ hl
   unfold lnk
   simp only[List.getD_cons_zero,List.getD_cons_succ,Ff]
   rw[if_neg (by omega)]
  ·refine hm _ ?_ hl
   unfold lnk
   simp only[List.getD_cons_zero,List.getD_cons_succ,Ff]
   rw[if_neg (by omega)]
   unfold BT
   rw[Int.min_comm,Int.max_comm]
theorem merge_TB (hsub:∀v,has (M.getD g 0) v=true→has (M.getD k 0) v=true)(hl:Lk K (g:Int) (k:Int)):TB G ((M.eraseIdx g).map Ao) ((BW g k K).mergeSort BQ):=by
 have hml:(M.eraseIdx g).length=M.length-1:=by rw[List.length_eraseIdx,if_pos hg]
 have hTS:=h.merge hg hk hgk
 have hM:M.length=K.length+1:=by have:=hT.many;simpa using this.symm
 have hmem:∀i (hi:i<M.length) (v:Nat),(v:Int)∈(M.map Ao).getD i []↔has (M.getD i 0) v=true:=fun i hi v=>by
  rw[Av (by simpa using hi),List.getElem_map,Av hi,AU (h.vs _ (List.getElem_mem hi))]
 have hmem':∀i (hi:i<M.length-1) (v:Nat),(v:Int)∈((M.eraseIdx g).map Ao).getD i []↔has ((M.eraseIdx g).getD i 0) v=true:=fun i hi v=>by
  rw[Av (by simp;omega),List.getElem_map,Av (by omega),AU (hTS.vs _ (List.getElem_mem _))]
 have hphi:∀x v,x<M.length→has (M.getD x 0) v=true→has ((M.eraseIdx g).getD (phi g k x) 0) v=true:=fun x v hx hv=>by
  by_cases hxg:x=g
  ·subst hxg
   rw[phi_gk hgk,Fh hg hk hgk.symm];exact hsub v hv
  ·rw[Fh hg hx hxg];exact hv
 have hwith:∀(v:Nat) (x:Int),x∈BX (M.map Ao) (v:Int)↔∃b:Nat,x=b∧b<M.length∧has (M.getD b 0) v=true:=fun v x=>by
  rw[mem_withV,List.length_map]
  constructor
  ·rintro⟨b,h1,h2,h3⟩;exact⟨b,h1,h2,(hmem b h2 v).1 h3⟩
  ·rintro⟨b,h1,h2,h3⟩;exact⟨b,h1,h2,(hmem b h2 v).2 h3⟩
 have hwith':∀(v:Nat) (x:Int),x∈BX ((M.eraseIdx g).map Ao) (v:Int)↔∃b:Nat,x=b∧b<M.length-1∧has ((M.eraseIdx g).getD b 0) v=true:=fun v x=>by
  rw[mem_withV,List.length_map,hml]
  constructor
  ·rintro⟨b,h1,h2,h3⟩;exact⟨b,h1,h2,(hmem' b h2 v).1 h3⟩
  ·rintro⟨b,h1,h2,h3⟩;exact⟨b,h1,h2,(hmem' b h2 v).2 h3⟩
 have htree:CJ ((BW g k K).mergeSort BQ) ((List.range ((M.eraseIdx g).map Ao).length).map Int.ofNat):=by
  have ht:=hT.tree
  rw[List.length_map] at ht ⊢
  rw[hml]
  refine conn_map (fun x=>((phi g k x.toNat:Nat):Int)) ht (fun x hx=> ?_) (fun y hy=> ?_) (fun x y hx hy hxy=> ?_)
  ·obtain⟨i,hi,rfl⟩:=List.mem_map.1 hx
   exact List.mem_map.2 ⟨_,List.mem_range.2 (phi_lt hg hk hgk (List.mem_range.1 hi)),rfl⟩
  ·obtain⟨j,hj,rfl⟩:=List.mem_map.1 hy
   obtain⟨x,hx,_,e⟩:=phi_ex (k:=k) hg (List.mem_range.1 hj)
   exact⟨(x:Int),List.mem_map.2 ⟨x,List.mem_range.2 hx,rfl⟩,by rw[Int.toNat_natCast,e];rfl⟩
  ·obtain⟨i,hi,rfl⟩:=List.mem_map.1 hx
   obtain⟨j,hj,rfl⟩:=List.mem_map.1 hy
   rcases lnk_of h hT hg hk hgk (List.mem_range.1 hi) (List.mem_range.1 hj) hxy with e|e
   ·left;show ((phi g k i:Nat):Int)=((phi g k j:Nat):Int);rw[e]
   ·right;exact e
 refine⟨by rw[List.length_map,hml];omega,by rw[List.length_map];exact hTS.n16,?_,by rw[List.length_map];exact hTS.lk,fun b hb=> ?_,htree,fun u v hu ha=> ?_,fun v hv=> ?_,fun v hv=> ?_⟩
 ·rw[List.length_map,hml]
  have hnd:((List.range ((M.eraseIdx g).map Ao).length).map Int.ofNat).Nodup:=by
   unfold List.Nodup
   rw[List.pairwise_map]
   exact List.Pairwise.imp (fun{a b} h e=>by have:(a:Int)=(b:Int):=e;omega) List.pairwise_lt_range
  have h1:=conn_many hnd htree
  rw[List.length_map,List.length_range,List.length_map,hml] at h1
  have h2:(BW g k K).length+1≤K.length:=by
   have hle:∀L:List (List Int),(∃l∈L,lnk (g:Int) (k:Int) l=none)→(L.filterMap (lnk (g:Int) (k:Int))).length+1≤L.length:=by
    intro L
    induction L with
    |nil=>rintro⟨l,hl,_⟩;simp at hl
    |cons a L ih=>
     rintro⟨l,hl,e⟩
     rcases List.mem_cons.1 hl with rfl|hl
     ·rw[List.filterMap_cons_none e]
      have:=List.length_filterMap_le (lnk (g:Int) (k:Int)) L
      simp only[List.length_cons];omega
     ·have:=ih ⟨l,hl,e⟩
      cases ha:lnk (g:Int) (k:Int) a with
      |none=>rw[List.filterMap_cons_none ha];simp only[List.length_cons];omega
      |some r=>rw[List.filterMap_cons_some ha];simp only[List.length_cons];omega
   refine hle K ?_
   rcases hl with hl|hl
   ·exact⟨_,hl,by unfold lnk;simp only[List.getD_cons_zero,List.getD_cons_succ,Ff];rw[if_pos (by rw[phi_gk hgk])]⟩
   ·exact⟨_,hl,by unfold lnk;simp only[List.getD_cons_zero,List.getD_cons_succ,Ff];rw[if_pos (by rw[phi_gk hgk])]⟩
  have h3:=(BE (BW g k K)).length_eq
  rw[h3] at h1 ⊢
  omega
 ·obtain⟨s,hs,rfl⟩:=List.mem_map.1 hb
  exact hT.sets _ (List.mem_map.2 ⟨s,List.mem_of_mem_eraseIdx hs,rfl⟩)
 ·obtain⟨b,hb,hub,hvb⟩:=hT.edges u v hu ha
  obtain⟨i,hi,rfl⟩:=List.getElem_of_mem hb
  have hi':i<M.length:=by simpa using hi
  rw[←Av hi [],hmem i hi'] at hub hvb
  have hp:=phi_lt hg hk hgk hi'
  refine⟨((M.eraseIdx g).map Ao).getD (phi g k i) [],?_,(hmem' _ hp u).2 (hphi i u hi' hub),(hmem' _ hp v).2 (hphi i v hi' hvb)⟩
  rw[Av (by simp;omega)]
  exact List.getElem_mem _
 ·obtain⟨x,hx⟩:=List.exists_mem_of_ne_nil _ (hT.some v hv)
  obtain⟨b,rfl,hb,hvb⟩:=(hwith v x).1 hx
  intro hc
  have:=(hwith' v _).2 ⟨_,rfl,phi_lt hg hk hgk hb,hphi b v hb hvb⟩
  rw[hc] at this
  simp at this
 ·refine conn_map (fun x=>((phi g k x.toNat:Nat):Int)) (hT.conn v hv) (fun x hx=> ?_) (fun y hy=> ?_) (fun x y hx hy hxy=> ?_)
  ·obtain⟨b,rfl,hb,hvb⟩:=(hwith v x).1 hx
   exact(hwith' v _).2 ⟨_,rfl,phi_lt hg hk hgk hb,hphi b v hb hvb⟩
  ·obtain⟨b,rfl,hb,hvb⟩:=(hwith' v y).1 hy
   obtain⟨x,hx,hxg,e⟩:=phi_ex (k:=k) hg hb
   refine⟨(x:Int),(hwith v _).2 ⟨x,rfl,hx,?_⟩,by rw[Int.toNat_natCast,e]⟩
   rw[←e,Fh hg hx hxg] at hvb
   exact hvb
  ·obtain⟨a,rfl,ha,_⟩:=(hwith v x).1 hx
   obtain⟨b,rfl,hb,_⟩:=(hwith v y).1 hy
   rcases lnk_of h hT hg hk hgk ha hb hxy with e|e
   ·left;rw[Int.toNat_natCast,Int.toNat_natCast,e]
   ·right;exact e
end
structure Kept (G:List (List Int))(M0:List Int)(M:List Int)(K:List (List Int)):Prop where
 tb:TB G (M.map Ao) K
 len:M.length≤M0.length
 old:∀s∈M,s∈M0
 sup:∀s∈M0,∃t∈M,∀v,has s v=true→has t v=true
theorem spare_link {M:List Int}{K:List (List Int)}(h:TS M K){g k:Nat}(e:Cp M K=some (g,k)):Lk K (g:Int) (k:Int)∧prt (M.getD g 0) (M.getD k 0)=true:=by
 obtain⟨i,hi,e2⟩:=List.exists_of_findSome?_eq_some e
 have hi':=List.mem_range.1 hi
 rw[Av hi'] at e2
 obtain⟨a,b,el,hab,hb⟩:=h.lk _ (List.getElem_mem hi')
 have hm:=List.getElem_mem hi'
 rw[el] at e2 hm
 unfold C9 at e2
 simp only[List.getD_cons_zero,List.getD_cons_succ,Int.toNat_natCast] at e2
 split at e2
 ·rename_i h1;cases e2;exact⟨.inr hm,h1⟩
 ·split at e2
  ·rename_i h1;cases e2;exact⟨.inl hm,h1⟩
  ·cases e2
theorem Kept.step {G:List (List Int)}{M0 M:List Int}{K:List (List Int)}(hM:Kept G M0 M K)(h:TS M K){g k:Nat}(e:Cp M K=some (g,k)):Kept G M0 (M.eraseIdx g) ((BW g k K).mergeSort BQ):=by
 obtain⟨hg,hk,hgk⟩:=spare_in h e
 obtain⟨hl,hp⟩:=spare_link h e
 have hvs:∀i,i<M.length→VS (M.getD i 0):=fun i hi=>by rw[Av hi];exact h.vs _ (List.getElem_mem hi)
 have hsub:∀v,has (M.getD g 0) v=true→has (M.getD k 0) v=true:=fun v hv=>prt_has (hvs g hg) (hvs k hk) hp hv
 refine⟨merge_TB h hM.tb hg hk hgk hsub hl,?_,fun s hs=>hM.old s (List.mem_of_mem_eraseIdx hs),fun s hs=> ?_⟩
 ·have:=hM.len
  rw[List.length_eraseIdx,if_pos hg];omega
 ·obtain⟨t,ht,hst⟩:=hM.sup s hs
  obtain⟨i,hi,rfl⟩:=List.getElem_of_mem ht
  have hml:(M.eraseIdx g).length=M.length-1:=by rw[List.length_eraseIdx,if_pos hg]
  have hin:∀x,x<M.length→x≠g→M.getD x 0∈M.eraseIdx g:=fun x hx hxg=>by
   rw[←Fh (k:=k) hg hx hxg,Av (by rw[hml];exact phi_lt hg hk hgk hx)]
   exact List.getElem_mem _
  by_cases hig:i=g
  ·subst hig
   exact⟨_,hin k hk hgk.symm,fun v hv=>hsub v (by rw[Av hi];exact hst v hv)⟩
  ·refine⟨_,hin i hi hig,fun v hv=>by rw[Av hi];exact hst v hv⟩
end Go.Sx

namespace Go.Sx
theorem TB.sh {g B K:List (List Int)}(hg:GOk g)(h:TB g B K):Sh2 B∧Sh2 K:=by
 have h16:=hg.n16;have:=h.n16;have:=h.many
 refine⟨⟨by unfold Sh;omega,fun b hb=>by have:=(h.sets b hb).length_le (by omega);unfold Sh;omega⟩,⟨by unfold Sh;omega,fun l hl=> ?_⟩⟩
 obtain⟨a,b,rfl,_⟩:=h.lks l hl
 simp[Sh]
section
variable {g B K : List (List Int)} (hg : GOk g) (h : TB g B K)
include hg h
theorem tidied_both :∃B' K':List (List Int),D.M1 B K=some (B,K.mergeSort BQ)∧D.I0 B K=some (B',K')∧
  (Ap (σ:=(List (List Int))×(List (List Int))) (ρ:=(((List (List Int)))×((List (List Int)))×Bool)) (fun(s_125:(List (List Int))×(List (List Int)))=>match s_125 with|(l_128,l_133)=>(D.A1 l_128 l_133).bind fun y_139=>cond (decide (y_139.1<0)) (some (.inr (l_128,l_133,true))) ((D.D1 l_128 l_133 y_139.1 y_139.2).bind fun y_160=>some (.inl (y_160.1,y_160.2)))) (B,K.mergeSort BQ)=some (B',K',true))∧
  B'.length≤16∧(∀x∈B',x.length≤32)∧K'.length≤16∧(∀x∈K',x.length=2)∧
  ∃M',B'=M'.map Ao∧TS M' K'∧Cp M' K'=none∧Kept g (B.map mk) M' K':=by
 have h16:=hg.n16;have b16:=h.n16;have hm:=h.many
 obtain⟨hB,hK⟩:=h.sh hg
 have hgood:∀x∈K,Cb x:=fun x hx=>(h.lks x hx).good (by omega)
 have hBe:(B.map mk).map Ao=B:=by
  rw[List.map_map]
  conv=>rhs;rw[←List.map_id B]
  refine List.map_congr_left (fun b hb=> ?_)
  have hs:=h.sets b hb
  exact elems_mk' h16 hs.1 hs.2
 have hT:TS (B.map mk) (K.mergeSort BQ):=by
  refine⟨by simpa using b16,fun s hs=> ?_,fun l hl=> ?_,by rw[(BE _).length_eq];omega⟩
  ·obtain⟨b,_,rfl⟩:=List.mem_map.1 hs
   exact VS.mk _
  ·rw[List.length_map]
   exact h.lks l ((BE K).mem_iff.1 hl)
 obtain⟨M',K',hT',e1,e2,e3,e4⟩:=tidy_both 16 (B.map mk) (K.mergeSort BQ) (by simpa using b16) hT
 rw[hBe] at e2
 have hkept:Kept g (B.map mk) M' K':=e4 (Kept g (B.map mk)) ⟨by rw[hBe];exact TB.perm h (BE K),Nat.le_refl _,fun s hs=>hs,fun s hs=>⟨s,hs,fun v hv=>hv⟩⟩ (fun M K g k hTS e hI=>hI.step hTS e)
 refine⟨M'.map Ao,K',?_,?_,e2,by rw[List.length_map];exact hT'.n16,fun x hx=> ?_,hT'.k16,fun x hx=> ?_,M',rfl,hT',e3,hkept⟩
 ·unfold D.M1
  refine(B9 (fun i=>((i:Int),B.take i)) B.length B (by simp) (fun i hi=> ?_) ?_).trans ?_
  ·simp only[dlt hi,cond_true,Ay hi,Option.bind_some,Ek _ (hB.2 _ (List.getElem_mem hi)),wi (show i<4611686018427387904 by omega)]
   rw[A4 (by simp;omega),Option.bind_some,List.take_succ_eq_append_getElem hi]
  ·simp only[A9,cond_false,List.take_length]
  ·refine(B9 (fun i=>((i:Int),Cy [] (K.take i))) K.length (Cy [] K) (by simp[Cy]) (fun i hi=> ?_) ?_).trans ?_
   ·obtain⟨a,b,e,hab,hb⟩:=h.lks _ (List.getElem_mem hi)
    have i0:idx K[i] 0=some (a:Int):=by rw[e];rfl
    have i1:idx K[i] 1=some (b:Int):=by rw[e];rfl
    have el:BT (a:Int) (b:Int)=K[i]:=by
     rw[e];unfold BT
     rw[show min (a:Int) (b:Int)=a by omega,show max (a:Int) (b:Int)=b by omega]
    obtain⟨hp,_⟩:=DO (K.take i) [] (by simp[D3])
    rw[List.append_nil] at hp
    have hlen:(Cy [] (K.take i)).length≤16:=by rw[hp.length_eq,List.length_take];omega
    simp only[dlt hi,cond_true,Ay hi,Option.bind_some,i0,i1,wi (show i<4611686018427387904 by omega)]
    rw[l9Link_eq (fun x hx=>hgood x (List.mem_of_mem_take (hp.mem_iff.1 hx))) (by rw[el];exact hgood _ (List.getElem_mem hi)) (by omega),Option.bind_some,el,List.take_succ_eq_append_getElem hi,Fp]
   ·simp only[A9,cond_false,List.take_length]
   ·rw[Fw hgood]
 ·unfold D.I0
  rw[masks_eq hg h.sets b16,Option.bind_some]
  unfold D.y1
  rw[A4 (by simp;omega)]
  simp only[Option.bind_some,List.nil_append]
  rw[Fa (by omega) hgood,Option.bind_some,e1,Option.bind_some]
  dsimp only
  have hl:=hT'.n16;have hk:=hT'.k16
  rw[results_eq M' (by unfold Sh;omega) hT'.vs,Option.bind_some]
  refine(B9 (fun i=>((i:Int),K'.take i)) K'.length K' (by simp) (fun i hi=> ?_) ?_).trans rfl
  ·obtain⟨a,b,e,_⟩:=hT'.lk _ (List.getElem_mem hi)
   have hc:D.N0 K'[i]=some K'[i]:=by
    unfold D.N0
    rw[A4 (by rw[e];simp)];rfl
   simp only[dlt hi,cond_true,Ay hi,Option.bind_some,hc,wi (show i<4611686018427387904 by omega)]
   rw[A4 (by simp;omega),Option.bind_some,List.take_succ_eq_append_getElem hi]
  ·simp only[A9,cond_false,List.take_length]
 ·obtain⟨s,_,rfl⟩:=List.mem_map.1 hx
  exact Cc s
 ·obtain⟨a,b,rfl,_⟩:=hT'.lk x hx
  rfl
end
end Go.Sx

namespace Go.Sx
noncomputable def bo (F:List Int)(n:Nat)(most:Int):Nat→Int→List Int
 |0,_=>[]
 |k+1,m=>match(Ao (rm n m)).find? (fun v=>decide (wv F (wd F n k) m v≤most)) with
  |some v=>v::bo F n most k (ior .u32 m (ishl .u32 1 v))
  |none=>[]
end Go.Sx

namespace Go.Sx
noncomputable def ow (F:List Int):Int→List Int→Int
 |_,[]=>0
 |m,v::r=>max ((Ao (bh F m v)).length:Int) (ow F (ior .u32 m (ishl .u32 1 v)) r)
theorem ow_nonneg (F:List Int):∀(r:List Int) (m:Int),0≤ow F m r
 |[],_=>by unfold ow;omega
 |v::r,m=>by unfold ow;omega
section
variable {g : List (List Int)} {o F L : List Int} (hg : GOk g) (ho : OOk g o) (hF : Fill g o F L)
include hg ho hF
theorem later_bh {j:Nat}(hj:j<o.length):L.getD o[j].toNat 0=bh (g.map mk) (mk (o.take j)) o[j]:=by
 have h16:=hg.n16
 have hr:=ho.rng _ (List.getElem_mem hj)
 obtain⟨v,hv⟩:∃v:Nat,o[j]=(v:Int):=⟨o[j].toNat,by omega⟩
 have hvn:v<g.length:=by omega
 rw[hv,Int.toNat_natCast]
 obtain⟨_,h1,h2⟩:=EX h16 (FOk.of hg) (VS.mk (o.take j)) hvn
 refine(hF.vsL v hvn).ext h1 (fun w _=> ?_)
 rw[Bool.eq_iff_iff]
 show nb L v w=true↔_
 rw[hF.latb j v (by rw[List.getElem?_eq_getElem hj,hv]) w,h2 w]
 have e:(fun x=>has (mk (o.take j)) x=true)=(fun x:Nat=>(x:Int)∈o.take j):=by
  funext x;rw[has_take hg ho j x];simp
 rw[e,has_take hg ho j w,List.take_succ_eq_append_getElem hj,hv]
 simp only[List.mem_append,List.mem_singleton,not_or,decide_eq_false_iff_not]
 constructor
 ·rintro⟨⟨h3,h4⟩,h5⟩
  exact⟨h5,h3,fun e=>h4 (by rw[e])⟩
 ·rintro⟨h5,h3,h4⟩
  exact⟨⟨h3,fun e=>h4 (by omega)⟩,h5⟩
theorem ow_iff (b:Int)(hb:0≤b):∀d i,i+d=o.length→(ow (g.map mk) (mk (o.take i)) (o.drop i)≤b↔∀j,i≤j→∀h:j<o.length,((Ao (L.getD o[j].toNat 0)).length:Int)≤b)
 |0,i,hi=>by
  obtain rfl:i=o.length:=by omega
  rw[List.drop_length]
  unfold ow
  exact⟨fun _ j h1 h2=>by omega,fun _=>hb⟩
 |d+1,i,hi=>by
  have hil:i<o.length:=by omega
  have ih:=ow_iff b hb d (i+1) (by omega)
  rw[List.drop_eq_getElem_cons hil]
  unfold ow
  rw[mk_take hil,←later_bh hg ho hF hil]
  constructor
  ·intro h j h1 h2
   by_cases he:i=j
   ·subst he;omega
   ·exact(ih.1 (by omega)) j (by omega) h2
  ·intro h
   have h1:=h i (Nat.le_refl _) hil
   have h2:=ih.2 (fun j h1 h2=>h j (by omega) h2)
   omega
theorem ow_bound {b:Int}(hb:0≤b):ow (g.map mk) 0 o≤b↔∀v,v<g.length→((Ao (L.getD v 0)).length:Int)≤b:=by
 have h:=ow_iff hg ho hF b hb o.length 0 (by omega)
 rw[List.take_zero,List.drop_zero] at h
 have e0:mk ([]:List Int)=0:=rfl
 rw[e0] at h
 rw[h]
 constructor
 ·intro h v hv
  obtain⟨i,hi,e⟩:=Db ho hv
  obtain⟨hi',e'⟩:=List.getElem?_eq_some_iff.1 e
  have:=h i (by omega) hi'
  rwa [e',Int.toNat_natCast] at this
 ·intro h j _ hj
  have:=ho.rng _ (List.getElem_mem hj)
  exact h _ (by omega)
end
theorem E5 (f:Int→Int):∀(l:List Int) (b c:Int),(l.foldl (fun s x=>if s<f x then f x else s) b≤c↔b≤c∧∀x∈l,f x≤c)
 |[],b,c=>by simp
 |x::l,b,c=>by
  rw[List.foldl_cons,E5 f l]
  simp only[List.mem_cons,forall_eq_or_imp]
  rw[←and_assoc]
  refine and_congr_left (fun _=> ?_)
  split<;>omega
theorem maxsz_le {L:List Int}{c:Int}(hc:0≤c):maxsz L≤c↔∀v,v<L.length→((Ao (L.getD v 0)).length:Int)≤c:=by
 unfold maxsz
 rw[E5 (fun x=>((Ao x).length:Int))]
 constructor
 ·rintro⟨_,h⟩ v hv
  have:=h _ (List.getElem_mem hv)
  rwa [←Av hv 0] at this
 ·intro h
  refine⟨hc,fun x hx=> ?_⟩
  obtain⟨i,hi,rfl⟩:=List.getElem_of_mem hx
  have:=h i hi
  rwa [Av hi] at this
theorem maxsz_ow {g:List (List Int)}{o F L:List Int}(hg:GOk g)(ho:OOk g o)(hF:Fill g o F L):maxsz L=ow (g.map mk) 0 o:=by
 have h1:=ow_nonneg (g.map mk) o 0
 have h2:=maxsz_nonneg L
 have a:=(ow_bound hg ho hF h2).2 (fun v hv=>(maxsz_le h2).1 (Int.le_refl _) v (by rw[hF.lenL];exact hv))
 have b:=(maxsz_le h1).2 (fun v hv=>(ow_bound hg ho hF h1).1 (Int.le_refl _) v (by rw[←hF.lenL];exact hv))
 omega
theorem DM {g:List (List Int)}{o F L:List Int}(hg:GOk g)(ho:OOk g o)(hF:Fill g o F L):D.Y g o=some (ow (g.map mk) 0 o):=by
 have h16:=hg.n16;have hl:=hF.lenL
 unfold D.Y
 rw[Em g o hg.sh2 (ho.sh hg),Fg hg,(ordB_iff g o).2 ho,Option.bind_some,Bool.and_self,Bool.not_true,cond_false,l7Later_eq hg ho hF,Option.bind_some,←maxsz_ow hg ho hF]
 have hll:(L.map Ao).length=L.length:=by simp
 refine(D2 L (fun s i=>(s,i)) (fun s x=>if s<((Ao x).length:Int) then((Ao x).length:Int) else s) (fun s=>s) (fun _=>True) 0 trivial (fun s i hi _=>⟨?_,trivial⟩) (fun s _=> ?_)).trans rfl
 ·have hi':i<(L.map Ao).length:=by rw[hll];exact hi
  dsimp only
  rw[dlt hi',cond_true,Ay hi',Option.bind_some,l1Max_eq,Option.bind_some,List.getElem_map,wi (show i<4611686018427387904 by omega),Int.max_def]
  congr 3
  split<;>split<;>omega
 ·dsimp only
  rw[hll,A9,cond_false]
end Go.Sx

namespace Go.Sx
end Go.Sx

namespace Go.Sx
theorem into_len_new {xs:List Int}{n:Int}(h:n∉xs):(into xs n).length=xs.length+1:=by
 unfold into
 rw[if_neg h,List.length_append,List.length_cons]
 have:=congrArg List.length (List.takeWhile_append_dropWhile (p:=fun x=>decide (x<n)) (l:=xs))
 rw[List.length_append] at this
 omega
def wB (B:List (List Int)):Int:=B.foldl (fun s b=>if s<(b.length:Int)-1 then(b.length:Int)-1 else s) (-1)
theorem DQ {α:Type}(f:α→Int):∀(l:List α) (b c:Int),(l.foldl (fun s x=>if s<f x then f x else s) b≤c↔b≤c∧∀x∈l,f x≤c)
 |[],b,c=>by simp
 |x::l,b,c=>by
  rw[List.foldl_cons,DQ f l]
  simp only[List.mem_cons,forall_eq_or_imp]
  rw[←and_assoc]
  refine and_congr_left (fun _=> ?_)
  split<;>omega
theorem DX {B:List (List Int)}{c:Int}(hc: -1≤c):wB B≤c↔∀b∈B,(b.length:Int)-1≤c:=by
 unfold wB
 rw[DQ (fun b:List Int=>(b.length:Int)-1)]
 exact⟨fun h=>h.2,fun h=>⟨hc,h⟩⟩
theorem Er (B:List (List Int)): -1≤wB B:=by
 have h:=(DQ (fun b:List Int=>(b.length:Int)-1) B (-1) (wB B)).1 (Int.le_refl _)
 exact h.1
theorem wB_order {g:List (List Int)}{o F L:List Int}(hg:GOk g)(ho:OOk g o)(hF:Fill g o F L):wB ((List.range o.length).map (BF o L))=ow (g.map mk) 0 o:=by
 have h16:=hg.n16;have hl:=ho.len;have hn1:=hg.n1
 have hlen:∀i (hi:i<o.length),((BF o L i).length:Int)-1=((Ao (L.getD o[i].toNat 0)).length:Int):=fun i hi=>by
  have hr:=ho.rng _ (List.getElem_mem hi)
  obtain⟨v,hv⟩:∃v:Nat,o[i]=(v:Int):=⟨o[i].toNat,by omega⟩
  have hni:(v:Int)∉Ao (L.getD v 0):=fun hc=>by
   rw[AU (hF.vsL v (by omega))] at hc
   have:=((hF.latb i v (by rw[List.getElem?_eq_getElem hi,hv]) v).1 hc).1
   rw[List.take_succ_eq_append_getElem hi,hv] at this
   simp at this
  unfold BF
  rw[Av hi,hv,Int.toNat_natCast,into_len_new hni];omega
 have hle:∀c,0≤c→(wB ((List.range o.length).map (BF o L))≤c↔ow (g.map mk) 0 o≤c):=fun c hc=>by
  rw[DX (by omega),ow_bound hg ho hF hc]
  constructor
  ·intro h v hv
   obtain⟨i,hi,e⟩:=Db ho hv
   obtain⟨hi',e'⟩:=List.getElem?_eq_some_iff.1 e
   have h1:=h _ (List.mem_map.2 ⟨i,List.mem_range.2 hi',rfl⟩)
   rw[hlen i hi',e',Int.toNat_natCast] at h1
   exact h1
  ·intro h b hb
   obtain⟨i,hi,rfl⟩:=List.mem_map.1 hb
   have hi:=List.mem_range.1 hi
   have hr:=ho.rng _ (List.getElem_mem hi)
   rw[hlen i hi]
   exact h _ (by omega)
 have h0:=ow_nonneg (g.map mk) o 0
 have h1:=(hle _ h0).2 (Int.le_refl _)
 have h2:0≤wB ((List.range o.length).map (BF o L)):=by
  have:=(DX (B:=(List.range o.length).map (BF o L)) (Er _)).1 (Int.le_refl _) _ (List.mem_map.2 ⟨0,List.mem_range.2 (by omega),rfl⟩)
  rw[hlen 0 (by omega)] at this
  omega
 have h3:=(hle _ h2).1 (Int.le_refl _)
 omega
theorem elems_sub_len {s t:Int}(hs:VS s)(ht:VS t)(h:∀v,has s v=true→has t v=true):(Ao s).length≤(Ao t).length:=by
 refine Ce ((BH s).imp (fun h=>by omega)) (fun x hx=> ?_)
 obtain⟨v,hv,h1,rfl⟩:=mem_elems.1 hx
 exact(AU ht).2 (h v h1)
theorem wB_kept {G:List (List Int)}{M0 M:List Int}{K:List (List Int)}(h:Kept G M0 M K)(v0:∀s∈M0,VS s):wB (M.map Ao)=wB (M0.map Ao):=by
 have a:wB (M.map Ao)≤wB (M0.map Ao):=(DX (Er _)).2 (fun b hb=>by
  obtain⟨s,hs,rfl⟩:=List.mem_map.1 hb
  exact(DX (B:=M0.map Ao) (Er _)).1 (Int.le_refl _) _ (List.mem_map.2 ⟨s,h.old s hs,rfl⟩))
 have b:wB (M0.map Ao)≤wB (M.map Ao):=(DX (Er _)).2 (fun b hb=>by
  obtain⟨s,hs,rfl⟩:=List.mem_map.1 hb
  obtain⟨t,ht,hst⟩:=h.sup s hs
  have:=(DX (B:=M.map Ao) (Er _)).1 (Int.le_refl _) _ (List.mem_map.2 ⟨t,ht,rfl⟩)
  have:=elems_sub_len (v0 s hs) (v0 t (h.old t ht)) hst
  omega)
 omega
end Go.Sx

namespace Go.Sx
def Dt (f:Int→Nat):List Int→Nat
 |[]=>0
 |x::l=>f x+Dt f l
theorem sumL_add (f h:Int→Nat):∀l,Dt (fun x=>f x+h x) l=Dt f l+Dt h l
 |[]=>rfl
 |x::l=>by simp only[Dt];rw[sumL_add f h l];omega
theorem sumL_ge {f:Int→Nat}{c:Nat}:∀{l:List Int},(∀x∈l,c≤f x)→c*l.length≤Dt f l
 |[],_=>by simp[Dt]
 |x::l,h=>by
  have:=sumL_ge (l:=l) (fun y hy=>h y (List.mem_cons_of_mem _ hy))
  have:=h x (by simp)
  simp only[Dt,List.length_cons,Nat.mul_add];omega
theorem sumL_pair {a b:Int}:∀{l:List Int},l.Nodup→Dt (fun x=>if x∈[a,b] then 1 else 0) l≤(if a∈l then 1 else 0)+(if b∈l then 1 else 0)
 |[],_=>by simp[Dt]
 |x::l,h=>by
  rw[List.nodup_cons] at h
  have ih:=sumL_pair (a:=a) (b:=b) h.2
  simp only[Dt,List.mem_cons,List.not_mem_nil,or_false] at ih ⊢
  by_cases ha:x=a
  ·subst ha
   by_cases hb:x=b
   ·subst hb;simp[h.1] at ih ⊢;omega
   ·have hb':b≠x:=fun e=>hb e.symm
    simp[h.1,hb'] at ih ⊢;exact ih
  ·by_cases hb:x=b
   ·subst hb
    have ha':a≠x:=fun e=>ha e.symm
    simp[h.1,ha'] at ih ⊢;omega
   ·have ha':a≠x:=fun e=>ha e.symm
    have hb':b≠x:=fun e=>hb e.symm
    simp[ha,hb,ha',hb'] at ih ⊢;omega
theorem sumL_deg {ns:List Int}(hn:ns.Nodup):∀(K:List (List Int)),(∀l∈K,∃a b:Int,l=[a,b])→Dt (fun x=>K.countP fun l=>decide (x∈l)) ns≤2*K.length
 |[],_=>by
  have:∀l:List Int,Dt (fun _=>0) l=0:=fun l=>by induction l with|nil=>rfl|cons x l ih=>simp only[Dt,ih]
  simp[this]
 |l::K,h=>by
  have ih:=sumL_deg hn K (fun x hx=>h x (List.mem_cons_of_mem _ hx))
  obtain⟨a,b,rfl⟩:=h l (by simp)
  have e:(fun x=>([a,b]::K).countP fun l=>decide (x∈l))=fun x=>(K.countP fun l=>decide (x∈l))+(if x∈[a,b] then 1 else 0):=by
   funext x;rw[List.countP_cons];simp
  rw[e,sumL_add]
  have h2:=sumL_pair (a:=a) (b:=b) hn
  simp only[List.length_cons]
  have:(if a∈ns then 1 else 0)+(if b∈ns then 1 else 0)≤2:=by split<;>split<;>omega
  omega
theorem Lk.mem_erase {K:List (List Int)}{l:List Int}{x y z:Int}(h:Lk K x y)(hz:z∈l)(hx:x≠z)(hy:y≠z):Lk (K.erase l) x y:=by
 have key:∀p:List Int,p∈K→z∉p→p∈K.erase l:=fun p hp hn=>(List.mem_erase_of_ne (fun e=>hn (by rw[e];exact hz))).2 hp
 rcases h with h|h
 ·exact .inl (key _ h (by simp;exact⟨fun e=>hx e.symm,fun e=>hy e.symm⟩))
 ·exact .inr (key _ h (by simp;exact⟨fun e=>hy e.symm,fun e=>hx e.symm⟩))
theorem tree_leaf {K:List (List Int)}{ns:List Int}(hn:ns.Nodup)(h2:2≤ns.length)(hK:K.length+1=ns.length)(hc:CJ K ns)(hl:∀l∈K,∃a b:Int,l=[a,b]∧a≠b∧a∈ns∧b∈ns):
  ∃z k l,z∈ns∧k∈ns∧k≠z∧l∈K∧(l=[z,k]∨l=[k,z])∧(∀p∈K.erase l,z∉p):=by
 obtain⟨z,hz,hd⟩:∃z∈ns,(K.countP fun l=>decide (z∈l))≤1:=by
  apply Classical.byContradiction
  intro hcon
  have h1:=sumL_ge (f:=fun x=>K.countP fun l=>decide (x∈l)) (c:=2) (l:=ns) (fun x hx=>by
   have:¬(K.countP fun l=>decide (x∈l))≤1:=fun h=>hcon ⟨x,hx,h⟩
   omega)
  have h2:=sumL_deg hn K (fun l hll=>by obtain⟨a,b,e,_⟩:=hl l hll;exact⟨a,b,e⟩)
  omega
 obtain⟨l,hlK,hzl⟩:∃l∈K,z∈l:=by
  apply Classical.byContradiction
  intro hcon
  have hall:=(conn_iff.1 hc) (fun x=>x=z) ⟨z,hz,rfl⟩ (fun x y _ _ e hlk=>by
   subst e
   exfalso
   rcases hlk with h|h
   ·exact hcon ⟨_,h,by simp⟩
   ·exact hcon ⟨_,h,by simp⟩)
  have:=Ce hn (m:=[z]) (fun x hx=>by simp[hall x hx])
  simp at this;omega
 obtain⟨a,b,rfl,hab,ha,hb⟩:=hl l hlK
 have herase:∀p∈K.erase [a,b],z∉p:=fun p hp hzp=>by
  have e:(K.countP fun l=>decide (z∈l))=((K.erase [a,b]).countP fun l=>decide (z∈l))+1:=by
   have:=(List.perm_cons_erase hlK).countP_eq (fun l=>decide (z∈l))
   rw[this,List.countP_cons,if_pos (by simpa using hzl)]
  have:0<((K.erase [a,b]).countP fun l=>decide (z∈l)):=List.countP_pos_iff.2 ⟨p,hp,by simpa using hzp⟩
  omega
 simp only[List.mem_cons,List.not_mem_nil,or_false] at hzl
 rcases hzl with rfl|rfl
 ·exact⟨z,b,[z,b],hz,hb,fun e=>hab e.symm,hlK,.inl rfl,herase⟩
 ·exact⟨z,a,[a,z],hz,ha,hab,hlK,.inr rfl,herase⟩
theorem Ew {K:List (List Int)}{z k y:Int}{l:List Int}(hl:l=[z,k]∨l=[k,z])(he:∀p∈K.erase l,z∉p)(hy:y≠z)(h:Lk K z y):y=k:=by
 have key:∀p:List Int,p∈K→z∈p→p=l:=fun p hp hzp=>by
  apply Classical.byContradiction
  intro hne
  exact he p ((List.mem_erase_of_ne hne).2 hp) hzp
 rcases h with h|h
 ·have:=key _ h (by simp)
  rcases hl with rfl|rfl<;>simp at this
  ·exact this
  ·exact absurd this.2 hy
 ·have:=key _ h (by simp)
  rcases hl with rfl|rfl<;>simp at this
  ·exact absurd this.1 hy
  ·exact this
theorem simp_ex (bag:Int→Nat→Prop)(P:Nat→Prop)(R:Nat→Nat→Prop):∀(n:Nat) (ns:List Int) (K:List (List Int)),ns.length=n+1→ns.Nodup→K.length=n→CJ K ns→
  (∀l∈K,∃a b:Int,l=[a,b]∧a≠b∧a∈ns∧b∈ns)→(∃v,P v)→(∀v,P v→∃i∈ns,bag i v)→
  (∀v,P v→∀T:Int→Prop,(∃x∈ns,bag x v∧T x)→(∀x y,x∈ns→y∈ns→bag x v→bag y v→T x→Lk K x y→T y)→∀x∈ns,bag x v→T x)→
  (∀u w,P u→P w→R u w→∃i∈ns,bag i u∧bag i w)→∃v i,P v∧i∈ns∧bag i v∧∀u,P u→R v u→bag i u
 |0,ns,K,hn,_,_,_,_,⟨v,hv⟩,hs,_,he=>by
  match ns,hn with
  |[i],_=>
   obtain⟨j,hj,hb⟩:=hs v hv
   obtain rfl:j=i:=by simpa using hj
   refine⟨v,j,hv,by simp,hb,fun u hu hR=> ?_⟩
   obtain⟨q,hq,_,h⟩:=he v u hv hu hR
   obtain rfl:q=j:=by simpa using hq
   exact h
 |n+1,ns,K,hn,hnd,hK,hc,hl,hex,hs,hcn,he=>by
  obtain⟨z,k,l,hz,hk,hkz,hlK,hlz,her⟩:=tree_leaf hnd (by omega) (by omega) hc hl
  by_cases hA:∃v,P v∧bag z v∧¬bag k v
  ·obtain⟨v,hv,hb,hnb⟩:=hA
   have honly:=hcn v hv (fun x=>x=z) ⟨z,hz,hb,rfl⟩ (fun x y _ _ _ hy e hlk=>by
    subst e
    by_cases e:y=x
    ·exact e
    ·have:=Ew hlz her e hlk
     subst this
     exact absurd hy hnb)
   refine⟨v,z,hv,hz,hb,fun u hu hR=> ?_⟩
   obtain⟨i,hi,h1,h2⟩:=he v u hv hu hR
   rw[honly i hi h1] at h2
   exact h2
  ·have hB:∀v,P v→bag z v→bag k v:=fun v hv hb=>Classical.byContradiction fun h=>hA ⟨v,hv,hb,h⟩
   have hmem:∀x,x∈ns.erase z↔x∈ns∧x≠z:=fun x=>by rw[hnd.mem_erase_iff];exact And.comm
   have hk':k∈ns.erase z:=(hmem k).2 ⟨hk,hkz⟩
   have hzl:z∈l:=by rcases hlz with rfl|rfl<;>simp
   obtain⟨v,i,h1,h2,h3,h4⟩:=simp_ex bag P R n (ns.erase z) (K.erase l) (by rw[List.length_erase_of_mem hz];omega) (hnd.erase z) (by rw[List.length_erase_of_mem hlK];omega)
    (conn_iff.2 fun T ⟨x0,hx0,hT⟩ hcl x hx=>by
     obtain⟨hx1,hx2⟩:=(hmem x).1 hx
     obtain⟨hx3,hx4⟩:=(hmem x0).1 hx0
     have:=(conn_iff.1 hc) (fun y=>if y=z then T k else T y) ⟨x0,hx3,by rw[if_neg hx4];exact hT⟩ (fun a b ha hb hTa hlk=>by
      by_cases ea:a=z
      ·subst ea
       rw[if_pos rfl] at hTa
       by_cases eb:b=a
       ·rw[if_pos eb];exact hTa
       ·rw[if_neg eb,Ew hlz her eb hlk];exact hTa
      ·rw[if_neg ea] at hTa
       by_cases eb:b=z
       ·subst eb
        rw[if_pos rfl,←Ew hlz her ea hlk.symm];exact hTa
       ·rw[if_neg eb]
        exact hcl a b ((hmem a).2 ⟨ha,ea⟩) ((hmem b).2 ⟨hb,eb⟩) hTa (hlk.mem_erase hzl ea eb)) x hx1
     rwa [if_neg hx2] at this)
    (fun p hp=>by
     obtain⟨a,b,rfl,hab,ha,hb⟩:=hl p (List.mem_of_mem_erase hp)
     have hnz:=her _ hp
     simp only[List.mem_cons,List.not_mem_nil,or_false,not_or] at hnz
     exact⟨a,b,rfl,hab,(hmem a).2 ⟨ha,fun e=>hnz.1 e.symm⟩,(hmem b).2 ⟨hb,fun e=>hnz.2 e.symm⟩⟩)
    hex
    (fun v hv=>by
     obtain⟨i,hi,hb⟩:=hs v hv
     by_cases e:i=z
     ·exact⟨k,hk',hB v hv (e▸hb)⟩
     ·exact⟨i,(hmem i).2 ⟨hi,e⟩,hb⟩)
    (fun v hv T ⟨x0,hx0,hb0,hT⟩ hcl x hx hbx=>by
     obtain⟨hx1,hx2⟩:=(hmem x).1 hx
     obtain⟨hx3,hx4⟩:=(hmem x0).1 hx0
     have:=hcn v hv (fun y=>if y=z then T k else T y) ⟨x0,hx3,hb0,by rw[if_neg hx4];exact hT⟩ (fun a b ha hb hba hbb hTa hlk=>by
      by_cases ea:a=z
      ·subst ea
       rw[if_pos rfl] at hTa
       by_cases eb:b=a
       ·rw[if_pos eb];exact hTa
       ·rw[if_neg eb,Ew hlz her eb hlk];exact hTa
      ·rw[if_neg ea] at hTa
       by_cases eb:b=z
       ·subst eb
        rw[if_pos rfl,←Ew hlz her ea hlk.symm];exact hTa
       ·rw[if_neg eb]
        exact hcl a b ((hmem a).2 ⟨ha,ea⟩) ((hmem b).2 ⟨hb,eb⟩) hba hbb hTa (hlk.mem_erase hzl ea eb)) x hx1 hbx
     rwa [if_neg hx2] at this)
    (fun u w hu hw hR=>by
     obtain⟨i,hi,h1,h2⟩:=he u w hu hw hR
     by_cases e:i=z
     ·subst e;exact⟨k,hk',hB u hu h1,hB w hw h2⟩
     ·exact⟨i,(hmem i).2 ⟨hi,e⟩,h1,h2⟩)
   exact⟨v,i,h1,((hmem i).1 h2).1,h3,h4⟩
end Go.Sx
