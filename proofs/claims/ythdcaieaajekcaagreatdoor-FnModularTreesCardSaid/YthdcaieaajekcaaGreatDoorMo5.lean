/- Parts. -/
import Derived.Test.YthdcaieaajekcaaGreatDoorMo4
set_option linter.unusedVariables false
set_option linter.unusedSimpArgs false
set_option linter.unusedSectionVars false
namespace Go.Sx
def sumN (f:Nat→Nat):Nat→Nat
 |0=>0
 |n+1=>sumN f n+f n
def bit (b:Bool):Nat:=if b then 1 else 0
def S2 (n:Nat)(p:Nat→Nat→Bool):Nat:=sumN (λu=>sumN (λw=>bit (p u w)) n) n
def A9 (n:Nat):Int:=IntKind.u32.wrap (ishl .u32 1 (n:Int)-1)
theorem Eo (n:Nat):VS (A9 n):=VS.wrap _
theorem CD {n:Nat}(h:n≤16)(v:Nat):has (A9 n) v=decide (v<n):=by
 by_cases hv:v<32
 ·exact all_mask ⟨n,by omega⟩ ⟨v,hv⟩
 ·rw[E8 (Eo n) (by omega)];symm;simp;omega
theorem C8 (F:LI):D.r F=some (A9 F.length):=by
 unfold D.r D.R
 have:decide ((F.length:Int)<0)=false:=by simp
 rw[this];rfl
theorem Fc (x:LI)(h:Sh x):D.U0 x x=some true:=by
 unfold Sh at h
 unfold D.U0
 have e:((x.length:Int) !=(x.length:Int))=false:=by simp
 rw[e,cF]
 refine(Dy x.length (λ_=>true) false (λi hi=> ?_) ?_ rfl rfl).trans (by simp)
 ·simp only[dlt hi,cT,AF hi,bs,wi' hi (by omega)]
  simp
 ·simp only[Bs,cF]
section
variable {g : LL} {o : LI} (hg : GOk g) (ho : OOk g o)
include hg ho
def mx (f:Nat→Int):Nat→Int
 |0=>0
 |n+1=>max (mx f n) (f n)
end
end Go.Sx

namespace Go.Sx
def dg (g:LL)(s:Int)(v:Int):Int:=((Aj (iand .u32 (mk (row g v.toNat)) s)).length:Int)
theorem idx_F {F:LI}{n v:Nat}(h:FOk F n)(hv:v<n):idx F (v:Int)=some (F.getD v 0):=by
 have:=h.len
 rw[AF (by omega),A6 (by omega)]
theorem l1CopyGraph_eq {g:LL}(hg:GOk g):D.I0 g=some g:=by
 have h16:=hg.n16
 unfold D.I0
 refine(Ew g (λs i=>(i,s)) (λr=>r) (by omega) (λs i hi _=> ?_) (λs=> ?_)).trans (by simp)
 ·simp only[dlt hi,cT,AF hi,bs,EX _ (hg.sh2.2 _ (List.getElem_mem hi)),wq i]
 ·simp only[Bs,cF]
def CQ (F:LI)(K:Int):Prop:=∀u w,has K u=true→has K w=true→u≠w→nb F u w=true
def MX (F:LI)(n:Nat)(K:Int):Prop:=CQ F K∧∀w,w<n→has K w=false→∃u,has K u=true∧nb F u w=false
def In (n:Nat)(K:Int):Prop:=VS K∧∀w,has K w=true→w<n
theorem In.lt {n:Nat}{K:Int}(h:In n K)(hn:n≤16):0≤K∧K<65536:=by
 obtain⟨m,rfl,hm⟩:=h.1.nat
 refine⟨by omega,?_⟩
 have:m<2^16:=by
  apply Nat.lt_pow_two_of_testBit
  intro i hi
  cases hc:m.testBit i
  ·rfl
  ·have:=h.2 i (by rw[BY];exact hc)
   omega
 omega
theorem complement_ok {F:LI}{n:Nat}(hn:n≤16)(hF:FOk F n):∃F',D.X F=some F'∧FOk F' n∧∀u w,u<n→nb F' u w=(decide (w<n)&& !nb F u w&& !decide (w=u)):=by
 have hlen:=hF.len
 unfold D.X
 have h1:=Dn (k:=λl:LI=>some l) (step:=(fun(s_78:LI×Int)=>match s_78 with|(l_81,x_86)=>cond (decide (x_86<(F.length:Int))) ((idx F x_86).bind λe_127=>(D.r F).bind λy_133=>(D.c x_86).bind λy_140=>(AK l_81 ([(iandNot .u32 (iandNot .u32 y_133 e_127) y_140)]:LI)).bind λl_151=>some (.inl (l_151,(IntKind.i64.wrap (x_86+1))))) (some (.inr l_81)))) (s0:=([],0))
  (λi=>((List.range i).map (λv=>iandNot .u32 (iandNot .u32 (A9 n) (F.getD v 0)) (ishl .u32 1 ((v:Nat):Int))),(i:Int))) n ((List.range n).map (λv=>iandNot .u32 (iandNot .u32 (A9 n) (F.getD v 0)) (ishl .u32 1 ((v:Nat):Int)))) (by simp) (λi hi=>by
   simp only[hlen,dlt hi,cT,idx_F hF hi,bs,C8,hlen,Cm,wq i]
   rw[AY (by simp;omega),bs,List.range_succ,List.map_append];rfl) (by
   simp only[hlen,Bs,cF])
 have hget:∀u,u<n→((List.range n).map (λv=>iandNot .u32 (iandNot .u32 (A9 n) (F.getD v 0)) (ishl .u32 1 ((v:Nat):Int)))).getD u 0=iandNot .u32 (iandNot .u32 (A9 n) (F.getD u 0)) (ishl .u32 1 (u:Int)):=λu hu=>by
  rw[A6 (by simpa using hu)];simp
 have hnb:∀u w,u<n→nb ((List.range n).map (λv=>iandNot .u32 (iandNot .u32 (A9 n) (F.getD v 0)) (ishl .u32 1 ((v:Nat):Int)))) u w=(decide (w<n)&& !nb F u w&& !decide (w=u)):=λu w hu=>by
  unfold nb
  rw[hget u hu,Cc (VS.iandNot _ _) (VS.ishl _ _),Cc (Eo n) (hF.vs u hu),BE (by omega),CD hn]
 refine⟨_,h1,⟨by simp,λu hu=>by rw[hget u hu];exact VS.iandNot _ _,λu w hu h=> ?_,λu hu=> ?_,λu w hu h=> ?_⟩,hnb⟩
 ·rw[hnb u w hu] at h
  simp only[Bool.and_eq_true,decide_eq_true_eq] at h
  exact h.1.1
 ·rw[hnb u u hu];simp
 ·rw[hnb u w hu] at h
  simp only[Bool.and_eq_true,decide_eq_true_eq,Bool.not_eq_true',decide_eq_false_iff_not] at h
  rw[hnb w u h.1.1]
  have h2:nb F w u=false:=by
   cases hc:nb F w u
   ·rfl
   ·have:=hF.sym w u h.1.1 hc
    rw[this] at h;simp at h
  have h3:decide (u<n)=true:=decide_eq_true hu
  have h4:decide (u=w)=false:=by simp;exact λe=>h.2 e.symm
  rw[h2,h3,h4];rfl
theorem elems_mk {n:Nat}{x:LI}(hn:n≤16)(hi:Inc x)(hr:∀z∈x,0≤z∧z<n):Aj (mk x)=x:=by
 have h32:∀z∈x,0≤z∧z<32:=λz hz=>by have:=hr z hz;omega
 refine Inc.ext (Bl _) hi (λz=> ?_)
 rw[mem_elems]
 constructor
 ·rintro⟨v,_,h,rfl⟩
  rw[has_mk h32] at h
  exact of_decide_eq_true h
 ·intro hz
  have:=h32 z hz
  refine⟨z.toNat,by omega,?_,by omega⟩
  rw[has_mk h32,show ((z.toNat:Nat):Int)=z by omega]
  exact decide_eq_true hz
def Cq (g:LL)(x:LI):Prop:=∀u w:Nat,(u:Int)∈x→(w:Int)∈x→u≠w→adj g u w
theorem inc_len {n:Nat}{x:LI}(hi:Inc x)(hr:∀z∈x,0≤z∧z<n):x.length≤n:=by
 have:=BG (m:=(List.range n).map Int.ofNat) hi.nodup (λz hz=>by
  have:=hr z hz
  exact List.mem_map.2 ⟨z.toNat,List.mem_range.2 (by omega),by show ((z.toNat:Nat):Int)=z;omega⟩)
 simpa using this
def mis (F:LI)(n:Nat)(S:Int):Nat:=S2 n (λu w=>has S u&&(has S w&&(decide (w<u)&& !nb F w u)))
def cd (F:LI)(s v:Int):Int:=((Aj (iand .u32 (F.getD v.toNat 0) s)).length:Int)
def cf (n:Nat)(F:LI)(s v:Int):Int:=(mis F n (iand .u32 (F.getD v.toNat 0) s):Int)
def S16 (s:Int):Prop:=0≤s∧s<65536
theorem S16.nat {s:Int}(h:S16 s):∃n:Nat,s=n∧n<65536:=⟨s.toNat,by have:=h.1;omega,by have:=h.1;have:=h.2;omega⟩
theorem In.s16 {n:Nat}{K:Int}(h:In n K)(hn:n≤16):S16 K:=h.lt hn
theorem In.of {n i:Nat}(h:i<2^n)(hn:n≤16):In n (i:Int):=by
 have:2^n≤2^16:=Nat.pow_le_pow_right (by omega) hn
 refine⟨⟨by omega,by omega⟩,λw hw=> ?_⟩
 rw[BY] at hw
 have:=Nat.ge_two_pow_of_testBit hw
 apply Classical.byContradiction
 intro hc
 have h2:2^n≤2^w:=Nat.pow_le_pow_right (by omega) (by omega)
 omega
theorem Fo (n:Nat)(h:n<18446744073709551616):(BitVec.ofInt 64 (n:Int)).toNat=n:=by
 rw[BitVec.toNat_ofInt];omega
theorem and64 {a b:Nat}(ha:a<4294967296)(hb:b<4294967296):iand .i64 (a:Int) (b:Int)=((a&&&b:Nat):Int):=by
 have hw:a&&&b<4294967296:=Nat.and_lt_two_pow (n:=32) _ hb
 show IntKind.i64.wrap (((BitVec.ofInt 64 (a:Int)&&&BitVec.ofInt 64 (b:Int)).toNat:Nat):Int)=_
 rw[BitVec.toNat_and,Fo a (by omega),Fo b (by omega),w64 (by omega) (by omega)]
theorem shl64 {v:Nat}(hv:v<32):ishl .i64 1 (v:Int)=ishl .u32 1 (v:Int):=by
 rw[one_eq hv]
 have h:(2:Nat)^v<2^32:=Nat.pow_lt_pow_right (by omega) hv
 have h':(2:Nat)^32=4294967296:=by decide
 rw[h'] at h
 show IntKind.i64.wrap (1*2^(min ((v:Int)).toNat 64))=_
 rw[show min ((v:Int)).toNat 64=v by simp;omega,Int.one_mul]
 have e:((2^v:Nat):Int)=(2:Int)^v:=by simp
 rw[←e]
 generalize 2^v=p at h ⊢
 rw[w64 (by omega) (by omega)]
theorem uw {v:Nat}(hv:v<1000):IntKind.u64.wrap (v:Int)=(v:Int):=wu64 (by omega) (by omega)
theorem unneg (v:Nat):decide ((v:Int)<0)=false:=by simp
theorem vset_has_eq {s:Int}(h:VS s){v:Nat}(hv:v<32):D.L0 s (v:Int)=some (has s v):=by
 unfold D.L0
 have:decide ((v:Int)<0)=false:=by simp
 rw[this,cF,bitAt_eq h hv]
def CP (F:LI)(p:Nat→Nat)(i:Nat):Nat→Int
 |0=>0
 |j+1=>if nb F (p i) (p j) then ior .u32 (CP F p i j) (ishl .u32 1 (j:Int)) else CP F p i j
theorem indR_vs (F:LI)(p:Nat→Nat)(i:Nat):∀j,VS (CP F p i j)
 |0=>(show VS 0 from ⟨by decide,by decide⟩)
 |j+1=>by
  unfold CP
  split
  ·exact VS.ior _ _
  ·exact indR_vs F p i j
theorem has_indR (F:LI)(p:Nat→Nat)(i w:Nat):∀j,j≤32→has (CP F p i j) w=(decide (w<j)&&nb F (p i) (p w))
 |0,_=>by simp[CP,BH]
 |j+1,hj=>by
  have ih:=has_indR F p i w j (by omega)
  have e:decide (w<j+1)=(decide (w<j)||decide (w=j)):=by
   rw[Bool.eq_iff_iff];simp;omega
  unfold CP
  by_cases h:nb F (p i) (p j)=true
  ·rw[if_pos h,BU (indR_vs F p i j) (VS.ishl _ _),ih,BE (by omega),e]
   by_cases hw:w=j
   ·subst hw;simp[h]
   ·simp[hw]
  ·rw[if_neg h,ih,e]
   by_cases hw:w=j
   ·subst hw;simp[h]
   ·simp[hw]
def CE (F:LI)(p:Nat→Nat)(n:Nat):Nat→LI
 |0=>List.replicate n 0
 |i+1=>(CE F p n i).set i (CP F p i n)
theorem Ex (F:LI)(p:Nat→Nat)(n:Nat):∀i,(CE F p n i).length=n
 |0=>by simp[CE]
 |i+1=>by unfold CE;rw[List.length_set,Ex F p n i]
theorem EC (F:LI)(p:Nat→Nat)(n u:Nat)(hu:u<n):∀i,i≤n→(CE F p n i).getD u 0=if u<i then CP F p u n else 0
 |0,_=>by rw[if_neg (by omega),CE,List.getD_eq_getElem?_getD,List.getElem?_replicate];split<;>rfl
 |i+1,hi=>by
  have ih:=EC F p n u hu i (by omega)
  have hl:=Ex F p n i
  unfold CE
  rw[List.getD_eq_getElem?_getD,List.getElem?_set]
  by_cases h:i=u
  ·subst h
   rw[if_pos rfl,if_pos (by omega),if_pos (by omega)];rfl
  ·rw[if_neg h,←List.getD_eq_getElem?_getD,ih]
   by_cases h2:u<i
   ·rw[if_pos h2,if_pos (by omega)]
   ·rw[if_neg h2,if_neg (by omega)]
theorem Ef {F:LI}{n:Nat}{p:Nat→Nat}(hn:n≤16){u w:Nat}(hu:u<n):nb (CE F p n n) u w=(decide (w<n)&&nb F (p u) (p w)):=by
 unfold nb
 rw[EC F p n u hu n (Nat.le_refl _),if_pos hu,has_indR F p u w n (by omega)];rfl
theorem impl_SetOk_eq (g:LL)(s:LI)(h:Sh2 g)(hs:Sh s):D.v0 g s=some (gB g&&Dd s g.length):=by
 unfold D.v0
 rw[CL g h,bs]
 cases gB g
 ·rfl
 ·have:=h.1
  unfold Sh at this
  rw[cT,EL s _ hs (by omega) (by omega)];rfl
theorem DB (g:LL)(s:LI)(h:Sh2 g)(hs:Sh s):D.N g s=some (gB g&&Dd s g.length):=by
 unfold D.N D.u
 rw[Ce g h,bs]
 cases gB g
 ·rfl
 ·have:=h.1
  unfold Sh at this
  rw[cT,bs,l1Set_eq s _ hs (by omega) (by omega)];rfl
theorem setB_elems {n:Nat}{K:Int}(h:In n K):Dd (Aj K) n=true:=by
 rw[CO]
 refine⟨Bl _,λz hz=> ?_⟩
 obtain⟨v,_,h2,rfl⟩:=mem_elems.1 hz
 have:=h.2 v h2
 omega
def ch (cs:LI)(i v:Nat):Bool:=has (cs.getD i 0) v
def Opn (cs:LI)(p:Int)(v:Nat):Prop:=(∃i,i<cs.length∧has p i=true∧ch cs i v=true)∧∃i,i<cs.length∧has p i=false∧ch cs i v=true
def Ft (cs:LI)(p:Int)(k:Nat):Prop:=k<cs.length∧has p k=false∧∀v,Opn cs p v→ch cs k v=true
theorem firstOf_eq (n:Nat):D.R (n:Int)=some (A9 n):=by
 unfold D.R A9
 have:decide ((n:Int)<0)=false:=by simp
 rw[this,cF]
theorem l12Bit_eq {k:Nat}(h:k<32):D.J (k:Int)=some ((2^k:Nat):Int):=by
 unfold D.J
 rw[uw (by omega),unneg,cF,shl64 h,one_eq h]
structure Net (A:LI)(n:Nat):Prop where
 len:A.length=n
 vs:∀u,u<n→VS (A.getD u 0)
 lt:∀u w,u<n→nb A u w=true→w<n
theorem FOk.net {A:LI}{n:Nat}(h:FOk A n):Net A n:=⟨h.len,h.vs,h.lt⟩
structure Rch (A:LI)(W:Int)(v:Nat)(S:Int):Prop where
 vs:VS S
 me:has S v=true
 step:∀x y,has S x=true→nb A x y=true→has W y=true→has S y=true
 least:∀T:Nat→Prop,T v→(∀x y,T x→nb A x y=true→has W y=true→T y)→∀x,has S x=true→T x
theorem reach_ok {A:LI}{n:Nat}(hn:n≤16)(hA:Net A n){v:Nat}(hv:v<n){W:Int}(hW:VS W):∃S,D.T A (v:Int) W=some S∧Rch A W v S∧∀x,has S x=true→x<n:=by
 unfold D.T
 rw[Cm,bs]
 refine AO (λS=>VS S∧has S v=true∧(∀x,has S x=true→x<n)∧∀T:Nat→Prop,T v→(∀x y,T x→nb A x y=true→has W y=true→T y)→∀x,has S x=true→T x) (λS=>n-(Aj S).length)
  (λS=>Rch A W v S∧∀x,has S x=true→x<n) ?_ ?_ (λr hr=>⟨r,rfl,hr⟩)
 ·rintro S ⟨hS,hv',hlt,hT⟩
  have hle:=Bb S
  simp only[DN S hS,bs]
  have hin:=AO (step:=(fun(s_223:Int×Int)=>match s_223 with|(x_226,x_227)=>cond (decide (x_227<((Aj S).length:Int))) ((idx (Aj S) x_227).bind λe_246=>(idx A e_246).bind λe_252=>some (.inl ((ior .u32 x_226 (iand .u32 e_252 W)),(IntKind.i64.wrap (x_227+1))))) (some (.inr x_226)))) (s:=(S,0)) (k:=λr=>some r) (Q:=λX:Int=>VS X∧∀y,has X y=true↔has S y=true∨∃u:Nat,has S u=true∧nb A u y=true∧has W y=true)
   (λs=>∃k:Nat,s.2=(k:Int)∧k≤(Aj S).length∧VS s.1∧∀y,has s.1 y=true↔has S y=true∨∃u:Nat,(u:Int)∈(Aj S).take k∧nb A u y=true∧has W y=true) (λs=>(Aj S).length-s.2.toNat) (λX=>VS X∧∀y,has X y=true↔has S y=true∨∃u:Nat,has S u=true∧nb A u y=true∧has W y=true)
   ?_ ⟨0,rfl,by omega,hS,λy=>by simp⟩ (λr hr=>⟨r,rfl,hr⟩)
  ·obtain⟨X,hX,hX1,hX2⟩:=hin
   rw[Option.bind_eq_some_iff] at hX
   obtain⟨z,e1,e2⟩:=hX
   cases e2
   rw[e1,bs]
   by_cases hc:X=S
   ·subst hc
    simp only[beq_self_eq_true,cT]
    refine⟨_,rfl,⟨hS,hv',λx y h1 h2 h3=>(hX2 y).2 (.inr ⟨x,h1,h2,h3⟩),hT⟩,hlt⟩
   ·have e3:(X==S)=false:=by simpa using hc
    simp only[e3,cF]
    have hXlt:∀x,has X x=true→x<n:=λx hx=>by
     rcases(hX2 x).1 hx with h|⟨u,h1,h2,_⟩
     ·exact hlt x h
     ·exact hA.lt u x (hlt u h1) h2
    refine⟨_,rfl,⟨hX1,(hX2 v).2 (.inl hv'),hXlt,λT h1 h2 x hx=> ?_⟩,?_⟩
    ·rcases(hX2 x).1 hx with h|⟨u,h3,h4,h5⟩
     ·exact hT T h1 h2 x h
     ·exact h2 u x (hT T h1 h2 u h3) h4 h5
    ·
     obtain⟨w,hw,hws⟩:∃w:Nat,has X w=true∧has S w=false:=by
      apply Classical.byContradiction
      intro hno
      refine hc (hX1.ext hS (λw _=> ?_))
      rw[Bool.eq_iff_iff]
      refine⟨λh=> ?_,λh=>(hX2 w).2 (.inl h)⟩
      cases hh:has S w
      ·exact absurd ⟨w,h,hh⟩ hno
      ·rfl
     have h1:((w:Int)::Aj S).length≤(Aj X).length:=BG (List.nodup_cons.2 ⟨λhm=>by rw[AG hS,hws] at hm;exact Bool.noConfusion hm,(Bl S).nodup⟩) (λx hx=>by
      rcases List.mem_cons.1 hx with rfl|hx
      ·rw[AG hX1];exact hw
      ·obtain⟨u,_,h2,rfl⟩:=mem_elems.1 hx
       rw[AG hX1];exact(hX2 u).2 (.inl h2))
     have h2:(Aj X).length≤n:=(Bl X).short (n:=n) (λx hx=>by
      obtain⟨u,_,h2,rfl⟩:=mem_elems.1 hx
      have:=hXlt u h2;omega)
     simp at h1
     show n-(Aj X).length<n-(Aj S).length
     omega
  ·rintro⟨X,_⟩ ⟨k,rfl,hk,hX1,hX2⟩
   dsimp only at hX1 hX2 ⊢
   by_cases hkl:k<(Aj S).length
   ·obtain⟨u,_,h2,h3⟩:=mem_elems.1 (List.getElem_mem hkl)
    have hu:=hlt u h2
    have hAu:idx A (u:Int)=some (A.getD u 0):=by rw[AF (by rw[hA.len];exact hu),A6 (by rw[hA.len];exact hu)]
    simp only[dlt hkl,cT,AF hkl,bs,h3,hAu,wq k]
    refine⟨_,rfl,⟨k+1,rfl,hkl,VS.ior _ _,λy=> ?_⟩,by dsimp only;omega⟩
    dsimp only
    rw[BU hX1 (VS.iand _ _),Bool.or_eq_true,De (hA.vs u hu) hW,Bool.and_eq_true,hX2,List.take_succ_eq_append_getElem hkl,h3]
    constructor
    ·rintro((h|⟨u',h4,h5⟩)|⟨h4,h5⟩)
     ·exact .inl h
     ·exact .inr ⟨u',List.mem_append_left _ h4,h5⟩
     ·exact .inr ⟨u,List.mem_append_right _ (by simp),h4,h5⟩
    ·rintro(h|⟨u',h4,h5,h6⟩)
     ·exact .inl (.inl h)
     ·rcases List.mem_append.1 h4 with h4|h4
      ·exact .inl (.inr ⟨u',h4,h5,h6⟩)
      ·simp at h4
       obtain rfl:u'=u:=by omega
       exact .inr ⟨h5,h6⟩
   ·obtain rfl:k=(Aj S).length:=by omega
    simp only[Bs,cF]
    refine⟨_,rfl,hX1,λy=> ?_⟩
    rw[hX2,List.take_length]
    constructor
    ·rintro(h|⟨u,h1,h2⟩)
     ·exact .inl h
     ·exact .inr ⟨u,(AG hS).1 h1,h2⟩
    ·rintro(h|⟨u,h1,h2⟩)
     ·exact .inl h
     ·exact .inr ⟨u,(AG hS).2 h1,h2⟩
 ·refine⟨VS.ishl _ _,by rw[BE (by omega)];simp,λx hx=> ?_,λT h1 _ x hx=> ?_⟩
  ·rw[BE (by omega)] at hx
   have:=of_decide_eq_true hx;omega
  ·rw[BE (by omega)] at hx
   rw[of_decide_eq_true hx];exact h1
abbrev Pr :=Int×Int×Int
theorem EA {n:Nat}(hn:n≤16):Aj (A9 n)=(List.range n).map Int.ofNat:=by
 refine Inc.ext (Bl _) ?_ (λz=> ?_)
 ·unfold Inc
  rw[List.pairwise_map]
  exact List.Pairwise.imp (fun{a b} h=>by show (a:Int)<(b:Int);omega) List.pairwise_lt_range
 ·rw[mem_elems,List.mem_map]
  constructor
  ·rintro⟨v,_,h,rfl⟩
   rw[CD hn] at h
   exact⟨v,List.mem_range.2 (of_decide_eq_true h),rfl⟩
  ·rintro⟨v,hv,rfl⟩
   have:=List.mem_range.1 hv
   exact⟨v,by omega,by rw[CD hn];exact decide_eq_true this,rfl⟩
theorem D4 {g:LL}(hn:g.length≤16):D.t g=some (Aj (A9 g.length)):=by
 unfold D.t
 rw[EA hn]
 refine(Dn (λi=>((List.range i).map Int.ofNat,(i:Int))) g.length ((List.range g.length).map Int.ofNat) rfl (λi hi=> ?_) ?_).trans rfl
 ·simp only[dlt hi,cT,wq i]
  rw[AY (by simp;omega),bs,List.range_succ,List.map_append];rfl
 ·simp only[Bs,cF]
def tot :LL→Int
 |[]=>0
 |x::xs=>x.length+tot xs
def joinF (n:Nat)(F:LI)(v:Nat)(S:Int):LI:=(List.range n).map λu=>ior .u32 (ior .u32 (F.getD u 0) (if u=v then S else 0)) (if has S u then ishl .u32 1 (v:Int) else 0)
def pl (o:LI)(v:Nat):Nat:=o.idxOf (v:Int)
def Cn (ad:Nat→Nat→Prop)(S:Nat→Prop)(x y:Nat):Prop:=∀T:Nat→Prop,T x→(∀a b,T a→ad a b→S b→T b)→T y
section
variable {ad : Nat → Nat → Prop} {S S' : Nat → Prop} {x y z : Nat}
theorem Cn.refl :Cn ad S x x:=λ_ h _=>h
theorem Cn.step (h:Cn ad S x y)(ha:ad y z)(hz:S z):Cn ad S x z:=λT h1 h2=>h2 _ _ (h T h1 h2) ha hz
theorem Cn.trans (h:Cn ad S x y)(h':Cn ad S y z):Cn ad S x z:=λT h1 h2=>h' T (h T h1 h2) h2
theorem Cn.mono (hs:∀w,S w→S' w)(h:Cn ad S x y):Cn ad S' x y:=λT h1 h2=>h T h1 (λa b p q r=>h2 a b p q (hs _ r))
theorem Cn.mem (h:Cn ad S x y)(hx:S x):S y:=h S hx (λ_ _ _ _ h=>h)
end
def Cj (ad:Nat→Nat→Prop)(S:Nat→Prop):Prop:=∀x y,S x→S y→Cn ad S x y
abbrev Ad (F:LI)(a b:Nat):Prop:=nb F a b=true
abbrev El (s:Int)(x:Nat):Prop:=has s x=true
abbrev Mn (s:Int)(v x:Nat):Prop:=has s x=true∧x≠v
structure Parts (F:LI)(W:Nat→Prop)(l:LI):Prop where
 vs:∀s∈l,VS s
 ne:∀s∈l,∃v,El s v
 sub:∀s∈l,∀x,El s x→W x
 cn:∀s∈l,∀x y,El s x→(El s y↔Cn (Ad F) W x y)
 all:∀x,W x→∃s∈l,El s x
 dis:l.Pairwise λs t=>∀x,¬(El s x∧El t x)
theorem Parts.conn {F:LI}{W:Nat→Prop}{l:LI}(h:Parts F W l):l.length≤1↔Cj (Ad F) W:=by
 constructor
 ·intro hl x y hx hy
  obtain⟨s,hs,h1⟩:=h.all x hx
  obtain⟨t,ht,h2⟩:=h.all y hy
  obtain⟨i,hi,rfl⟩:=List.getElem_of_mem hs
  obtain⟨j,hj,rfl⟩:=List.getElem_of_mem ht
  obtain rfl:i=j:=by omega
  exact(h.cn _ hs x y h1).1 h2
 ·intro hc
  apply Classical.byContradiction
  intro hl
  have h0:0<l.length:=by omega
  have h1:1<l.length:=by omega
  obtain⟨x,hx⟩:=h.ne _ (List.getElem_mem h0)
  obtain⟨y,hy⟩:=h.ne _ (List.getElem_mem h1)
  have hcn:=hc x y (h.sub _ (List.getElem_mem h0) x hx) (h.sub _ (List.getElem_mem h1) y hy)
  have:=(h.cn _ (List.getElem_mem h0) x y hx).2 hcn
  exact(List.pairwise_iff_getElem.1 h.dis) 0 1 h0 h1 (by omega) y ⟨this,hy⟩
section
variable {F : LI} {n : Nat} (hn : n ≤ 16) (hF : FOk F n)
include hn hF
theorem rch_cn {W:Int}{v:Nat}{S:Int}(hR:Rch F W v S)(x:Nat):El S x↔Cn (Ad F) (El W) v x:=
 ⟨λh=>hR.least (λx=>Cn (Ad F) (El W) v x) Cn.refl (λ_ _ p q r=>p.step q r) x h,λh=>h (El S) hR.me (λa b p q r=>hR.step a b p q r)⟩
theorem cn_sym {W:Nat→Prop}(hW:∀x,W x→x<n){x y:Nat}(hx:W x)(h:Cn (Ad F) W x y):Cn (Ad F) W y x:=
 (h (λw=>W w∧Cn (Ad F) W w x) ⟨hx,Cn.refl⟩ (λa b ⟨p1,p2⟩ q r=>⟨r,(Cn.refl.step (hF.sym a b (hW a p1) q) p1).trans p2⟩)).2
theorem partsOf_ok {W:Int}(hW:In n W):∃l,D.o F W=some l∧Parts F (El W) l∧l.length≤16:=by
 have main:=AO (k:=λl=>some l) (Q:=λl=>Parts F (El W) l∧l.length≤16) (step:=fun(s_66:Int×LI)=>match s_66 with|(x_69,l_70)=>cond (x_69 !=0) ((D.e x_69).bind λy_109=>(D.T F y_109 x_69).bind λy_116=>(AK l_70 ([y_116]:LI)).bind λl_127=>some (.inl ((iandNot .u32 x_69 y_116),l_127))) (some (.inr l_70)))
  (s:=(W,([]:LI))) (λq=>VS q.1∧(∀x,El q.1 x→El W x)∧(∀s∈q.2,VS s)∧(∀s∈q.2,∃v,El s v)∧(∀s∈q.2,∀x,El s x→El W x)∧(∀s∈q.2,∀x y,El s x→(El s y↔Cn (Ad F) (El W) x y))∧(∀x,El W x→El q.1 x∨∃s∈q.2,El s x)∧(∀x,El q.1 x→∀s∈q.2,¬El s x)∧(q.2.Pairwise λs t=>∀x,¬(El s x∧El t x))∧q.2.length+(Aj q.1).length≤16)
  (λq=>(Aj q.1).length) (λl=>Parts F (El W) l∧l.length≤16) ?_ ⟨hW.1,λx h=>h,by simp,by simp,by simp,by simp,λx h=> .inl h,by simp,by simp,?_⟩ (λr hr=>⟨r,rfl,hr⟩)
 ·obtain⟨l,e,hl⟩:=main
  refine⟨l,?_,hl⟩
  unfold D.o
  exact e
 ·rintro⟨W',l⟩ ⟨v1,h1,h2,h3,h4,h5,h6,h7,h8,h9⟩
  dsimp only at v1 h1 h2 h3 h4 h5 h6 h7 h8 h9 ⊢
  by_cases h0:W'=0
  ·have:(W' !=0)=false:=by simp[h0]
   rw[this,cF]
   refine⟨_,rfl,⟨h2,h3,h4,h5,λx hx=> ?_,h8⟩,by omega⟩
   rcases h6 x hx with h|h
   ·rw[h0] at h;simp[El,BH] at h
   ·exact h
  ·have:(W' !=0)=true:=by simpa using h0
   rw[this,cT]
   obtain⟨k,hk32,ek,hk,_,_⟩:=Dc v1 h0
   have hkn:=hW.2 k (h1 k hk)
   obtain⟨S,eS,hR,hSn⟩:=reach_ok hn hF.net hkn v1
   have hlen:=Bb W'
   rw[ek,bs,eS,bs,AY (by simp;omega),bs]
   have hSW:∀x,El S x→El W' x:=λx hx=>((rch_cn hn hF hR x).1 hx).mem hk
   have hS':∀x,El (iandNot .u32 W' S) x↔El W' x∧¬El S x:=λx=>by
    unfold El
    rw[Cc v1 hR.vs];simp
   have hWn:∀x,El W x→x<n:=λx hx=>hW.2 x hx
   have hW'n:∀x,El W' x→x<n:=λx hx=>hW.2 x (h1 x hx)
   refine⟨_,rfl,⟨VS.iandNot _ _,λx hx=>h1 x ((hS' x).1 hx).1,?_,?_,?_,?_,λx hx=> ?_,λx hx s hs=> ?_,?_,?_⟩,?_⟩
   ·intro s hs
    rcases List.mem_append.1 hs with h|h
    ·exact h2 s h
    ·simp at h;subst h;exact hR.vs
   ·intro s hs
    rcases List.mem_append.1 hs with h|h
    ·exact h3 s h
    ·simp at h;subst h;exact⟨k,hR.me⟩
   ·intro s hs x hx
    rcases List.mem_append.1 hs with h|h
    ·exact h4 s h x hx
    ·simp at h;subst h;exact h1 x (hSW x hx)
   ·intro s hs x y hx
    rcases List.mem_append.1 hs with h|h
    ·exact h5 s h x y hx
    ·simp at h;subst h
     constructor
     ·intro hy
      have c1:=cn_sym hn hF hW'n hk ((rch_cn hn hF hR x).1 hx)
      exact(c1.trans ((rch_cn hn hF hR y).1 hy)).mono h1
     ·intro hc
      refine hc (El s) hx (λa b ha hab hb=> ?_)
      have haW:=hSW a ha
      rcases h6 b hb with h|⟨t,ht,hbt⟩
      ·exact hR.step a b ha hab h
      ·exfalso
       have:El t a:=(h5 t ht b a hbt).2 (Cn.refl.step (hF.sym a b (hW'n a haW) hab) (h1 a haW))
       exact h7 a haW t ht this
   ·by_cases hxS:El S x
    ·exact .inr ⟨S,by simp,hxS⟩
    ·rcases h6 x hx with h|⟨s,hs,h⟩
     ·exact .inl ((hS' x).2 ⟨h,hxS⟩)
     ·exact .inr ⟨s,by simp[hs],h⟩
   ·obtain⟨p,q⟩:=(hS' x).1 hx
    rcases List.mem_append.1 hs with h|h
    ·exact h7 x p s h
    ·simp at h;subst h;exact q
   ·rw[List.pairwise_append]
    refine⟨h8,by simp,λs hs t ht x ⟨p,q⟩=> ?_⟩
    simp at ht;subst ht
    exact h7 x (hSW x q) s hs p
   ·dsimp only
    have hlt:(Aj (iandNot .u32 W' S)).length+1≤(Aj W').length:=by
     have:=BG (l:=(k:Int)::Aj (iandNot .u32 W' S)) (m:=Aj W') (List.nodup_cons.2 ⟨λhx=> ?_,List.Pairwise.imp (λh e=>by omega) (Bl _)⟩) (λx hx=> ?_)
     ·simpa using this
     ·exact((hS' k).1 ((AG (VS.iandNot _ _)).1 hx)).2 hR.me
     ·rcases List.mem_cons.1 hx with rfl|hx
      ·exact(AG v1).2 hk
      ·obtain⟨w,hw,q,rfl⟩:=mem_elems.1 hx
       exact(AG v1).2 ((hS' w).1 q).1
    simp;omega
   ·dsimp only
    have:=BG (l:=(k:Int)::Aj (iandNot .u32 W' S)) (m:=Aj W') (List.nodup_cons.2 ⟨λhx=> ?_,List.Pairwise.imp (λh e=>by omega) (Bl _)⟩) (λx hx=> ?_)
    ·simp at this;omega
    ·exact((hS' k).1 ((AG (VS.iandNot _ _)).1 hx)).2 hR.me
    ·rcases List.mem_cons.1 hx with rfl|hx
     ·exact(AG v1).2 hk
     ·obtain⟨w,hw,q,rfl⟩:=mem_elems.1 hx
      exact(AG v1).2 ((hS' w).1 q).1
 ·have:=inc_len (n:=n) (Bl W) (λz hz=>by
   obtain⟨w,_,q,rfl⟩:=mem_elems.1 hz
   have:=hW.2 w q;omega)
  simp;omega
end
end Go.Sx

namespace Go.Sx
def Way (ad:Nat→Nat→Prop):List Nat→Prop
 |[]=>True
 |[_]=>True
 |a::b::l=>ad a b∧Way ad (b::l)
structure Hole (ad:Nat→Nat→Prop)(c:List Nat):Prop where
 len:4≤c.length
 nd:c.Nodup
 step:∀i (h:i+1<c.length),ad c[i] c[i+1]
 close:ad (c[c.length-1]'(by omega)) (c[0]'(by omega))
 no:∀i j (_:i+1<j) (hj:j<c.length),¬(i=0∧j=c.length-1)→¬ad (c[i]'(by omega)) c[j]
def NoHole (ad:Nat→Nat→Prop)(X:Nat→Prop):Prop:=∀c,Hole ad c→¬∀x∈c,X x
def Nr (ad:Nat→Nat→Prop)(v:Nat):Nat→Nat→Prop
 |0,_=>False
 |k+1,u=>u=v∨∃w,Nr ad v k w∧ad w u
def Gm (E:Nat→Nat→Prop)(a b c d:Nat):Prop:=E c d∧((a=c∧¬E b d∧b≠d)∨(b=d∧¬E a c∧a≠c))
def Kl (E:Nat→Nat→Prop)(a b c d:Nat):Prop:=∀T:Nat→Nat→Prop,T a b→(∀p q r s,T p q→Gm E p q r s→T r s)→T c d
def AdW (g:LL)(all:Int)(a b:Nat):Prop:=adj g a b∧has all b=true
def Dst (g:LL)(all:Int)(v j u:Nat):Prop:=Nr (AdW g all) v (j+1) u∧¬Nr (AdW g all) v j u
def Av (ad:Nat→Nat→Prop)(X:Nat→Prop)(c z:Nat):Prop:=X z∧z≠c∧¬ad c z
def Apt (ad:Nat→Nat→Prop)(X:Nat→Prop)(a b c:Nat):Prop:=
 X a∧X b∧X c∧a≠b∧a≠c∧b≠c∧¬ad a b∧¬ad a c∧¬ad b c∧Cn ad (Av ad X c) a b∧Cn ad (Av ad X b) a c∧Cn ad (Av ad X a) b c
def Ape (ad:Nat→Nat→Prop)(X S:Nat→Prop)(a b:Nat):Prop:=
 X a∧X b∧a≠b∧¬ad a b∧(∃k,S k∧Cn ad (Av ad X b) a k)∧∃k,S k∧Cn ad (Av ad X a) b k
section
variable {g : LL} (hg : GOk g)
include hg
end
end Go.Sx

namespace Go.Sx
theorem Fu {x y:LI}(hx:x.length≤1000):∃b,D.z0 x y=some b:=by
 unfold D.z0
 by_cases hl:x.length=y.length
 ·have e:((x.length:Int) !=(y.length:Int))=false:=by simp[hl]
  rw[e,cF]
  have:∃b,(Ar (σ:=Int) (ρ:=(Unit) ⊕ (Bool)) (fun(x_71:Int)=>cond (decide (x_71<(x.length:Int))) ((idx x x_71).bind λe_106=>(idx y x_71).bind λe_112=>cond (e_106 !=e_112) ((idx x x_71).bind λe_121=>(idx y x_71).bind λe_127=>some (.inr (.inr (decide (e_121<e_127))))) (some (.inl (IntKind.i64.wrap (x_71+1))))) (some (.inr (.inl ())))) 0)=some b:=by
   have key:∀d i:Nat,i+d=x.length→∃b,(Ar (σ:=Int) (ρ:=(Unit) ⊕ (Bool)) (fun(x_71:Int)=>cond (decide (x_71<(x.length:Int))) ((idx x x_71).bind λe_106=>(idx y x_71).bind λe_112=>cond (e_106 !=e_112) ((idx x x_71).bind λe_121=>(idx y x_71).bind λe_127=>some (.inr (.inr (decide (e_121<e_127))))) (some (.inl (IntKind.i64.wrap (x_71+1))))) (some (.inr (.inl ())))) (i:Int))=some b:=by
    intro d
    induction d with
    |zero=>
     intro i hi
     obtain rfl:i=x.length:=by omega
     exact⟨.inl (),Bo (by simp only[Bs,cF])⟩
    |succ d ih=>
     intro i hi
     have h1:i<x.length:=by omega
     have h2:i<y.length:=by omega
     by_cases he:x[i]=y[i]
     ·have e:(x[i] !=y[i])=false:=by simp[he]
      obtain⟨b,hb⟩:=ih (i+1) (by omega)
      exact⟨b,by rw[BK (s':=((i+1:Nat):Int)) (by simp only[dlt h1,cT,AF h1,AF h2,bs,e,cF,wq i]),hb]⟩
     ·have e:(x[i] !=y[i])=true:=by simpa using he
      exact⟨_,Bo (by simp only[dlt h1,cT,AF h1,AF h2,bs,e];rfl)⟩
   exact key x.length 0 (by omega)
  obtain⟨b,hb⟩:=this
  rw[hb]
  cases b with
  |inl _=>exact⟨_,rfl⟩
  |inr z=>exact⟨_,rfl⟩
 ·have e:((x.length:Int) !=(y.length:Int))=true:=by simp;omega
  rw[e,cT]
  exact⟨_,rfl⟩
def atp (cs o:LI)(k v:Nat):Bool:=ch cs (o.getD k 0).toNat v
theorem full_len {n:Nat}{p:Int}(hn:n≤16)(hp:In n p)(h:∀i,i<n→has p i=true):(Aj p).length=n:=by
 have h2:(Aj p).Nodup:=List.Pairwise.imp (λh e=>by omega) (Bl _)
 have h1:((List.range n).map Int.ofNat).Nodup:=by
  refine List.Pairwise.map _ (λa b hab=> ?_) (List.nodup_range (n:=n))
  intro e;exact hab (Int.ofNat.inj e)
 have hperm:=(List.perm_ext_iff_of_nodup h2 h1).2 (λx=>by
  rw[mem_elems,List.mem_map]
  constructor
  ·rintro⟨v,a,b,rfl⟩
   exact⟨v,List.mem_range.2 (hp.2 v b),rfl⟩
  ·rintro⟨v,hv,rfl⟩
   have:=List.mem_range.1 hv
   exact⟨v,by omega,h v this,rfl⟩)
 rw[hperm.length_eq];simp
def insAt (l:LI)(xs:LL):Nat:=xs.findIdx λx=>decide (rowKey l<rowKey x)
def ins (l:LI)(xs:LL):LL:=xs.take (insAt l xs)++l::xs.drop (insAt l xs)
end Go.Sx



namespace Go.Sx
theorem loop_ex {β:Type}{step:Int→Option (Int ⊕ (Unit ⊕ β))}{n:Nat}(P:Nat→Prop)(Q:β→Prop)(hstep:∀i,i<n→(step (i:Int)=some (.inl ((i+1:Nat):Int))∧¬P i)∨∃z,step (i:Int)=some (.inr (.inr z))∧P i∧Q z)
  (hend:∀i,n≤i→step (i:Int)=some (.inr (.inl ()))):∀(d a:Nat),n≤a+d→(Ar step (a:Int)=some (.inl ())∧∀i,a≤i→i<n→¬P i)∨∃z,Ar step (a:Int)=some (.inr z)∧Q z∧∃i,a≤i∧i<n∧P i:=by
 intro d
 induction d with
 |zero=>
  intro a h
  exact .inl ⟨Bo (hend a (by omega)),λi h1 h2=>by omega⟩
 |succ d ih=>
  intro a h
  by_cases ha:a<n
  ·rcases hstep a ha with⟨e,hn⟩|⟨z,e,hp,hq⟩
   ·rcases ih (a+1) (by omega) with⟨e2,h2⟩|⟨z,e2,hq,i,h3,h4,h5⟩
    ·refine .inl ⟨by rw[BK e,e2],λi h3 h4=> ?_⟩
     by_cases hia:i=a
     ·rw[hia];exact hn
     ·exact h2 i (by omega) h4
    ·exact .inr ⟨z,by rw[BK e,e2],hq,i,by omega,h4,h5⟩
   ·exact .inr ⟨z,Bo e,hq,a,Nat.le_refl _,ha,hp⟩
  ·exact .inl ⟨Bo (hend a (by omega)),λi h1 h2=>by omega⟩
def nearS (F:LI)(p:Pr):Int:=if p.2.2=2 then ishl .u32 1 p.2.1 else if p.2.2=3 then F.getD p.2.1.toNat 0 else if p.2.2=4 then ior .u32 (F.getD p.2.1.toNat 0) (ishl .u32 1 p.2.1) else 0
def Fs (n:Nat):List Pr→LI
 |[]=>List.replicate n 0
 |p::l=>joinF n (Fs n l) p.1.toNat (nearS (Fs n l) p)
def vsOf (l:List Pr):LI:=l.map (·.1)
def Lsts (g:LL)(K:Int):Prop:=In g.length K∧(∀u w,has K u=true→has K w=true→¬adj g u w)∧∀w,w<g.length→has K w=true∨∃v,has K v=true∧adj g v w
theorem into_elems {s:Int}(hs:VS s){v:Nat}(hv:v<32):into (Aj s) (v:Int)=Aj (ior .u32 s (ishl .u32 1 (v:Int))):=by
 refine Inc.ext ((Bl _).into _) (Bl _) (λz=> ?_)
 rw[mem_into,mem_elems,mem_elems]
 constructor
 ·rintro(rfl|⟨w,h3,h4,rfl⟩)
  ·exact⟨v,hv,by rw[BU hs (VS.ishl _ _),BE hv];simp,rfl⟩
  ·exact⟨w,h3,by rw[BU hs (VS.ishl _ _),h4];rfl,rfl⟩
 ·rintro⟨w,h3,h4,rfl⟩
  rw[BU hs (VS.ishl _ _),BE hv,Bool.or_eq_true] at h4
  rcases h4 with h4|h4
  ·exact .inr ⟨w,h3,h4,rfl⟩
  ·exact .inl (by rw[of_decide_eq_true h4])
theorem w9With_ok {x:LI}(hx:Inc x)(hl:x.length≤1000000)(v:Int):∃y,D.N0 x v=some y∧(Inc y∧∀z,z∈y↔z=v∨z∈x):=by
 unfold D.N0
 refine AO (λs=>∃i:Nat,s.2.2=(i:Int)∧i≤x.length∧s.1.length≤i+1∧Inc s.1∧(∀z,z∈s.1↔z∈x.take i∨(s.2.1=true∧z=v))∧(s.2.1=false→∀z∈x.take i,z<v)∧∀z∈s.1,∀w∈x.drop i,z<w) (λs=>x.length-s.2.2.toNat)
  (λr=>r.1.length≤x.length+1∧Inc r.1∧(∀z,z∈r.1↔z∈x∨(r.2=true∧z=v))∧(r.2=false→∀z∈x,z<v)) ?_ ⟨0,rfl,by omega,by simp,by simp[Inc],by simp,by simp,by simp⟩ ?_
 ·rintro⟨l,b,_⟩ ⟨i,rfl,hi,hll,hI,hm,hb,hd⟩
  dsimp only at hll hI hm hb hd ⊢
  by_cases hil:i<x.length
  ·have hdrop:x.drop i=x[i]::x.drop (i+1):=List.drop_eq_getElem_cons hil
   have hlt:∀w∈x.drop (i+1),x[i]<w:=λw hw=>by
    obtain⟨j,hj,rfl⟩:=List.getElem_of_mem hw
    rw[List.getElem_drop]
    exact List.pairwise_iff_getElem.1 hx i (i+1+j) hil (by simp at hj;omega) (by omega)
   have hle:∀z∈l,z<x[i]:=λz hz=>hd z hz _ (by rw[hdrop];exact List.mem_cons_self ..)
   have hincA:∀(l':LI) (c:Int),Inc l'→(∀z∈l',z<c)→Inc (l'++[c]):=λl' c h1 h2=>by
    unfold Inc
    rw[List.pairwise_append]
    exact⟨h1,by simp,λz hz c' hc=>by simp at hc;rw[hc];exact h2 z hz⟩
   have htake:∀z,z∈x.take (i+1)↔z∈x.take i∨z=x[i]:=λz=>by rw[List.take_succ_eq_append_getElem hil,List.mem_append,List.mem_singleton]
   have hw:IntKind.i64.wrap ((i:Int)+1)=((i+1:Nat):Int):=wi (by omega)
   rw[dlt hil,cT]
   simp only[AF hil,bs]
   by_cases hc:b=false∧v<x[i]
   ·obtain⟨rfl,hvx⟩:=hc
    have hlv:∀z∈l,z<v:=λz hz=>by
     rcases(hm z).1 hz with h|⟨h,_⟩
     ·exact hb rfl z h
     ·cases h
    have hli:l.length≤i:=by
     have:=BG (m:=x.take i) (List.Pairwise.imp (λh e=>by omega) hI:l.Nodup) (λz hz=>by
      rcases(hm z).1 hz with h|⟨h,_⟩
      ·exact h
      ·cases h)
     simp at this;omega
    have a1:AK l [v]=some (l++[v]):=AY (by simp;omega)
    have a2:AK (l++[v]) [x[i]]=some (l++[v]++[x[i]]):=AY (by simp;omega)
    simp only[Bool.not_false,cT,decide_eq_true hvx,bs,a1,a2,hw]
    refine⟨_,rfl,⟨i+1,rfl,by omega,by simp;omega,hincA _ _ (hincA _ _ hI hlv) (λz hz=> ?_),λz=> ?_,λh=>(by cases h),λz hz w hwd=> ?_⟩,by dsimp only;omega⟩
    ·rcases List.mem_append.1 hz with hz|hz
     ·exact hle z hz
     ·simp at hz;rw[hz];exact hvx
    ·dsimp only
     rw[List.mem_append,List.mem_append,hm,htake]
     simp only[List.mem_singleton,Bool.false_eq_true,false_and,or_false,true_and]
     constructor
     ·rintro((h|h)|h)
      ·exact .inl (.inl h)
      ·exact .inr h
      ·exact .inl (.inr h)
     ·rintro((h|h)|h)
      ·exact .inl (.inl h)
      ·exact .inr h
      ·exact .inl (.inr h)
    ·dsimp only at hz
     have h1:=hlt w hwd
     rcases List.mem_append.1 hz with hz|hz
     ·rcases List.mem_append.1 hz with hz|hz
      ·have:=hle z hz;omega
      ·simp at hz;omega
     ·simp at hz;omega
   ·have hcf:(cond (!b) (some (decide (v<x[i]))) (some false))=some false:=by
     cases b
     ·rw[Bool.not_false,cT,decide_eq_false (λh=>hc ⟨rfl,h⟩)]
     ·rfl
    rw[hcf]
    simp only[bs,cF]
    have hb2:∃b',(cond b (some true) (some (x[i]==v)))=some b'∧(b'=true↔b=true∨x[i]=v):=by
     cases b
     ·exact⟨_,rfl,by simp⟩
     ·exact⟨_,rfl,by simp⟩
    obtain⟨b',eb,hb'⟩:=hb2
    rw[eb,bs,AY (by simp;omega),bs,hw]
    refine⟨_,rfl,⟨i+1,rfl,by omega,by simp;omega,hincA _ _ hI hle,λz=> ?_,λh z hz=> ?_,λz hz w hwd=> ?_⟩,by dsimp only;omega⟩
    ·dsimp only
     rw[List.mem_append,hm,htake,hb',List.mem_singleton]
     constructor
     ·rintro((h|⟨h,e⟩)|h)
      ·exact .inl (.inl h)
      ·exact .inr ⟨.inl h,e⟩
      ·exact .inl (.inr h)
     ·rintro((h|h)|⟨h|h,e⟩)
      ·exact .inl (.inl h)
      ·exact .inr h
      ·exact .inl (.inr ⟨h,e⟩)
      ·exact .inr (by rw[e,h])
    ·dsimp only at h
     have hbf:b=false:=by
      cases hbb:b
      ·rfl
      ·rw[hb'.2 (.inl hbb)] at h;cases h
     have hne:x[i]≠v:=λe=>by rw[hb'.2 (.inr e)] at h;cases h
     have hnv:¬v<x[i]:=λh=>hc ⟨hbf,h⟩
     rcases(htake z).1 hz with hz|hz
     ·exact hb hbf z hz
     ·omega
    ·dsimp only at hz
     have h1:=hlt w hwd
     rcases List.mem_append.1 hz with hz|hz
     ·have:=hle z hz;omega
     ·simp at hz;omega
  ·obtain rfl:i=x.length:=by omega
   simp only[Bs,cF]
   rw[List.take_length] at hm hb
   exact⟨_,rfl,hll,hI,hm,hb⟩
 ·rintro⟨l,b⟩ ⟨hll,hI,hm,hb⟩
  dsimp only at hll hI hm hb ⊢
  cases b
  ·rw[Bool.not_false,cT,AY (by simp;omega),bs]
   refine⟨_,rfl,?_,λz=> ?_⟩
   ·unfold Inc
    rw[List.pairwise_append]
    refine⟨hI,by simp,λz hz c hc=> ?_⟩
    simp at hc;rw[hc]
    rcases(hm z).1 hz with h|⟨h,_⟩
    ·exact hb rfl z h
    ·cases h
   ·rw[List.mem_append,hm,List.mem_singleton]
    simp only[Bool.false_eq_true,false_and,or_false]
    exact Or.comm
  ·refine⟨_,rfl,hI,λz=> ?_⟩
   rw[hm]
   simp only[true_and]
   exact Or.comm
theorem row_more (g:LL)(v:Nat):row (g++[[]]) v=row g v:=by
 unfold row
 rw[List.getD_eq_getElem?_getD,List.getD_eq_getElem?_getD]
 by_cases h:v<g.length
 ·rw[List.getElem?_append_left h]
 ·rw[List.getElem?_append_right (by omega),List.getElem?_eq_none (show g.length≤v by omega)]
  by_cases h2:v-g.length=0
  ·rw[h2];rfl
  ·rw[List.getElem?_eq_none (by simp;omega)]
theorem GOk.more {g:LL}(hg:GOk g)(h16:g.length<16):GOk (g++[[]]):=by
 have hl:(g++[[]]).length=g.length+1:=by simp
 have hadj:∀u v,adj (g++[[]]) u v↔adj g u v:=λu v=>by unfold adj;rw[row_more]
 have hn:∀u v,adj g u v→u<g.length:=λu v h=>by
  apply Classical.byContradiction
  intro hc
  unfold adj row at h
  rw[List.getD_eq_getElem?_getD,List.getElem?_eq_none (by omega)] at h
  simp at h
 refine⟨by omega,by omega,λv _=> ?_,λv _ h=> ?_,λu v _ h=> ?_⟩
 ·rw[row_more]
  by_cases hv:v<g.length
  ·exact⟨(hg.rows v hv).1,λx hx=>by have:=(hg.rows v hv).2 x hx;omega⟩
  ·unfold row
   rw[List.getD_eq_getElem?_getD,List.getElem?_eq_none (by omega)]
   exact⟨by simp[Inc],by simp⟩
 ·rw[hadj] at h;exact hg.irr v (hn v v h) h
 ·rw[hadj] at h ⊢;exact hg.sym u v (hn u v h) h
theorem AddedVertex_ok {g:LL}(hg:GOk g)(h16:g.length<16){x:LI}(hx:SetOf x (g.length:Int)):
  ∃y,D.P g x=some y∧(GOk y.1∧y.1.length=g.length+1∧∀u w:Nat,adj y.1 u w↔adj g u w∨(u=g.length∧(w:Int)∈x)∨(w=g.length∧(u:Int)∈x)):=by
 have hxl:=hx.length_le (by omega)
 unfold D.P D.u
 rw[DB g x hg.sh2 (by unfold Sh;omega),Cv hg,(CO _ _).2 hx,bs]
 simp only[Bool.and_self,Bool.not_true,cF,bs]
 rw[show ((g.length:Int)==16)=false by simp;omega,cF,l1CopyGraph_eq hg,bs,AY (by simp;omega),bs]
 refine AO (λs=>∃i:Nat,s.1=(i:Int)∧i≤x.length∧GOk s.2∧s.2.length=g.length+1∧∀u w:Nat,adj s.2 u w↔adj g u w∨(u=g.length∧(w:Int)∈x.take i)∨(w=g.length∧(u:Int)∈x.take i)) (λs=>x.length-s.1.toNat)
  (λG=>GOk G∧G.length=g.length+1∧∀u w:Nat,adj G u w↔adj g u w∨(u=g.length∧(w:Int)∈x)∨(w=g.length∧(u:Int)∈x)) ?_ ⟨0,rfl,by omega,hg.more h16,by simp,λu w=>by unfold adj;rw[row_more];simp⟩ (λG hG=>⟨_,rfl,hG⟩)
 ·rintro⟨_,G⟩ ⟨i,rfl,hi,hG,hGl,hA⟩
  dsimp only at hG hGl hA ⊢
  by_cases hil:i<x.length
  ·skip
   have hr:=hx.2 _ (List.getElem_mem hil)
   obtain⟨u,hu⟩:∃u:Nat,x[i]=(u:Int):=⟨x[i].toNat,by omega⟩
   obtain⟨G',e,k1,k2,k3⟩:=EV hG (u:=u) (v:=g.length) (by omega) (by omega) (by omega)
   rw[dlt hil,cT,AF hil,bs,hu,e,bs,wi (by omega)]
   refine⟨_,rfl,⟨i+1,rfl,by omega,k1,by dsimp only;omega,λa b=> ?_⟩,by dsimp only;omega⟩
   dsimp only
   rw[k3,hA,List.take_succ_eq_append_getElem hil,hu]
   simp only[List.mem_append,List.mem_singleton,Int.natCast_inj]
   constructor
   ·rintro((h|⟨h1,h2⟩|⟨h1,h2⟩)|⟨h1,h2⟩|⟨h1,h2⟩)
    ·exact .inl h
    ·exact .inr (.inl ⟨h1,.inl h2⟩)
    ·exact .inr (.inr ⟨h1,.inl h2⟩)
    ·exact .inr (.inr ⟨h2,.inr h1⟩)
    ·exact .inr (.inl ⟨h1,.inr h2⟩)
   ·rintro(h|⟨h1,h2|h2⟩|⟨h1,h2|h2⟩)
    ·exact .inl (.inl h)
    ·exact .inl (.inr (.inl ⟨h1,h2⟩))
    ·exact .inr (.inr ⟨h1,h2⟩)
    ·exact .inl (.inr (.inr ⟨h1,h2⟩))
    ·exact .inr (.inl ⟨h2,h1⟩)
  ·obtain rfl:i=x.length:=by omega
   simp only[Bs,cF]
   rw[List.take_length] at hA
   exact⟨_,rfl,hG,hGl,hA⟩
theorem l2Of_ok {g:LL}(hg:GOk g){L:LI}(h1:1≤L.length)(h16:L.length≤16)(hr:∀x∈L,0≤x∧x<g.length):
  ∃y,D.w0 g L=some y∧(GOk y∧y.length=L.length∧∀i j,adj y i j↔i<L.length∧j<L.length∧adj g (L.getD i 0).toNat (L.getD j 0).toNat):=by
 have hat:∀i (hi:i<L.length),∃v:Nat,L[i]=(v:Int)∧v<g.length∧(L.getD i 0).toNat=v:=λi hi=>by
  have:=hr _ (List.getElem_mem hi)
  exact⟨L[i].toNat,by omega,by omega,by rw[A6 hi]⟩
 unfold D.w0
 rw[l1Empty_eq _ h16,bs]
 refine AO (λs=>∃v:Nat,s.1=(v:Int)∧v≤L.length∧GOk s.2∧s.2.length=L.length∧∀x y,adj s.2 x y↔(x<v∧y<v)∧adj g (L.getD x 0).toNat (L.getD y 0).toNat) (λs=>L.length-s.1.toNat)
  (λy=>GOk y∧y.length=L.length∧∀i j,adj y i j↔i<L.length∧j<L.length∧adj g (L.getD i 0).toNat (L.getD j 0).toNat) ?_ ⟨0,rfl,by omega,GOk.empty h1 h16,by simp,λx y=>⟨λh=> ?_,λh=>by omega⟩⟩ (λr hr=>⟨r,rfl,hr⟩)
 ·rintro⟨_,G⟩ ⟨v,rfl,hv,hG,hl,hA⟩
  dsimp only at hG hl hA ⊢
  by_cases hvn:v<L.length
  ·rw[dlt hvn,cT]
   obtain⟨a,ea,han,ea'⟩:=hat v hvn
   refine AO (λs=>∃t:Nat,s.1=(t:Int)∧t≤v∧GOk s.2∧s.2.length=L.length∧∀x y,adj s.2 x y↔((x<v∧y<v)∨(x=v∧y<t)∨(y=v∧x<t))∧adj g (L.getD x 0).toNat (L.getD y 0).toNat) (λs=>v-s.1.toNat)
    (λr=>GOk r∧r.length=L.length∧∀x y,adj r x y↔(x<v+1∧y<v+1)∧adj g (L.getD x 0).toNat (L.getD y 0).toNat) ?_ ⟨0,rfl,by omega,hG,hl,λx y=>by rw[hA];simp⟩ (λr hr=>⟨_,rfl,⟨v+1,wi (by omega),by omega,hr⟩,?_⟩)
   ·rintro⟨_,G⟩ ⟨t,rfl,ht,hG,hl,hA⟩
    dsimp only at hG hl hA ⊢
    by_cases htv:t<v
    ·have htL:t<L.length:=by omega
     obtain⟨b,eb,hbn,eb'⟩:=hat t htL
     rw[dlt htv,cT,AF hvn,bs,AF htL,bs,ea,eb,l1Edge_eq g hg han,bs,wq t]
     by_cases hc:(b:Int)∈row g a
     ·have c1:adj g a b:=hc
      have c2:adj g b a:=hg.sym a b han c1
      obtain⟨G',e,k1,k2,k3⟩:=EV hG (u:=t) (v:=v) (by omega) (by omega) (by omega)
      rw[decide_eq_true hc,cT,e,bs]
      refine⟨_,rfl,⟨t+1,rfl,by omega,k1,by dsimp only;omega,λx y=> ?_⟩,by dsimp only;omega⟩
      dsimp only
      rw[k3,hA]
      constructor
      ·rintro(⟨h3,h4⟩|⟨rfl,rfl⟩|⟨rfl,rfl⟩)
       ·exact⟨by omega,h4⟩
       ·exact⟨by omega,by rw[ea',eb'];exact c2⟩
       ·exact⟨by omega,by rw[ea',eb'];exact c1⟩
      ·rintro⟨h3,h4⟩
       by_cases d1:x=v∧y=t
       ·exact .inr (.inr d1)
       ·by_cases d2:x=t∧y=v
        ·exact .inr (.inl d2)
        ·exact .inl ⟨by omega,h4⟩
     ·have c1:¬adj g a b:=hc
      have c2:¬adj g b a:=λh=>c1 (hg.sym b a hbn h)
      rw[decide_eq_false hc,cF]
      refine⟨_,rfl,⟨t+1,rfl,by omega,hG,hl,λx y=> ?_⟩,by dsimp only;omega⟩
      dsimp only
      rw[hA]
      constructor
      ·rintro⟨h3,h4⟩;exact⟨by omega,h4⟩
      ·rintro⟨h3,h4⟩
       refine⟨?_,h4⟩
       by_cases d1:x=v∧y=t
       ·obtain⟨rfl,rfl⟩:=d1
        rw[ea',eb'] at h4;exact absurd h4 c1
       ·by_cases d2:x=t∧y=v
        ·obtain⟨rfl,rfl⟩:=d2
         rw[ea',eb'] at h4;exact absurd h4 c2
        ·omega
    ·obtain rfl:t=v:=by omega
     simp only[Bs,cF]
     refine⟨_,rfl,hG,hl,λx y=> ?_⟩
     rw[hA]
     constructor
     ·rintro⟨h3,h4⟩;exact⟨by omega,h4⟩
     ·rintro⟨h3,h4⟩
      refine⟨?_,h4⟩
      by_cases d:x=t∧y=t
      ·obtain⟨rfl,rfl⟩:=d
       rw[ea'] at h4;exact absurd h4 (hg.irr a han)
      ·omega
   ·dsimp only
    rw[wi (by omega)];omega
  ·obtain rfl:v=L.length:=by omega
   simp only[Bs,cF]
   refine⟨_,rfl,hG,hl,λx y=> ?_⟩
   rw[hA,and_assoc]
 ·unfold adj row at h
  rw[List.getD_eq_getElem?_getD,List.getElem?_replicate] at h
  split at h<;>simp at h
def lf (xs:List (Int×Int))(v:Nat):Int:=(xs.getD v (0,0)).1
def rt (xs:List (Int×Int))(v:Nat):Int:=(xs.getD v (0,0)).2
abbrev ap (a b:Nat):Int×Int:=((a:Int),(b:Int))
section
variable {g : LL} (hg : GOk g)
include hg
end
end Go.Sx

namespace Go.Sx
abbrev Vx (n at' x:Nat):Prop:=x<n∧x≠at'
def PP (F:LI)(n:Nat)(S:Nat→Prop):Prop:=∀c x,S c→S x→x≠c→(∀w,Ad F c w→Cn (Ad F) (Vx n c) x w→S w)∧∀y,S y→y≠c→Cn (Ad F) (Vx n c) x y→Cn (Ad F) (λz=>S z∧z≠c) x y
def Two (S:Int):Prop:=∃x y,El S x∧El S y∧x≠y
section
variable {F : LI} {n : Nat} (hn : n ≤ 16) (hF : FOk F n)
include hn hF
end
end Go.Sx

namespace Go.Sx
def wout (c m:Nat):LI:=((List.range m).filter λu=>decide (u≠c)).map Int.ofNat
theorem mem_wo {c m:Nat}{x:Int}:x∈wout c m↔∃u:Nat,x=(u:Int)∧u<m∧u≠c:=by
 unfold wout
 simp only[List.mem_map,List.mem_filter,List.mem_range,decide_eq_true_eq]
 constructor
 ·rintro⟨u,⟨h1,h2⟩,rfl⟩;exact⟨u,rfl,h1,h2⟩
 ·rintro⟨u,rfl,h1,h2⟩;exact⟨u,⟨h1,h2⟩,rfl⟩
theorem wo_inc (c m:Nat):Inc (wout c m):=by
 unfold Inc wout
 rw[List.pairwise_map]
 exact List.Pairwise.imp (fun{a b} h=>by show (a:Int)<(b:Int);omega) (List.Pairwise.filter _ List.pairwise_lt_range)
theorem into_len' {xs:LI}{n:Int}(h:n∉xs):(into xs n).length=xs.length+1:=by
 unfold into
 rw[if_neg h]
 have:(xs.takeWhile (λx=>decide (x<n))++xs.dropWhile (λx=>decide (x<n))).length=xs.length:=by rw[List.takeWhile_append_dropWhile]
 simp only[List.length_append,List.length_cons] at this ⊢;omega
def pr (a b:Nat):LI:=[(a:Int),(b:Int)]
def Clo (g:LL)(u v a b:Nat):Prop:=∀T:Nat→Nat→Prop,T u v→T v u→(∀a b w,T a b→adj g a w→Cn (adj g) (Vx g.length a) b w→T a w∧T w a)→T a b
section
variable {g : LL} (hg : GOk g)
include hg
end
end Go.Sx

namespace Go.Sx
def allB (n:Nat):LI:=(List.range n).map Int.ofNat
def prt (s t:Int):Bool:=(iandNot .u32 s t)==0
def spareM (M:LI)(l:LI):Option (Nat×Nat):=
 if prt (M.getD (l.getD 1 0).toNat 0) (M.getD (l.getD 0 0).toNat 0) then some ((l.getD 1 0).toNat,(l.getD 0 0).toNat)
 else if prt (M.getD (l.getD 0 0).toNat 0) (M.getD (l.getD 1 0).toNat 0) then some ((l.getD 0 0).toNat,(l.getD 1 0).toNat) else none
def spare (M:LI)(K:LL):Option (Nat×Nat):=(List.range K.length).findSome? (λi=>spareM M (K.getD i []))
theorem idx_elems0 {s:Int}(h:VS s)(h0:s≠0):∃k:Nat,D.e s=some (k:Int)∧idx (Aj s) 0=some (k:Int)∧has s k=true∧0<(Aj s).length:=by
 obtain⟨k,h1,h2,h3,h4,h5⟩:=Dc h h0
 have e:=Fk h1 h3 h4 h5
 exact⟨k,h2,by rw[e];rfl,h3,by rw[e];simp⟩
section
variable {g : LL} (hg : GOk g)
include hg
def prs (P:List (Nat×Nat)):LL:=P.map λp=>pr p.1 p.2
end
end Go.Sx

namespace Go.Sx
def wst (A:Nat→Nat→Bool)(s v u:Nat):Bool:=A v u&& !s.testBit u
def wcnF (A:Nat→Nat→Bool)(n:Nat)(L:Nat→Bool):Nat→Nat→Nat→Nat
 |0,_,_=>0
 |k+1,s,v=>if s=2^n-1 then bit (L v) else sumN (λu=>bit (wst A s v u)*wcnF A n L k (s|||2^u) u) n
def wcn (A:Nat→Nat→Bool)(n:Nat)(L:Nat→Bool)(s v:Nat):Nat:=wcnF A n L (2^n) s v
def rm (n:Nat)(m:Int):Int:=iandNot .u32 (A9 n) m
noncomputable def bh (F:LI)(m v:Int):Int:=(D.y1 F m v).getD 0
noncomputable def indP (p:Prop):Nat:=by classical exact if p then 1 else 0
noncomputable def cntP (n:Nat)(p:Nat→Prop):Nat:=sumN (λv=>indP (p v)) n
section
variable (A : Nat → Nat → Prop) (n : Nat)
def EdI (e:Nat):Prop:=e<n*n∧(e/n=e%n∨A (e/n) (e%n))
def AtI (v:Nat)(P:Nat→Prop):Prop:=∃e,EdI A n e∧P e∧(e/n=v∨e%n=v)
def TI (X:BitVec (n*n))(v:Nat):Prop:=AtI A n v λe=>X.getLsbD e=true
def BdI (X:BitVec (n*n))(v:Nat):Prop:=TI A n X v∧TI A n (~~~X) v
def DelI (m:List (BitVec (n*n)))(v:Nat):Prop:=∃X∈m,BdI A n X v
end
def DisI {N:Nat}(X Y:BitVec N):Prop:=∀e,¬(X.getLsbD e=true∧Y.getLsbD e=true)
def PartI {N:Nat}(m:List (BitVec N)):Prop:=m.Pairwise DisI∧∀e,e<N→∃X∈m,X.getLsbD e=true
end Go.Sx

namespace Go.Sx
def nx (t:LI)(x:Int):Int:=t.getD ((t.idxOf x+1)%t.length) 0
def Pot (n:Nat)(h w:Nat→Nat→Nat)(a:Nat):Nat:=sumN (λk=>sumN (λu=>(if a≤k then w k u else 0)*h k u) n) (2^n)
def zer (n s:Nat):Nat:=sumN (λu=>bit (!s.testBit u)) n
noncomputable def wv (F:LI)(rec:Int→Int)(m v:Int):Int:=if((Aj (bh F m v)).length:Int)<rec (ior .u32 m (ishl .u32 1 v)) then rec (ior .u32 m (ishl .u32 1 v)) else((Aj (bh F m v)).length:Int)
noncomputable def wd (F:LI)(n:Nat):Nat→Int→Int
 |0,_=>0
 |k+1,m=>(Aj (rm n m)).foldl (λb v=>if wv F (wd F n k) m v<b then wv F (wd F n k) m v else b) 16
def Tch (F:LI)(s t:Int):Prop:=∃x y,El s x∧El t y∧(x=y∨nb F x y=true)
noncomputable def bo (F:LI)(n:Nat)(most:Int):Nat→Int→LI
 |0,_=>[]
 |k+1,m=>match(Aj (rm n m)).find? (λv=>decide (wv F (wd F n k) m v≤most)) with
  |some v=>v::bo F n most k (ior .u32 m (ishl .u32 1 v))
  |none=>[]
section
variable {g : LL} (hg : GOk g)
include hg
theorem isSmall_ok (h8:g.length≤8):D.e1 g=some true:=by
 unfold D.e1
 rw[CL g hg.sh2,Cv hg,bs,decide_eq_true (show (g.length:Int)≤8 by omega)]
 rfl
end
end Go.Sx

namespace Go.Sx
def Bef (s t:Int):Prop:=∃m,El s m∧∀x,El t x→m<x
theorem Bef.ext :∀{l l':LI},(∀s∈l,∃x,El s x)→l.Pairwise Bef→l'.Pairwise Bef→(∀s,s∈l↔s∈l')→l=l'
 |[],[],_,_,_,_=>rfl
 |[],t::l',_,_,_,h=>absurd ((h t).2 List.mem_cons_self) (by simp)
 |s::l,[],_,_,_,h=>absurd ((h s).1 List.mem_cons_self) (by simp)
 |s::l,t::l',hne,h1,h2,h=>by
  have hirr:∀u,Bef u u→False:=λu ⟨m,h1,h2⟩=>by have:=h2 m h1;omega
  have hasym:∀u v,Bef u v→Bef v u→False:=λu v ⟨m,h1,h2⟩ ⟨m',h3,h4⟩=>by
   have:=h2 m' h3
   have:=h4 m h1
   omega
  have g1:=List.pairwise_cons.1 h1
  have g2:=List.pairwise_cons.1 h2
  have e:s=t:=by
   rcases List.mem_cons.1 ((h s).1 List.mem_cons_self) with e|e
   ·exact e
   ·rcases List.mem_cons.1 ((h t).2 List.mem_cons_self) with e'|e'
    ·exact e'.symm
    ·exact(hasym s t (g1.1 t e') (g2.1 s e)).elim
  subst e
  rw[Bef.ext (λu hu=>hne u (List.mem_cons_of_mem _ hu)) g1.2 g2.2 (λu=> ?_)]
  constructor
  ·intro hu
   rcases List.mem_cons.1 ((h u).1 (List.mem_cons_of_mem _ hu)) with e|e
   ·subst e;exact(hirr _ (g1.1 _ hu)).elim
   ·exact e
  ·intro hu
   rcases List.mem_cons.1 ((h u).2 (List.mem_cons_of_mem _ hu)) with e|e
   ·subst e;exact(hirr _ (g2.1 _ hu)).elim
   ·exact e
section
variable {F : LI} {n : Nat} (hn : n ≤ 16) (hF : FOk F n)
include hn hF
theorem partsOf_ord {W:Int}(hW:In n W):∃l,D.o F W=some l∧l.Pairwise Bef:=by
 have main:=AO (k:=λl=>some l) (Q:=λl:LI=>l.Pairwise Bef) (step:=fun(s_66:Int×LI)=>match s_66 with|(x_69,l_70)=>cond (x_69 !=0) ((D.e x_69).bind λy_109=>(D.T F y_109 x_69).bind λy_116=>(AK l_70 ([y_116]:LI)).bind λl_127=>some (.inl ((iandNot .u32 x_69 y_116),l_127))) (some (.inr l_70)))
  (s:=(W,([]:LI))) (λq=>VS q.1∧(∀x,El q.1 x→El W x)∧(∀s∈q.2,∃m,El s m∧∀x,El q.1 x→m<x)∧q.2.Pairwise Bef∧q.2.length+(Aj q.1).length≤32)
  (λq=>(Aj q.1).length) (λl=>l.Pairwise Bef) ?_ ⟨hW.1,λx h=>h,by simp,by simp,by have:=Bb W;simp;omega⟩ (λr hr=>⟨r,rfl,hr⟩)
 ·obtain⟨l,e,hl⟩:=main
  refine⟨l,?_,hl⟩
  unfold D.o
  exact e
 ·rintro⟨W',l⟩ ⟨v1,h1,h2,h3,h4⟩
  dsimp only at v1 h1 h2 h3 h4 ⊢
  by_cases h0:W'=0
  ·have:(W' !=0)=false:=by simp[h0]
   rw[this,cF]
   exact⟨_,rfl,h3⟩
  ·have:(W' !=0)=true:=by simpa using h0
   rw[this,cT]
   obtain⟨k,hk32,ek,hk,hkl,_⟩:=Dc v1 h0
   have hkn:=hW.2 k (h1 k hk)
   obtain⟨S,eS,hR,hSn⟩:=reach_ok hn hF.net hkn v1
   rw[ek,bs,eS,bs,AY (by simp;omega),bs]
   have hSW:∀x,El S x→El W' x:=λx hx=>((rch_cn hn hF hR x).1 hx).mem hk
   have hS':∀x,El (iandNot .u32 W' S) x↔El W' x∧¬El S x:=λx=>by
    unfold El
    rw[Cc v1 hR.vs];simp
   have hlt:(Aj (iandNot .u32 W' S)).length+1≤(Aj W').length:=by
    have:=BG (l:=(k:Int)::Aj (iandNot .u32 W' S)) (m:=Aj W') (List.nodup_cons.2 ⟨λhx=>((hS' k).1 ((AG (VS.iandNot _ _)).1 hx)).2 hR.me,(Bl _).nodup⟩) (λx hx=>by
     rcases List.mem_cons.1 hx with rfl|hx
     ·exact(AG v1).2 hk
     ·obtain⟨w,hw,q,rfl⟩:=mem_elems.1 hx
      exact(AG v1).2 ((hS' w).1 q).1)
    simpa using this
   refine⟨_,rfl,⟨VS.iandNot _ _,λx hx=>h1 x ((hS' x).1 hx).1,λs hs=> ?_,?_,by simp;omega⟩,by dsimp only;omega⟩
   ·dsimp only at hs ⊢
    rcases List.mem_append.1 hs with h|h
    ·obtain⟨m,hm,hmx⟩:=h2 s h
     exact⟨m,hm,λx hx=>hmx x ((hS' x).1 hx).1⟩
    ·rw[List.mem_singleton] at h
     subst h
     refine⟨k,hR.me,λx hx=> ?_⟩
     obtain⟨a,b⟩:=(hS' x).1 hx
     apply Classical.byContradiction
     intro hc
     by_cases e:x=k
     ·subst e;exact b hR.me
     ·have:=hkl x (by omega)
      unfold El at a
      rw[this] at a;cases a
   ·dsimp only
    rw[List.pairwise_append]
    refine⟨h3,List.pairwise_singleton _ _,λs hs t ht=> ?_⟩
    rw[List.mem_singleton] at ht
    subst ht
    obtain⟨m,hm,hmx⟩:=h2 s hs
    exact⟨m,hm,λx hx=>hmx x (hSW x hx)⟩
end
end Go.Sx

namespace Go.Sx
theorem DL {s t:Int}(hs:VS s)(ht:VS t)(h:∀x,El s x→El t x){y:Nat}(h1:El t y)(h2:¬El s y):(Aj s).length<(Aj t).length:=by
 have:=BG (l:=(y:Int)::Aj s) (m:=Aj t) (List.nodup_cons.2 ⟨λhx=>h2 ((AG hs).1 hx),(Bl _).nodup⟩) (λx hx=>by
  rcases List.mem_cons.1 hx with rfl|hx
  ·exact(AG ht).2 h1
  ·obtain⟨v,_,hv,rfl⟩:=mem_elems.1 hx
   exact(AG ht).2 (h v hv))
 simp at this
 omega
def Modl (ad:Nat→Nat→Prop)(W M:Nat→Prop):Prop:=(∀x,M x→W x)∧(∃x,M x)∧∀v,W v→¬M v→∀x y,M x→M y→(ad v x↔ad v y)
def Lap (A B:Nat→Prop):Prop:=(∃x,A x∧B x)∧(∃x,A x∧¬B x)∧∃x,B x∧¬A x
def Strg (ad:Nat→Nat→Prop)(W M:Nat→Prop):Prop:=Modl ad W M∧∀T,Modl ad W T→¬Lap M T
def Co (ad:Nat→Nat→Prop)(a b:Nat):Prop:=a≠b∧¬ad a b
def Prp (S A:Nat→Prop):Prop:=∃y,S y∧¬A y
section
variable {ad : Nat → Nat → Prop} {W S M T A B : Nat → Prop}
theorem Modl.trans (h:Modl ad W S)(h':Modl ad S M):Modl ad W M:=
 ⟨λx hx=>h.1 x (h'.1 x hx),h'.2.1,λv hv hn x y hx hy=>by
  by_cases hs:S v
  ·exact h'.2.2 v hs hn x y hx hy
  ·exact h.2.2 v hv hs x y (h'.1 x hx) (h'.1 y hy)⟩
theorem Modl.res (h:Modl ad W T)(hTS:∀x,T x→S x)(hSW:∀x,S x→W x):Modl ad S T:=
 ⟨hTS,h.2.1,λv hv hn x y hx hy=>h.2.2 v (hSW v hv) hn x y hx hy⟩
theorem Modl.un (hA:Modl ad W A)(hB:Modl ad W B){z:Nat}(za:A z)(zb:B z):Modl ad W (λx=>A x∨B x):=
 ⟨λx hx=>hx.elim (hA.1 x) (hB.1 x),⟨z,.inl za⟩,λv hv hn x y hx hy=>by
  have ha:¬A v:=λh=>hn (.inl h)
  have hb:¬B v:=λh=>hn (.inr h)
  have key:∀x,A x∨B x→(ad v x↔ad v z):=λx hx=>hx.elim (λh=>hA.2.2 v hv ha x z h za) (λh=>hB.2.2 v hv hb x z h zb)
  exact(key x hx).trans (key y hy).symm⟩
theorem Modl.all (h:∃x,S x):Modl ad S S:=⟨λ_ h=>h,h,λv hv hn=>absurd hv hn⟩
theorem Modl.one {v:Nat}(hv:S v):Modl ad S (λx=>x=v):=⟨λx hx=>hx▸hv,⟨v,rfl⟩,λu _ _ x y hx hy=>by rw[hx,hy]⟩
theorem Modl.co (h:Modl ad S M):Modl (Co ad) S M:=
 ⟨h.1,h.2.1,λv hv hn x y hx hy=>by
  have h1:v≠x:=λe=>hn (e▸hx)
  have h2:v≠y:=λe=>hn (e▸hy)
  unfold Co
  rw[h.2.2 v hv hn x y hx hy]
  exact⟨λq=>⟨h2,q.2⟩,λq=>⟨h1,q.2⟩⟩⟩
theorem Modl.unco (h:Modl (Co ad) S M):Modl ad S M:=
 ⟨h.1,h.2.1,λv hv hn x y hx hy=>by
  have h1:v≠x:=λe=>hn (e▸hx)
  have h2:v≠y:=λe=>hn (e▸hy)
  have:=h.2.2 v hv hn x y hx hy
  unfold Co at this
  constructor
  ·intro q
   apply Classical.byContradiction
   intro c
   exact(this.2 ⟨h2,c⟩).2 q
  ·intro q
   apply Classical.byContradiction
   intro c
   exact(this.1 ⟨h1,c⟩).2 q⟩
theorem Strg.co (h:Strg ad S M):Strg (Co ad) S M:=⟨h.1.co,λT hT=>h.2 T hT.unco⟩
theorem Strg.unco (h:Strg (Co ad) S M):Strg ad S M:=⟨h.1.unco,λT hT=>h.2 T hT.co⟩
theorem Strg.child (hS:Strg ad W S)(hM:Strg ad S M):Strg ad W M:=by
 refine⟨hS.1.trans hM.1,λT hT ⟨⟨p,p1,p2⟩,⟨q,q1,q2⟩,⟨r,r1,r2⟩⟩=> ?_⟩
 by_cases hr:∀x,T x→S x
 ·exact hM.2 T (hT.res hr hS.1.1) ⟨⟨p,p1,p2⟩,⟨q,q1,q2⟩,⟨r,r1,r2⟩⟩
 ·have⟨r',hr'⟩:∃x,¬(T x→S x):=Classical.not_forall.1 hr
  refine hS.2 T hT ⟨⟨p,hM.1.1 p p1,p2⟩,⟨q,hM.1.1 q q1,q2⟩,⟨r',?_,λh=>hr' λ_=>h⟩⟩
  exact Classical.byContradiction λc=>hr' λh=>absurd h c
theorem Strg.down (hS:Modl ad W S)(hT:Strg ad W T)(hTS:∀x,T x→S x):Strg ad S T:=
 ⟨hT.1.res hTS hS.1,λT' hT'=>hT.2 T' (hS.trans hT')⟩
theorem Strg.all (h:∃x,S x):Strg ad S S:=⟨Modl.all h,λT hT ⟨_,_,⟨r,r1,r2⟩⟩=>r2 (hT.1 r r1)⟩
theorem Strg.congr (h:∀x,M x↔T x)(hM:Strg ad S M):Strg ad S T:=by
 have:M=T:=funext λx=>propext (h x)
 exact this▸hM
end
section
variable {ad : Nat → Nat → Prop} {S T : Nat → Prop} (hs : ∀ a b, S a → ad a b → ad b a)
include hs
theorem Eh {x y:Nat}(hx:S x)(h:Cn ad S x y):Cn ad S y x:=
 (h (λw=>S w∧Cn ad S w x) ⟨hx,Cn.refl⟩ (λa b ⟨p1,p2⟩ q r=>⟨r,(Cn.refl.step (hs a b p1 q) p1).trans p2⟩)).2
theorem cls_modl {x:Nat}(hx:S x):Modl ad S (Cn ad S x):=
 ⟨λy h=>h.mem hx,⟨x,Cn.refl⟩,λv hv hn y z hy hz=>by
  have key:∀y,Cn ad S x y→¬ad v y:=λy hy h=>hn (hy.step (hs v y hv h) hv)
  exact⟨λh=>absurd h (key y hy),λh=>absurd h (key z hz)⟩⟩
theorem cls_strg {x:Nat}(hx:S x):Strg ad S (Cn ad S x):=by
 refine⟨cls_modl hs hx,λT hT ⟨⟨p,p1,p2⟩,⟨q,q1,q2⟩,⟨r,r1,r2⟩⟩=>q2 ?_⟩
 have hpq:Cn ad S p q:=(Eh hs hx p1).trans q1
 refine(hpq (λy=>T y∧Cn ad S x y) ⟨p2,p1⟩ λa b ⟨g1,g2⟩ g3 g4=> ?_).1
 have hb:Cn ad S x b:=g2.step g3 g4
 refine⟨Classical.byContradiction λc=>r2 ?_,hb⟩
 have ha:=g2.mem hx
 have:=(hT.2.2 b g4 c a r g1 r1).1 (hs a b ha g3)
 exact hb.step this (hT.1 r r1)
theorem strg_cls (hT:Strg ad S T)(hp:Prp S T):∃x,T x∧∀y,T y→Cn ad S x y:=by
 obtain⟨x,hx⟩:=hT.1.2.1
 refine⟨x,hx,λy hy=>Classical.byContradiction λc=> ?_⟩
 have hxS:=hT.1.1 x hx
 have hyS:=hT.1.1 y hy
 have hin:∀t,T t→∀u,Cn ad S t u→T u:=λt ht u hu=>Classical.byContradiction λcu=>by
  have htS:=hT.1.1 t ht
  refine hT.2 _ (cls_modl hs htS) ⟨⟨t,ht,Cn.refl⟩,?_,⟨u,hu,cu⟩⟩
  by_cases h1:Cn ad S t x
  ·exact⟨y,hy,λh2=>c ((Eh hs htS h1).trans h2)⟩
  ·exact⟨x,hx,h1⟩
 obtain⟨z,zS,hz⟩:=hp
 have hdz:∀u,Cn ad S z u→¬T u:=λu hu ht=>hz (hin u ht z (Eh hs zS hu))
 refine hT.2 (λu=>Cn ad S x u∨Cn ad S z u) ⟨λu hu=>hu.elim (λh=>h.mem hxS) (λh=>h.mem zS),⟨x,.inl Cn.refl⟩,λv hv hn p q hp hq=> ?_⟩ ⟨⟨x,hx,.inl Cn.refl⟩,⟨y,hy,λh=>h.elim c λh=>hdz y h hy⟩,⟨z,.inr Cn.refl,hz⟩⟩
 have key:∀p,(Cn ad S x p∨Cn ad S z p)→¬ad v p:=λp hp h=>hn (hp.elim (λg=> .inl (g.step (hs v p hv h) hv)) (λg=> .inr (g.step (hs v p hv h) hv)))
 exact⟨λh=>absurd h (key p hp),λh=>absurd h (key q hq)⟩
end
section
variable {ad : Nat → Nat → Prop} {S : Nat → Prop} (hs : ∀ a b, S a → ad a b → ad b a) (hJ : Cj ad S) (hJ' : Cj (Co ad) S)
include hs hJ hJ'
theorem un_prp {A B:Nat→Prop}(hA:Modl ad S A)(hB:Modl ad S B){z:Nat}(za:A z)(zb:B z)(pA:Prp S A)(pB:Prp S B):Prp S (λx=>A x∨B x):=by
 apply Classical.byContradiction
 intro c
 have hall:∀x,S x→A x∨B x:=λx hx=>Classical.byContradiction λh=>c ⟨x,hx,h⟩
 obtain⟨y0,y1,y2⟩:=pA
 obtain⟨x0,x1,x2⟩:=pB
 have hx0:A x0:=(hall x0 x1).resolve_right x2
 have hy0:B y0:=(hall y0 y1).resolve_left y2
 have sy:∀a b,S a→S b→(ad a b↔ad b a):=λa b ha hb=>⟨hs a b ha,hs b a hb⟩
 have key:∀x,S x→¬B x→∀y,B y→(ad x y↔ad x0 y0):=λx hx hn y hy=>by
  have hxA:A x:=(hall x hx).resolve_right hn
  rw[hB.2.2 x hx hn y y0 hy hy0,sy x y0 hx y1,hA.2.2 y0 y1 y2 x x0 hxA hx0,sy y0 x0 y1 x1]
 by_cases hc:ad x0 y0
 ·exact(hJ' x0 y0 x1 y1 (λx=>S x∧¬B x) ⟨x1,x2⟩ λa b ⟨h1,h2⟩ h3 h4=>⟨h4,λhb=>h3.2 ((key a h1 h2 b hb).2 hc)⟩).2 hy0
 ·exact(hJ x0 y0 x1 y1 (λx=>S x∧¬B x) ⟨x1,x2⟩ λa b ⟨h1,h2⟩ h3 h4=>⟨h4,λhb=>hc ((key a h1 h2 b hb).1 h3)⟩).2 hy0
end
def Mx (ad:Nat→Nat→Prop)(S:Nat→Prop)(v u:Nat):Prop:=∃A,Modl ad S A∧Prp S A∧A v∧A u
section
variable {ad : Nat → Nat → Prop} {S : Nat → Prop} (hs : ∀ a b, S a → ad a b → ad b a) (hJ : Cj ad S) (hJ' : Cj (Co ad) S) (hfin : ∃ l : List Nat, ∀ x, S x → x ∈ l)
theorem Mx.self {v w:Nat}(hv:S v)(hw:S w)(hne:w≠v):Mx ad S v v:=⟨_,Modl.one hv,⟨w,hw,hne⟩,rfl,rfl⟩
theorem Mx.sym {v u:Nat}(h:Mx ad S v u):Mx ad S u v:=by obtain⟨A,h1,h2,h3,h4⟩:=h;exact⟨A,h1,h2,h4,h3⟩
theorem Mx.mem {v u:Nat}(h:Mx ad S v u):S u:=by obtain⟨A,h1,h2,h3,h4⟩:=h;exact h1.1 u h4
include hs hJ hJ' hfin
theorem Mx_ex {v:Nat}(hv:Mx ad S v v):∃A,Modl ad S A∧Prp S A∧A v∧∀u,Mx ad S v u↔A u:=by
 obtain⟨l,hl⟩:=hfin
 have key:∀l:List Nat,∃A,Modl ad S A∧Prp S A∧A v∧∀u∈l,Mx ad S v u→A u:=by
  intro l
  induction l with
  |nil=>obtain⟨A,h1,h2,h3,_⟩:=hv;exact⟨A,h1,h2,h3,λu hu=>by cases hu⟩
  |cons x l ih=>
   obtain⟨A,h1,h2,h3,h4⟩:=ih
   by_cases hx:Mx ad S v x
   ·obtain⟨B,g1,g2,g3,g4⟩:=hx
    refine⟨λu=>A u∨B u,h1.un g1 h3 g3,un_prp hs hJ hJ' h1 g1 h3 g3 h2 g2,.inl h3,λu hu hm=> ?_⟩
    rcases List.mem_cons.1 hu with rfl|hu
    ·exact .inr g4
    ·exact .inl (h4 u hu hm)
   ·refine⟨A,h1,h2,h3,λu hu hm=> ?_⟩
    rcases List.mem_cons.1 hu with rfl|hu
    ·exact absurd hm hx
    ·exact h4 u hu hm
 obtain⟨A,h1,h2,h3,h4⟩:=key l
 exact⟨A,h1,h2,h3,λu=>⟨λh=>h4 u (hl u h.mem) h,λh=>⟨A,h1,h2,h3,h⟩⟩⟩
theorem Mx_modl {v:Nat}(hv:Mx ad S v v):Modl ad S (Mx ad S v)∧Prp S (Mx ad S v):=by
 obtain⟨A,h1,h2,h3,h4⟩:=Mx_ex hs hJ hJ' hfin hv
 have e:A=Mx ad S v:=funext λx=>propext (h4 x).symm
 rw[←e];exact⟨h1,h2⟩
theorem Db {v u w:Nat}(h:Mx ad S v u)(h':Mx ad S u w):Mx ad S v w:=by
 obtain⟨A,h1,h2,h3,h4⟩:=h
 obtain⟨B,g1,g2,g3,g4⟩:=h'
 exact⟨_,h1.un g1 h4 g3,un_prp hs hJ hJ' h1 g1 h4 g3 h2 g2,.inl h3,.inr g4⟩
theorem Mx_strg {v:Nat}(hv:Mx ad S v v):Strg ad S (Mx ad S v):=by
 obtain⟨h1,h2⟩:=Mx_modl hs hJ hJ' hfin hv
 refine⟨h1,λT hT ⟨⟨p,p1,p2⟩,⟨q,q1,q2⟩,⟨r,r1,r2⟩⟩=>r2 ?_⟩
 exact Db hs hJ hJ' hfin p1 ⟨T,hT,⟨q,h1.1 q q1,q2⟩,p2,r1⟩
end
end Go.Sx

namespace Go.Sx
section
variable {ad : Nat → Nat → Prop} {S : Nat → Prop} (hs : ∀ a b, S a → ad a b → ad b a) (hJ : Cj ad S) (hJ' : Cj (Co ad) S) (hfin : ∃ l : List Nat, ∀ x, S x → x ∈ l) {R : Nat → Prop}
 (hR:∀x,S x→∃r,R r∧Mx ad S r x) (hRS:∀r,R r→S r) (hR1:∀r r',R r→R r'→Mx ad S r r'→r=r')
include hs hJ hJ' hfin hR hRS hR1
theorem E6 {r v x:Nat}(h:Mx ad S r x)(hv:S v)(hn:¬Mx ad S r v):ad v x↔ad v r:=by
 have hr:Mx ad S r r:=Db hs hJ hJ' hfin h h.sym
 exact(Mx_modl hs hJ hJ' hfin hr).1.2.2 v hv hn x r h hr
theorem quo_prime {N:Nat→Prop}(hN:Modl ad R N){p q:Nat}(hp:N p)(hq:N q)(hpq:p≠q):∀r,R r→N r:=by
 intro r0 hr0
 apply Classical.byContradiction
 intro hn
 have sy:∀a b,S a→S b→(ad a b↔ad b a):=λa b ha hb=>⟨hs a b ha,hs b a hb⟩
 have key:∀{v x:Nat},S v→¬(∃r,N r∧Mx ad S r v)→(∃r,N r∧Mx ad S r x)→∀{rv},R rv→Mx ad S rv v→(ad v x↔ad rv p):=by
  rintro v x hv hnv ⟨r,hr,hx⟩ rv hrv hv'
  have hrR:=hN.1 r hr
  have h1:¬Mx ad S r v:=λh=>hnv ⟨r,hr,h⟩
  have h2:¬Mx ad S rv r:=λh=>h1 (by rw[hR1 r rv hrR hrv h.sym];exact hv')
  have h3:¬N rv:=λh=>hnv ⟨rv,h,hv'⟩
  rw[E6 hs hJ hJ' hfin hR hRS hR1 hx hv h1,sy v r hv (hRS r hrR),E6 hs hJ hJ' hfin hR hRS hR1 hv' (hRS r hrR) h2,sy r rv (hRS r hrR) (hRS rv hrv)]
  exact hN.2.2 rv hrv h3 r p hr hp
 have hrp:∀r,R r→Mx ad S r r:=λr hr=>by
  obtain⟨r',h1,h2⟩:=hR r (hRS r hr)
  exact Db hs hJ hJ' hfin h2.sym h2
 have hU:Modl ad S (λx=>∃r,N r∧Mx ad S r x):=by
  refine⟨λx ⟨r,_,h⟩=>h.mem,⟨p,p,hp,hrp p (hN.1 p hp)⟩,λv hv hn x y hx hy=> ?_⟩
  obtain⟨rv,h1,h2⟩:=hR v hv
  rw[key hv hn hx h1 h2,key hv hn hy h1 h2]
 have hP:Prp S (λx=>∃r,N r∧Mx ad S r x):=⟨r0,hRS r0 hr0,fun⟨r,h1,h2⟩=>hn (by rw[←hR1 r r0 (hN.1 r h1) hr0 h2];exact h1)⟩
 exact hpq (hR1 p q (hN.1 p hp) (hN.1 q hq) ⟨_,hU,hP,⟨p,hp,hrp p (hN.1 p hp)⟩,⟨q,hq,hrp q (hN.1 q hq)⟩⟩)
theorem quo_four {l:List Nat}(hl:∀r,R r↔r∈l)(hnd:l.Nodup)(hne:∃x,S x):4≤l.length:=by
 have sy:∀a b,S a→S b→(ad a b↔ad b a):=λa b ha hb=>⟨hs a b ha,hs b a hb⟩
 obtain⟨x,hx⟩:=hne
 match l,hl,hnd with
 |[],hl,_=>obtain⟨r,hr,_⟩:=hR x hx;exact absurd ((hl r).1 hr) (by simp)
 |[a],hl,_=>
  obtain⟨r,hr,hm⟩:=hR x hx
  obtain⟨A,h1,⟨y,y1,y2⟩,h3,h4⟩:=hm
  obtain⟨r',hr',hm'⟩:=hR y y1
  have e1:r=a:=by simpa using (hl r).1 hr
  have e2:r'=a:=by simpa using (hl r').1 hr'
  subst e1;subst e2
  have hrr:Mx ad S r' r':=⟨A,h1,⟨y,y1,y2⟩,h3,h3⟩
  obtain⟨B,g1,⟨z,z1,z2⟩,g3,g4⟩:=Mx_ex hs hJ hJ' hfin hrr
  obtain⟨r'',hr'',hm''⟩:=hR z z1
  have e3:r''=r':=by simpa using (hl r'').1 hr''
  subst e3
  exact absurd ((g4 z).1 hm'') z2
 |[a,b],hl,hnd=>
  have ha:=(hl a).2 (by simp)
  have hb:=(hl b).2 (by simp)
  have hab:a≠b:=by simp at hnd;exact hnd
  have hrp:∀r,R r→Mx ad S r r:=λr hr=>by
   obtain⟨r',h1,h2⟩:=hR r (hRS r hr)
   exact Db hs hJ hJ' hfin h2.sym h2
  have hnab:¬Mx ad S a b:=λh=>hab (hR1 a b ha hb h)
  have two:∀y,S y→¬Mx ad S a y→Mx ad S b y:=λy hy hn=>by
   obtain⟨r,hr,hm⟩:=hR y hy
   have:r=a∨r=b:=by simpa using (hl r).1 hr
   rcases this with rfl|rfl
   ·exact absurd hm hn
   ·exact hm
  have key:∀y z,Mx ad S a y→Mx ad S b z→(ad y z↔ad a b):=λy z hy hz=>by
   have h1:¬Mx ad S b y:=λh=>hnab (Db hs hJ hJ' hfin hy h.sym)
   have hyS:=hy.mem
   rw[E6 hs hJ hJ' hfin hR hRS hR1 hz hyS h1,sy y b hyS (hRS b hb),E6 hs hJ hJ' hfin hR hRS hR1 hy (hRS b hb) hnab,sy b a (hRS b hb) (hRS a ha)]
  by_cases hc:ad a b
  ·refine absurd (hJ' a b (hRS a ha) (hRS b hb) (Mx ad S a) (hrp a ha) λp q h1 h2 h3=> ?_) hnab
   exact Classical.byContradiction λhn=>h2.2 ((key p q h1 (two q h3 hn)).2 hc)
  ·refine absurd (hJ a b (hRS a ha) (hRS b hb) (Mx ad S a) (hrp a ha) λp q h1 h2 h3=> ?_) hnab
   exact Classical.byContradiction λhn=>hc ((key p q h1 (two q h3 hn)).1 h2)
 |[a,b,c],hl,hnd=>
  have ha:=(hl a).2 (by simp)
  have hb:=(hl b).2 (by simp)
  have hc:=(hl c).2 (by simp)
  simp at hnd
  obtain⟨⟨nab,nac⟩,nbc⟩:=hnd
  have mk:∀p q o:Nat,R p→R q→R o→p≠q→o≠p→o≠q→(∀r,R r→r=p∨r=q∨r=o)→(ad o p↔ad o q)→False:=λp q o hp hq ho n1 n2 n3 hall hh=>by
   have hN:Modl ad R (λr=>r=p∨r=q):=by
    refine⟨λr hr=>hr.elim (λe=>e▸hp) (λe=>e▸hq),⟨p,.inl rfl⟩,λv hv hn x y hx hy=> ?_⟩
    have:v=o:=by
     rcases hall v hv with h|h|h
     ·exact absurd (.inl h) hn
     ·exact absurd (.inr h) hn
     ·exact h
    subst this
    rcases hx with rfl|rfl<;>rcases hy with rfl|rfl
    ·exact Iff.rfl
    ·exact hh
    ·exact hh.symm
    ·exact Iff.rfl
   rcases quo_prime hs hJ hJ' hfin hR hRS hR1 hN (.inl rfl) (.inr rfl) n1 o ho with h|h
   ·exact n2 h
   ·exact n3 h
  have hall:∀r,R r→r=a∨r=b∨r=c:=λr hr=>by simpa using (hl r).1 hr
  exfalso
  by_cases h1:(ad a b↔ad a c)
  ·exact mk b c a hb hc ha nbc nab nac (λr hr=>by rcases hall r hr with h|h|h<;>simp[h]) h1
  ·by_cases h2:(ad b a↔ad b c)
   ·exact mk a c b ha hc hb nac (Ne.symm nab) nbc (λr hr=>by rcases hall r hr with h|h|h<;>simp[h]) h2
   ·refine mk a b c ha hb hc nab (Ne.symm nac) (Ne.symm nbc) (λr hr=>by rcases hall r hr with h|h|h<;>simp[h]) ?_
    rw[sy b a (hRS b hb) (hRS a ha)] at h2
    rw[sy c a (hRS c hc) (hRS a ha),sy c b (hRS c hc) (hRS b hb)]
    constructor
    ·intro q;apply Classical.byContradiction;intro nq
     by_cases h3:ad a b
     ·exact h1 ⟨λ_=>q,λ_=>h3⟩
     ·exact h2 ⟨λh=>absurd h h3,λh=>absurd h nq⟩
    ·intro q;apply Classical.byContradiction;intro nq
     by_cases h3:ad a b
     ·exact h2 ⟨λ_=>q,λ_=>h3⟩
     ·exact h1 ⟨λh=>absurd h h3,λh=>absurd h nq⟩
 |_::_::_::_::_,_,_=>simp
end
end Go.Sx

namespace Go.Sx
inductive FT where
 |nil:FT
 |cons (k s:Int) (c r:FT):FT
def FT.sz :FT→Nat
 | .nil=>0
 | .cons _ _ c r=>c.sz+1+r.sz
def FT.rts :FT→Nat→LI
 | .nil,_=>[]
 | .cons _ _ c r,o=>((o+c.sz:Nat):Int)::r.rts (o+c.sz+1)
def FT.tops :FT→LI
 | .nil=>[]
 | .cons _ s _ r=>s::r.tops
def FT.kds :FT→LI
 | .nil=>[]
 | .cons k _ _ r=>k::r.kds
def lst (s:Int):Int:=((List.range 32).find? λv=>has s v).elim 0 Int.ofNat
def FT.em :FT→Nat→List (Int×Int×LI)
 | .nil,_=>[]
 | .cons k s c r,o=>c.em o++(k,(if k=1 then lst s else 0),c.rts o)::r.em (o+c.sz+1)
def FT.sts :FT→LI
 | .nil=>[]
 | .cons _ s c r=>c.sts++s::r.sts
def FT.all (P:Int→Int→LI→LI→Prop):FT→Prop
 | .nil=>True
 | .cons k s c r=>P k s c.kds c.tops∧c.all P∧r.all P
theorem FT.em_len :∀(f:FT) (o:Nat),(f.em o).length=f.sz
 | .nil,_=>rfl
 | .cons k s c r,o=>by simp[FT.em,FT.sz,c.em_len,r.em_len];omega
theorem FT.sts_len :∀f:FT,f.sts.length=f.sz
 | .nil=>rfl
 | .cons k s c r=>by simp[FT.sts,FT.sz,c.sts_len,r.sts_len];omega
theorem FT.rts_len :∀(f:FT) (o:Nat),(f.rts o).length=f.tops.length
 | .nil,_=>rfl
 | .cons k s c r,o=>by simp[FT.rts,FT.tops,r.rts_len]
theorem FT.rts_rng :∀(f:FT) (o:Nat),∀x∈f.rts o,(o:Int)≤x∧x<((o+f.sz:Nat):Int)
 | .nil,_,x,h=>by cases h
 | .cons k s c r,o,x,h=>by
  rcases List.mem_cons.1 h with rfl|h
  ·simp only[FT.sz];omega
  ·have:=r.rts_rng _ x h
   simp only[FT.sz];omega
theorem FT.rts_get :∀(f:FT) (o i:Nat) (L R:LI),L.length=o→i<f.tops.length→(L++f.sts++R)[((f.rts o).getD i 0).toNat]? =some (f.tops.getD i 0)
 | .nil,_,_,_,_,_,h=>by simp[FT.tops] at h
 | .cons k s c r,o,0,L,R,hL,_=>by
  simp only[FT.rts,FT.tops,List.getD_cons_zero,FT.sts]
  rw[Int.toNat_natCast,List.append_assoc,List.getElem?_append_right (by omega),hL,Nat.add_sub_cancel_left,List.append_assoc,List.getElem?_append_right (by rw[c.sts_len];exact Nat.le_refl _),c.sts_len,Nat.sub_self]
  rfl
 | .cons k s c r,o,i+1,L,R,hL,h=>by
  simp only[FT.tops,List.length_cons] at h
  have:=r.rts_get (o+c.sz+1) i (L++c.sts++[s]) R (by simp[hL,c.sts_len];omega) (by omega)
  simp only[FT.rts,FT.tops,List.getD_cons_succ,FT.sts]
  rw[show L++(c.sts++s::r.sts)++R=L++c.sts++[s]++r.sts++R by simp]
  exact this
theorem FT.kds_get :∀(f:FT) (o i:Nat) (L R:List (Int×Int×LI)),L.length=o→i<f.tops.length→∃y,(L++f.em o++R)[((f.rts o).getD i 0).toNat]? =some y∧y.1=f.kds.getD i 0
 | .nil,_,_,_,_,_,h=>by simp[FT.tops] at h
 | .cons k s c r,o,0,L,R,hL,_=>by
  simp only[FT.rts,FT.kds,List.getD_cons_zero,FT.em]
  rw[Int.toNat_natCast,List.append_assoc,List.getElem?_append_right (by omega),hL,Nat.add_sub_cancel_left,List.append_assoc,List.getElem?_append_right (by rw[c.em_len];exact Nat.le_refl _),c.em_len,Nat.sub_self]
  exact⟨_,rfl,rfl⟩
 | .cons k s c r,o,i+1,L,R,hL,h=>by
  simp only[FT.tops,List.length_cons] at h
  have:=r.kds_get (o+c.sz+1) i (L++c.em o++[(k,(if k=1 then lst s else 0),c.rts o)]) R (by simp[hL,c.em_len];omega) (by omega)
  simp only[FT.rts,FT.kds,List.getD_cons_succ,FT.em]
  rw[show L++(c.em o++(k,(if k=1 then lst s else 0),c.rts o)::r.em (o+c.sz+1))++R=L++c.em o++[(k,(if k=1 then lst s else 0),c.rts o)]++r.em (o+c.sz+1)++R by simp]
  exact this
theorem FT.at :∀(f:FT) (o i:Nat),i<f.sz→∃k s c o',f.sts[i]? =some s∧(f.em o)[i]? =some (k,(if k=1 then lst s else 0),FT.rts c o')∧o≤o'∧o'+c.sz=o+i∧
  (∀P,f.all P→P k s c.kds c.tops∧c.all P)∧(∀j,j<c.sz→(f.em o)[o'-o+j]? =(c.em o')[j]?∧f.sts[o'-o+j]? =c.sts[j]?)
 | .nil,_,_,h=>by simp[FT.sz] at h
 | .cons k s c r,o,i,h=>by
  simp only[FT.sz] at h
  have hcl:=c.em_len o
  have hcs:=c.sts_len
  by_cases h1:i<c.sz
  ·obtain⟨k',s',c',o',e1,e2,e3,e4,e5,e6⟩:=c.at o i h1
   refine⟨k',s',c',o',?_,?_,e3,e4,λP hP=>e5 P hP.2.1,λj hj=> ?_⟩
   ·simp only[FT.sts];rw[List.getElem?_append_left (by omega)];exact e1
   ·simp only[FT.em];rw[List.getElem?_append_left (by omega)];exact e2
   ·simp only[FT.em,FT.sts]
    rw[List.getElem?_append_left (by omega),List.getElem?_append_left (by omega)]
    exact e6 j hj
  ·by_cases h2:i=c.sz
   ·subst h2
    refine⟨k,s,c,o,?_,?_,Nat.le_refl _,rfl,λP hP=>⟨hP.1,hP.2.1⟩,λj hj=> ?_⟩
    ·simp only[FT.sts];rw[List.getElem?_append_right (by omega),hcs,Nat.sub_self];rfl
    ·simp only[FT.em];rw[List.getElem?_append_right (by omega),hcl,Nat.sub_self];rfl
    ·simp only[FT.em,FT.sts]
     rw[Nat.sub_self,Nat.zero_add,List.getElem?_append_left (by omega),List.getElem?_append_left (by omega)]
     exact⟨rfl,rfl⟩
   ·obtain⟨k',s',c',o',e1,e2,e3,e4,e5,e6⟩:=r.at (o+c.sz+1) (i-(c.sz+1)) (by omega)
    refine⟨k',s',c',o',?_,?_,by omega,by omega,λP hP=>e5 P hP.2.2,λj hj=> ?_⟩
    ·simp only[FT.sts]
     rw[List.getElem?_append_right (by omega),hcs,show i-c.sz=(i-(c.sz+1))+1 by omega,List.getElem?_cons_succ];exact e1
    ·simp only[FT.em]
     rw[List.getElem?_append_right (by omega),hcl,show i-c.sz=(i-(c.sz+1))+1 by omega,List.getElem?_cons_succ];exact e2
    ·obtain⟨g1,g2⟩:=e6 j hj
     simp only[FT.em,FT.sts]
     rw[List.getElem?_append_right (by omega),List.getElem?_append_right (by omega),hcl,hcs,show o'-o+j-c.sz=(o'-(o+c.sz+1)+j)+1 by omega,List.getElem?_cons_succ,List.getElem?_cons_succ]
     exact⟨g1,g2⟩
theorem FT.all_mono {P Q:Int→Int→LI→LI→Prop}(h:∀k s a b,P k s a b→Q k s a b):∀f:FT,f.all P→f.all Q
 | .nil,_=>trivial
 | .cons k s c r,hf=>⟨h _ _ _ _ hf.1,c.all_mono h hf.2.1,r.all_mono h hf.2.2⟩
def mtr (kin:Int→Int×LI):Nat→LI→FT
 |0,_=> .nil
 |n+1,l=>l.foldr (λs r=> .cons (kin s).1 s (mtr kin n (kin s).2) r) .nil
theorem CH (kin:Int→Int×LI):∀n,mtr kin n []= .nil
 |0=>rfl
 |_+1=>rfl
theorem Cb (kin:Int→Int×LI)(n:Nat)(s:Int)(l:LI):mtr kin (n+1) (s::l)= .cons (kin s).1 s (mtr kin n (kin s).2) (mtr kin (n+1) l):=rfl
theorem Dt (kin:Int→Int×LI)(n:Nat):∀l,(mtr kin (n+1) l).tops=l
 |[]=>rfl
 |s::l=>by rw[Cb,FT.tops,Dt kin n l]
theorem mtr_kds (kin:Int→Int×LI)(n:Nat):∀l,(mtr kin (n+1) l).kds=l.map λt=>(kin t).1
 |[]=>rfl
 |s::l=>by rw[Cb,FT.kds,mtr_kds kin n l,List.map_cons]
def Nd (kin:Int→Int×LI)(Q:Int→Prop)(k s:Int)(ks ts:LI):Prop:=Q s∧k=(kin s).1∧ts=(kin s).2∧ks=ts.map λt=>(kin t).1
theorem E4 {kin:Int→Int×LI}{Q:Int→Prop}{μ:Int→Nat}(hk:∀s,Q s→∀t∈(kin s).2,Q t∧μ t<μ s):∀(n:Nat) (l:LI),(∀s∈l,Q s∧μ s<n)→(mtr kin n l).all (Nd kin Q)
 |0,l,h=>trivial
 |n+1,[],h=>trivial
 |n+1,s::l,h=>by
  obtain⟨h1,h2⟩:=h s (List.mem_cons_self ..)
  have hkid:∀t∈(kin s).2,Q t∧μ t<n:=λt ht=>by
   obtain⟨g1,g2⟩:=hk s h1 t ht
   exact⟨g1,by omega⟩
  have ht:(mtr kin n (kin s).2).tops=(kin s).2∧(mtr kin n (kin s).2).kds=(kin s).2.map λt=>(kin t).1:=by
   cases hk2:(kin s).2 with
   |nil=>rw[CH];exact⟨rfl,rfl⟩
   |cons t l'=>
    obtain⟨m,rfl⟩:∃m,n=m+1:=⟨n-1,by have:=(hkid t (by rw[hk2];exact List.mem_cons_self ..)).2;omega⟩
    exact⟨Dt kin m _,mtr_kds kin m _⟩
  rw[Cb]
  refine⟨⟨h1,rfl,ht.1,?_⟩,E4 hk n _ hkid,E4 hk (n+1) l λt ht=>h t (List.mem_cons_of_mem _ ht)⟩
  rw[ht.1];exact ht.2
structure Kids (n:Nat)(s:Int)(ts:LI):Prop where
 sub:∀t∈ts,In n t∧(∃v,El t v)∧∀v,El t v→El s v
 cov:ts≠[]→∀v,El s v→∃t∈ts,El t v
 dis:ts.Pairwise λa b=>∀x,¬(El a x∧El b x)
 ord:ts.Pairwise Bef
 two:ts=[]∨2≤ts.length
theorem Kids.prp {n:Nat}{s:Int}{ts:LI}(h:Kids n s ts){t:Int}(ht:t∈ts):∃y,El s y∧¬El t y:=by
 have h2:2≤ts.length:=h.two.resolve_left λe=>by rw[e] at ht;cases ht
 obtain⟨i,hi,rfl⟩:=List.getElem_of_mem ht
 have hd:=List.pairwise_iff_getElem.1 h.dis
 by_cases h0:i=0
 ·subst h0
  obtain⟨_,⟨y,hy⟩,hs⟩:=h.sub ts[1] (List.getElem_mem _)
  exact⟨y,hs y hy,λc=>hd 0 1 hi h2 (by omega) y ⟨c,hy⟩⟩
 ·obtain⟨_,⟨y,hy⟩,hs⟩:=h.sub ts[0] (List.getElem_mem _)
  exact⟨y,hs y hy,λc=>hd 0 i (by omega) hi (by omega) y ⟨hy,c⟩⟩
theorem Ep {n:Nat}{P:Int→Int→LI→LI→Prop}(hP:∀k s ks ts,P k s ks ts→Kids n s ts∧In n s∧∃v,El s v):∀f:FT,f.all P→∀X∈f.sts,(∃v,El X v)∧In n X∧∃t∈f.tops,∀v,El X v→El t v
 | .nil,_,X,h=>by cases h
 | .cons k s c r,hf,X,h=>by
  obtain⟨h1,h2,h3⟩:=hP _ _ _ _ hf.1
  simp only[FT.sts,List.mem_append,List.mem_cons] at h
  rcases h with h|rfl|h
  ·obtain⟨g1,g2,t,ht,g3⟩:=Ep hP c hf.2.1 X h
   exact⟨g1,g2,s,List.mem_cons_self ..,λv hv=>(h1.sub t ht).2.2 v (g3 v hv)⟩
  ·exact⟨h3,h2,X,List.mem_cons_self ..,λv hv=>hv⟩
  ·obtain⟨g1,g2,t,ht,g3⟩:=Ep hP r hf.2.2 X h
   exact⟨g1,g2,t,List.mem_cons_of_mem _ ht,g3⟩
theorem EY {n:Nat}{P:Int→Int→LI→LI→Prop}(hP:∀k s ks ts,P k s ks ts→Kids n s ts∧In n s∧∃v,El s v):∀f:FT,f.all P→(f.tops.Pairwise λa b=>∀x,¬(El a x∧El b x))→f.sts.Nodup
 | .nil,_,_=>List.nodup_nil
 | .cons k s c r,hf,hd=>by
  obtain⟨h1,h2,h3⟩:=hP _ _ _ _ hf.1
  have hc:=Ep hP c hf.2.1
  have hr:=Ep hP r hf.2.2
  rw[FT.tops,List.pairwise_cons] at hd
  simp only[FT.sts]
  refine List.nodup_append.2 ⟨EY hP c hf.2.1 h1.dis,List.nodup_cons.2 ⟨λhm=> ?_,EY hP r hf.2.2 hd.2⟩,λX hX Y hY e=> ?_⟩
  ·obtain⟨⟨v,hv⟩,_,t,ht,hs⟩:=hr s hm
   exact hd.1 t ht v ⟨hv,hs v hv⟩
  ·subst e
   obtain⟨⟨v,hv⟩,_,t,ht,hs⟩:=hc X hX
   rcases List.mem_cons.1 hY with rfl|hY
   ·obtain⟨y,y1,y2⟩:=h1.prp ht
    exact y2 (hs y y1)
   ·obtain⟨_,_,t',ht',hs'⟩:=hr X hY
    exact hd.1 t' ht' v ⟨(h1.sub t ht).2.2 v (hs v hv),hs' v hv⟩
theorem Ez {ad:Nat→Nat→Prop}{n:Nat}{P:Int→Int→LI→LI→Prop}(hP:∀k s ks ts,P k s ks ts→VS s∧
   ∀T,VS T→Strg ad (El s) (El T)→Prp (El s) (El T)→∃t∈ts,Modl ad (El s) (El t)∧∀v,El T v→El t v):
  ∀f:FT,f.all P→∀s∈f.tops,∀T,VS T→Strg ad (El s) (El T)→T∈f.sts
 | .nil,_,s,h,_,_,_=>by cases h
 | .cons k s c r,hf,s',h,T,hT,hst=>by
  simp only[FT.sts,List.mem_append,List.mem_cons]
  rcases List.mem_cons.1 h with rfl|h
  ·obtain⟨h1,h2⟩:=hP _ _ _ _ hf.1
   by_cases hp:Prp (El s') (El T)
   ·obtain⟨t,ht,hm,hs⟩:=h2 T hT hst hp
    exact .inl (Ez (n:=n) hP c hf.2.1 t ht T hT (Strg.down hm hst hs))
   ·refine .inr (.inl (VS.ext hT h1 λv _=> ?_))
    rw[Bool.eq_iff_iff]
    exact⟨λhv=>hst.1.1 v hv,λhv=>Classical.byContradiction λc=>hp ⟨v,hv,c⟩⟩
  ·exact .inr (.inr (Ez (n:=n) hP r hf.2.2 s' h T hT hst))
theorem Cn.conv {ad ad':Nat→Nat→Prop}{S:Nat→Prop}(h:∀a b,S a→S b→ad a b→ad' a b){x y:Nat}(hx:S x)(hc:Cn ad S x y):Cn ad' S x y:=
 (hc (λw=>S w∧Cn ad' S x w) ⟨hx,Cn.refl⟩ λa b ⟨p1,p2⟩ q r=>⟨r,p2.step (h a b p1 r q) r⟩).2
section
variable {F : LI} {n : Nat} (hF : FOk F n)
include hF
theorem nb_lt {a b:Nat}(h:Ad F a b):a<n:=by
 apply Classical.byContradiction
 intro c
 have hl:=hF.len
 have:F.getD a 0=0:=by rw[List.getD_eq_getElem?_getD,List.getElem?_eq_none (by omega)];rfl
 have h:has (F.getD a 0) b=true:=h
 rw[this,BH] at h
 cases h
theorem Ad.sym {a b:Nat}(h:Ad F a b):Ad F b a:=hF.sym a b (nb_lt hF h) h
theorem Co.sym {a b:Nat}(h:Co (Ad F) a b):Co (Ad F) b a:=⟨Ne.symm h.1,λq=>h.2 (Ad.sym hF q)⟩
end
def C2 (F:LI)(n:Nat)(s:Int)(k:Int)(ts:LI):Prop:=
  In n s∧(∃v,El s v)∧Kids n s ts∧
  ((k=1∧ts=[]∧∃v,∀w,El s w↔w=v)∨
   (ts≠[]∧k=2∧(∀t∈ts,∀x y,El t x→(El t y↔Cn (Ad F) (El s) x y)))∨
   (ts≠[]∧k=3∧Cj (Ad F) (El s)∧(∀t∈ts,∀x y,El t x→(El t y↔Cn (Co (Ad F)) (El s) x y)))∨
   (ts≠[]∧k=4∧Cj (Ad F) (El s)∧Cj (Co (Ad F)) (El s)∧∀t∈ts,∀x y,El t x→(El t y↔Mx (Ad F) (El s) x y)))
section
variable {F : LI} {n : Nat} (hn : n ≤ 16) (hF : FOk F n) {s k : Int} {ts : LI} (h : C2 F n s k ts)
include hn hF h
theorem kin_fin :∃l:List Nat,∀x,El s x→x∈l:=⟨List.range n,λx hx=>List.mem_range.2 (h.1.2 x hx)⟩
theorem kin_strg {t:Int}(ht:t∈ts):Strg (Ad F) (El s) (El t):=by
 obtain⟨h1,h2,hk,h4⟩:=h
 obtain⟨_,⟨x,hx⟩,hsub⟩:=hk.sub t ht
 rcases h4 with⟨_,rfl,_⟩|⟨_,_,hc⟩|⟨_,_,_,hc⟩|⟨_,_,hJ,hJ',hc⟩
 ·cases ht
 ·exact Strg.congr (λy=>(hc t ht x y hx).symm) (cls_strg (λa b _ q=>Ad.sym hF q) (hsub x hx))
 ·exact Strg.unco (Strg.congr (λy=>(hc t ht x y hx).symm) (cls_strg (λa b _ q=>Co.sym hF q) (hsub x hx)))
 ·exact Strg.congr (λy=>(hc t ht x y hx).symm) (Mx_strg (λa b _ q=>Ad.sym hF q) hJ hJ' ⟨List.range n,λx hx=>List.mem_range.2 (h1.2 x hx)⟩ ((hc t ht x x hx).1 hx))
theorem kin_in {T:Nat→Prop}(hT:Strg (Ad F) (El s) T)(hp:Prp (El s) T):∃t∈ts,Modl (Ad F) (El s) (El t)∧∀v,T v→El t v:=by
 have hst:=fun{t:Int} (ht:t∈ts)=>kin_strg hn hF h ht
 obtain⟨h1,h2,hk,h4⟩:=h
 rcases h4 with⟨_,rfl,v,hv⟩|⟨hne,_,hc⟩|⟨hne,_,_,hc⟩|⟨hne,_,hJ,hJ',hc⟩
 ·obtain⟨y,y1,y2⟩:=hp
  obtain⟨x,hx⟩:=hT.1.2.1
  have e1:=(hv x).1 (hT.1.1 x hx)
  have e2:=(hv y).1 y1
  exact absurd (by rw[e2,←e1];exact hx) y2
 ·obtain⟨x,hx,hall⟩:=strg_cls (λa b _ q=>Ad.sym hF q) hT hp
  obtain⟨t,ht,hxt⟩:=hk.cov hne x (hT.1.1 x hx)
  exact⟨t,ht,(hst ht).1,λv hv=>(hc t ht x v hxt).2 (hall v hv)⟩
 ·obtain⟨x,hx,hall⟩:=strg_cls (λa b _ q=>Co.sym hF q) hT.co hp
  obtain⟨t,ht,hxt⟩:=hk.cov hne x (hT.1.1 x hx)
  exact⟨t,ht,(hst ht).1,λv hv=>(hc t ht x v hxt).2 (hall v hv)⟩
 ·obtain⟨x,hx⟩:=hT.1.2.1
  obtain⟨t,ht,hxt⟩:=hk.cov hne x (hT.1.1 x hx)
  exact⟨t,ht,(hst ht).1,λv hv=>(hc t ht x v hxt).2 ⟨T,hT.1,hp,hx,hv⟩⟩
theorem kin_kind {k':Int}{ts':LI}{t:Int}(ht:t∈ts)(h':C2 F n t k' ts')(hk23:k=2∨k=3):k'≠k:=by
 obtain⟨h1,h2,hk,h4⟩:=h
 obtain⟨g1,g2,gk,g4⟩:=h'
 have hsub:=(hk.sub t ht).2.2
 intro e
 subst e
 have hno:∀{ad:Nat→Nat→Prop},(∀a b,ad a b→ad b a)→ts'≠[]→(∀t'∈ts',∀x y,El t' x→(El t' y↔Cn ad (El t) x y))→(∀x y,El t x→(El t y↔Cn ad (El s) x y))→False:=fun{ad} hs hne hc' hc=>by
  obtain⟨t1,ht1⟩:∃t1,t1∈ts':=by
   cases hts:ts' with
   |nil=>exact absurd hts hne
   |cons a l=>exact⟨a,List.mem_cons_self ..⟩
  obtain⟨y,y1,y2⟩:=gk.prp ht1
  obtain⟨_,⟨x,hx⟩,hsub1⟩:=gk.sub t1 ht1
  have hxt:=hsub1 x hx
  have hxy:=(hc x y hxt).1 y1
  have:Cn ad (El t) x y:=(hxy (λw=>El t w∧Cn ad (El t) x w) ⟨hxt,Cn.refl⟩ λa b ⟨p1,p2⟩ q r=>by
   have hb:El t b:=(hc a b p1).2 (Cn.refl.step q r)
   exact⟨hb,p2.step q hb⟩).2
  exact y2 ((hc' t1 ht1 x y hx).2 this)
 rcases h4 with⟨e,_⟩|⟨_,e,hc⟩|⟨_,e,_,hc⟩|⟨_,e,_⟩
 ·omega
 ·subst e
  rcases g4 with⟨e,_⟩|⟨hne,_,hc'⟩|⟨_,e,_⟩|⟨_,e,_⟩
  ·omega
  ·exact hno (λa b q=>Ad.sym hF q) hne hc' (hc t ht)
  ·omega
  ·omega
 ·subst e
  rcases g4 with⟨e,_⟩|⟨_,e,_⟩|⟨hne,_,_,hc'⟩|⟨_,e,_⟩
  ·omega
  ·omega
  ·exact hno (λa b q=>Co.sym hF q) hne hc' (hc t ht)
  ·omega
 ·omega
theorem kin_near {t t':Int}(ht:t∈ts)(ht':t'∈ts){x y:Nat}(hx:El t x)(hy:El t' y)(hxy:¬El t y):(k=2→¬Ad F x y)∧(k=3→Ad F x y):=by
 obtain⟨h1,h2,hk,h4⟩:=h
 have hyS:=(hk.sub t' ht').2.2 y hy
 have hne:x≠y:=λe=>hxy (e▸hx)
 rcases h4 with⟨_,rfl,_⟩|⟨_,e,hc⟩|⟨_,e,_,hc⟩|⟨_,e,_⟩
 ·cases ht
 ·exact⟨λ_ q=>hxy ((hc t ht x y hx).2 (Cn.refl.step q hyS)),λe'=>by omega⟩
 ·exact⟨λe'=>by omega,λ_=>Classical.byContradiction λq=>hxy ((hc t ht x y hx).2 (Cn.refl.step ⟨hne,q⟩ hyS))⟩
 ·exact⟨λe'=>by omega,λe'=>by omega⟩
end
end Go.Sx

namespace Go.Sx
theorem Dg {s:Int}{n:Nat}(hn:n≤16)(hs:In n s)(hne:∃v,El s v):∃m:Nat,lst s=(m:Int)∧El s m∧m<n∧∀x,El s x→m≤x:=by
 unfold lst
 cases hf:(List.range 32).find? λv=>has s v with
 |none=>
  obtain⟨v,hv⟩:=hne
  have:=hs.2 v hv
  have h1:=List.find?_eq_none.1 hf v (List.mem_range.2 (by omega))
  exact absurd hv h1
 |some m=>
  have h1:has s m=true:=List.find?_some (p:=λv=>has s v) hf
  refine⟨m,rfl,h1,hs.2 m h1,λx hx=> ?_⟩
  have hx16:=hs.2 x hx
  obtain⟨_,az,bs,e1,e2⟩:=List.find?_eq_some_iff_append.1 hf
  apply Classical.byContradiction
  intro c
  have hm:x∈az:=by
   have hmr:x∈List.range m:=List.mem_range.2 (by omega)
   have hmem:m∈List.range 32:=by rw[e1];simp
   have hm32:=List.mem_range.1 hmem
   have hl:az.length=m:=by
    have h3:(List.range 32)[az.length]? =some m:=by rw[e1];simp
    rw[List.getElem?_range] at h3
    ·simpa using h3
    ·have:=congrArg List.length e1;simp at this;omega
   have h4:az=(List.range 32).take m:=by rw[e1,←hl,List.take_left]
   rw[h4,List.take_range]
   exact List.mem_range.2 (by omega)
  have h5:=e2 x hm
  rw[show has s x=true from hx] at h5
  exact absurd h5 (by simp)
section
variable {F : LI} {n : Nat} (hn : n ≤ 16) (hF : FOk F n) {s : Int} {ts : LI} (h : C2 F n s 4 ts)
include hn hF h
abbrev lsn (ts:LI)(i:Nat):Nat:=(lst (ts.getD i 0)).toNat
omit hF in
theorem Em {i:Nat}(hi:i<ts.length):lst ts[i]=(lsn ts i:Int)∧El ts[i] (lsn ts i)∧lsn ts i<n∧∀x,El ts[i] x→lsn ts i≤x:=by
 obtain⟨h1,h2,hk,h4⟩:=h
 obtain⟨g1,g2,g3⟩:=hk.sub ts[i] (List.getElem_mem hi)
 obtain⟨m,e,p1,p2,p3⟩:=Dg hn g1 g2
 have:lsn ts i=m:=by unfold lsn;rw[A6 hi,e];rfl
 rw[this]
 exact⟨e,p1,p2,p3⟩
omit hF in
theorem lsn_inj {i j:Nat}(hi:i<ts.length)(hj:j<ts.length)(e:lsn ts i=lsn ts j):i=j:=by
 have h1:=(Em hn h hi).2.1
 have h2:=(Em hn h hj).2.1
 rw[←e] at h2
 have hd:=List.pairwise_iff_getElem.1 h.2.2.1.dis
 apply Classical.byContradiction
 intro c
 rcases Nat.lt_or_gt_of_ne c with c|c
 ·exact hd i j hi hj c _ ⟨h1,h2⟩
 ·exact hd j i hj hi c _ ⟨h2,h1⟩
theorem kin4 :Cj (Ad F) (El s)∧Cj (Co (Ad F)) (El s)∧ts≠[]∧∀t∈ts,∀x y,El t x→(El t y↔Mx (Ad F) (El s) x y):=by
 obtain⟨h1,h2,hk,h4⟩:=h
 rcases h4 with⟨e,_⟩|⟨_,e,_⟩|⟨_,e,_⟩|⟨hne,_,hJ,hJ',hc⟩
 ·omega
 ·omega
 ·omega
 ·exact⟨hJ,hJ',hne,hc⟩
theorem quo_rep :(∀x,El s x→∃r,(∃i,i<ts.length∧r=lsn ts i)∧Mx (Ad F) (El s) r x)∧(∀r,(∃i,i<ts.length∧r=lsn ts i)→El s r)∧
  ∀r r',(∃i,i<ts.length∧r=lsn ts i)→(∃i,i<ts.length∧r'=lsn ts i)→Mx (Ad F) (El s) r r'→r=r':=by
 obtain⟨hJ,hJ',hne,hc⟩:=kin4 hn hF h
 have hk:=h.2.2.1
 refine⟨λx hx=> ?_,?_,?_⟩
 ·obtain⟨t,ht,hxt⟩:=hk.cov hne x hx
  obtain⟨i,hi,rfl⟩:=List.getElem_of_mem ht
  exact⟨lsn ts i,⟨i,hi,rfl⟩,(hc _ ht _ x (Em hn h hi).2.1).1 hxt⟩
 ·rintro r ⟨i,hi,rfl⟩
  exact(hk.sub _ (List.getElem_mem hi)).2.2 _ (Em hn h hi).2.1
 ·rintro r r' ⟨i,hi,rfl⟩ ⟨j,hj,rfl⟩ hm
  have h1:=(hc _ (List.getElem_mem hi) _ _ (Em hn h hi).2.1).2 hm
  have h2:=(Em hn h hj).2.1
  have hd:=List.pairwise_iff_getElem.1 hk.dis
  have:i=j:=by
   apply Classical.byContradiction
   intro c
   rcases Nat.lt_or_gt_of_ne c with c|c
   ·exact hd i j hi hj c _ ⟨h1,h2⟩
   ·exact hd j i hj hi c _ ⟨h2,h1⟩
  rw[this]
theorem kin_four :4≤ts.length:=by
 obtain⟨hJ,hJ',hne,hc⟩:=kin4 hn hF h
 obtain⟨q1,q2,q3⟩:=quo_rep hn hF h
 have:=quo_four (λa b _ q=>Ad.sym hF q) hJ hJ' (kin_fin hn hF h) q1 q2 q3 (l:=(List.range ts.length).map (lsn ts)) (λr=>by
  rw[List.mem_map]
  exact⟨fun⟨i,hi,e⟩=>⟨i,List.mem_range.2 hi,e.symm⟩,fun⟨i,hi,e⟩=>⟨i,List.mem_range.1 hi,e.symm⟩⟩) (by
   unfold List.Nodup
   rw[List.pairwise_map]
   refine List.Pairwise.imp_of_mem (R:=λa b=>a≠b) (fun{a b} ha hb hab e=>hab (lsn_inj hn h (List.mem_range.1 ha) (List.mem_range.1 hb) e)) List.nodup_range) h.2.1
 simpa using this
theorem kin_quo {N:Nat→Prop}(hN:∀i,N i→i<ts.length)(hm:∀v,v<ts.length→¬N v→∀x y,N x→N y→(Ad F (lsn ts v) (lsn ts x)↔Ad F (lsn ts v) (lsn ts y))){p q:Nat}(hp:N p)(hq:N q)(hpq:p≠q):
  ∀i,i<ts.length→N i:=by
 obtain⟨hJ,hJ',hne,hc⟩:=kin4 hn hF h
 obtain⟨q1,q2,q3⟩:=quo_rep hn hF h
 have hinj:=fun{i j:Nat} (hi:i<ts.length) (hj:j<ts.length) (e:lsn ts i=lsn ts j)=>lsn_inj hn h hi hj e
 intro i hi
 have:=quo_prime (λa b _ q=>Ad.sym hF q) hJ hJ' (kin_fin hn hF h) q1 q2 q3 (N:=λr=>∃i,N i∧r=lsn ts i) ⟨λr ⟨i,hi,e⟩=>⟨i,hN i hi,e⟩,⟨_,p,hp,rfl⟩,?_⟩ (p:=lsn ts p) (q:=lsn ts q) ⟨p,hp,rfl⟩ ⟨q,hq,rfl⟩ (λe=>hpq (hinj (hN p hp) (hN q hq) e)) (lsn ts i) ⟨i,hi,rfl⟩
 ·obtain⟨j,hj,e⟩:=this
  rw[hinj hi (hN j hj) e];exact hj
 ·rintro v ⟨j,hj,rfl⟩ hnv x y ⟨a,ha,rfl⟩ ⟨b,hb,rfl⟩
  exact hm j hj (λc=>hnv ⟨j,c,rfl⟩) a b ha hb
end
end Go.Sx

namespace Go.Sx
def tad (g:LL)(tr:Bool)(v u:Nat):Prop:=v≠u∧(decide ((u:Int)∈row g v) !=tr)=true
section
variable {g : LL} (hg : GOk g)
include hg
theorem l16ReachT_ok (tr:Bool){set:LI}(hset:Inc set)(hsr:∀x∈set,∃u:Nat,x=(u:Int)∧u<g.length){f:Nat}(hf:(f:Int)∈set):
  ∃R,D.Q0 g set (f:Int) tr=some R∧Inc R∧(∀x∈R,∃u:Nat,x=(u:Int)∧u<g.length)∧∀x:Nat,(x:Int)∈R↔Cn (tad g tr) (λz=>(z:Int)∈set) f x:=by
 have h16:=hg.n16
 have hsl:set.length≤g.length:=hset.short (n:=g.length) (λx hx=>by obtain⟨u,rfl,hu⟩:=hsr x hx;omega)
 let Nt:LI→Prop:=λo=>∀x∈o,x∈set
 have hshort:∀{o:LI},Inc o→Nt o→o.length≤g.length:=fun{o} hi ho=>hi.short (n:=g.length) (λx hx=>by obtain⟨u,rfl,hu⟩:=hsr x (ho x hx);omega)
 unfold D.Q0
 have main:=AO (k:=λR=>some R) (Q:=λR=>Inc R∧(∀x∈R,∃u:Nat,x=(u:Int)∧u<g.length)∧∀x:Nat,(x:Int)∈R↔Cn (tad g tr) (λz=>(z:Int)∈set) f x) (step:=fun(s_917:LI×LI)=>match s_917 with|(l_923,l_926)=>cond (decide ((0:Int)<(l_926.length:Int))) ((idx l_926 0).bind λe_1376=>(BW l_926 1 (l_926.length:Int)).bind λl_1382=>(Ar (σ:=LI×LI×Int) (ρ:=(LI×LI)) (fun(s_1596:LI×LI×Int)=>match s_1596 with|(l_1599,l_1602,x_1607)=>cond (decide (x_1607<(set.length:Int))) ((idx set x_1607).bind λe_1717=>(cond (e_1717 !=e_1376) ((idx g e_1376).bind λe_1754=>(D.d e_1754 e_1717).bind λy_1760=>some (y_1760 !=tr)) (some false)).bind λb_1752=>(cond b_1752 ((D.d l_1599 e_1717).bind λy_1786=>some (!y_1786)) (some false)).bind λb_1784=>cond b_1784 ((D.g l_1599 e_1717).bind λy_1794=>(AK l_1602 ([e_1717]:LI)).bind λl_1807=>some (.inl (y_1794,l_1807,(IntKind.i64.wrap (x_1607+1))))) (some (.inl (l_1599,l_1602,(IntKind.i64.wrap (x_1607+1)))))) (some (.inr (l_1599,l_1602)))) (l_923,l_1382,0)).bind fun(l_1707,l_1710)=>some (.inl (l_1707,l_1710))) (some (.inr l_923)))
  (s:=([(f:Int)],[(f:Int)])) (λq=>Inc q.1∧Nt q.1∧(∀x∈q.2,x∈q.1)∧((f:Int)∈q.1)∧(∀x:Nat,(x:Int)∈q.1→Cn (tad g tr) (λz=>(z:Int)∈set) f x)∧(∀x:Nat,(x:Int)∈q.1→(x:Int)∈q.2∨∀y:Nat,(y:Int)∈set→tad g tr x y→(y:Int)∈q.1)∧q.2.length≤q.1.length)
  (λq=>2*(g.length-q.1.length)+q.2.length) (λR=>Inc R∧(∀x∈R,∃u:Nat,x=(u:Int)∧u<g.length)∧∀x:Nat,(x:Int)∈R↔Cn (tad g tr) (λz=>(z:Int)∈set) f x) ?_
  ⟨by simp[Inc],λx hx=>by simp at hx;rw[hx];exact hf,by simp,by simp,λx hx=> ?_,λx hx=> .inl hx,by simp⟩ (λr hr=>⟨r,rfl,hr⟩)
 ·obtain⟨R,e,hR⟩:=main
  exact⟨R,e,hR⟩
 rotate_left
 ·simp at hx
  obtain rfl:x=f:=by omega
  exact Cn.refl
 ·rintro⟨o,todo⟩ ⟨h1,h2,h3,h4,h5,h6,h7⟩
  dsimp only at h1 h2 h3 h4 h5 h6 h7 ⊢
  cases todo with
  |nil=>
   have hd:decide ((0:Int)<(([]:LI).length:Int))=false:=by simp
   rw[hd,cF]
   refine⟨_,rfl,h1,λx hx=>hsr x (h2 x hx),λx=>⟨h5 x,λhc=> ?_⟩⟩
   refine hc (λz=>(z:Int)∈o) h4 (λa b ha hab hb=> ?_)
   rcases h6 a ha with h|h
   ·simp at h
   ·exact h b hb hab
  |cons v0 rest=>
   obtain⟨v,ev,hvn⟩:=hsr v0 (h2 v0 (h3 v0 (by simp)))
   subst ev
   have hd:decide ((0:Int)<(((v:Int)::rest).length:Int))=true:=by simp
   have hi0:idx ((v:Int)::rest) 0=some (v:Int):=rfl
   have hsl1:BW ((v:Int)::rest) 1 ((((v:Int)::rest).length:Nat):Int)=some rest:=by
    have:=Du (xs:=(v:Int)::rest) (i:=1) (by simp)
    exact this
   rw[hd,cT,hi0,bs,hsl1,bs]
   have hvo:(v:Int)∈o:=h3 _ (by simp)
   simp only[List.length_cons] at h7
   let Iq:LI×LI×Int→Prop:=fun(q:LI×LI×Int)=>∃i:Nat,q.2.2=(i:Int)∧i≤set.length∧Inc q.1∧Nt q.1∧(∀x∈q.2.1,x∈q.1)∧(∀x∈o,x∈q.1)∧(∀x:Nat,(x:Int)∈q.1→Cn (tad g tr) (λz=>(z:Int)∈set) f x)∧(∀x:Nat,(x:Int)∈q.1→(x:Int)∈q.2.1∨x=v∨∀y:Nat,(y:Int)∈set→tad g tr x y→(y:Int)∈q.1)∧(∀y:Nat,(y:Int)∈set.take i→tad g tr v y→(y:Int)∈q.1)∧q.2.1.length+o.length=q.1.length+rest.length
   let Pq:LI×LI→Prop:=λq=>Inc q.1∧Nt q.1∧(∀x∈q.2,x∈q.1)∧(∀x∈o,x∈q.1)∧(∀x:Nat,(x:Int)∈q.1→Cn (tad g tr) (λz=>(z:Int)∈set) f x)∧(∀x:Nat,(x:Int)∈q.1→(x:Int)∈q.2∨∀y:Nat,(y:Int)∈set→tad g tr x y→(y:Int)∈q.1)∧q.2.length+o.length=q.1.length+rest.length
   refine AO Iq (λq=>set.length-q.2.2.toNat) Pq ?_
    ⟨0,rfl,by omega,h1,h2,λx hx=>h3 x (by simp[hx]),λx hx=>hx,h5,λx hx=> ?_,by simp,by dsimp only;omega⟩ ?_
   ·rintro⟨o',td,_⟩ ⟨i,rfl,hi,a1,a2,a3,a4,a5,a6,a7,a8⟩
    dsimp only at a1 a2 a3 a4 a5 a6 a7 a8 ⊢
    have hol:=hshort a1 a2
    by_cases hil:i<set.length
    ·obtain⟨u,eu,hun⟩:=hsr _ (List.getElem_mem hil)
     have hus:(u:Int)∈set:=by rw[←eu];exact List.getElem_mem hil
     simp only[dlt hil,cT,AF hil,eu,bs,Cg hvn,CN _ _ (hg.sh2.row hvn),wq i]
     have hskip:(tad g tr v u→(u:Int)∈o')→∃y,some (Sum.inl (β:=LI×LI) (o',td,((i+1:Nat):Int)))=some y∧Stp Iq (λq=>set.length-q.2.2.toNat) Pq (o',td,(i:Int)) y:=λhk=>by
      refine⟨_,rfl,⟨i+1,rfl,by omega,a1,a2,a3,a4,a5,a6,λy hy hvy=> ?_,a8⟩,by simp;omega⟩
      rw[List.take_succ_eq_append_getElem hil,List.mem_append,eu] at hy
      rcases hy with hy|hy
      ·exact a7 y hy hvy
      ·simp at hy
       obtain rfl:y=u:=by omega
       exact hk hvy
     by_cases huv:u=v
     ·subst huv
      have e:((u:Int) !=(u:Int))=false:=by simp
      simp only[e,cF,bs]
      exact hskip (λh=>absurd rfl h.1)
     ·have e:((u:Int) !=(v:Int))=true:=by rw[bne_iff_ne];omega
      simp only[e,cT,bs]
      by_cases hadj:tad g tr v u
      ·have hb:(decide ((u:Int)∈row g v) !=tr)=true:=hadj.2
       simp only[hb,cT,CN _ _ (show Sh o' by unfold Sh;omega),bs]
       by_cases hin:(u:Int)∈o'
       ·simp only[hin,decide_true,Bool.not_true,cF]
        exact hskip (λ_=>hin)
       ·simp only[hin,decide_false,Bool.not_false,cT]
        rw[DA o' _ a1 (by omega),bs,AY (by simp;omega),bs]
        have hmi:∀z:Int,z∈into o' (u:Int)↔z=(u:Int)∨z∈o':=λz=>mem_into
        have hli:(into o' (u:Int)).length=o'.length+1:=into_len' hin
        refine⟨_,rfl,⟨i+1,rfl,by omega,Inc.into a1 _,λz hz=> ?_,λz hz=> ?_,λz hz=>(hmi z).2 (.inr (a4 z hz)),λx hx=> ?_,λx hx=> ?_,λy hy hvy=> ?_,by simp[hli];omega⟩,by simp;omega⟩
        ·rcases(hmi z).1 hz with rfl|hz
         ·exact hus
         ·exact a2 z hz
        ·rcases List.mem_append.1 hz with hz|hz
         ·exact(hmi z).2 (.inr (a3 z hz))
         ·simp at hz;exact(hmi z).2 (.inl hz)
        ·rcases(hmi _).1 hx with hx|hx
         ·obtain rfl:x=u:=by omega
          exact(h5 v hvo).step hadj hus
         ·exact a5 x hx
        ·rcases(hmi _).1 hx with hx|hx
         ·exact .inl (by rw[hx];simp)
         ·rcases a6 x hx with h|h|h
          ·exact .inl (by simp[h])
          ·exact .inr (.inl h)
          ·exact .inr (.inr (λy p q=>(hmi _).2 (.inr (h y p q))))
        ·rw[List.take_succ_eq_append_getElem hil,List.mem_append,eu] at hy
         rcases hy with hy|hy
         ·exact(hmi _).2 (.inr (a7 y hy hvy))
         ·simp at hy;exact(hmi _).2 (.inl (by omega))
      ·have hb:(decide ((u:Int)∈row g v) !=tr)=false:=by
        apply Bool.eq_false_iff.2
        intro c
        exact hadj ⟨λe=>huv e.symm,c⟩
       simp only[hb,cF,bs]
       exact hskip (λh=>absurd h hadj)
    ·obtain rfl:i=set.length:=by omega
     simp only[Bs,cF]
     refine⟨_,rfl,a1,a2,a3,a4,a5,λx hx=> ?_,a8⟩
     rcases a6 x hx with h|rfl|h
     ·exact .inl h
     ·exact .inr (λy p q=>a7 y (by rw[List.take_length];exact p) q)
     ·exact .inr h
   ·rcases h6 x hx with h|h
    ·rcases List.mem_cons.1 h with h|h
     ·exact .inr (.inl (by omega))
     ·exact .inl h
    ·exact .inr (.inr h)
   ·rintro⟨o',td⟩ ⟨a1,a2,a3,a4,a5,a6,a8⟩
    dsimp only at a1 a2 a3 a4 a5 a6 a8
    have hol:=hshort a1 a2
    have hol0:=hshort h1 h2
    have hoo:o.length≤o'.length:=BG (List.Pairwise.imp (λh e=>by omega) h1) a4
    exact⟨_,rfl,⟨a1,a2,a3,a4 _ h4,a5,a6,by dsimp only;omega⟩,by simp;omega⟩
end
end Go.Sx

namespace Go.Sx
theorem In.part {n:Nat}{s t:Int}(hs:In n s)(ht:VS t)(h:∀v,El t v→El s v):In n t:=⟨ht,λw hw=>hs.2 w (h w hw)⟩
theorem kids_of {ad:Nat→Nat→Prop}{n:Nat}{s:Int}{l:LI}(hs:In n s)(hv:∀t∈l,VS t)(hne:∀t∈l,∃v,El t v)(hsub:∀t∈l,∀x,El t x→El s x)(hall:∀x,El s x→∃t∈l,El t x)
  (hd:l.Pairwise λs t=>∀x,¬(El s x∧El t x)) (hb:l.Pairwise Bef) (h2:2≤l.length):Kids n s l:=
 ⟨λt ht=>⟨hs.part (hv t ht) (hsub t ht),hne t ht,hsub t ht⟩,λ_ v hv=>hall v hv,hd,hb,.inr h2⟩
theorem kin_leaf {F:LI}{n v:Nat}{s:Int}(hs:In n s)(hv:∀w,El s w↔w=v):C2 F n s 1 []:=
 ⟨hs,⟨v,(hv v).2 rfl⟩,⟨λt ht=>by (cases ht),λh=>absurd rfl h,List.Pairwise.nil,List.Pairwise.nil,.inl rfl⟩,.inl ⟨rfl,rfl,v,hv⟩⟩
theorem kin_union {F:LI}{n:Nat}{s:Int}{l:LI}(hs:In n s)(hne:∃v,El s v)(hp:Parts F (El s) l)(hb:l.Pairwise Bef)(h2:2≤l.length):C2 F n s 2 l:=
 ⟨hs,hne,kids_of (ad:=Ad F) hs hp.vs hp.ne hp.sub hp.all hp.dis hb h2,.inr (.inl ⟨λe=>by rw[e] at h2;simp at h2,rfl,hp.cn⟩)⟩
section
variable {F F' : LI} {n : Nat} (hF : FOk F n) (hF' : ∀ u w, u < n → nb F' u w = (decide (w < n) && !nb F u w && !decide (w = u)))
include hF hF'
theorem ad_co {s:Int}(hs:In n s){a b:Nat}(ha:El s a)(hb:El s b):Ad F' a b↔Co (Ad F) a b:=by
 have h1:=hs.2 a ha
 have h2:=hs.2 b hb
 show nb F' a b=true↔_
 rw[hF' a b h1,decide_eq_true h2,Bool.true_and,Bool.and_eq_true]
 constructor
 ·rintro⟨p,q⟩
  exact⟨λe=>by rw[e] at q;simp at q,λc=>by rw[show nb F a b=true from c] at p;simp at p⟩
 ·rintro⟨p,q⟩
  refine⟨?_,?_⟩
  ·cases hh:nb F a b with
   |true=>exact absurd hh q
   |false=>rfl
  ·rw[decide_eq_false (λe=>p e.symm)];rfl
theorem cn_co {s:Int}(hs:In n s){x y:Nat}(hx:El s x):Cn (Ad F') (El s) x y↔Cn (Co (Ad F)) (El s) x y:=
 ⟨Cn.conv (λa b ha hb h=>(ad_co hF hF' hs ha hb).1 h) hx,Cn.conv (λa b ha hb h=>(ad_co hF hF' hs ha hb).2 h) hx⟩
theorem joint_co {s:Int}(hs:In n s):Cj (Ad F') (El s)↔Cj (Co (Ad F)) (El s):=
 ⟨λh x y hx hy=>(cn_co hF hF' hs hx).1 (h x y hx hy),λh x y hx hy=>(cn_co hF hF' hs hx).2 (h x y hx hy)⟩
theorem kin_join {s:Int}{l:LI}(hs:In n s)(hne:∃v,El s v)(hJ:Cj (Ad F) (El s))(hp:Parts F' (El s) l)(hb:l.Pairwise Bef)(h2:2≤l.length):C2 F n s 3 l:=
 ⟨hs,hne,kids_of (ad:=Ad F) hs hp.vs hp.ne hp.sub hp.all hp.dis hb h2,.inr (.inr (.inl ⟨λe=>by rw[e] at h2;simp at h2,rfl,hJ,λt ht x y hx=>(hp.cn t ht x y hx).trans (cn_co hF hF' hs (hp.sub t ht x hx))⟩))⟩
end
theorem kin_prime {F:LI}{n:Nat}{s:Int}{l:LI}(hs:In n s)(hne:∃v,El s v)(hJ:Cj (Ad F) (El s))(hJ':Cj (Co (Ad F)) (El s))(hv:∀t∈l,VS t)(hen:∀t∈l,∃v,El t v)
  (hcl:∀t∈l,∀x y,El t x→(El t y↔Mx (Ad F) (El s) x y)) (hall:∀x,El s x→∃t∈l,El t x) (hb:l.Pairwise Bef) (hd:l.Pairwise λs t=>∀x,¬(El s x∧El t x)) (h2:2≤l.length):C2 F n s 4 l:=by
 refine⟨hs,hne,kids_of (ad:=Ad F) hs hv hen (λt ht x hx=> ?_) hall hd hb h2,.inr (.inr (.inr ⟨λe=>by rw[e] at h2;simp at h2,rfl,hJ,hJ',hcl⟩))⟩
 exact((hcl t ht x x hx).1 hx).mem
theorem Parts.one {F:LI}{s:Int}{l:LI}(h:Parts F (El s) l)(hne:∃v,El s v):(l.length=1↔Cj (Ad F) (El s))∧1≤l.length:=by
 obtain⟨v,hv⟩:=hne
 obtain⟨t,ht,_⟩:=h.all v hv
 have h1:1≤l.length:=List.length_pos_of_mem ht
 refine⟨⟨λe=>h.conn.1 (by omega),λhJ=> ?_⟩,h1⟩
 have:=h.conn.2 hJ
 omega
end Go.Sx

namespace Go.Sx
theorem inducedK_ok {F o:LI}{n k:Nat}{p:Nat→Nat}(hn:k≤16)(hn':n≤16)(hF:FOk F n)(ho:o.length=k)(hp:∀i,i<k→o[i]? =some ((p i:Nat):Int))(hr:∀i,i<k→p i<n):
  D.B0 F o=some (CE F p k k):=by
 have hget:∀i,i<k→idx o (i:Int)=some ((p i:Nat):Int):=λi hi=>by
  rw[AF (by omega)]
  have:=hp i hi
  rwa [List.getElem?_eq_getElem (by omega)] at this
 unfold D.B0
 rw[ho,makeD_ok (by omega) (by omega),bs]
 refine(Dn (λi=>(CE F p k i,(i:Int))) k (CE F p k k) rfl (λi hi=> ?_) ?_).trans rfl
 ·simp only[dlt hi,cT,hget i hi,bs,wq i]
  have hl:=Ex F p k i
  refine(Dn (λj=>((CE F p k i).set i (CP F p i j),(j:Int))) k ((CE F p k i).set i (CP F p i k)) ?_ (λj hj=> ?_) ?_).trans rfl
  ·have:=EC F p k i hi i (by omega)
   rw[if_neg (by omega),A6 (by omega)] at this
   show ((CE F p k i).set i 0,(0:Int))=(CE F p k i,0)
   rw[←this,List.set_getElem_self]
  ·have hlt:i<((CE F p k i).set i (CP F p i j)).length:=by simp;omega
   have hg:((CE F p k i).set i (CP F p i j))[i]=CP F p i j:=by simp
   simp only[dlt hj,cT,hget j hj,bs,idx_F hF (hr i hi),vset_has_eq (hF.vs _ (hr i hi)) (show p j<32 by have:=hr j hj;omega),wq j]
   have e:has (F.getD (p i) 0) (p j)=nb F (p i) (p j):=rfl
   have e2:CP F p i (j+1)=if nb F (p i) (p j) then ior .u32 (CP F p i j) (ishl .u32 1 (j:Int)) else CP F p i j:=rfl
   rw[e,e2]
   by_cases hc:nb F (p i) (p j)=true
   ·simp only[hc,cT,AF hlt,hg,bs,Cm,Int.toNat_natCast,List.set_set]
    rw[if_pos trivial]
   ·rw[Bool.not_eq_true] at hc
    simp only[hc,cF]
    rw[if_neg Bool.false_ne_true]
  ·simp only[Bs,cF]
 ·simp only[Bs,cF]
theorem indB_okK {F:LI}{n k:Nat}{p:Nat→Nat}(hk:k≤16)(hF:FOk F n)(hr:∀i,i<k→p i<n):FOk (CE F p k k) k:=by
 refine⟨Ex F p k k,λu hu=> ?_,λu w hu h=> ?_,λu hu=> ?_,λu w hu h=> ?_⟩
 ·rw[EC F p k u hu k (Nat.le_refl _),if_pos hu];exact indR_vs F p u k
 ·rw[Ef hk hu] at h;simp at h;exact h.1
 ·rw[Ef hk hu,hF.irr _ (hr u hu),Bool.and_false]
 ·rw[Ef hk hu] at h
  simp only[Bool.and_eq_true,decide_eq_true_eq] at h
  rw[Ef hk h.1,hF.sym _ _ (hr u hu) h.2];simp[hu]
theorem Cu {x:Int}(h:VS x):(x !=0)=true↔∃v,El x v:=by
 constructor
 ·intro hx
  apply Classical.byContradiction
  intro c
  have:x=0:=VS.ext h VS.zero λv _=>by
   rw[BH]
   cases hh:has x v with
   |true=>exact absurd ⟨v,hh⟩ c
   |false=>rfl
  rw[this] at hx
  exact absurd hx (by simp)
 ·rintro⟨v,hv⟩
  refine bne_iff_ne.2 λe=> ?_
  rw[e] at hv
  have hv:has 0 v=true:=hv
  rw[BH] at hv;cases hv
theorem iand_ne {a s:Int}(ha:VS a)(hs:VS s):(iand .u32 a s !=s)=true↔∃v,El s v∧¬El a v:=by
 constructor
 ·intro hx
  apply Classical.byContradiction
  intro c
  refine absurd (VS.ext (VS.iand _ _) hs λv _=> ?_) (bne_iff_ne.1 hx)
  rw[De ha hs]
  cases hh:has s v with
  |true=>
   have:has a v=true:=Classical.byContradiction λq=>c ⟨v,hh,q⟩
   rw[this];rfl
  |false=>rw[Bool.and_false]
 ·rintro⟨v,h1,h2⟩
  refine bne_iff_ne.2 λe=>h2 ?_
  have:has (iand .u32 a s) v=true:=by rw[e];exact h1
  rw[De ha hs,Bool.and_eq_true] at this
  exact this.1
theorem ssub_of {s t:Int}(hs:VS s)(ht:VS t)(h:∀x,El s x→El t x)(hne:s≠t):∃y,El t y∧¬El s y:=by
 apply Classical.byContradiction
 intro c
 refine hne (VS.ext hs ht λv _=> ?_)
 rw[Bool.eq_iff_iff]
 exact⟨h v,λhv=>Classical.byContradiction λq=>c ⟨v,hv,q⟩⟩
section
variable {F : LI} {n : Nat} (hn : n ≤ 16) (hF : FOk F n)
include hn hF
theorem EP {W s:Int}(hW:In n W)(hs:In n s):
  ∃X,D.C F W s=some X∧(In n X∧∀v,El X v↔El W v∧¬El s v∧(∃y,El s y∧Ad F v y)∧∃y,El s y∧¬Ad F v y):=by
 have hD:∀v,El (iandNot .u32 W s) v↔El W v∧¬El s v:=λv=>by
  unfold El;rw[Cc hW.1 hs.1];simp
 unfold D.C
 rw[DN _ (VS.iandNot _ _),bs]
 refine AO (λq=>∃i:Nat,q.2=(i:Int)∧i≤(Aj (iandNot .u32 W s)).length∧In n q.1∧∀v:Nat,El q.1 v↔(v:Int)∈(Aj (iandNot .u32 W s)).take i∧(∃y,El s y∧Ad F v y)∧∃y,El s y∧¬Ad F v y)
  (λq=>(Aj (iandNot .u32 W s)).length-q.2.toNat) (λX=>In n X∧∀v,El X v↔El W v∧¬El s v∧(∃y,El s y∧Ad F v y)∧∃y,El s y∧¬Ad F v y) ?_ ⟨0,rfl,by omega,⟨VS.zero,λw hw=>by rw[BH] at hw;cases hw⟩,λv=>⟨λh=>(by rw[show El 0 v↔has 0 v=true from Iff.rfl,BH] at h;cases h),λh=>(by simp at h)⟩⟩ (λr hr=>⟨r,rfl,hr⟩)
 rintro⟨x,_⟩ ⟨i,rfl,hi,h1,h2⟩
 dsimp only at h1 h2 ⊢
 by_cases hil:i<(Aj (iandNot .u32 W s)).length
 ·obtain⟨u,hu32,hu,eu⟩:=mem_elems.1 (List.getElem_mem hil)
  have hun:u<n:=hW.2 u ((hD u).1 hu).1
  rw[dlt hil,cT,AF hil,bs,eu,idx_F hF hun,bs,wi (by have:=Bb (iandNot .u32 W s);omega)]
  have hA:=hF.vs u hun
  have hc:((iand .u32 (F.getD u 0) s !=0)&&(iand .u32 (F.getD u 0) s !=s))=true↔(∃y,El s y∧Ad F u y)∧∃y,El s y∧¬Ad F u y:=by
   rw[Bool.and_eq_true,Cu (VS.iand _ _),iand_ne hA hs.1]
   refine and_congr ⟨fun⟨v,hv⟩=> ?_,fun⟨v,p,q⟩=>⟨v,?_⟩⟩ Iff.rfl
   ·have hv:has (iand .u32 (F.getD u 0) s) v=true:=hv
    rw[De hA hs.1,Bool.and_eq_true] at hv
    exact⟨v,hv.2,hv.1⟩
   ·show has (iand .u32 (F.getD u 0) s) v=true
    rw[De hA hs.1,Bool.and_eq_true]
    exact⟨q,p⟩
  have htk:∀v:Nat,(v:Int)∈(Aj (iandNot .u32 W s)).take (i+1)↔(v:Int)∈(Aj (iandNot .u32 W s)).take i∨v=u:=λv=>by
   rw[List.take_succ_eq_append_getElem hil,List.mem_append,eu,List.mem_singleton,Int.natCast_inj]
  by_cases hb:((iand .u32 (F.getD u 0) s !=0)&&(iand .u32 (F.getD u 0) s !=s))=true
  ·rw[hb,cT,Cm,bs]
   have hs1:∀v,El (ior .u32 x (ishl .u32 1 (u:Int))) v↔El x v∨v=u:=λv=>by
    unfold El;rw[BU h1.1 (VS.ishl _ _),BE (by omega),Bool.or_eq_true,decide_eq_true_eq]
   refine⟨_,rfl,⟨i+1,rfl,by omega,⟨VS.ior _ _,λw hw=> ?_⟩,λv=> ?_⟩,by dsimp only;omega⟩
   ·rcases(hs1 w).1 hw with h|rfl
    ·exact h1.2 w h
    ·exact hun
   ·rw[hs1,h2,htk]
    constructor
    ·rintro(⟨p,q⟩|rfl)
     ·exact⟨.inl p,q⟩
     ·exact⟨.inr rfl,hc.1 hb⟩
    ·rintro⟨p|rfl,q⟩
     ·exact .inl ⟨p,q⟩
     ·exact .inr rfl
  ·rw[Bool.not_eq_true] at hb
   rw[hb,cF]
   refine⟨_,rfl,⟨i+1,rfl,by omega,h1,λv=> ?_⟩,by dsimp only;omega⟩
   rw[h2,htk]
   constructor
   ·rintro⟨p,q⟩;exact⟨.inl p,q⟩
   ·rintro⟨p|rfl,q⟩
    ·exact⟨p,q⟩
    ·rw[hc.2 q] at hb;cases hb
 ·obtain rfl:i=(Aj (iandNot .u32 W s)).length:=by omega
  rw[Bs,cF]
  refine⟨_,rfl,h1,λv=> ?_⟩
  rw[h2,List.take_length,AG (VS.iandNot _ _)]
  exact⟨fun⟨p,q⟩=>⟨((hD v).1 p).1,((hD v).1 p).2,q⟩,fun⟨p1,p2,q⟩=>⟨(hD v).2 ⟨p1,p2⟩,q⟩⟩
theorem closureOf_ok {W s:Int}(hW:In n W)(hs:In n s)(hsub:∀v,El s v→El W v)(hne:∃v,El s v):
  ∃c,D.p0 F W s=some c∧(In n c∧(∀v,El s v→El c v)∧Modl (Ad F) (El W) (El c)∧∀A,Modl (Ad F) (El W) A→(∀v,El s v→A v)→∀v,El c v→A v):=by
 unfold D.p0
 refine AO (λx=>In n x∧(∀v,El s v→El x v)∧(∀v,El x v→El W v)∧∀A,Modl (Ad F) (El W) A→(∀v,El s v→A v)→∀v,El x v→A v) (λx=>33-(Aj x).length)
  (λc=>In n c∧(∀v,El s v→El c v)∧Modl (Ad F) (El W) (El c)∧∀A,Modl (Ad F) (El W) A→(∀v,El s v→A v)→∀v,El c v→A v) ?_ ⟨hs,λv h=>h,hsub,λA _ h=>h⟩ (λr hr=>⟨r,rfl,hr⟩)
 rintro x ⟨h1,h2,h3,h4⟩
 obtain⟨X,e,hX,hXv⟩:=EP hn hF hW h1
 rw[e,bs]
 by_cases h0:X=0
 ·subst h0
  rw[show ((0:Int)==0)=true from rfl,cT]
  refine⟨_,rfl,h1,h2,⟨h3,hne.imp h2,λv hv hn p q hp hq=> ?_⟩,h4⟩
  have hnot:¬((∃y,El x y∧Ad F v y)∧∃y,El x y∧¬Ad F v y):=λc=>by
   have:has 0 v=true:=(hXv v).2 ⟨hv,hn,c⟩
   rw[BH] at this;cases this
  constructor
  ·intro a
   exact Classical.byContradiction λb=>hnot ⟨⟨p,hp,a⟩,q,hq,b⟩
  ·intro a
   exact Classical.byContradiction λb=>hnot ⟨⟨q,hq,a⟩,p,hp,b⟩
 ·rw[show (X==0)=false from beq_eq_false_iff_ne.2 h0,cF]
  obtain⟨u,hu⟩:=(Cu hX.1).1 (bne_iff_ne.2 h0)
  have hor:∀v,El (ior .u32 x X) v↔El x v∨El X v:=λv=>by
   unfold El;rw[BU h1.1 hX.1,Bool.or_eq_true]
  have hIn:In n (ior .u32 x X):=⟨VS.ior _ _,λw hw=>((hor w).1 hw).elim (h1.2 w) (hX.2 w)⟩
  refine⟨_,rfl,⟨hIn,λv hv=>(hor v).2 (.inl (h2 v hv)),λv hv=>((hor v).1 hv).elim (h3 v) λh=>((hXv v).1 h).1,λA hA hsA v hv=> ?_⟩,?_⟩
  ·rcases(hor v).1 hv with h|h
   ·exact h4 A hA hsA v h
   ·obtain⟨g1,g2,⟨p,p1,p2⟩,q,q1,q2⟩:=(hXv v).1 h
    apply Classical.byContradiction
    intro c
    exact q2 ((hA.2.2 v g1 c p q (h4 A hA hsA p p1) (h4 A hA hsA q q1)).1 p2)
  ·have h5:=DL h1.1 hIn.1 (λv hv=>(hor v).2 (.inl hv)) ((hor u).2 (.inr hu)) ((hXv u).1 hu).2.1
   have h6:=Bb (ior .u32 x X)
   dsimp only;omega
end
end Go.Sx

namespace Go.Sx
section
variable {F : LI} {n : Nat} (hn : n ≤ 16) (hF : FOk F n)
include hn hF
theorem greatest_ok {s:Int}(hs:In n s)(hJ:Cj (Ad F) (El s))(hJ':Cj (Co (Ad F)) (El s)){p q:Nat}(hp:El s p)(hq:El s q)(hpq:p≠q):∃l,D.i0 F s=some l∧C2 F n s 4 l:=by
 have hsy:∀a b,El s a→Ad F a b→Ad F b a:=λa b _ h=>Ad.sym hF h
 have hfin:∃l:List Nat,∀x,El s x→x∈l:=⟨List.range n,λx hx=>List.mem_range.2 (hs.2 x hx)⟩
 have hself:∀v,El s v→Mx (Ad F) (El s) v v:=λv hv=>by
  by_cases e:p=v
  ·exact Mx.self hv hq (λc=>hpq (e.trans c.symm))
  ·exact Mx.self hv hp e
 unfold D.i0
 have main:=AO (step:=fun(s_366:LI×Int)=>match s_366 with|(l_369,x_374)=>cond (x_374 !=0) ((D.e x_374).bind λy_559=>(D.c y_559).bind λy_566=>(D.c y_559).bind λy_573=>(D.i (iandNot .u32 s y_573)).bind λy_580=>(Ar (σ:=Int×Int) (ρ:=(Int)) (fun(s_656:Int×Int)=>match s_656 with|(x_659,x_660)=>cond (decide (x_660<(y_580.length:Int))) ((idx y_580 x_660).bind λe_695=>(D.c e_695).bind λy_701=>(D.c y_559).bind λy_708=>(D.p0 F s (ior .u32 y_701 y_708)).bind λy_715=>cond (y_715 !=s) (some (.inl ((ior .u32 x_659 y_715),(IntKind.i64.wrap (x_660+1))))) (some (.inl (x_659,(IntKind.i64.wrap (x_660+1)))))) (some (.inr x_659))) (y_566,0)).bind λx_692=>(AK l_369 ([x_692]:LI)).bind λl_727=>some (.inl (l_727,(iandNot .u32 x_374 x_692)))) (some (.inr l_369)))
  (s:=(([]:LI),s)) (k:=λl=>some l) (Q:=λl=>C2 F n s 4 l)
  (λa=>VS a.2∧(∀x,El a.2 x→El s x)∧(∀t∈a.1,VS t∧(∃v,El t v)∧(∀x,El t x→El s x)∧∀x y,El t x→(El t y↔Mx (Ad F) (El s) x y))∧(∀x,El s x→El a.2 x∨∃t∈a.1,El t x)∧(∀t∈a.1,∀x,El a.2 x→¬El t x)∧
   (a.1.Pairwise λs t=>∀x,¬(El s x∧El t x))∧a.1.Pairwise Bef∧(∀t∈a.1,Bef t a.2)∧a.1.length+(Aj a.2).length≤32)
  (λa=>(Aj a.2).length) (λl=>C2 F n s 4 l) ?_ ⟨hs.1,λx h=>h,by simp,λx h=> .inl h,by simp,by simp,by simp,by simp,by have:=Bb s;simp;omega⟩ (λr hr=>⟨r,rfl,hr⟩)
 ·exact main
 rintro⟨l,r⟩ ⟨v1,h1,h2,h3,h4,h5,h6,h7,h8⟩
 dsimp only at v1 h1 h2 h3 h4 h5 h6 h7 h8 ⊢
 by_cases h0:r=0
 ·subst h0
  rw[show ((0:Int) !=0)=false from rfl,cF]
  have hall:∀x,El s x→∃t∈l,El t x:=λx hx=>(h3 x hx).resolve_left λh=>by
   have h:has 0 x=true:=h
   rw[BH] at h;cases h
  refine⟨_,rfl,kin_prime hs ⟨p,hp⟩ hJ hJ' (λt ht=>(h2 t ht).1) (λt ht=>(h2 t ht).2.1) (λt ht=>(h2 t ht).2.2.2) hall h6 h5 ?_⟩
  obtain⟨t,ht,hpt⟩:=hall p hp
  obtain⟨A,a1,⟨y,y1,y2⟩,a3,a4⟩:=hself p hp
  obtain⟨B,b1,b2,b3,b4⟩:=Mx_ex hsy hJ hJ' hfin (hself p hp)
  obtain⟨z,z1,z2⟩:=b2
  obtain⟨t',ht',hzt⟩:=hall z z1
  have hne:t≠t':=λe=>by
   subst e
   exact z2 ((b4 z).1 (((h2 t ht).2.2.2 p z hpt).1 hzt))
  match l,ht,ht' with
  |[],ht,_=>cases ht
  |[a],ht,ht'=>exact absurd ((List.mem_singleton.1 ht).trans (List.mem_singleton.1 ht').symm) hne
  |_::_::_,_,_=>simp
 ·rw[show (r !=0)=true from bne_iff_ne.2 h0,cT]
  obtain⟨k,hk32,ek,hk,hlow,_⟩:=Dc v1 h0
  have hks:=h1 k hk
  have hkn:=hs.2 k hks
  rw[ek,bs,Cm,bs,bs,DN _ (VS.iandNot _ _),bs]
  have hD:∀v,El (iandNot .u32 s (ishl .u32 1 (k:Int))) v↔El s v∧v≠k:=λv=>by
   unfold El;rw[Cc hs.1 (VS.ishl _ _),BE hk32];simp
  generalize hDe:iandNot .u32 s (ishl .u32 1 (k:Int))=E at hD
  have hEv:VS E:=by rw[←hDe];exact VS.iandNot _ _
  have hEl:=Bb E
  refine AO (λa=>∃i:Nat,a.2=(i:Int)∧i≤(Aj E).length∧VS a.1∧El a.1 k∧(∀y,El a.1 y→Mx (Ad F) (El s) k y)∧∀u:Nat,(u:Int)∈(Aj E).take i→Mx (Ad F) (El s) k u→El a.1 u)
   (λa=>(Aj E).length-a.2.toNat) (λM=>VS M∧∀y,El M y↔Mx (Ad F) (El s) k y) ?_
   ⟨0,rfl,by omega,VS.ishl _ _,by show has _ k=true;rw[BE hk32];simp,λy hy=>by
    have hy:has (ishl .u32 1 (k:Int)) y=true:=hy
    rw[BE hk32,decide_eq_true_eq] at hy
    rw[hy];exact hself k hks,λu hu=>by simp at hu⟩ ?_
  rotate_left
  ·rintro M ⟨hM,hMx⟩
   rw[AY (by simp;omega),bs]
   have hMk:El M k:=(hMx k).2 (hself k hks)
   have hMs:∀x,El M x→El s x:=λx hx=>((hMx x).1 hx).mem
   have hMc:∀x y,El M x→(El M y↔Mx (Ad F) (El s) x y):=λx y hx=>by
    have hkx:=(hMx x).1 hx
    rw[hMx]
    exact⟨λh=>Db hsy hJ hJ' hfin hkx.sym h,λh=>Db hsy hJ hJ' hfin hkx h⟩
   have hr':∀x,El (iandNot .u32 r M) x↔El r x∧¬El M x:=λx=>by
    unfold El;rw[Cc v1 hM];simp
   have hMr:∀x,El M x→El r x:=λx hx=>(h3 x (hMs x hx)).resolve_right fun⟨t,ht,hxt⟩=>by
    have:=((h2 t ht).2.2.2 x k hxt).2 ((hMx x).1 hx).sym
    exact h4 t ht k hk this
   have hBk:∀x,El r x→k≤x:=λx hx=>Nat.le_of_not_lt λc=>by
    have:=hlow x c
    rw[show has r x=true from hx] at this;cases this
   have hlt:(Aj (iandNot .u32 r M)).length+1≤(Aj r).length:=by
    have:=DL (VS.iandNot r M) v1 (λx hx=>((hr' x).1 hx).1) hk (λc=>((hr' k).1 c).2 hMk)
    omega
   refine⟨_,rfl,⟨VS.iandNot _ _,λx hx=>h1 x ((hr' x).1 hx).1,λt ht=> ?_,λx hx=> ?_,λt ht x hx=> ?_,?_,?_,λt ht=> ?_,?_⟩,?_⟩
   ·rcases List.mem_append.1 ht with h|h
    ·exact h2 t h
    ·rw[List.mem_singleton.1 h];exact⟨hM,⟨k,hMk⟩,hMs,hMc⟩
   ·by_cases hxM:El M x
    ·exact .inr ⟨M,by simp,hxM⟩
    ·rcases h3 x hx with h|⟨t,ht,h⟩
     ·exact .inl ((hr' x).2 ⟨h,hxM⟩)
     ·exact .inr ⟨t,by simp[ht],h⟩
   ·obtain⟨p,q⟩:=(hr' x).1 hx
    rcases List.mem_append.1 ht with h|h
    ·exact h4 t h x p
    ·rw[List.mem_singleton.1 h];exact q
   ·rw[List.pairwise_append]
    refine⟨h5,by simp,λt ht u hu x ⟨p,q⟩=> ?_⟩
    rw[List.mem_singleton.1 hu] at q
    exact h4 t ht x (hMr x q) p
   ·rw[List.pairwise_append]
    refine⟨h6,by simp,λt ht u hu=> ?_⟩
    rw[List.mem_singleton.1 hu]
    obtain⟨m,m1,m2⟩:=h7 t ht
    exact⟨m,m1,λx hx=>m2 x (hMr x hx)⟩
   ·rcases List.mem_append.1 ht with h|h
    ·obtain⟨m,m1,m2⟩:=h7 t h
     exact⟨m,m1,λx hx=>m2 x ((hr' x).1 hx).1⟩
    ·rw[List.mem_singleton.1 h]
     refine⟨k,hMk,λx hx=> ?_⟩
     obtain⟨p,q⟩:=(hr' x).1 hx
     have:=hBk x p
     have hne:x≠k:=λe=>q (e▸hMk)
     omega
   ·simp;omega
   ·dsimp only;omega
  ·rintro⟨x,_⟩ ⟨i,rfl,hi,g1,g2,g3,g4⟩
   dsimp only at g1 g2 g3 g4 ⊢
   by_cases hil:i<(Aj E).length
   ·obtain⟨u,hu32,hu,eu⟩:=mem_elems.1 (List.getElem_mem hil)
    obtain⟨hus,huk⟩:=(hD u).1 hu
    have hun:=hs.2 u hus
    rw[dlt hil,cT,AF hil,bs,eu,Cm,bs,bs,wi (by omega)]
    have hpr:∀v,El (ior .u32 (ishl .u32 1 (u:Int)) (ishl .u32 1 (k:Int))) v↔v=u∨v=k:=λv=>by
     unfold El;rw[BU (VS.ishl _ _) (VS.ishl _ _),BE (by omega),BE hk32,Bool.or_eq_true,decide_eq_true_eq,decide_eq_true_eq]
    obtain⟨c,ec,hc,c1,c2,c3⟩:=closureOf_ok hn hF hs (s:=ior .u32 (ishl .u32 1 (u:Int)) (ishl .u32 1 (k:Int))) ⟨VS.ior _ _,λw hw=>by
     rcases(hpr w).1 hw with rfl|rfl
     ·exact hun
     ·exact hkn⟩ (λv hv=>by
     rcases(hpr v).1 hv with rfl|rfl
     ·exact hus
     ·exact hks) ⟨u,(hpr u).2 (.inl rfl)⟩
    rw[ec,bs]
    have hcu:=c1 u ((hpr u).2 (.inl rfl))
    have hck:=c1 k ((hpr k).2 (.inr rfl))
    have htk:∀v:Nat,(v:Int)∈(Aj E).take (i+1)↔(v:Int)∈(Aj E).take i∨v=u:=λv=>by
     rw[List.take_succ_eq_append_getElem hil,List.mem_append,eu,List.mem_singleton,Int.natCast_inj]
    by_cases hcs:c=s
    ·rw[show (c !=s)=false by rw[hcs];simp,cF]
     refine⟨_,rfl,⟨i+1,rfl,by omega,g1,g2,g3,λv hv hm=> ?_⟩,by dsimp only;omega⟩
     rcases(htk v).1 hv with h|rfl
     ·exact g4 v h hm
     ·obtain⟨A,a1,⟨y,y1,y2⟩,a3,a4⟩:=hm
      refine absurd (c3 A a1 (λw hw=> ?_) y (by rw[hcs];exact y1)) y2
      rcases(hpr w).1 hw with rfl|rfl
      ·exact a4
      ·exact a3
    ·rw[show (c !=s)=true from bne_iff_ne.2 hcs,cT]
     have hor:∀v,El (ior .u32 x c) v↔El x v∨El c v:=λv=>by
      unfold El;rw[BU g1 hc.1,Bool.or_eq_true]
     obtain⟨y,y1,y2⟩:=ssub_of hc.1 hs.1 c2.1 hcs
     refine⟨_,rfl,⟨i+1,rfl,by omega,VS.ior _ _,(hor k).2 (.inl g2),λv hv=> ?_,λv hv hm=> ?_⟩,by dsimp only;omega⟩
     ·rcases(hor v).1 hv with h|h
      ·exact g3 v h
      ·exact⟨El c,c2,⟨y,y1,y2⟩,hck,h⟩
     ·rcases(htk v).1 hv with h|rfl
      ·exact(hor v).2 (.inl (g4 v h hm))
      ·exact(hor v).2 (.inr hcu)
   ·obtain rfl:i=(Aj E).length:=by omega
    rw[Bs,cF]
    refine⟨_,rfl,g1,λy=>⟨g3 y,λhy=> ?_⟩⟩
    by_cases e:y=k
    ·rw[e];exact g2
    ·exact g4 y (by rw[List.take_length];exact(AG hEv).2 ((hD y).2 ⟨hy.mem,e⟩)) hy
end
end Go.Sx

namespace Go.Sx
open Classical in
noncomputable def A5 (F F':LI)(s:Int):Int×LI:=
 if(Aj s).length=1 then(1,[])
 else if((D.o F s).getD []).length≠1 then(2,(D.o F s).getD [])
 else if((D.o F' s).getD []).length≠1 then(3,(D.o F' s).getD [])
 else(4,(D.i0 F s).getD [])
def QS (n:Nat)(s:Int):Prop:=In n s∧∃v,El s v
abbrev mu (s:Int):Nat:=(Aj s).length
theorem mu_pos {s:Int}(hs:VS s)(h:∃v,El s v):1≤mu s:=by
 obtain⟨v,hv⟩:=h
 exact List.length_pos_of_mem ((AG hs).2 hv)
theorem mu_two {s:Int}(hs:VS s)(h:∃v,El s v)(h1:mu s≠1):∃p q,El s p∧El s q∧p≠q:=by
 have h2:2≤(Aj s).length:=by have:=mu_pos hs h;unfold mu at*;omega
 obtain⟨p,_,hp,ep⟩:=mem_elems.1 (List.getElem_mem (show 0<(Aj s).length by omega))
 obtain⟨q,_,hq,eq⟩:=mem_elems.1 (List.getElem_mem (show 1<(Aj s).length by omega))
 refine⟨p,q,hp,hq,λe=> ?_⟩
 have:=List.pairwise_iff_getElem.1 (Bl s) 0 1 (by omega) (by omega) (by omega)
 omega
theorem mu_one {s:Int}(hs:VS s)(h:mu s=1):∃v,∀w,El s w↔w=v:=by
 obtain⟨v,_,hv,ev⟩:=mem_elems.1 (List.getElem_mem (show 0<(Aj s).length by unfold mu at h;omega))
 refine⟨v,λw=>⟨λhw=> ?_,λe=>e▸hv⟩⟩
 obtain⟨i,hi,e⟩:=List.getElem_of_mem ((AG hs).2 hw)
 unfold mu at h
 obtain rfl:i=0:=by omega
 omega
section
variable {F F' : LI} {n : Nat} (hn : n ≤ 16) (hF : FOk F n) (hFc : FOk F' n) (hF' : ∀ u w, u < n → nb F' u w = (decide (w < n) && !nb F u w && !decide (w = u)))
include hn hF in
theorem Ec {W:Int}(hW:In n W):∃l,D.o F W=some l∧Parts F (El W) l∧l.Pairwise Bef∧l.length≤16:=by
 obtain⟨l,e,h1,h2⟩:=partsOf_ok hn hF hW
 obtain⟨l',e',h3⟩:=partsOf_ord hn hF hW
 obtain rfl:l=l':=Option.some.inj (e.symm.trans e')
 exact⟨l,e,h1,h3,h2⟩
include hn hF hFc hF'
theorem DM {s:Int}(hs:QS n s):C2 F n s (A5 F F' s).1 (A5 F F' s).2∧
  ((mu s=1∧A5 F F' s=(1,[]))∨(mu s≠1∧∃A,D.o F s=some A∧A.length≤16∧((A.length≠1∧A5 F F' s=(2,A))∨
   (A.length=1∧∃B,D.o F' s=some B∧B.length≤16∧((B.length≠1∧A5 F F' s=(3,B))∨(B.length=1∧∃C,D.i0 F s=some C∧A5 F F' s=(4,C))))))):=by
 obtain⟨h1,h2⟩:=hs
 unfold A5
 by_cases e1:(Aj s).length=1
 ·rw[if_pos e1]
  obtain⟨v,hv⟩:=mu_one h1.1 e1
  exact⟨kin_leaf h1 hv,.inl ⟨e1,rfl⟩⟩
 ·rw[if_neg e1]
  obtain⟨A,eA,pA,oA,lA⟩:=Ec hn hF h1
  obtain⟨q1,q2⟩:=pA.one h2
  rw[eA,Option.getD_some]
  by_cases e2:A.length=1
  ·rw[if_neg (by simpa using e2)]
   have hJ:=q1.1 e2
   obtain⟨B,eB,pB,oB,lB⟩:=Ec hn hFc h1
   obtain⟨r1,r2⟩:=pB.one h2
   rw[eB,Option.getD_some]
   by_cases e3:B.length=1
   ·rw[if_neg (by simpa using e3)]
    have hJ':=(joint_co hF hF' h1).1 (r1.1 e3)
    obtain⟨p,q,hp,hq,hpq⟩:=mu_two h1.1 h2 e1
    obtain⟨C,eC,hC⟩:=greatest_ok hn hF h1 hJ hJ' hp hq hpq
    rw[eC,Option.getD_some]
    exact⟨hC,.inr ⟨e1,A,rfl,lA,.inr ⟨e2,B,rfl,lB,.inr ⟨e3,C,rfl,rfl⟩⟩⟩⟩
   ·rw[if_pos e3]
    exact⟨kin_join hF hF' h1 h2 hJ pB oB (by show 2≤B.length;omega),.inr ⟨e1,A,rfl,lA,.inr ⟨e2,B,rfl,lB,.inl ⟨e3,rfl⟩⟩⟩⟩
  ·rw[if_pos e2]
   exact⟨kin_union h1 h2 pA oA (by show 2≤A.length;omega),.inr ⟨e1,A,rfl,lA,.inl ⟨e2,rfl⟩⟩⟩
theorem D5 {s:Int}(hs:QS n s):∀t∈(A5 F F' s).2,QS n t∧mu t<mu s:=by
 intro t ht
 have hk:=(DM hn hF hFc hF' hs).1.2.2.1
 obtain⟨h1,h2,h3⟩:=hk.sub t ht
 obtain⟨y,y1,y2⟩:=hk.prp ht
 exact⟨⟨h1,h2⟩,DL h1.1 hs.1.1 h3 y1 y2⟩
theorem Fm {fuel k:Nat}{ps:LI}(ih:∀t tree,QS n t→mu t<k→tree.length+(mtr (A5 F F') k [t]).sz≤4294967296→D.E fuel F F' t tree=some (tree++(mtr (A5 F F') k [t]).em tree.length))
  (hps:∀t∈ps,QS n t∧mu t<k) (hpl:ps.length≤1000):∀(rest pre:LI) (X:List (Int×Int×LI)) (K:LI),ps=pre++rest→X.length+(mtr (A5 F F') k rest).sz≤4294967296→K.length=pre.length→
   Ar (σ:=(List (Int×Int×LI))×Int×LI) (ρ:=((List (Int×Int×LI))×LI)) (fun(s_197:(List (Int×Int×LI))×Int×LI)=>match s_197 with|(l_203,x_208,l_209)=>cond (decide (x_208<(ps.length:Int))) ((idx ps x_208).bind λe_256=>(D.E fuel F F' e_256 l_203).bind λy_262=>(AK l_209 ([(IntKind.i64.wrap ((y_262.length:Int)-1))]:LI)).bind λl_277=>some (.inl (y_262,(IntKind.i64.wrap (x_208+1)),l_277))) (some (.inr (l_203,l_209)))) (X,(pre.length:Int),K)=
    some (X++(mtr (A5 F F') k rest).em X.length,K++(mtr (A5 F F') k rest).rts X.length)
 |[],pre,X,K,e,hX,hK=>by
  rw[List.append_nil] at e
  subst e
  refine Bo ?_
  dsimp only
  rw[Bs,cF,CH]
  simp[FT.em,FT.rts]
 |t::rest,pre,X,K,e,hX,hK=>by
  have htm:t∈ps:=by rw[e];simp
  obtain⟨hq,hm⟩:=hps t htm
  obtain⟨m,rfl⟩:∃m,k=m+1:=⟨k-1,by omega⟩
  have hlen:ps.length=pre.length+(rest.length+1):=by rw[e];simp
  have hget:ps[pre.length]'(by omega)=t:=by simp[e]
  have hsz:(mtr (A5 F F') (m+1) [t]).sz=(mtr (A5 F F') m (A5 F F' t).2).sz+1:=by rw[Cb];simp[FT.sz];rfl
  rw[Cb] at hX ⊢
  simp only[FT.sz] at hX
  have hstep:=ih t X hq hm (by rw[hsz];omega)
  have hl:(X++(mtr (A5 F F') (m+1) [t]).em X.length).length=X.length+(mtr (A5 F F') m (A5 F F' t).2).sz+1:=by
   rw[List.length_append,FT.em_len,hsz];omega
  rw[BK (s':=(X++(mtr (A5 F F') (m+1) [t]).em X.length,((pre.length+1:Nat):Int),K++[((X.length+(mtr (A5 F F') m (A5 F F' t).2).sz:Nat):Int)])) (by
   dsimp only
   rw[dlt (by omega),cT,AF (show pre.length<ps.length by omega),bs,hget,hstep,bs,hl,w64 (by omega) (by omega),AY (by simp;omega),bs,wi (by omega),show (((X.length+(mtr (A5 F F') m (A5 F F' t).2).sz+1:Nat):Int)-1)=((X.length+(mtr (A5 F F') m (A5 F F' t).2).sz:Nat):Int) by omega])]
  have:=Fm ih hps hpl rest (pre++[t]) (X++(mtr (A5 F F') (m+1) [t]).em X.length) (K++[((X.length+(mtr (A5 F F') m (A5 F F' t).2).sz:Nat):Int)]) (by rw[e];simp) (by rw[hl];omega) (by simp[hK])
  rw[hl] at this
  rw[show ((pre.length+1:Nat):Int)=(((pre++[t]).length:Nat):Int) by simp,this]
  have e1:(mtr (A5 F F') (m+1) [t]).em X.length=(mtr (A5 F F') m (A5 F F' t).2).em X.length++[((A5 F F' t).1,(if(A5 F F' t).1=1 then lst t else 0),(mtr (A5 F F') m (A5 F F' t).2).rts X.length)]:=by rw[Cb];rfl
  rw[e1]
  simp[FT.em,FT.rts]
theorem addMod_ok :∀(k:Nat) (s:Int) (fuel:Nat) (tree:List (Int×Int×LI)),QS n s→mu s<k→k≤fuel→tree.length+(mtr (A5 F F') k [s]).sz≤4294967296→
  D.E fuel F F' s tree=some (tree++(mtr (A5 F F') k [s]).em tree.length)
 |0,s,fuel,tree,hs,hm,_,_=>absurd hm (by omega)
 |k+1,s,0,tree,hs,hm,hf,hB=>by omega
 |k+1,s,fuel+1,tree,hs,hm,hf,hB=>by
  obtain⟨hk,hcase⟩:=DM hn hF hFc hF' hs
  have hless:=D5 hn hF hFc hF' hs
  rw[Cb] at hB ⊢
  have hne0:s≠0:=bne_iff_ne.1 ((Cu hs.1.1).2 hs.2)
  have ih:=λt tree (h1:QS n t) (h2:mu t<k) (h3:tree.length+(mtr (A5 F F') k [t]).sz≤4294967296)=>addMod_ok k t fuel tree h1 h2 (by omega) h3
  unfold D.E
  rw[Eg hs.1.1,bs]
  have e0:(mtr (A5 F F') (k+1) [])= .nil:=CH _ _
  rw[e0] at hB ⊢
  have fin:∀kd ps,A5 F F' s=(kd,ps)→ps.length≤1000→kd≠1→((Ar (σ:=(List (Int×Int×LI))×Int×LI) (ρ:=((List (Int×Int×LI))×LI)) (fun(s_197:(List (Int×Int×LI))×Int×LI)=>match s_197 with|(l_203,x_208,l_209)=>cond (decide (x_208<(ps.length:Int))) ((idx ps x_208).bind λe_256=>(D.E fuel F F' e_256 l_203).bind λy_262=>(AK l_209 ([(IntKind.i64.wrap ((y_262.length:Int)-1))]:LI)).bind λl_277=>some (.inl (y_262,(IntKind.i64.wrap (x_208+1)),l_277))) (some (.inr (l_203,l_209)))) (tree,0,([]:LI))).bind fun(l_244,l_249)=>(AK l_244 ([(kd,0,l_249)]:List (Int×Int×LI))).bind λl_290=>some l_290)=
    some (tree++(FT.cons (A5 F F' s).1 s (mtr (A5 F F') k (A5 F F' s).2) .nil).em tree.length):=by
   intro kd ps e hl hkd
   rw[e] at hless hB ⊢
   simp only[FT.sz] at hB
   have:=Fm hn hF hFc hF' (fuel:=fuel) (k:=k) (ps:=ps) ih (λt ht=>⟨(hless t ht).1,by have:=(hless t ht).2;omega⟩) hl ps [] tree [] rfl (by omega) rfl
   rw[show (([]:LI).length:Int)=0 from rfl] at this
   rw[this,bs]
   dsimp only
   rw[AY (by rw[List.length_append,FT.em_len];simp;omega),bs,List.nil_append]
   simp[FT.em,hkd]
  rcases hcase with⟨h1,e1⟩|⟨h1,A,eA,lA,hA⟩
  ·have hone:(((Aj s).length:Int)==1)=true:=beq_iff_eq.2 (by unfold mu at h1;omega)
   obtain⟨v,hv32,ev,hv,_,_⟩:=Dc hs.1.1 hne0
   obtain⟨w,hw⟩:=mu_one hs.1.1 h1
   obtain⟨m,em,m1,_,_⟩:=Dg hn hs.1 hs.2
   have hvm:v=m:=((hw v).1 hv).trans ((hw m).1 m1).symm
   rw[e1] at hB ⊢
   simp only[FT.sz] at hB
   rw[hone,cT,ev,bs]
   unfold D.q1
   rw[bs,AY (by simp;omega),bs,CH]
   simp[FT.em,FT.rts,em,hvm]
  ·have hone:(((Aj s).length:Int)==1)=false:=beq_eq_false_iff_ne.2 (by unfold mu at h1;omega)
   rw[hone,cF,eA,bs]
   rcases hA with⟨h2,e2⟩|⟨h2,B,eB,lB,hB'⟩
   ·rw[show (((A.length:Int)==1))=false from beq_eq_false_iff_ne.2 (by omega),cF,bs]
    dsimp only
    rw[show (((A.length:Int)==1))=false from beq_eq_false_iff_ne.2 (by omega),cF,bs]
    exact fin 2 A e2 (by omega) (by omega)
   ·rw[show (((A.length:Int)==1))=true from beq_iff_eq.2 (by omega),cT,eB,bs,bs]
    dsimp only
    rcases hB' with⟨h3,e3⟩|⟨h3,C,eC,e4⟩
    ·rw[show (((B.length:Int)==1))=false from beq_eq_false_iff_ne.2 (by omega),cF,bs]
     exact fin 3 B e3 (by omega) (by omega)
    ·rw[show (((B.length:Int)==1))=true from beq_iff_eq.2 (by omega),cT,eC,bs,bs]
     have hCl:C.length≤1000:=by
      rw[e4] at hk
      have hd:=hk.2.2.1
      have hnd:(C.map lst).Nodup:=by
       unfold List.Nodup
       rw[List.pairwise_map]
       refine List.Pairwise.imp_of_mem (R:=λa b=>∀x,¬(El a x∧El b x)) (fun{a b} ha hb hab e=> ?_) hd.dis
       obtain⟨a1,a2,_⟩:=hd.sub a ha
       obtain⟨b1,b2,_⟩:=hd.sub b hb
       obtain⟨x,ex,x1,_,_⟩:=Dg hn a1 a2
       obtain⟨y,ey,y1,_,_⟩:=Dg hn b1 b2
       have:x=y:=by omega
       exact hab x ⟨x1,this▸y1⟩
      have:=BG (m:=(List.range 16).map Int.ofNat) hnd (λz hz=>by
       obtain⟨t,ht,rfl⟩:=List.mem_map.1 hz
       obtain⟨a1,a2,_⟩:=hd.sub t ht
       obtain⟨x,ex,x1,x2,_⟩:=Dg hn a1 a2
       exact List.mem_map.2 ⟨x,List.mem_range.2 (by omega),ex.symm⟩)
      simp at this;omega
     exact fin 4 C e4 hCl (by omega)
end
end Go.Sx

namespace Go.Sx
theorem sum_le {n:Nat}{s:Int}{ts:LI}(hs:VS s)(h:Kids n s ts):(ts.map mu).sum≤mu s:=by
 have hnd:(ts.flatMap Aj).Nodup:=by
  unfold List.Nodup
  rw[List.pairwise_flatMap]
  refine⟨λt _=>(Bl t).nodup,?_⟩
  refine List.Pairwise.imp_of_mem (R:=λa b=>∀x,¬(El a x∧El b x)) (fun{a b} ha hb hab=> ?_) h.dis
  intro x hx y hy exy
  obtain⟨v,_,hv,e⟩:=mem_elems.1 hx
  obtain⟨w,_,hw,e'⟩:=mem_elems.1 hy
  have:v=w:=by omega
  exact hab v ⟨hv,this▸hw⟩
 have:=BG (m:=Aj s) hnd λx hx=>by
  obtain⟨t,ht,hx⟩:=List.mem_flatMap.1 hx
  obtain⟨v,_,hv,rfl⟩:=mem_elems.1 hx
  exact(AG hs).2 ((h.sub t ht).2.2 v hv)
 rw[List.length_flatMap] at this
 exact this
theorem D2 :∀{f:FT},f.tops=[]→f= .nil
 | .nil,_=>rfl
 | .cons _ _ _ _,h=>by simp[FT.tops] at h
theorem sz_bound {n:Nat}{P:Int→Int→LI→LI→Prop}(hP:∀k s ks ts,P k s ks ts→Kids n s ts∧In n s∧∃v,El s v):∀f:FT,f.all P→f.sz+f.tops.length≤2*(f.tops.map mu).sum
 | .nil,_=>by simp[FT.sz,FT.tops]
 | .cons k s c r,hf=>by
  obtain⟨h1,h2,h3⟩:=hP _ _ _ _ hf.1
  have hc:=sz_bound hP c hf.2.1
  have hr:=sz_bound hP r hf.2.2
  have hp:=mu_pos h2.1 h3
  have hsum:=sum_le h2.1 h1
  simp only[FT.sz,FT.tops,List.length_cons,List.map_cons,List.sum_cons]
  rcases h1.two with e|e
  ·rw[D2 e] at hc ⊢
   simp only[FT.sz] at hc ⊢
   omega
  ·omega
def PN (F:LI)(n:Nat)(k s:Int)(_ks ts:LI):Prop:=C2 F n s k ts
theorem PN.kids {F:LI}{n:Nat}:∀k s ks ts,PN F n k s ks ts→Kids n s ts∧In n s∧∃v,El s v:=λ_ _ _ _ h=>⟨h.2.2.1,h.1,h.2.1⟩
noncomputable abbrev MT (g:LL)(F':LI):FT:=mtr (A5 (g.map mk) F') (g.length+1) [A9 g.length]
theorem In.full' {n:Nat}(hn:n≤16):In n (A9 n):=⟨Eo _,λw hw=>by rw[CD hn,decide_eq_true_eq] at hw;exact hw⟩
section
variable {F F' : LI} {n : Nat} (hn : n ≤ 16) (hF : FOk F n) (hFc : FOk F' n) (hF' : ∀ u w, u < n → nb F' u w = (decide (w < n) && !nb F u w && !decide (w = u)))
include hn hF hFc hF'
theorem mtr_nd {k:Nat}{l:LI}(h:∀s∈l,QS n s∧mu s<k):(mtr (A5 F F') k l).all (Nd (A5 F F') (QS n)):=E4 (μ:=mu) (λs hs=>D5 hn hF hFc hF' hs) k l h
theorem mtr_pn {k:Nat}{l:LI}(h:∀s∈l,QS n s∧mu s<k):(mtr (A5 F F') k l).all (PN F n):=
 FT.all_mono (λk s ks ts hk=>by
  obtain⟨h1,h2,h3,_⟩:=hk
  have:=(DM hn hF hFc hF' h1).1
  unfold PN
  rw[h2,h3];exact this) _ (mtr_nd hn hF hFc hF' h)
end
section
variable {g : LL} (hg : GOk g) {F' : LI} (hFc : FOk F' g.length) (hF' : ∀ u w, u < g.length → nb F' u w = (decide (w < g.length) && !nb (g.map mk) u w && !decide (w = u)))
include hg in
theorem Cp :QS g.length (A9 g.length)∧mu (A9 g.length)=g.length:=by
 have h16:=hg.n16
 have hn1:=hg.n1
 refine⟨⟨In.full' h16,0,by show has _ 0=true;rw[CD h16];exact decide_eq_true (by omega)⟩,?_⟩
 show (Aj (A9 g.length)).length=_
 rw[EA h16];simp
include hg hFc hF'
theorem C9 :(MT g F').all (PN (g.map mk) g.length):=mtr_pn hg.n16 (FOk.of hg) hFc hF' λs hs=>by
 obtain⟨h1,h2⟩:=Cp hg
 rw[List.mem_singleton.1 hs]
 exact⟨h1,by omega⟩
theorem MT_nd :(MT g F').all (Nd (A5 (g.map mk) F') (QS g.length)):=mtr_nd hg.n16 (FOk.of hg) hFc hF' λs hs=>by
 obtain⟨h1,h2⟩:=Cp hg
 rw[List.mem_singleton.1 hs]
 exact⟨h1,by omega⟩
theorem C7 :(MT g F').sz+1≤2*g.length:=by
 have:=sz_bound PN.kids _ (C9 hg hFc hF')
 have ht:(MT g F').tops=[A9 g.length]:=Dt _ _ _
 rw[ht] at this
 have h2:=(Cp hg).2
 simp at this
 rw[h2] at this
 omega
theorem Et (hc:D.X (g.map mk)=some F'):D.b0 g=some ((MT g F').em 0,true):=by
 have h16:=hg.n16
 have hsz:=C7 hg hFc hF'
 obtain⟨h1,h2⟩:=Cp hg
 unfold D.b0
 rw[CL g hg.sh2,Cv hg,bs,Bool.not_true,cF,D6 g hg,bs,hc,bs,C8,bs,List.length_map]
 unfold D.p
 rw[addMod_ok h16 (FOk.of hg) hFc hF' (g.length+1) (A9 g.length) BP [] h1 (by omega) (by have:=C5;omega) (by rw[List.length_nil];unfold MT at hsz;omega),bs]
 rfl
end
theorem Dz :∀(f:FT) (o:Nat),(f.rts o).Nodup
 | .nil,_=>List.nodup_nil
 | .cons k s c r,o=>by
  rw[FT.rts]
  refine List.nodup_cons.2 ⟨λh=> ?_,Dz r _⟩
  have:=(r.rts_rng _ _ h).1
  omega
noncomputable def Dx (x0:List (Int×Int×LI)):(LI×LI×Int)→Option ((LI×LI×Int) ⊕ ((LI×LI) ⊕ (LI×Bool))):=
 (fun(s_475:LI×LI×Int)=>match s_475 with|(l_478,l_483,x_488)=>cond (decide (x_488<(x0.length:Int))) ((idx x0 x_488).bind λe_728=>cond (e_728.1==1) ((D.y e_728.2.1 0 15).bind λy_737=>cond ((!y_737)||(decide ((0:Int)<(e_728.2.2.length:Int)))) (some (.inr (.inr (([]:LI),false)))) ((D.c e_728.2.1).bind λy_751=>(AK l_478 ([x_488]:LI)).bind λl_762=>(AK l_483 ([y_751]:LI)).bind λl_772=>some (.inl (l_762,l_772,(IntKind.i64.wrap (x_488+1)))))) (((cond (e_728.1==2) (some (e_728.1==2)) (cond (e_728.1==3) (some (e_728.1==3)) (some (e_728.1==4))):Option (Bool))).bind λb_783=>cond b_783 ((cond (e_728.2.1 !=0) (some true) ((D.r0 e_728.2.2 l_478 l_483).bind λy_819=>some (!y_819))).bind λb_817=>cond b_817 (some (.inr (.inr (([]:LI),false)))) ((Ar (σ:=Int×Int) (ρ:=(Int) ⊕ ((LI)×Bool)) (fun(s_883:Int×Int)=>match s_883 with|(x_886,x_887)=>cond (decide (x_887<(e_728.2.2.length:Int))) ((idx e_728.2.2 x_887).bind λe_913=>(idx l_483 e_913).bind λe_919=>cond ((iand .u32 x_886 e_919) !=0) (some (.inr (.inr (([]:LI),false)))) ((idx l_483 e_913).bind λe_929=>some (.inl ((ior .u32 x_886 e_929),(IntKind.i64.wrap (x_887+1)))))) (some (.inr (.inl x_886)))) (0,0)).bind λzz=>match zz with| .inl x_910=>((BW l_478 0 (IntKind.i64.wrap ((l_478.length:Int)-(e_728.2.2.length:Int)))).bind λl_935=>(AK l_935 ([x_488]:LI)).bind λl_945=>(AK l_483 ([x_910]:LI)).bind λl_955=>some (.inl (l_945,l_955,(IntKind.i64.wrap (x_488+1)))))| .inr z=>(some (.inr (.inr z))))) (some (.inr (.inr (([]:LI),false)))))) (some (.inr (.inl (l_478,l_483)))))
theorem idx_rts (c:FT)(o:Nat)(L:LI)(hL:L.length=o){i:Nat}(hi:i<c.tops.length):idx (L++c.sts) ((c.rts o).getD i 0)=some (c.tops.getD i 0):=by
 have h1:=c.rts_get o i L [] hL hi
 have h2:((c.rts o).getD i 0)∈c.rts o:=by
  have:i<(c.rts o).length:=by rw[c.rts_len];exact hi
  rw[A6 this];exact List.getElem_mem _
 have h3:=(c.rts_rng o _ h2).1
 unfold idx
 rw[if_pos (by omega)]
 rw[List.append_nil] at h1
 exact h1
theorem Bef.least {s t:Int}{a b:Nat}(h:Bef s t)(ha:∀x,El s x→a≤x)(hb:El t b):a<b:=by
 obtain⟨m,m1,m2⟩:=h
 have:=ha m m1
 have:=m2 b hb
 omega
section
variable {F : LI} {n : Nat} (hn : n ≤ 16)
include hn
theorem D3 {t:Int}(h1:In n t)(h2:∃v,El t v):∃m:Nat,D.e t=some (m:Int)∧lst t=(m:Int)∧El t m∧m<n∧∀x,El t x→m≤x:=by
 obtain⟨k,_,ek,hk,hl,_⟩:=Dc h1.1 (bne_iff_ne.1 ((Cu h1.1).2 h2))
 obtain⟨m,em,m1,m2,m3⟩:=Dg hn h1 h2
 have:k=m:=by
  have h3:=m3 k hk
  apply Classical.byContradiction
  intro c
  have:=hl m (by omega)
  rw[show has t m=true from m1] at this;cases this
 subst this
 exact⟨k,ek,em,m1,m2,m3⟩
theorem goodKids_ok {s:Int}{ks:LI}(c:FT)(hK:Kids n s c.tops)(h2:2≤c.tops.length)(O L:LI)(o:Nat)(hL:L.length=o)(hO:O.length+c.tops.length≤100000)(hks:ks=c.rts o):
  D.r0 ks (O++ks) (L++c.sts)=some true:=by
 have hkl:ks.length=c.tops.length:=by rw[hks,c.rts_len]
 have hgk:∀i (hi:i<ks.length),ks[i]=(c.rts o).getD i 0:=λi hi=>by subst hks;rw[A6 hi]
 unfold D.r0
 rw[show decide ((ks.length:Int)<2)=false from decide_eq_false (by omega),show decide (((O++ks).length:Int)<(ks.length:Int))=false from decide_eq_false (by simp;omega),Bool.or_false,cF,
  show IntKind.i64.wrap (((O++ks).length:Int)-(ks.length:Int))=((O.length:Nat):Int) by rw[w64 (by rw[List.length_append];omega) (by rw[List.length_append];omega),List.length_append];omega,Du (by simp),bs,List.drop_left]
 refine(CX ks.length (λ_=>true) (.inl ()) (.inr false) (λi hi=> ?_) ?_).trans ?_
 ·have hit:i<c.tops.length:=by omega
  have hleast:∀j (hj:j<c.tops.length),∃m:Nat,D.e c.tops[j]=some (m:Int)∧El c.tops[j] m∧∀x,El c.tops[j] x→m≤x:=λj hj=>by
   obtain⟨a1,a2,_⟩:=hK.sub _ (List.getElem_mem hj)
   obtain⟨m,e,_,m1,_,m3⟩:=D3 hn a1 a2
   exact⟨m,e,m1,m3⟩
  have hidx:∀j (hj:j<ks.length),idx (L++c.sts) ks[j]=some (c.tops[j]'(by omega)):=λj hj=>by
   rw[hgk j hj,idx_rts c o L hL (by omega),A6 (by omega)]
  rw[dlt hi,cT,AF hi,bs,bs,bne_self_eq_false,cF,wi (by omega)]
  by_cases h0:0<i
  ·have e0:IntKind.i64.wrap ((i:Int)-1)=((i-1:Nat):Int):=by rw[w64 (by omega) (by omega)];omega
   obtain⟨a,ea,a1,a2⟩:=hleast (i-1) (by omega)
   obtain⟨b,eb,b1,b2⟩:=hleast i hit
   have hB:Bef (c.tops[i-1]'(by omega)) c.tops[i]:=List.pairwise_iff_getElem.1 hK.ord (i-1) i (by omega) hit (by omega)
   have hab:=hB.least a2 b1
   rw[show decide ((0:Int)<(i:Int))=true from decide_eq_true (by omega),cT,e0,AF (show i-1<ks.length by omega),bs,hidx (i-1) (by omega),bs,ea,bs,hidx i hi,bs,eb,bs,decide_eq_false (by omega)]
   rfl
  ·rw[show decide ((0:Int)<(i:Int))=false from decide_eq_false (by omega)]
   rfl
 ·rw[Bs,cF]
 ·rw[show ((List.range ks.length).all λ_=>true)=true by simp];rfl
theorem ED (xs:List (Int×Int×LI))(hxs:xs.length≤100000):∀(f:FT) (A B:List (Int×Int×LI)) (O L:LI),f.all (PN F n)→xs=A++f.em A.length++B→L.length=A.length→O.length+f.sz≤100000→
  Ar (Dx xs) (O,L,(A.length:Int))=Ar (Dx xs) (O++f.rts A.length,L++f.sts,((A.length+f.sz:Nat):Int))
 | .nil,A,B,O,L,hf,hx,hL,hO=>by simp[FT.rts,FT.sts,FT.sz]
 | .cons k s c r,A,B,O,L,hf,hx,hL,hO=>by
  obtain⟨hk,hc,hr⟩:=hf
  have hKd:=hk.2.2.1
  have hIn:=hk.1
  have hcl:=c.em_len A.length
  have hcs:=c.sts_len
  simp only[FT.sz] at hO
  have hxl:xs.length=A.length+(c.sz+1+r.sz)+B.length:=by rw[hx];simp[FT.em,hcl,r.em_len];omega
  have hctl:c.tops.length≤c.sz:=by
   have h1:=c.rts_len A.length
   have h2:=BG (l:=c.rts A.length) (m:=(List.range c.sz).map λj:Nat=>((A.length+j:Nat):Int)) (Dz c A.length) (λx hx=>by
    have h3:=c.rts_rng A.length x hx
    exact List.mem_map.2 ⟨(x-A.length).toNat,List.mem_range.2 (by omega),by omega⟩)
   simp at h2;omega
  have s1:=ED xs hxs c A ((k,(if k=1 then lst s else 0),c.rts A.length)::r.em (A.length+c.sz+1)++B) O L hc (by rw[hx];simp[FT.em]) hL (by omega)
  rw[s1]
  have hnode:idx xs ((A.length+c.sz:Nat):Int)=some (k,(if k=1 then lst s else 0),c.rts A.length):=by
   rw[AF (by omega)]
   simp only[hx,FT.em]
   rw[List.getElem_append_left (by simp[hcl]),List.getElem_append_right (by omega)]
   simp[hcl]
  have hstep:Dx xs (O++c.rts A.length,L++c.sts,((A.length+c.sz:Nat):Int))=some (.inl (O++[((A.length+c.sz:Nat):Int)],L++c.sts++[s],((A.length+c.sz+1:Nat):Int))):=by
   unfold Dx
   dsimp only
   rw[dlt (show A.length+c.sz<xs.length by omega),cT,hnode,bs]
   dsimp only
   by_cases hk1:k=1
   ·subst hk1
    have hleaf:c.tops=[]∧∃v,∀w,El s w↔w=v:=by
     rcases hk.2.2.2 with⟨_,a,b⟩|⟨_,a,_⟩|⟨_,a,_⟩|⟨_,a,_⟩
     ·exact⟨a,b⟩
     ·omega
     ·omega
     ·omega
    obtain⟨ht,v,hv⟩:=hleaf
    have hcn:=D2 ht
    subst hcn
    obtain⟨m,em,m1,m2,_⟩:=Dg hn hIn hk.2.1
    have hs:ishl .u32 1 (m:Int)=s:=VS.ext (VS.ishl _ _) hIn.1 λw _=>by
     rw[BE (by omega),Bool.eq_iff_iff,decide_eq_true_eq]
     have hmv:=(hv m).1 m1
     exact⟨λe=>by rw[e];exact m1,λh=>((hv w).1 h).trans hmv.symm⟩
    rw[beq_self_eq_true,cT,if_pos rfl,em,DJ,bs,decide_eq_true (by omega),decide_eq_true (by omega),Bool.and_self,Bool.not_true,Bool.false_or,show decide ((0:Int)<((FT.rts .nil A.length).length:Int))=false from rfl,cF,Cm,bs,hs,
     show FT.rts .nil A.length=[] from rfl,show FT.sts .nil=[] from rfl,show FT.sz .nil=0 from rfl,List.append_nil,List.append_nil,Nat.add_zero,AY (by rw[List.length_singleton];omega),bs,AY (by rw[List.length_singleton];omega),bs,wi (by omega)]
   ·have hkk:k=2∨k=3∨k=4:=by
     rcases hk.2.2.2 with⟨a,_⟩|⟨_,a,_⟩|⟨_,a,_⟩|⟨_,a,_⟩
     ·exact absurd a hk1
     ·exact .inl a
     ·exact .inr (.inl a)
     ·exact .inr (.inr a)
    have hne:c.tops≠[]:=by
     rcases hk.2.2.2 with⟨a,_⟩|⟨a,_⟩|⟨a,_⟩|⟨a,_⟩
     ·exact absurd a hk1
     ·exact a
     ·exact a
     ·exact a
    have h2:=hKd.two.resolve_left hne
    rw[show (k==1)=false from beq_eq_false_iff_ne.2 hk1,cF,if_neg hk1]
    have hb:(cond (k==2) (some (k==2)) (cond (k==3) (some (k==3)) (some (k==4))))=some true:=by rcases hkk with rfl|rfl|rfl<;>rfl
    rw[hb,bs,cT,show ((0:Int) !=0)=false from rfl,cF,goodKids_ok hn c hKd h2 O L A.length hL (by omega) rfl,bs,bs,Bool.not_true,cF]
    have hrl:=c.rts_len A.length
    have hidx:∀j (hj:j<(c.rts A.length).length),idx (L++c.sts) (c.rts A.length)[j]=some (c.tops[j]'(by omega)):=λj hj=>by
     have:=idx_rts c A.length L hL (i:=j) (by omega)
     rw[A6 hj,A6 (by omega)] at this
     exact this
    suffices h:∃y,(Ar _ _).bind _=some y∧y=Sum.inl (O++[((A.length+c.sz:Nat):Int)],L++c.sts++[s],((A.length+c.sz+1:Nat):Int)) by
     obtain⟨y,h1,rfl⟩:=h;exact h1
    refine AO (λq=>∃i:Nat,q.2=(i:Int)∧i≤c.tops.length∧VS q.1∧∀v,El q.1 v↔∃t∈c.tops.take i,El t v) (λq=>c.tops.length-q.2.toNat) (λz=>z= .inl s) ?_ ⟨0,rfl,by omega,VS.zero,λv=>⟨λh=>by (have h:has 0 v=true:=h);rw[BH] at h;exact absurd h (by simp),fun⟨t,ht,_⟩=>by simp at ht⟩⟩ ?_
    ·rintro⟨x,_⟩ ⟨i,rfl,hi,x1,x2⟩
     dsimp only at x1 x2 ⊢
     by_cases hil:i<c.tops.length
     ·have hil':i<(c.rts A.length).length:=by omega
      obtain⟨t1,_,_⟩:=hKd.sub _ (List.getElem_mem hil)
      have hdis:iand .u32 x c.tops[i]=0:=VS.ext (VS.iand _ _) VS.zero λv _=>by
       rw[De x1 t1.1,BH]
       cases hh:has x v with
       |false=>rfl
       |true=>
        obtain⟨t,ht,htv⟩:=(x2 v).1 hh
        obtain⟨j,hj,rfl⟩:=List.getElem_of_mem ht
        simp at hj
        rw[List.getElem_take] at htv
        cases hh2:has c.tops[i] v with
        |false=>rfl
        |true=>exact absurd ⟨htv,hh2⟩ (List.pairwise_iff_getElem.1 hKd.dis j i (by omega) hil (by omega) v)
      rw[dlt hil',cT,AF hil',bs,hidx i hil',bs,hdis,show ((0:Int) !=0)=false from rfl,cF,bs,wi (by omega)]
      refine⟨_,rfl,⟨i+1,rfl,by omega,VS.ior _ _,λv=> ?_⟩,by dsimp only;omega⟩
      show has (ior .u32 x c.tops[i]) v=true↔_
      rw[BU x1 t1.1,Bool.or_eq_true,List.take_succ_eq_append_getElem hil]
      constructor
      ·rintro(h|h)
       ·obtain⟨t,ht,htv⟩:=(x2 v).1 h
        exact⟨t,List.mem_append_left _ ht,htv⟩
       ·exact⟨c.tops[i],List.mem_append_right _ (List.mem_singleton.2 rfl),h⟩
      ·rintro⟨t,ht,htv⟩
       rcases List.mem_append.1 ht with ht|ht
       ·exact .inl ((x2 v).2 ⟨t,ht,htv⟩)
       ·rw[List.mem_singleton.1 ht] at htv;exact .inr htv
     ·obtain rfl:i=c.tops.length:=by omega
      rw[show decide (((c.tops.length:Nat):Int)<((c.rts A.length).length:Int))=false from decide_eq_false (by omega),cF]
      refine⟨_,rfl,?_⟩
      show Sum.inl x=Sum.inl s
      congr 1
      refine VS.ext x1 hIn.1 λv _=> ?_
      rw[Bool.eq_iff_iff,show has x v=true↔∃t∈c.tops.take c.tops.length,El t v from x2 v,List.take_length]
      exact⟨fun⟨t,ht,htv⟩=>(hKd.sub t ht).2.2 v htv,λhv=>hKd.cov hne v hv⟩
    ·rintro _ rfl
     dsimp only
     rw[show IntKind.i64.wrap (((O++c.rts A.length).length:Int)-((c.rts A.length).length:Int))=((O.length:Nat):Int) by rw[w64 (by rw[List.length_append];omega) (by rw[List.length_append];omega),List.length_append];omega,EB (by simp),bs,List.take_left,AY (by rw[List.length_singleton];omega),bs,AY (by rw[List.length_append,List.length_singleton];omega),bs,wi (by omega)]
     exact⟨_,rfl,rfl⟩
  rw[BK hstep]
  have s3:=ED xs hxs r (A++c.em A.length++[(k,(if k=1 then lst s else 0),c.rts A.length)]) B (O++[((A.length+c.sz:Nat):Int)]) (L++c.sts++[s]) hr (by rw[hx];simp[FT.em,hcl];rw[show A.length+(c.sz+1)=A.length+c.sz+1 by omega]) (by simp[hL,hcl,hcs]) (by simp;omega)
  have hAl:(A++c.em A.length++[(k,(if k=1 then lst s else 0),c.rts A.length)]).length=A.length+c.sz+1:=by simp[hcl];omega
  rw[hAl] at s3
  rw[s3]
  simp only[FT.rts,FT.sts,FT.sz,List.append_assoc,List.singleton_append]
  congr 4
  omega
end
end Go.Sx

namespace Go.Sx
inductive NT
 |leaf
 |add (v:Nat) (t:NT)
 |drop (v:Nat) (t:NT)
 |meet (t u:NT)
abbrev NS :Type:=LI×LI×LL×LL
def Sit {α:Type}(X:List α)(s:Nat)(a:List α):Prop:=∀j,j<a.length→X[s+j]? =a[j]?
def totI {K:Type}(X:List (K×Int)):Int:=(X.map (·.2)).foldr (·+·) 0
section
variable {g : LL} {L : NS}
end
end Go.Sx

namespace Go.Sx
section
variable {g : LL} {T : NT}
end
end Go.Sx

namespace Go.Sx
theorem mask_e {m:Int}(h:VS m):D.A (Aj m)=some m:=by
 rw[maskOf_eq _ (EG m) (λx hx=>by obtain⟨v,_,_,rfl⟩:=mem_elems.1 hx;omega),mk_elems h]
section
variable {g : LL} (hg : GOk g) {F' : LI} (hFc : FOk F' g.length) (hF' : ∀ u w, u < g.length → nb F' u w = (decide (w < g.length) && !nb (g.map mk) u w && !decide (w = u)))
include hg hFc hF'
theorem MT_form :∃k c,MT g F'= .cons k (A9 g.length) c .nil:=by
 rw[show MT g F'=mtr (A5 (g.map mk) F') (g.length+1) [A9 g.length] from rfl,Cb,CH]
 exact⟨_,_,rfl⟩
theorem subtree_ok :D.Y ((MT g F').em 0)=some ((MT g F').sts,true):=by
 have h16:=hg.n16
 have hpn:=C9 hg hFc hF'
 have hsz:=C7 hg hFc hF'
 have hel:=(MT g F').em_len 0
 obtain⟨k,c,hf⟩:=MT_form hg hFc hF'
 have h1:=ED (F:=g.map mk) h16 ((MT g F').em 0) (by omega) (MT g F') [] [] [] [] hpn (by simp) rfl (by simp;omega)
 have h2:Ar (Dx ((MT g F').em 0)) ((MT g F').rts 0,(MT g F').sts,(((MT g F').sz:Nat):Int))=some (.inl ((MT g F').rts 0,(MT g F').sts)):=Bo (by
  unfold Dx
  dsimp only
  rw[hel,Bs,cF])
 simp only[List.length_nil,List.nil_append,Nat.zero_add] at h1
 have h3:Ar (Dx ((MT g F').em 0)) ([],[],0)=some (.inl ((MT g F').rts 0,(MT g F').sts)):=h1.trans h2
 unfold D.Y
 show (Ar (Dx ((MT g F').em 0)) ([],[],0)).bind _=_
 rw[h3,bs]
 dsimp only
 have hr1:((MT g F').rts 0).length=1:=by rw[hf];rfl
 have hsl:(MT g F').sts.length=(MT g F').sz:=(MT g F').sts_len
 have hs0:1≤(MT g F').sz:=by rw[hf];simp only[FT.sz];omega
 have hlast:(MT g F').sts[(MT g F').sz-1]'(by omega)=A9 g.length:=by
  have:(MT g F').sts=c.sts++[A9 g.length]:=by rw[hf];rfl
  simp only[this]
  have hz:(MT g F').sz=c.sz+1:=by rw[hf];simp[FT.sz]
  rw[List.getElem_append_right (by rw[c.sts_len];omega)]
  simp
 rw[hr1,show (((1:Nat):Int) !=1)=false from rfl,cF,show IntKind.i64.wrap (((MT g F').sts.length:Int)-1)=(((MT g F').sz-1:Nat):Int) by rw[w64 (by omega) (by omega)];omega,AF (show (MT g F').sz-1<(MT g F').sts.length by omega),bs,hlast,Eg (Eo _),bs,
  show (Aj (A9 g.length)).length=g.length from (Cp hg).2,firstOf_eq,bs,beq_self_eq_true]
theorem LeavesOf_ok {i:Nat}(hi:i<(MT g F').sz):∃s,(MT g F').sts[i]? =some s∧D.c1 ((MT g F').em 0) (i:Int)=some (Aj s):=by
 have hsl:(MT g F').sts.length=(MT g F').sz:=(MT g F').sts_len
 have hsz:=C7 hg hFc hF'
 have h16:=hg.n16
 have his:i<(MT g F').sts.length:=by omega
 have hv:VS (MT g F').sts[i]:=(Ep PN.kids _ (C9 hg hFc hF') _ (List.getElem_mem his)).2.1.1
 refine⟨(MT g F').sts[i],List.getElem?_eq_getElem his,?_⟩
 unfold D.c1
 rw[subtree_ok hg hFc hF',bs]
 dsimp only
 rw[Bool.not_true,cF,DJ,(MT g F').em_len,w64 (by omega) (by omega),bs,decide_eq_true (by omega),decide_eq_true (by omega),Bool.and_self,Bool.not_true,bs,cF,AF his,bs,numbers_eq _ hv,bs]
end
theorem set_of {n:Nat}(hn:n≤16){T:Nat→Prop}(h:∀v,T v→v<n)(hne:∃v,T v):∃t,QS n t∧∀v,El t v↔T v:=by
 have key:∀m,m≤n→∃t,VS t∧∀v,El t v↔T v∧v<m:=by
  intro m
  induction m with
  |zero=>intro _;exact⟨0,VS.zero,λv=>⟨λhv=>by (have hv:has 0 v=true:=hv);rw[BH] at hv;exact absurd hv (by simp),fun⟨_,hv⟩=>by omega⟩⟩
  |succ m ih=>
   intro hm
   obtain⟨t,h1,h2⟩:=ih (by omega)
   by_cases hT:T m
   ·refine⟨ior .u32 t (ishl .u32 1 (m:Int)),VS.ior _ _,λv=> ?_⟩
    show has (ior .u32 t (ishl .u32 1 (m:Int))) v=true↔_
    rw[BU h1 (VS.ishl _ _),BE (by omega),Bool.or_eq_true,decide_eq_true_eq]
    constructor
    ·rintro(a|rfl)
     ·have:=(h2 v).1 a;exact⟨this.1,by omega⟩
     ·exact⟨hT,by omega⟩
    ·rintro⟨a,b⟩
     by_cases e:v=m
     ·exact .inr e
     ·exact .inl ((h2 v).2 ⟨a,by omega⟩)
   ·refine⟨t,h1,λv=> ?_⟩
    rw[h2]
    constructor
    ·rintro⟨a,b⟩;exact⟨a,by omega⟩
    ·rintro⟨a,b⟩
     refine⟨a,?_⟩
     have:v≠m:=λe=>hT (e▸a)
     omega
 obtain⟨t,h1,h2⟩:=key n (Nat.le_refl _)
 have h3:∀v,El t v↔T v:=λv=>⟨λhv=>((h2 v).1 hv).1,λhv=>(h2 v).2 ⟨hv,h v hv⟩⟩
 exact⟨t,⟨⟨h1,λw hw=>h w ((h3 w).1 hw)⟩,hne.imp λv hv=>(h3 v).2 hv⟩,h3⟩
section
variable {g : LL} (hg : GOk g)
include hg
theorem split0 {X:Int}(hX:QS g.length X):∃S,D.C (g.map mk) (A9 g.length) X=some S∧VS S∧(S=0↔Modl (Ad (g.map mk)) (El (A9 g.length)) (El X)):=by
 have h16:=hg.n16
 have hfl:=In.full' h16
 obtain⟨S,e,hS,hv⟩:=EP h16 (FOk.of hg) hfl hX.1
 have hmem:∀x,El X x→El (A9 g.length) x:=λx hx=>by
  show has _ x=true
  rw[CD h16]
  exact decide_eq_true (hX.1.2 x hx)
 refine⟨S,e,hS.1,λh0=>⟨hmem,hX.2,λv hw hn p q hp hq=> ?_⟩,λhm=> ?_⟩
 ·have hnot:¬((∃y,El X y∧Ad (g.map mk) v y)∧∃y,El X y∧¬Ad (g.map mk) v y):=λc=>by
   have:=(hv v).2 ⟨hw,hn,c⟩
   rw[h0] at this
   have this:has 0 v=true:=this
   rw[BH] at this;cases this
  constructor
  ·intro a
   exact Classical.byContradiction λb=>hnot ⟨⟨p,hp,a⟩,q,hq,b⟩
  ·intro a
   exact Classical.byContradiction λb=>hnot ⟨⟨q,hq,a⟩,p,hp,b⟩
 ·apply Classical.byContradiction
  intro c
  obtain⟨v,hx⟩:=(Cu hS.1).1 (bne_iff_ne.2 c)
  obtain⟨g1,g2,⟨p,p1,p2⟩,q,q1,q2⟩:=(hv v).1 hx
  exact q2 ((hm.2.2 v g1 g2 p q p1 q1).1 p2)
theorem Fq {X:Int}(hX:QS g.length X):∃b,D.D0 g (Aj X)=some b∧(b=true↔Modl (Ad (g.map mk)) (El (A9 g.length)) (El X)):=by
 have h16:=hg.n16
 obtain⟨S,e,hS,h0⟩:=split0 hg hX
 have hl:=Bb X
 have hp:=mu_pos hX.1.1 hX.2
 refine⟨S==0,?_,by rw[beq_iff_eq];exact h0⟩
 unfold D.D0
 rw[impl_SetOk_eq g _ hg.sh2 (by unfold Sh;omega),Cv hg,setB_elems hX.1,bs,show (((Aj X).length:Int)==0)=false from beq_eq_false_iff_ne.2 (by unfold mu at hp;omega)]
 simp only[Bool.and_self,Bool.not_true,Bool.or_self,cF]
 rw[D6 g hg,bs,C8,bs,List.length_map,mask_e hX.1.1,bs,e,bs]
theorem full_pow :A9 g.length=((2^g.length-1:Nat):Int):=by
 have h16:=hg.n16
 have hp:(2:Nat)^g.length≤2^16:=Nat.pow_le_pow_right (by omega) h16
 have hp0:0<(2:Nat)^g.length:=Nat.pow_pos (by omega)
 unfold A9
 rw[one_eq (by omega),IntKind.wrap_u32]
 omega
theorem En {X:Int}:QS g.length X↔∃i:Nat,X=(i:Int)∧1≤i∧i<2^g.length:=by
 have h16:=hg.n16
 constructor
 ·rintro⟨h1,h2⟩
  obtain⟨i,rfl,hi⟩:=(h1.s16 h16).nat
  refine⟨i,rfl,?_,?_⟩
  ·have:=(Cu h1.1).2 h2
   have:=bne_iff_ne.1 this
   omega
  ·apply Nat.lt_pow_two_of_testBit
   intro j hj
   cases hc:i.testBit j
   ·rfl
   ·have:=h1.2 j (by rw[BY];exact hc)
    omega
 ·rintro⟨i,rfl,h1,h2⟩
  have hI:=In.of h2 h16
  exact⟨hI,(Cu hI.1).1 (bne_iff_ne.2 (by omega))⟩
theorem Fa :∃l,D.P0 (g.map mk)=some l∧(∀X∈l,VS X)∧l.length≤65536∧∀X,X∈l↔QS g.length X∧Modl (Ad (g.map mk)) (El (A9 g.length)) (El X):=by
 have h16:=hg.n16
 have hp:(2:Nat)^g.length≤2^16:=Nat.pow_le_pow_right (by omega) h16
 have hp0:0<(2:Nat)^g.length:=Nat.pow_pos (by omega)
 have hfp:=full_pow hg
 unfold D.P0
 refine AO (λq=>∃i:Nat,q.2=(i:Int)∧1≤i∧i≤2^g.length∧q.1.length<i∧∀X,X∈q.1↔(∃j:Nat,X=(j:Int)∧1≤j∧j<i)∧Modl (Ad (g.map mk)) (El (A9 g.length)) (El X)) (λq=>2^g.length-q.2.toNat)
  (λl=>l.length≤65535∧∀X,X∈l↔QS g.length X∧Modl (Ad (g.map mk)) (El (A9 g.length)) (El X)) ?_ ⟨1,rfl,Nat.le_refl _,by omega,by simp,λX=>⟨λh=>by simp at h,fun⟨⟨j,_,h1,h2⟩,_⟩=>by omega⟩⟩ ?_
 ·rintro⟨l,_⟩ ⟨i,rfl,h1,h2,h3,h4⟩
  dsimp only at h3 h4 ⊢
  rw[C8,bs,List.length_map,hfp]
  by_cases hi:i<2^g.length
  ·have hq:QS g.length (i:Int):=(En hg).2 ⟨i,rfl,h1,hi⟩
   obtain⟨S,e,hS,h0⟩:=split0 hg hq
   rw[hfp] at e h0 h4
   rw[show decide ((i:Int)≤((2^g.length-1:Nat):Int))=true from decide_eq_true (by omega),cT,bs,e,bs,show IntKind.u32.wrap ((i:Int)+1)=((i+1:Nat):Int) by rw[IntKind.wrap_u32];omega]
   have hst:∀X:Int,(∃j:Nat,X=(j:Int)∧1≤j∧j<i+1)↔(∃j:Nat,X=(j:Int)∧1≤j∧j<i)∨X=(i:Int):=λX=>by
    constructor
    ·rintro⟨j,e,a,b⟩
     by_cases hj:j=i
     ·exact .inr (by rw[e,hj])
     ·exact .inl ⟨j,e,a,by omega⟩
    ·rintro(⟨j,e,a,b⟩|e)
     ·exact⟨j,e,a,by omega⟩
     ·exact⟨i,e,h1,by omega⟩
   by_cases hS0:S=0
   ·rw[hS0,beq_self_eq_true,cT,AY (by simp;omega),bs]
    refine⟨_,rfl,⟨i+1,rfl,by omega,by omega,by simp;omega,λX=> ?_⟩,by dsimp only;omega⟩
    rw[List.mem_append,h4,List.mem_singleton,hst]
    constructor
    ·rintro(⟨a,b⟩|rfl)
     ·exact⟨.inl a,b⟩
     ·exact⟨.inr rfl,h0.1 hS0⟩
    ·rintro⟨a|rfl,b⟩
     ·exact .inl ⟨a,b⟩
     ·exact .inr rfl
   ·rw[show (S==0)=false from beq_eq_false_iff_ne.2 hS0,cF]
    refine⟨_,rfl,⟨i+1,rfl,by omega,by omega,by dsimp only;omega,λX=> ?_⟩,by dsimp only;omega⟩
    rw[h4,hst]
    constructor
    ·rintro⟨a,b⟩;exact⟨.inl a,b⟩
    ·rintro⟨a|rfl,b⟩
     ·exact⟨a,b⟩
     ·exact absurd (h0.2 b) hS0
  ·obtain rfl:i=2^g.length:=by omega
   rw[show decide (((2^g.length:Nat):Int)≤((2^g.length-1:Nat):Int))=false from decide_eq_false (by omega),cF]
   refine⟨_,rfl,by omega,λX=> ?_⟩
   rw[hfp] at h4
   rw[h4,En hg]
 ·rintro l ⟨hl,hm⟩
  have hvs:∀X∈l,VS X:=λX hX=>((hm X).1 hX).1.1.1
  obtain⟨l',e,hpm,_⟩:= @Gs.sort_spec Int bySz l hvs (by omega)
  rw[DS,show DG.Sort D.a l=some l' from e,bs]
  refine⟨_,rfl,λX hX=>hvs X (hpm.mem_iff.1 hX),by rw[hpm.length_eq];omega,λX=> ?_⟩
  rw[hpm.mem_iff];exact hm X
theorem lap_eq {s t:Int}(hs:VS s)(ht:VS t):∃b,D.j0 t s=some b∧(b=true↔Lap (El s) (El t)):=by
 unfold D.j0
 refine⟨_,rfl,?_⟩
 rw[Bool.and_eq_true,Bool.and_eq_true,Cu (VS.iand _ _),Cu (VS.iandNot _ _),Cu (VS.iandNot _ _)]
 have e1:∀v,El (iand .u32 s t) v↔El s v∧El t v:=λv=>by unfold El;rw[De hs ht,Bool.and_eq_true]
 have e2:∀v,El (iandNot .u32 s t) v↔El s v∧¬El t v:=λv=>by unfold El;rw[Cc hs ht];simp
 have e3:∀v,El (iandNot .u32 t s) v↔El t v∧¬El s v:=λv=>by unfold El;rw[Cc ht hs];simp
 simp only[e1,e2,e3]
 unfold Lap
 exact⟨fun⟨⟨a,b⟩,c⟩=>⟨a,b,c⟩,fun⟨a,b,c⟩=>⟨⟨a,b⟩,c⟩⟩
theorem Fy (h8:g.length≤8){X:Int}(hX:QS g.length X):∃b,D.n g (Aj X)=some b∧(b=true↔Strg (Ad (g.map mk)) (El (A9 g.length)) (El X)):=by
 have h16:=hg.n16
 obtain⟨b,eb,hb⟩:=Fq hg hX
 unfold D.n
 rw[isSmall_ok hg h8,bs,Bool.not_true,cF,eb,bs,bs]
 cases hbb:b with
 |false=>
  rw[Bool.not_false,cT]
  exact⟨false,rfl,by simp,λh=>absurd (hb.2 h.1) (by rw[hbb];simp)⟩
 |true=>
  obtain⟨l,el,hv,hl,hm⟩:=Fa hg
  rw[Bool.not_true,cF,mask_e hX.1.1,bs,D6 g hg,bs,el,bs]
  unfold D.l1 D.g1
  have hmod:=hb.1 hbb
  have main:(∀t∈l,¬Lap (El X) (El t))∨∃t∈l,Lap (El X) (El t):=by
   by_cases h:∃t∈l,Lap (El X) (El t)
   ·exact .inr h
   ·exact .inl λt ht c=>h ⟨t,ht,c⟩
  have hstep:∀i (hi:i<l.length),∃b,D.j0 l[i] X=some b∧(b=true↔Lap (El X) (El l[i])):=λi hi=>lap_eq hg hX.1.1 (hv _ (List.getElem_mem hi))
  have hsearch:=loop_ex (n:=l.length) (step:=fun(x_40:Int)=>cond (decide (x_40<(l.length:Int))) ((idx l x_40).bind λe_60=>(D.j0 e_60 X).bind λy_66=>cond y_66 (some (.inr (.inr x_40))) (some (.inl (IntKind.i64.wrap (x_40+1))))) (some (.inr (.inl ()))))
   (λi=>∃hi:i<l.length,Lap (El X) (El l[i])) (λz:Int=>0≤z) (λi hi=>by
    obtain⟨b,e,h⟩:=hstep i hi
    rw[dlt hi,cT,AF hi,bs,e,bs]
    cases hb2:b with
    |true=>rw[cT];exact .inr ⟨_,rfl,⟨hi,h.1 hb2⟩,by omega⟩
    |false=>rw[cF,wi (by omega)];exact .inl ⟨rfl,fun⟨_,c⟩=>by rw[h.2 c] at hb2;cases hb2⟩) (λi hi=>by
    rw[show decide ((i:Int)<(l.length:Int))=false from decide_eq_false (by omega),cF]) l.length 0 (by omega)
  rcases hsearch with⟨e,hno⟩|⟨z,e,hz,i,_,hi,hlap⟩
  ·rw[show ((0:Nat):Int)=0 from rfl] at e
   rw[e,bs,bs,bs]
   refine⟨true,rfl,λ_=>⟨hmod,λT hT hLap=> ?_⟩,λ_=>rfl⟩
   have hTin:∃t,QS g.length t∧∀v,El t v↔T v:=set_of h16 (T:=T) (λv hv=>by
    have:=hT.1 v hv
    rw[show El (A9 g.length) v↔has (A9 g.length) v=true from Iff.rfl,CD h16,decide_eq_true_eq] at this
    exact this) hT.2.1
   obtain⟨t,ht,hte⟩:=hTin
   have hTe:El t=T:=funext λv=>propext (hte v)
   rw[←hTe] at hT hLap
   obtain⟨i,hi,hit⟩:=List.getElem_of_mem ((hm t).2 ⟨ht,hT⟩)
   exact hno i (by omega) hi ⟨hi,by rw[hit];exact hLap⟩
  ·rw[show ((0:Nat):Int)=0 from rfl] at e
   rw[e,bs,bs,bs,decide_eq_true hz]
   refine⟨false,rfl,λc=>(by cases c),λhst=> ?_⟩
   obtain⟨hi',hl2⟩:=hlap
   exact absurd hl2 (hst.2 _ ((hm _).1 (List.getElem_mem hi')).2)
end
end Go.Sx

namespace Go.Sx
theorem count_in (xs ys:LI)(hx:xs.length≤1000)(hy:ys.length≤1000)(k:Int→Option Bool):
  ((Ar (σ:=Int×Int) (ρ:=(Int)) (fun(s_38:Int×Int)=>match s_38 with|(x_41,x_42)=>cond (decide (x_42<(xs.length:Int))) ((idx xs x_42).bind λe_63=>(D.d ys e_63).bind λy_69=>cond y_69 (some (.inl ((IntKind.i64.wrap (x_41+1)),(IntKind.i64.wrap (x_42+1))))) (some (.inl (x_41,(IntKind.i64.wrap (x_42+1)))))) (some (.inr x_41))) (0,0)).bind k)=k (((xs.filter λx=>decide (x∈ys)).length:Nat):Int):=by
 refine(Dn (λi=>((((xs.take i).filter λx=>decide (x∈ys)).length:Int),(i:Int))) xs.length (((xs.filter λx=>decide (x∈ys)).length:Nat):Int) rfl (λi hi=> ?_) ?_).trans rfl
 ·have hle:=List.length_filter_le (λx=>decide (x∈ys)) (xs.take i)
  have htl:(xs.take i).length≤i:=by simp;omega
  dsimp only
  rw[dlt hi,cT,AF hi,bs,CN _ _ (by unfold Sh;omega),bs,wq i,List.take_succ_eq_append_getElem hi,List.filter_append]
  by_cases h:xs[i]∈ys
  ·rw[decide_eq_true h,cT,wi (by omega)]
   simp[h]
  ·rw[decide_eq_false h,cF]
   simp[h]
 ·dsimp only
  rw[Bs,cF,List.take_length]
theorem filter_pos {xs ys:LI}:0<(xs.filter λx=>decide (x∈ys)).length↔∃x∈xs,x∈ys:=by
 rw[List.length_pos_iff_exists_mem]
 simp
theorem filter_lt {xs ys:LI}:(xs.filter λx=>decide (x∈ys)).length<xs.length↔∃x∈xs,¬x∈ys:=by
 rw[List.length_filter_lt_length_iff_exists]
 simp
section
variable {g : LL} (hg : GOk g)
include hg
theorem l17Splits_ok {X:Int}(hX:In g.length X){v:Nat}(hv:v<g.length):∃b,D.s0 g (Aj X) (v:Int)=some b∧(b=true↔(∃y,El X y∧Ad (g.map mk) v y)∧∃y,El X y∧¬Ad (g.map mk) v y):=by
 have hl:=Bb X
 have hrl:=hg.row_len hv
 have h16:=hg.n16
 unfold D.s0
 rw[Cg hv]
 simp only[bs]
 rw[count_in (Aj X) (row g v) (by omega) (by omega)]
 refine⟨_,rfl,?_⟩
 rw[Bool.and_eq_true,decide_eq_true_eq,decide_eq_true_eq]
 have e1:(0:Int)<((((Aj X).filter λx=>decide (x∈row g v)).length:Nat):Int)↔∃y,El X y∧Ad (g.map mk) v y:=by
  rw[show (0:Int)<((((Aj X).filter λx=>decide (x∈row g v)).length:Nat):Int)↔0<((Aj X).filter λx=>decide (x∈row g v)).length by omega,filter_pos]
  constructor
  ·rintro⟨x,hx,hr⟩
   obtain⟨w,_,hw,rfl⟩:=mem_elems.1 hx
   exact⟨w,hw,(CZ hg hv).2 hr⟩
  ·rintro⟨w,hw,hr⟩
   exact⟨(w:Int),(AG hX.1).2 hw,(CZ hg hv).1 hr⟩
 have e2:((((Aj X).filter λx=>decide (x∈row g v)).length:Nat):Int)<((Aj X).length:Int)↔∃y,El X y∧¬Ad (g.map mk) v y:=by
  rw[show ((((Aj X).filter λx=>decide (x∈row g v)).length:Nat):Int)<((Aj X).length:Int)↔((Aj X).filter λx=>decide (x∈row g v)).length<(Aj X).length by omega,filter_lt]
  constructor
  ·rintro⟨x,hx,hr⟩
   obtain⟨w,_,hw,rfl⟩:=mem_elems.1 hx
   exact⟨w,hw,λc=>hr ((CZ hg hv).1 c)⟩
  ·rintro⟨w,hw,hr⟩
   exact⟨(w:Int),(AG hX.1).2 hw,λc=>hr ((CZ hg hv).2 c)⟩
 rw[e1,e2]
def Spl (g:LL)(X:Int)(v:Nat):Prop:=¬El X v∧(∃y,El X y∧Ad (g.map mk) v y)∧∃y,El X y∧¬Ad (g.map mk) v y
theorem Do {W X:Int}(hW:In g.length W)(hX:In g.length X):
  ∃r,D.K g (Aj W) (Aj X)=some r∧((r<0∧∀v,El W v→¬Spl g X v)∨∃v:Nat,r=(v:Int)∧El W v∧Spl g X v):=by
 have hlW:=Bb W
 have hlX:=Bb X
 have hat:∀i (hi:i<(Aj W).length),∃v:Nat,(Aj W)[i]=(v:Int)∧El W v∧v<g.length:=λi hi=>by
  obtain⟨v,_,hv,e⟩:=mem_elems.1 (List.getElem_mem hi)
  exact⟨v,e,hv,hW.2 v hv⟩
 unfold D.K
 have hs:=loop_ex (n:=(Aj W).length) (step:=fun(x_94:Int)=>cond (decide (x_94<((Aj W).length:Int))) ((idx (Aj W) x_94).bind λe_140=>(D.d (Aj X) e_140).bind λy_146=>(cond (!y_146) ((idx (Aj W) x_94).bind λe_162=>(D.s0 g (Aj X) e_162).bind λy_168=>some y_168) (some false)).bind λb_160=>cond b_160 ((idx (Aj W) x_94).bind λe_174=>some (.inr (.inr e_174))) (some (.inl (IntKind.i64.wrap (x_94+1))))) (some (.inr (.inl ()))))
  (λi=>∃v:Nat,(Aj W)[i]? =some (v:Int)∧Spl g X v) (λz:Int=>∃v:Nat,z=(v:Int)∧El W v∧Spl g X v) (λi hi=>by
   obtain⟨v,ev,hv,hvn⟩:=hat i hi
   obtain⟨b,eb,hb⟩:=l17Splits_ok hg hX hvn
   rw[dlt hi,cT,AF hi,bs,ev,CN _ _ (by unfold Sh;omega),bs,bs,eb,bs,bs]
   have hne:∀w:Nat,(Aj W)[i]? =some (w:Int)→w=v:=λw hw=>by
    rw[List.getElem?_eq_getElem hi,ev] at hw
    have:=Option.some.inj hw
    omega
   by_cases hx:(v:Int)∈Aj X
   ·rw[decide_eq_true hx,Bool.not_true,cF,bs,cF,wi (by omega)]
    exact .inl ⟨rfl,fun⟨w,e,hw⟩=>hw.1 (by rw[hne w e];exact(AG hX.1).1 hx)⟩
   ·rw[decide_eq_false hx,Bool.not_false,cT,bs]
    have hx':¬El X v:=λc=>hx ((AG hX.1).2 c)
    cases hbb:b with
    |true=>
     rw[cT]
     have hsp:Spl g X v:=⟨hx',hb.1 hbb⟩
     exact .inr ⟨_,rfl,⟨v,by rw[List.getElem?_eq_getElem hi,ev],hsp⟩,v,rfl,hv,hsp⟩
    |false=>
     rw[cF,wi (by omega)]
     exact .inl ⟨rfl,fun⟨w,e,hw⟩=>by
      rw[hne w e] at hw
      rw[hb.2 hw.2] at hbb;cases hbb⟩) (λi hi=>by
   rw[show decide ((i:Int)<((Aj W).length:Int))=false from decide_eq_false (by omega),cF]) (Aj W).length 0 (by omega)
 rcases hs with⟨e,hno⟩|⟨z,e,hz,_⟩
 ·rw[show ((0:Nat):Int)=0 from rfl] at e
  rw[e,bs]
  refine⟨_,rfl,.inl ⟨by decide,λv hv hsp=> ?_⟩⟩
  obtain⟨i,hi,ei⟩:=List.getElem_of_mem ((AG hW.1).2 hv)
  exact hno i (by omega) hi ⟨v,by rw[List.getElem?_eq_getElem hi,ei],hsp⟩
 ·rw[show ((0:Nat):Int)=0 from rfl] at e
  rw[e,bs]
  exact⟨_,rfl,.inr hz⟩
theorem spl_modl {W X:Int}(hX:QS g.length X)(hsub:∀x,El X x→El W x):(∀v,El W v→¬Spl g X v)↔Modl (Ad (g.map mk)) (El W) (El X):=by
 constructor
 ·intro h
  refine⟨hsub,hX.2,λv hw hn p q hp hq=> ?_⟩
  constructor
  ·intro a
   exact Classical.byContradiction λb=>h v hw ⟨hn,⟨p,hp,a⟩,q,hq,b⟩
  ·intro a
   exact Classical.byContradiction λb=>h v hw ⟨hn,⟨q,hq,a⟩,p,hp,b⟩
 ·rintro h v hw ⟨hn,⟨p,p1,p2⟩,q,q1,q2⟩
  exact q2 ((h.2.2 v hw hn p q p1 q1).1 p2)
theorem sub_full {X:Int}(hX:In g.length X):∀x,El X x→El (A9 g.length) x:=λx hx=>by
 have h16:=hg.n16
 show has _ x=true
 rw[CD h16]
 exact decide_eq_true (hX.2 x hx)
theorem DX {X:Int}(hX:QS g.length X):∃b,D.d0 g (Aj X)=some b∧(b=true↔Modl (Ad (g.map mk)) (El (A9 g.length)) (El X)):=by
 have h16:=hg.n16
 have hl:=Bb X
 have hp:=mu_pos hX.1.1 hX.2
 obtain⟨r,e,hr⟩:=Do hg (In.full' h16) hX.1
 unfold D.d0
 rw[Ce g hg.sh2,Cv hg,bs,cT,DB g _ hg.sh2 (by unfold Sh;omega),Cv hg,setB_elems hX.1,bs,bs,show decide ((0:Int)<((Aj X).length:Int))=true from decide_eq_true (by unfold mu at hp;omega)]
 simp only[Bool.and_self,cT]
 rw[D4 h16,bs,e,bs]
 refine⟨_,rfl,?_⟩
 rw[decide_eq_true_eq,←spl_modl hg hX (sub_full hg hX.1)]
 rcases hr with⟨a,b⟩|⟨v,rfl,b,c⟩
 ·exact⟨λ_=>b,λ_=>a⟩
 ·exact⟨λa=>by omega,λh=>absurd c (h v b)⟩
theorem l17Laps_ok {s t:Int}(hs:VS s)(ht:VS t):∃b,D.S0 (Aj s) (Aj t)=some b∧(b=true→Lap (El s) (El t)):=by
 have hl:=Bb s
 have hl':=Bb t
 unfold D.S0
 rw[count_in (Aj s) (Aj t) (by omega) (by omega)]
 refine⟨_,rfl,λh=> ?_⟩
 rw[Bool.and_eq_true,Bool.and_eq_true,decide_eq_true_eq,decide_eq_true_eq,decide_eq_true_eq] at h
 obtain⟨⟨h1,h2⟩,h3⟩:=h
 refine⟨?_,?_,?_⟩
 ·obtain⟨x,hx,hy⟩:=filter_pos.1 (show 0<((Aj s).filter λx=>decide (x∈Aj t)).length by omega)
  obtain⟨w,_,hw,rfl⟩:=mem_elems.1 hx
  exact⟨w,hw,(AG ht).1 hy⟩
 ·obtain⟨x,hx,hy⟩:=filter_lt.1 (show ((Aj s).filter λx=>decide (x∈Aj t)).length<(Aj s).length by omega)
  obtain⟨w,_,hw,rfl⟩:=mem_elems.1 hx
  exact⟨w,hw,λc=>hy ((AG ht).2 c)⟩
 ·apply Classical.byContradiction
  intro c
  have:=BG (l:=Aj t) (m:=(Aj s).filter λx=>decide (x∈Aj t)) (Bl t).nodup λx hx=>by
   obtain⟨w,_,hw,rfl⟩:=mem_elems.1 hx
   rw[List.mem_filter]
   exact⟨(AG hs).2 (Classical.byContradiction λq=>c ⟨w,hw,q⟩),by simpa using hx⟩
  omega
end
end Go.Sx

namespace Go.Sx
theorem l12Set_eq {i:Nat}(hi:i<65536):D.f1 (i:Int)=some (Aj (i:Int)):=by
 unfold D.f1
 suffices h:∃y,(Ar _ _).bind _=some y∧y=Aj (i:Int) by
  obtain⟨y,h1,rfl⟩:=h;exact h1
 refine AO (λq:LI×Int=>∃v:Nat,q.2=(v:Int)∧v≤16∧q.1=((List.range v).filter (has (i:Int))).map Int.ofNat) (λq=>17-q.2.toNat) (λl=>l=Aj (i:Int)) ?_ ⟨0,rfl,by omega,rfl⟩ (λr hr=>⟨r,rfl,hr⟩)
 rintro⟨l,_⟩ ⟨v,rfl,hv,rfl⟩
 dsimp only
 rw[l12Bit_eq (show v<32 by omega),bs]
 by_cases hc:2^v≤i
 ·have hv16:v<16:=by
   apply Classical.byContradiction
   intro c
   have:2^16≤2^v:=Nat.pow_le_pow_right (by omega) (by omega)
   omega
  have hp:2^v<65536:=by omega
  have hlen:(((List.range v).filter (has (i:Int))).map Int.ofNat).length≤16:=by
   rw[List.length_map]
   have:=List.length_filter_le (has (i:Int)) (List.range v)
   rw[List.length_range] at this
   omega
  rw[show decide (((2^v:Nat):Int)≤(i:Int))=true from decide_eq_true (by omega),cT,bs,and64 (by omega) (by omega),wq v]
  have hb:((((i&&&2^v:Nat):Int)) !=0)=has (i:Int) v:=by
   rw[BY]
   cases hh:i.testBit v with
   |true=>
    have h1:(i&&&2^v).testBit v=true:=by rw[Nat.testBit_and,hh,Nat.testBit_two_pow_self];rfl
    refine bne_iff_ne.2 λe=> ?_
    have e:i&&&2^v=0:=by omega
    rw[e] at h1
    simp at h1
   |false=>
    have h1:i&&&2^v=0:=Nat.eq_of_testBit_eq λw=>by
     rw[Nat.testBit_and,Nat.testBit_two_pow,Nat.zero_testBit]
     by_cases hw:v=w
     ·subst hw;rw[hh];rfl
     ·simp[hw]
    rw[h1];rfl
  rw[hb]
  cases hh:has (i:Int) v with
  |true=>
   rw[cT,AY (by rw[List.length_singleton];omega),bs]
   refine⟨_,rfl,⟨v+1,rfl,by omega,?_⟩,by dsimp only;omega⟩
   rw[List.range_succ,List.filter_append,List.map_append]
   simp[hh]
  |false=>
   rw[cF]
   refine⟨_,rfl,⟨v+1,rfl,by omega,?_⟩,by dsimp only;omega⟩
   rw[List.range_succ,List.filter_append,List.map_append]
   simp[hh]
 ·rw[show decide (((2^v:Nat):Int)≤(i:Int))=false from decide_eq_false (by omega),cF]
  refine⟨_,rfl,?_⟩
  refine Inc.ext ?_ (Bl _) λx=> ?_
  ·unfold Inc
   rw[List.pairwise_map]
   exact(List.pairwise_lt_range.filter _).imp λh=>by
    show Int.ofNat _<Int.ofNat _
    simp only[Int.ofNat_eq_natCast];omega
  ·rw[List.mem_map,mem_elems]
   constructor
   ·rintro⟨w,hw,rfl⟩
    rw[List.mem_filter,List.mem_range] at hw
    exact⟨w,by omega,hw.2,rfl⟩
   ·rintro⟨w,_,hw,rfl⟩
    refine⟨w,List.mem_filter.2 ⟨List.mem_range.2 ?_,hw⟩,rfl⟩
    apply Classical.byContradiction
    intro c
    rw[BY] at hw
    have:2^v≤2^w:=Nat.pow_le_pow_right (by omega) (by omega)
    rw[Nat.testBit_lt_two_pow (by omega)] at hw
    cases hw
section
variable {g : LL} (hg : GOk g)
include hg
theorem DD (h8:g.length≤8):∃L,D.U g=some L∧L.length≤256∧L.Nodup∧∀x,x∈L↔∃X,x=Aj X∧QS g.length X∧Modl (Ad (g.map mk)) (El (A9 g.length)) (El X):=by
 have h16:=hg.n16
 have hp:(2:Nat)^g.length≤2^8:=Nat.pow_le_pow_right (by omega) h8
 have hp0:0<(2:Nat)^g.length:=Nat.pow_pos (by omega)
 unfold D.U
 rw[Ce g hg.sh2,Cv hg,bs,show decide ((8:Int)<(g.length:Int))=false from decide_eq_false (by omega)]
 simp only[Bool.not_true,Bool.or_self,cF]
 refine AO (λq:LL×Int=>∃i:Nat,q.2=(i:Int)∧1≤i∧i≤2^g.length∧q.1.length<i∧q.1.Nodup∧∀x,x∈q.1↔∃j:Nat,x=Aj (j:Int)∧1≤j∧j<i∧Modl (Ad (g.map mk)) (El (A9 g.length)) (El (j:Int))) (λq=>2^g.length-q.2.toNat)
  (λL=>L.length≤256∧L.Nodup∧∀x,x∈L↔∃X,x=Aj X∧QS g.length X∧Modl (Ad (g.map mk)) (El (A9 g.length)) (El X)) ?_ ⟨1,rfl,Nat.le_refl _,by omega,by simp,List.nodup_nil,λx=>⟨λh=>by simp at h,fun⟨j,_,h1,h2,_⟩=>by omega⟩⟩ (λr hr=>⟨r,rfl,hr⟩)
 rintro⟨L,_⟩ ⟨i,rfl,h1,h2,h3,h5,h4⟩
 dsimp only at h3 h4 h5 ⊢
 rw[l12Bit_eq (show g.length<32 by omega),bs]
 by_cases hi:i<2^g.length
 ·have hq:QS g.length (i:Int):=(En hg).2 ⟨i,rfl,h1,hi⟩
  obtain⟨r,er,hr⟩:=Do hg (In.full' h16) hq.1
  rw[show decide ((i:Int)<((2^g.length:Nat):Int))=true from decide_eq_true (by omega),cT,l12Set_eq (by omega),bs,D4 h16,bs,er,bs]
  have hst:∀(x:LI),(∃j:Nat,x=Aj (j:Int)∧1≤j∧j<i+1∧Modl (Ad (g.map mk)) (El (A9 g.length)) (El (j:Int)))↔(∃j:Nat,x=Aj (j:Int)∧1≤j∧j<i∧Modl (Ad (g.map mk)) (El (A9 g.length)) (El (j:Int)))∨(x=Aj (i:Int)∧Modl (Ad (g.map mk)) (El (A9 g.length)) (El (i:Int))):=λx=>by
   constructor
   ·rintro⟨j,e,a,b,c⟩
    by_cases hj:j=i
    ·subst hj;exact .inr ⟨e,c⟩
    ·exact .inl ⟨j,e,a,by omega,c⟩
   ·rintro(⟨j,e,a,b,c⟩|⟨e,c⟩)
    ·exact⟨j,e,a,by omega,c⟩
    ·exact⟨i,e,h1,by omega,c⟩
  have hmod:=spl_modl hg hq (sub_full hg hq.1)
  rcases hr with⟨r0,hno⟩|⟨v,rfl,hv,hsp⟩
  ·have hm:=hmod.1 hno
   rw[show decide ((0:Int)≤r)=false from decide_eq_false (by omega),cF]
   have hgood:∀x∈L,x.length≤1000:=λx hx=>by
    obtain⟨j,rfl,_⟩:=(h4 x).1 hx
    have:=Bb (j:Int);omega
   refine AO (λk:Int=>∃m:Nat,k=(m:Int)∧m≤L.length) (λk=>k.toNat) (λk=>∃m:Nat,k=(m:Int)∧m≤L.length) ?_ ⟨L.length,rfl,Nat.le_refl _⟩ ?_
   ·rintro _ ⟨m,rfl,hm2⟩
    by_cases hm0:0<m
    ·have e1:IntKind.i64.wrap ((m:Int)-1)=((m-1:Nat):Int):=by rw[w64 (by omega) (by omega)];omega
     obtain⟨b,eb⟩:=Fu (x:=Aj (i:Int)) (y:=L[m-1]'(by omega)) (by have:=Bb (i:Int);omega)
     rw[show decide ((0:Int)<(m:Int))=true from decide_eq_true (by omega),cT,e1,AF (show m-1<L.length by omega),bs,eb,bs,bs]
     cases b with
     |true=>rw[cT];exact⟨_,rfl,⟨m-1,rfl,by omega⟩,by dsimp only;omega⟩
     |false=>rw[cF];exact⟨_,rfl,m,rfl,hm2⟩
    ·rw[show decide ((0:Int)<(m:Int))=false from decide_eq_false (by omega),cF,bs,cF]
     exact⟨_,rfl,m,rfl,hm2⟩
   ·rintro _ ⟨m,rfl,hm2⟩
    rw[EB hm2,bs,AY (by simp;omega),bs,List.nil_append,AY (by simp;omega),bs,Du hm2,bs,AY (by simp;omega),bs,wi (by omega)]
    have hperm:(L.take m++[Aj (i:Int)]++L.drop m).Perm (Aj (i:Int)::L):=by
     rw[List.append_assoc,List.singleton_append]
     refine List.perm_middle.trans ?_
     rw[List.take_append_drop]
    refine⟨_,rfl,⟨i+1,rfl,by omega,by omega,by rw[hperm.length_eq,List.length_cons];omega,hperm.nodup_iff.2 (List.nodup_cons.2 ⟨λhx=> ?_,h5⟩),λx=> ?_⟩,by dsimp only;omega⟩
    ·obtain⟨j,e,a,b,_⟩:=(h4 _).1 hx
     have hj:QS g.length (j:Int):=(En hg).2 ⟨j,rfl,a,by omega⟩
     have:=EQ hq.1.1 hj.1.1 e
     omega
    ·rw[hperm.mem_iff,List.mem_cons,h4,hst]
     exact⟨λh=>h.elim (λe=> .inr ⟨e,hm⟩) .inl,λh=>h.elim .inr λe=> .inl e.1⟩
  ·rw[show decide ((0:Int)≤(v:Int))=true from decide_eq_true (by omega),cT,wi (by omega)]
   refine⟨_,rfl,⟨i+1,rfl,by omega,by omega,by dsimp only;omega,h5,λx=> ?_⟩,by dsimp only;omega⟩
   rw[h4,hst]
   exact⟨.inl,λh=>h.elim id λe=>absurd hsp (hmod.2 e.2 v hv)⟩
 ·obtain rfl:i=2^g.length:=by omega
  rw[show decide (((2^g.length:Nat):Int)<((2^g.length:Nat):Int))=false from decide_eq_false (by omega),cF]
  refine⟨_,rfl,by omega,h5,λx=> ?_⟩
  rw[h4]
  constructor
  ·rintro⟨j,e,a,b,c⟩
   exact⟨_,e,(En hg).2 ⟨j,rfl,a,b⟩,c⟩
  ·rintro⟨X,e,hX,c⟩
   obtain⟨j,rfl,a,b⟩:=(En hg).1 hX
   exact⟨j,e,a,b,c⟩
theorem Fx (h8:g.length≤8){X:Int}(hX:QS g.length X)(hs:Strg (Ad (g.map mk)) (El (A9 g.length)) (El X)):D.Y0 g (Aj X)=some true:=by
 obtain⟨L,eL,hL,_,hm⟩:=DD hg h8
 obtain⟨b,eb,hb⟩:=DX hg hX
 have hmem:Aj X∈L:=(hm _).2 ⟨X,rfl,hX,hs.1⟩
 have hpos:=List.length_pos_of_mem hmem
 unfold D.Y0
 rw[eL,bs,show ((L.length:Int)==0)=false from beq_eq_false_iff_ne.2 (by omega),cF,eb,hb.2 hs.1,bs,Bool.not_true,bs,cF]
 refine(CX L.length (λ_=>true) (.inl ()) (.inr false) (λi hi=> ?_) ?_).trans ?_
 ·obtain⟨Y,eY,hY,hYm⟩:=(hm _).1 (List.getElem_mem hi)
  obtain⟨b,e,h⟩:=l17Laps_ok hg hY.1.1 hX.1.1
  rw[dlt hi,cT,AF hi,bs,eY,e,bs]
  cases b with
  |false=>rw[cF,wi (by omega)];rfl
  |true=>
   obtain⟨⟨p,p1,p2⟩,⟨q,q1,q2⟩,⟨z,z1,z2⟩⟩:=h rfl
   exact absurd ⟨⟨p,p2,p1⟩,⟨z,z1,z2⟩,⟨q,q1,q2⟩⟩ (hs.2 _ hYm)
 ·rw[Bs,cF]
 ·rw[show ((List.range L.length).all λ_=>true)=true by simp];rfl
end
end Go.Sx

namespace Go.Sx
theorem pair_elems {u v:Nat}(huv:u<v)(hv:v<16):([(u:Int),(v:Int)]:LI)=Aj (ior .u32 (ishl .u32 1 (u:Int)) (ishl .u32 1 (v:Int))):=by
 refine Inc.ext (by unfold Inc;simp;omega) (Bl _) λx=> ?_
 rw[mem_elems]
 have hh:∀w,has (ior .u32 (ishl .u32 1 (u:Int)) (ishl .u32 1 (v:Int))) w=true↔w=u∨w=v:=λw=>by
  rw[BU (VS.ishl _ _) (VS.ishl _ _),BE (by omega),BE (by omega),Bool.or_eq_true,decide_eq_true_eq,decide_eq_true_eq]
 constructor
 ·intro h
  simp at h
  rcases h with rfl|rfl
  ·exact⟨u,by omega,(hh u).2 (.inl rfl),rfl⟩
  ·exact⟨v,by omega,(hh v).2 (.inr rfl),rfl⟩
 ·rintro⟨w,_,hw,rfl⟩
  rcases(hh w).1 hw with rfl|rfl<;>simp
section
variable {g : LL} (hg : GOk g)
include hg
theorem l17Closure_ok {X:Int}(hX:QS g.length X):∃c,D.x0 g (Aj (A9 g.length)) (Aj X)=some (Aj c)∧QS g.length c∧(∀v,El X v→El c v)∧Modl (Ad (g.map mk)) (El (A9 g.length)) (El c):=by
 have h16:=hg.n16
 have hlX:=Bb X
 unfold D.x0
 rw[EX _ (by unfold Sh;omega),bs]
 suffices h:∃y,(Ar _ _).bind _=some y∧∃c,y=Aj c∧QS g.length c∧(∀v,El X v→El c v)∧Modl (Ad (g.map mk)) (El (A9 g.length)) (El c) by
  obtain⟨y,h1,c,rfl,h2⟩:=h;exact⟨c,h1,h2⟩
 refine AO (λl:LI=>∃c,l=Aj c∧QS g.length c∧∀v,El X v→El c v) (λl=>33-l.length) (λy=>∃c,y=Aj c∧QS g.length c∧(∀v,El X v→El c v)∧Modl (Ad (g.map mk)) (El (A9 g.length)) (El c)) ?_ ⟨X,rfl,hX,λv h=>h⟩ (λr hr=>⟨r,rfl,hr⟩)
 rintro _ ⟨c,rfl,hc,hsub⟩
 obtain⟨r,er,hr⟩:=Do hg (In.full' h16) hc.1
 rw[er,bs]
 have hmod:=spl_modl hg hc (sub_full hg hc.1)
 rcases hr with⟨r0,hno⟩|⟨v,rfl,hv,hsp⟩
 ·rw[decide_eq_true r0,cT]
  exact⟨_,rfl,c,rfl,hc,hsub,hmod.1 hno⟩
 ·have hvn:=(In.full' h16).2 v hv
  rw[show decide ((v:Int)<0)=false from decide_eq_false (by omega),cF,DA _ _ (Bl c) (by have:=Bb c;omega),bs,into_elems hc.1.1 (by omega)]
  have hor:∀w,El (ior .u32 c (ishl .u32 1 (v:Int))) w↔El c w∨w=v:=λw=>by
   unfold El;rw[BU hc.1.1 (VS.ishl _ _),BE (by omega),Bool.or_eq_true,decide_eq_true_eq]
  refine⟨_,rfl,⟨_,rfl,⟨⟨VS.ior _ _,λw hw=> ?_⟩,v,(hor v).2 (.inr rfl)⟩,λw hw=>(hor w).2 (.inl (hsub w hw))⟩,?_⟩
  ·rcases(hor w).1 hw with h|rfl
   ·exact hc.1.2 w h
   ·exact hvn
  ·have h1:=DL hc.1.1 (VS.ior c (ishl .u32 1 (v:Int))) (λw hw=>(hor w).2 (.inl hw)) ((hor v).2 (.inr rfl)) hsp.1
   have h2:=Bb (ior .u32 c (ishl .u32 1 (v:Int)))
   dsimp only;omega
theorem FD (h4:4≤g.length)(hp:∀N:Nat→Prop,Modl (Ad (g.map mk)) (λv=>v<g.length) N→∀p q,N p→N q→p≠q→∀v,v<g.length→N v):D.M g=some true:=by
 have h16:=hg.n16
 have hfe:El (A9 g.length)=λv=>v<g.length:=funext λv=>propext (by
  show has _ v=true↔_
  rw[CD h16,decide_eq_true_eq])
 have hel:(Aj (A9 g.length)).length=g.length:=(Cp hg).2
 unfold D.M
 rw[Ce g hg.sh2,Cv hg,bs,show decide ((g.length:Int)<4)=false from decide_eq_false (by omega)]
 simp only[Bool.not_true,Bool.or_self,cF]
 rw[D4 h16,bs]
 suffices h:∃y,(Ar _ _).bind _=some y∧y=true by
  obtain⟨y,h1,rfl⟩:=h;exact h1
 refine AO (λq:LI×Int=>q.1=Aj (A9 g.length)∧∃v:Nat,q.2=(v:Int)∧v≤g.length) (λq=>g.length-q.2.toNat) (λz=>z= .inl ()) ?_ ⟨rfl,0,rfl,by omega⟩ ?_
 ·rintro⟨_,_⟩ ⟨rfl,v,rfl,hv⟩
  dsimp only
  rw[hel]
  by_cases hvn:v<g.length
  ·rw[dlt hvn,cT]
   refine AO (λx:Int=>∃u:Nat,x=(u:Int)∧u≤v) (λx=>v-x.toNat) (λz=>z= .inl ()) ?_ ⟨0,rfl,by omega⟩ ?_
   ·rintro _ ⟨u,rfl,hu⟩
    by_cases huv:u<v
    ·have hpe:=pair_elems huv (show v<16 by omega)
     have hh:∀w,El (ior .u32 (ishl .u32 1 (u:Int)) (ishl .u32 1 (v:Int))) w↔w=u∨w=v:=λw=>by
      unfold El
      rw[BU (VS.ishl _ _) (VS.ishl _ _),BE (by omega),BE (by omega),Bool.or_eq_true,decide_eq_true_eq,decide_eq_true_eq]
     obtain⟨c,ec,hc,hsub,hm⟩:=l17Closure_ok hg (X:=ior .u32 (ishl .u32 1 (u:Int)) (ishl .u32 1 (v:Int))) ⟨⟨VS.ior _ _,λw hw=>by
      rcases(hh w).1 hw with rfl|rfl<;>omega⟩,u,(hh u).2 (.inl rfl)⟩
     rw[dlt huv,cT,hpe,ec,bs]
     rw[hfe] at hm
     have hall:=hp _ hm u v (hsub u ((hh u).2 (.inl rfl))) (hsub v ((hh v).2 (.inr rfl))) (by omega)
     have hlen:(Aj c).length=g.length:=full_len h16 hc.1 hall
     rw[hlen,show decide ((g.length:Int)<(g.length:Int))=false from decide_eq_false (by omega),cF,wi (by omega)]
     exact⟨_,rfl,⟨u+1,rfl,by omega⟩,by dsimp only;omega⟩
    ·obtain rfl:u=v:=by omega
     rw[show decide ((u:Int)<(u:Int))=false from decide_eq_false (by omega),cF]
     exact⟨_,rfl,rfl⟩
   ·rintro _ rfl
    dsimp only
    rw[wi (by omega)]
    exact⟨_,rfl,⟨rfl,v+1,rfl,by omega⟩,by dsimp only;omega⟩
  ·obtain rfl:v=g.length:=by omega
   rw[Bs,cF]
   exact⟨_,rfl,rfl⟩
 ·rintro _ rfl
  exact⟨_,rfl,rfl⟩
end
end Go.Sx

namespace Go.Sx
theorem into_all {x t:Int}(hx:VS x)(ht:VS t)(k:LI→Option (LI×Int ⊕ LI)):
  ((Ar (σ:=LI×Int) (ρ:=(LI)) (fun(s_487:LI×Int)=>match s_487 with|(l_490,x_493)=>cond (decide (x_493<((Aj t).length:Int))) ((idx (Aj t) x_493).bind λe_517=>(D.g l_490 e_517).bind λy_523=>some (.inl (y_523,(IntKind.i64.wrap (x_493+1))))) (some (.inr l_490))) (Aj x,0)).bind k)=k (Aj (ior .u32 x t)):=by
 have hlt:=Bb t
 have main:=AO (k:=λr=>some r) (Q:=λr=>r=Aj (ior .u32 x t)) (step:=fun(s_487:LI×Int)=>match s_487 with|(l_490,x_493)=>cond (decide (x_493<((Aj t).length:Int))) ((idx (Aj t) x_493).bind λe_517=>(D.g l_490 e_517).bind λy_523=>some (.inl (y_523,(IntKind.i64.wrap (x_493+1))))) (some (.inr l_490))) (s:=(Aj x,(0:Int)))
  (λq=>∃i:Nat,q.2=(i:Int)∧i≤(Aj t).length∧∃m,q.1=Aj m∧VS m∧∀v:Nat,El m v↔El x v∨(v:Int)∈(Aj t).take i) (λq=>(Aj t).length-q.2.toNat) (λr=>r=Aj (ior .u32 x t)) ?_ ⟨0,rfl,by omega,x,rfl,hx,λv=>by simp⟩ (λr hr=>⟨r,rfl,hr⟩)
 ·obtain⟨y,e,rfl⟩:=main
  cases hl:Ar (fun(s_487:LI×Int)=>match s_487 with|(l_490,x_493)=>cond (decide (x_493<((Aj t).length:Int))) ((idx (Aj t) x_493).bind λe_517=>(D.g l_490 e_517).bind λy_523=>some (.inl (y_523,(IntKind.i64.wrap (x_493+1))))) (some (.inr l_490))) (Aj x,(0:Int)) with
  |none=>rw[hl] at e;cases e
  |some z=>
   rw[hl] at e
   obtain rfl:=Option.some.inj e
   rfl
 ·rintro⟨_,_⟩ ⟨i,rfl,hi,m,rfl,hm,hmv⟩
  dsimp only
  by_cases hil:i<(Aj t).length
  ·obtain⟨u,hu32,hu,eu⟩:=mem_elems.1 (List.getElem_mem hil)
   rw[dlt hil,cT,AF hil,bs,eu,DA _ _ (Bl m) (by have:=Bb m;omega),bs,into_elems hm hu32,wi (by omega)]
   refine⟨_,rfl,⟨i+1,rfl,by omega,_,rfl,VS.ior _ _,λv=> ?_⟩,by dsimp only;omega⟩
   show has (ior .u32 m (ishl .u32 1 (u:Int))) v=true↔_
   rw[BU hm (VS.ishl _ _),BE hu32,Bool.or_eq_true,decide_eq_true_eq,List.take_succ_eq_append_getElem hil,List.mem_append,eu,List.mem_singleton,Int.natCast_inj]
   rw[show has m v=true↔_ from hmv v,or_assoc]
  ·obtain rfl:i=(Aj t).length:=by omega
   rw[Bs,cF]
   refine⟨_,rfl,?_⟩
   congr 1
   refine VS.ext hm (VS.ior _ _) λv _=> ?_
   rw[BU hx ht,Bool.eq_iff_iff,show has m v=true↔_ from hmv v,List.take_length,AG ht,Bool.or_eq_true]
theorem DU {s:Int}{n v:Nat}(hn:n≤16)(hs:In n s)(h:∀w,El s w↔w=v):Aj s=[(v:Int)]:=by
 refine Inc.ext (Bl s) (by simp[Inc]) λx=> ?_
 rw[mem_elems,List.mem_singleton]
 constructor
 ·rintro⟨w,_,hw,rfl⟩;rw[(h w).1 hw]
 ·rintro rfl
  exact⟨v,by have:=hs.2 v ((h v).2 rfl);omega,(h v).2 rfl,rfl⟩
section
variable {F : LI} {n : Nat} (hn : n ≤ 16)
include hn
theorem Di {k s:Int}{ks ts:LI}(h:PN F n k s ks ts):(k=1∧ts=[]∧∃v:Nat,lst s=(v:Int)∧v<n∧∀w,El s w↔w=v)∨((k=2∨k=3∨k=4)∧ts≠[]∧2≤ts.length):=by
 obtain⟨h1,h2,h3,h4⟩:=h
 rcases h4 with⟨a,b,v,hv⟩|⟨a,b,_⟩|⟨a,b,_⟩|⟨a,b,_⟩
 ·obtain⟨m,em,m1,m2,_⟩:=Dg hn h1 h2
  refine .inl ⟨a,b,m,em,m2,λw=> ?_⟩
  rw[hv w,(hv m).1 m1]
 ·exact .inr ⟨.inl b,a,h3.two.resolve_left a⟩
 ·exact .inr ⟨.inr (.inl b),a,h3.two.resolve_left a⟩
 ·exact .inr ⟨.inr (.inr b),a,h3.two.resolve_left a⟩
theorem E7 (xs:List (Int×Int×LI))(hxs:xs.length≤100000):∀(f:FT) (A B:List (Int×Int×LI)) (fuel:Nat),f.all (PN F n)→xs=A++f.em A.length++B→f.sz≤fuel→
  ∀i,i<f.sz→D.e0 fuel xs ((A.length+i:Nat):Int)=some (Aj (f.sts.getD i 0))
 | .nil,A,B,fuel,hf,hx,hfu,i,hi=>by simp[FT.sz] at hi
 | .cons k s c r,A,B,fuel,hf,hx,hfu,i,hi=>by
  obtain⟨hk,hc,hr⟩:=hf
  have hcl:=c.em_len A.length
  have hcs:=c.sts_len
  simp only[FT.sz] at hfu hi
  have hxl:xs.length=A.length+(c.sz+1+r.sz)+B.length:=by rw[hx];simp[FT.em,hcl,r.em_len];omega
  by_cases h1:i<c.sz
  ·have:=E7 xs hxs c A ((k,(if k=1 then lst s else 0),c.rts A.length)::r.em (A.length+c.sz+1)++B) fuel hc (by rw[hx];simp[FT.em]) (by omega) i h1
   rw[this]
   simp only[FT.sts]
   rw[List.getD_eq_getElem?_getD,List.getD_eq_getElem?_getD,List.getElem?_append_left (by omega)]
  ·by_cases h2:i=c.sz
   ·subst h2
    have hget:(FT.sts (.cons k s c r)).getD c.sz 0=s:=by
     simp only[FT.sts]
     rw[List.getD_eq_getElem?_getD,List.getElem?_append_right (by omega),hcs,Nat.sub_self];rfl
    rw[hget]
    have hnode:idx xs ((A.length+c.sz:Nat):Int)=some (k,(if k=1 then lst s else 0),c.rts A.length):=by
     rw[AF (by omega)]
     simp only[hx,FT.em]
     rw[List.getElem_append_left (by simp[hcl]),List.getElem_append_right (by omega)]
     simp[hcl]
    obtain⟨fuel,rfl⟩:∃m,fuel=m+1:=⟨fuel-1,by omega⟩
    unfold D.e0
    simp only[hnode,bs]
    rcases Di hn hk with⟨rfl,hts,v,ev,hvn,hv⟩|⟨hkk,hne,h2⟩
    ·rw[beq_self_eq_true,cT,if_pos rfl,ev,DU hn hk.1 hv]
    ·have hk1:k≠1:=by rcases hkk with rfl|rfl|rfl<;>decide
     rw[show (k==1)=false from beq_eq_false_iff_ne.2 hk1,cF]
     have hrl:=c.rts_len A.length
     have hKd:=hk.2.2.1
     have hctl:c.tops.length≤c.sz:=by
      have h2:=BG (l:=c.rts A.length) (m:=(List.range c.sz).map λj:Nat=>((A.length+j:Nat):Int)) (Dz c A.length) (λx hx=>by
       have h3:=c.rts_rng A.length x hx
       exact List.mem_map.2 ⟨(x-A.length).toNat,List.mem_range.2 (by omega),by omega⟩)
      simp at h2;omega
     suffices h:∃y,(Ar _ _).bind _=some y∧y=Aj s by
      obtain⟨y,e1,rfl⟩:=h;exact e1
     refine AO (λq:LI×Int=>∃i:Nat,q.2=(i:Int)∧i≤c.tops.length∧∃m,q.1=Aj m∧VS m∧∀v,El m v↔∃t∈c.tops.take i,El t v) (λq=>c.tops.length-q.2.toNat) (λl=>l=Aj s) ?_ ⟨0,rfl,by omega,0,rfl,VS.zero,λv=>⟨λh=>(by rw[show El 0 v↔has 0 v=true from Iff.rfl,BH] at h;cases h),fun⟨t,ht,_⟩=>by simp at ht⟩⟩ (λr hr=>⟨r,rfl,hr⟩)
     rintro⟨_,_⟩ ⟨i,rfl,hi,m,rfl,hm,hmv⟩
     dsimp only
     by_cases hil:i<c.tops.length
     ·have hil':i<(c.rts A.length).length:=by omega
      obtain⟨t1,_,_⟩:=hKd.sub _ (List.getElem_mem hil)
      have hrng:=c.rts_rng A.length _ (List.getElem_mem hil')
      obtain⟨j,ej,hj⟩:∃j:Nat,(c.rts A.length)[i]=((A.length+j:Nat):Int)∧j<c.sz:=⟨((c.rts A.length)[i]-A.length).toNat,by omega,by omega⟩
      have ih:=E7 xs hxs c A ((k,(if k=1 then lst s else 0),c.rts A.length)::r.em (A.length+c.sz+1)++B) fuel hc (by rw[hx];simp[FT.em]) (by omega) j hj
      have hst:c.sts.getD j 0=c.tops[i]:=by
       have:=c.rts_get A.length i (List.replicate A.length 0) [] (by simp) hil
       rw[A6 hil',ej,A6 hil,List.append_nil,Int.toNat_natCast,List.getElem?_append_right (by simp),List.length_replicate,Nat.add_sub_cancel_left] at this
       rw[List.getD_eq_getElem?_getD,this];rfl
      rw[dlt hil',cT,AF hil',bs,ej,ih,bs,hst,into_all hm t1.1,wi (by omega)]
      refine⟨_,rfl,⟨i+1,rfl,by omega,_,rfl,VS.ior _ _,λv=> ?_⟩,by dsimp only;omega⟩
      show has (ior .u32 m c.tops[i]) v=true↔_
      rw[BU hm t1.1,Bool.or_eq_true,List.take_succ_eq_append_getElem hil]
      constructor
      ·rintro(h|h)
       ·obtain⟨t,ht,htv⟩:=(hmv v).1 h
        exact⟨t,List.mem_append_left _ ht,htv⟩
       ·exact⟨c.tops[i],List.mem_append_right _ (List.mem_singleton.2 rfl),h⟩
      ·rintro⟨t,ht,htv⟩
       rcases List.mem_append.1 ht with ht|ht
       ·exact .inl ((hmv v).2 ⟨t,ht,htv⟩)
       ·rw[List.mem_singleton.1 ht] at htv;exact .inr htv
     ·obtain rfl:i=c.tops.length:=by omega
      rw[show decide (((c.tops.length:Nat):Int)<((c.rts A.length).length:Int))=false from decide_eq_false (by omega),cF]
      refine⟨_,rfl,?_⟩
      show Aj m=Aj s
      congr 1
      refine VS.ext hm hk.1.1 λv _=> ?_
      rw[Bool.eq_iff_iff,show has m v=true↔∃t∈c.tops.take c.tops.length,El t v from hmv v,List.take_length]
      exact⟨fun⟨t,ht,htv⟩=>(hKd.sub t ht).2.2 v htv,λhv=>hKd.cov hne v hv⟩
   ·have hAl:(A++c.em A.length++[(k,(if k=1 then lst s else 0),c.rts A.length)]).length=A.length+c.sz+1:=by simp[hcl];omega
    have:=E7 xs hxs r (A++c.em A.length++[(k,(if k=1 then lst s else 0),c.rts A.length)]) B fuel hr (by rw[hx,hAl];simp[FT.em]) (by omega) (i-(c.sz+1)) (by omega)
    rw[hAl,show A.length+c.sz+1+(i-(c.sz+1))=A.length+i by omega] at this
    rw[this]
    simp only[FT.sts]
    rw[List.getD_eq_getElem?_getD,List.getD_eq_getElem?_getD,List.getElem?_append_right (by omega),hcs,show i-c.sz=(i-(c.sz+1))+1 by omega,List.getElem?_cons_succ]
noncomputable def Dj (fuel:Nat)(xs:List (Int×Int×LI))(ks:LI):(Int×Int×Int)→Option ((Int×Int×Int) ⊕ (Int ⊕ Int)):=
 (fun(s_125:Int×Int×Int)=>match s_125 with|(x_128,x_129,x_130)=>cond (decide ((0:Int)≤x_130)) ((cond (decide (x_129<0)) (some true) ((idx ks x_130).bind λe_186=>some (e_186 !=x_129))).bind λb_184=>cond b_184 (some (.inr (.inr (-1)))) ((D.L fuel xs x_129).bind λy_193=>cond (decide (y_193<0)) (some (.inr (.inr (-1)))) (some (.inl ((IntKind.i64.wrap (x_128+y_193)),(IntKind.i64.wrap (x_129-y_193)),(IntKind.i64.wrap (x_130-1))))))) (some (.inr (.inl x_128))))
theorem walk_seg (xs:List (Int×Int×LI))(hxs:xs.length≤100000):∀(f:FT) (A B:List (Int×Int×LI)) (fuel:Nat) (P S ks:LI) (M:Nat),f.all (PN F n)→xs=A++f.em A.length++B→f.sz≤fuel→ks=P++f.rts A.length++S→ks.length≤100000→M≤100000→
  Ar (Dj fuel xs ks) ((M:Int),((A.length+f.sz:Nat):Int)-1,((P.length+f.tops.length:Nat):Int)-1)=Ar (Dj fuel xs ks) (((M+f.sz:Nat):Int),(A.length:Int)-1,(P.length:Int)-1)
 | .nil,A,B,fuel,P,S,ks,M,hf,hx,hfu,hks,hkl,hM=>by simp[FT.sz,FT.tops]
 | .cons k s c r,A,B,fuel,P,S,ks,M,hf,hx,hfu,hks,hkl,hM=>by
  obtain⟨hk,hc,hr⟩:=hf
  have hcl:=c.em_len A.length
  simp only[FT.sz] at hfu
  have hxl:xs.length=A.length+(c.sz+1+r.sz)+B.length:=by rw[hx];simp[FT.em,hcl,r.em_len];omega
  have hAl:(A++c.em A.length++[(k,(if k=1 then lst s else 0),c.rts A.length)]).length=A.length+c.sz+1:=by simp[hcl];omega
  have s1:=walk_seg xs hxs r (A++c.em A.length++[(k,(if k=1 then lst s else 0),c.rts A.length)]) B fuel (P++[((A.length+c.sz:Nat):Int)]) S ks M hr (by rw[hx,hAl];simp[FT.em]) (by omega) (by rw[hks,hAl];simp[FT.rts]) hkl hM
  rw[hAl] at s1
  simp only[FT.sz,FT.tops,List.length_cons,List.length_append,List.length_nil] at s1 ⊢
  rw[show ((A.length+(c.sz+1+r.sz):Nat):Int)-1=((A.length+c.sz+1+r.sz:Nat):Int)-1 by omega,show ((P.length+(r.tops.length+1):Nat):Int)-1=((P.length+(0+1)+r.tops.length:Nat):Int)-1 by omega,s1]
  have hnode:idx xs ((A.length+c.sz:Nat):Int)=some (k,(if k=1 then lst s else 0),c.rts A.length):=by
   rw[AF (by omega)]
   simp only[hx,FT.em]
   rw[List.getElem_append_left (by simp[hcl]),List.getElem_append_right (by omega)]
   simp[hcl]
  have hwalk:D.L fuel xs ((A.length+c.sz:Nat):Int)=some ((c.sz+1:Nat):Int):=by
   obtain⟨fuel,rfl⟩:∃m,fuel=m+1:=⟨fuel-1,by omega⟩
   unfold D.L
   rw[hnode,bs]
   dsimp only
   rcases Di hn hk with⟨rfl,hts,v,ev,hvn,hv⟩|⟨hkk,hne,h2⟩
   ·have hcn:=D2 hts
    subst hcn
    rw[beq_self_eq_true,cT,if_pos rfl,ev,show decide ((0:Int)<((FT.rts .nil A.length).length:Int))=false from rfl,cF,DO,bs,decide_eq_true (by omega),decide_eq_true (by omega)]
    rfl
   ·have hk1:k≠1:=by rcases hkk with rfl|rfl|rfl<;>decide
    have hrl:=c.rts_len A.length
    have hin:D.b k 2 4=some true:=by rcases hkk with rfl|rfl|rfl<;>rfl
    have hctl:c.tops.length≤c.sz:=by
     have h2:=BG (l:=c.rts A.length) (m:=(List.range c.sz).map λj:Nat=>((A.length+j:Nat):Int)) (Dz c A.length) (λx hx=>by
      have h3:=c.rts_rng A.length x hx
      exact List.mem_map.2 ⟨(x-A.length).toNat,List.mem_range.2 (by omega),by omega⟩)
     simp at h2;omega
    rw[show (k==1)=false from beq_eq_false_iff_ne.2 hk1,cF,if_neg hk1,hin,bs,show ((0:Int) !=0)=false from rfl,show decide (((c.rts A.length).length:Int)<2)=false from decide_eq_false (by omega)]
    simp only[Bool.not_true,Bool.or_self,cF]
    have s2:=walk_seg xs hxs c A ((k,(if k=1 then lst s else 0),c.rts A.length)::r.em (A.length+c.sz+1)++B) fuel [] [] (c.rts A.length) 1 hc (by rw[hx];simp[FT.em]) (by omega) (by simp) (by omega) (by omega)
    rw[show IntKind.i64.wrap (((A.length+c.sz:Nat):Int)-1)=((A.length+c.sz:Nat):Int)-1 by rw[w64 (by omega) (by omega)],show IntKind.i64.wrap (((c.rts A.length).length:Int)-1)=((([]:LI).length+c.tops.length:Nat):Int)-1 by rw[w64 (by omega) (by omega)];simp;omega]
    show (Ar (Dj fuel xs (c.rts A.length)) (((1:Nat):Int),_,_)).bind _=_
    rw[s2,Bo (show Dj fuel xs (c.rts A.length) (((1+c.sz:Nat):Int),(A.length:Int)-1,(([]:LI).length:Int)-1)=some (.inr (.inl ((1+c.sz:Nat):Int))) by
     unfold Dj
     dsimp only
     rw[show decide ((0:Int)≤(([]:LI).length:Int)-1)=false from rfl,cF]),bs]
    show some _=some _
    congr 1;omega
  have hkp:ks[P.length]? =some ((A.length+c.sz:Nat):Int):=by rw[hks];simp[FT.rts]
  have hkpl:P.length<ks.length:=(List.getElem?_eq_some_iff.1 hkp).1
  have hkpg:idx ks (P.length:Int)=some ((A.length+c.sz:Nat):Int):=by
   rw[AF hkpl,←List.getElem?_eq_getElem hkpl];exact hkp
  refine BK (s':=(((M+(c.sz+1+r.sz):Nat):Int),(A.length:Int)-1,(P.length:Int)-1)) ?_
  unfold Dj
  dsimp only
  have hP1:((P.length+(0+1):Nat):Int)-1=(P.length:Int):=by omega
  have hA1:((A.length+c.sz+1:Nat):Int)-1=((A.length+c.sz:Nat):Int):=by omega
  rw[hP1,hA1,show decide ((0:Int)≤(P.length:Int))=true from decide_eq_true (by omega),cT,show decide (((A.length+c.sz:Nat):Int)<0)=false from decide_eq_false (by omega),cF,hkpg,bs,bne_self_eq_false,bs,cF,hwalk,bs,show decide (((c.sz+1:Nat):Int)<0)=false from decide_eq_false (by omega),cF]
  rw[w64 (by omega) (by omega),w64 (by omega) (by omega),w64 (by omega) (by omega),show (((M+r.sz:Nat):Int)+((c.sz+1:Nat):Int))=((M+(c.sz+1+r.sz):Nat):Int) by omega,show (((A.length+c.sz:Nat):Int)-((c.sz+1:Nat):Int))=(A.length:Int)-1 by omega]
end
end Go.Sx

namespace Go.Sx
def FT.lfc :FT→Nat
 | .nil=>0
 | .cons k _ c r=>c.lfc+(if k=1 then 1 else 0)+r.lfc
theorem FT.lfc_em :∀(f:FT) (o:Nat),((f.em o).filter λx=>decide (x.1=1)).length=f.lfc
 | .nil,_=>rfl
 | .cons k s c r,o=>by
  simp only[FT.em,FT.lfc,List.filter_append,List.length_append,FT.lfc_em c o]
  by_cases h:k=1
  ·rw[List.filter_cons_of_pos (by simpa using h),List.length_cons,FT.lfc_em r,if_pos h];omega
  ·rw[List.filter_cons_of_neg (by simpa using h),FT.lfc_em r,if_neg h];omega
theorem sum_ge {n:Nat}{s:Int}{ts:LI}(hs:VS s)(h:Kids n s ts)(hne:ts≠[]):mu s≤(ts.map mu).sum:=by
 have:=BG (l:=Aj s) (m:=ts.flatMap Aj) (Bl s).nodup λx hx=>by
  obtain⟨v,_,hv,rfl⟩:=mem_elems.1 hx
  obtain⟨t,ht,htv⟩:=h.cov hne v hv
  exact List.mem_flatMap.2 ⟨t,ht,(AG (h.sub t ht).1.1).2 htv⟩
 rw[List.length_flatMap] at this
 exact this
theorem len_sum :∀{ts:LI},(∀t∈ts,1≤mu t)→ts.length≤(ts.map mu).sum
 |[],_=>by simp
 |t::ts,h=>by
  have h1:=h t (List.mem_cons_self ..)
  have h2:=len_sum λu hu=>h u (List.mem_cons_of_mem _ hu)
  rw[List.map_cons,List.sum_cons,List.length_cons];omega
theorem Ds {n:Nat}{s:Int}{ts:LI}(hs:VS s)(h:Kids n s ts):ts.length≤32:=by
 have h1:=len_sum λt ht=>mu_pos (h.sub t ht).1.1 (h.sub t ht).2.1
 have h2:=sum_le hs h
 have h3:mu s≤32:=Bb s
 omega
theorem lfc_sum {F:LI}{n:Nat}(hn:n≤16):∀f:FT,f.all (PN F n)→f.lfc=(f.tops.map mu).sum
 | .nil,_=>rfl
 | .cons k s c r,hf=>by
  obtain⟨hk,hc,hr⟩:=hf
  have ihc:=lfc_sum hn c hc
  have ihr:=lfc_sum hn r hr
  simp only[FT.lfc,FT.tops,List.map_cons,List.sum_cons]
  rcases Di hn hk with⟨h1,hts,v,ev,hvn,hv⟩|⟨hkk,hne,h2⟩
  ·rw[D2 hts,if_pos h1]
   have:mu s=1:=by show (Aj s).length=1;rw[DU hn hk.1 hv];rfl
   simp only[FT.lfc]
   omega
  ·have h3:=sum_le hk.1.1 hk.2.2.1
   have h4:=sum_ge hk.1.1 hk.2.2.1 hne
   have hk1:k≠1:=by rcases hkk with rfl|rfl|rfl<;>decide
   rw[if_neg hk1]
   omega
structure NodeAt (f:FT)(F:LI)(n i:Nat)(k s:Int)(c:FT)(o:Nat):Prop where
 st:f.sts.getD i 0=s
 st':f.sts[i]? =some s
 em:(f.em 0)[i]? =some (k,(if k=1 then lst s else 0),c.rts o)
 pn:PN F n k s c.kds c.tops
 kid:∀m (_:m<c.tops.length),∃x:Nat,(c.rts o)[m]? =some (x:Int)∧x<f.sz∧f.sts.getD x 0=c.tops.getD m 0∧∃y,(f.em 0)[x]? =some y∧y.1=c.kds.getD m 0
theorem Eu {F:LI}{n:Nat}{f:FT}(hf:f.all (PN F n)){i:Nat}(hi:i<f.sz):∃k s c o,NodeAt f F n i k s c o∧(∀P,f.all P→P k s c.kds c.tops):=by
 obtain⟨k,s,c,o,e1,e2,e3,e4,e5,e6⟩:=f.at 0 i hi
 refine⟨k,s,c,o,⟨by rw[List.getD_eq_getElem?_getD,e1];rfl,e1,e2,(e5 _ hf).1,λm hm=> ?_⟩,λP hP=>(e5 P hP).1⟩
 have hml:m<(c.rts o).length:=by rw[c.rts_len];exact hm
 have hr:=c.rts_rng o _ (List.getElem_mem hml)
 obtain⟨x,hx⟩:∃x:Nat,(c.rts o)[m]=(x:Int):=⟨(c.rts o)[m].toNat,by omega⟩
 have h1:=c.rts_get o m (List.replicate o 0) [] (by simp) hm
 obtain⟨y,h2,h3⟩:=c.kds_get o m (List.replicate o (0,0,[])) [] (by simp) hm
 rw[A6 hml,hx,Int.toNat_natCast,List.append_nil,List.getElem?_append_right (by simp;omega),List.length_replicate] at h1 h2
 obtain⟨g1,g2⟩:=e6 (x-o) (by omega)
 rw[show o-0+(x-o)=x by omega] at g1 g2
 refine⟨x,by rw[List.getElem?_eq_getElem hml,hx],by omega,?_,y,by rw[g1];exact h2,h3⟩
 rw[List.getD_eq_getElem?_getD,g2,h1];rfl
section
variable {g : LL} (hg : GOk g) {F' : LI} (hFc : FOk F' g.length) (hF' : ∀ u w, u < g.length → nb F' u w = (decide (w < g.length) && !nb (g.map mk) u w && !decide (w = u)))
include hg hFc hF'
theorem has_T {i:Nat}(hi:i<(MT g F').sz):D.f ((MT g F').em 0) (i:Int)=some (Aj ((MT g F').sts.getD i 0)):=by
 have hsz:=C7 hg hFc hF'
 have h16:=hg.n16
 have:=E7 h16 ((MT g F').em 0) (by rw[FT.em_len];omega) (MT g F') [] [] BP (C9 hg hFc hF') (by simp) (by have:=C5;omega) i hi
 simp only[List.length_nil,Nat.zero_add] at this
 unfold D.f
 exact this
theorem root_T :∃k c,MT g F'= .cons k (A9 g.length) c .nil∧(MT g F').sz=c.sz+1∧(MT g F').sts.getD c.sz 0=A9 g.length∧PN (g.map mk) g.length k (A9 g.length) c.kds c.tops∧c.all (PN (g.map mk) g.length):=by
 obtain⟨k,c,hf⟩:=MT_form hg hFc hF'
 have hpn:=C9 hg hFc hF'
 rw[hf] at hpn
 refine⟨k,c,hf,by rw[hf];simp[FT.sz],?_,hpn.1,hpn.2.1⟩
 rw[hf]
 simp only[FT.sts]
 rw[List.getD_eq_getElem?_getD,List.getElem?_append_right (by rw[c.sts_len];exact Nat.le_refl _),c.sts_len,Nat.sub_self];rfl
theorem walk_T :D.m ((MT g F').em 0) (IntKind.i64.wrap ((((MT g F').em 0).length:Int)-1))=some (((MT g F').sz:Nat):Int):=by
 have hsz:=C7 hg hFc hF'
 have h16:=hg.n16
 obtain⟨k,c,hf,hs,_,hk,hc⟩:=root_T hg hFc hF'
 have hcl:=c.em_len 0
 have hel:=(MT g F').em_len 0
 have hem:(MT g F').em 0=c.em 0++[(k,(if k=1 then lst (A9 g.length) else 0),c.rts 0)]:=by rw[hf];simp[FT.em]
 have hnode:idx ((MT g F').em 0) ((c.sz:Nat):Int)=some (k,(if k=1 then lst (A9 g.length) else 0),c.rts 0):=by
  rw[AF (by omega)]
  simp only[hem]
  rw[List.getElem_append_right (by omega)]
  simp[hcl]
 have hbig:=C5
 unfold D.m
 rw[hel,show IntKind.i64.wrap (((MT g F').sz:Int)-1)=((c.sz:Nat):Int) by rw[w64 (by omega) (by omega)];omega]
 obtain⟨fuel,hfu⟩:∃m,BP=m+1:=⟨BP-1,by omega⟩
 rw[hfu]
 unfold D.L
 rw[hnode,bs]
 dsimp only
 rcases Di h16 hk with⟨rfl,hts,v,ev,hvn,hv⟩|⟨hkk,hne,h2⟩
 ·have hcn:=D2 hts
  subst hcn
  rw[beq_self_eq_true,cT,if_pos rfl,ev,show decide ((0:Int)<((FT.rts .nil 0).length:Int))=false from rfl,cF,DO,bs,decide_eq_true (by omega),decide_eq_true (by omega),hs]
  rfl
 ·have hk1:k≠1:=by rcases hkk with rfl|rfl|rfl<;>decide
  have hrl:=c.rts_len 0
  have hin:D.b k 2 4=some true:=by rcases hkk with rfl|rfl|rfl<;>rfl
  have hctl:c.tops.length≤c.sz:=by
   have h2:=BG (l:=c.rts 0) (m:=(List.range c.sz).map λj:Nat=>((0+j:Nat):Int)) (Dz c 0) (λx hx=>by
    have h3:=c.rts_rng 0 x hx
    exact List.mem_map.2 ⟨x.toNat,List.mem_range.2 (by omega),by omega⟩)
   simp at h2;omega
  rw[show (k==1)=false from beq_eq_false_iff_ne.2 hk1,cF,if_neg hk1,hin,bs,show ((0:Int) !=0)=false from rfl,show decide (((c.rts 0).length:Int)<2)=false from decide_eq_false (by omega)]
  simp only[Bool.not_true,Bool.or_self,cF]
  have s2:=walk_seg h16 ((MT g F').em 0) (by omega) c [] [(k,(if k=1 then lst (A9 g.length) else 0),c.rts 0)] fuel [] [] (c.rts 0) 1 hc (by rw[hem];rfl) (by omega) (by simp) (by omega) (by omega)
  rw[show IntKind.i64.wrap (((c.sz:Nat):Int)-1)=((([]:List (Int×Int×LI)).length+c.sz:Nat):Int)-1 by rw[w64 (by omega) (by omega)];simp,show IntKind.i64.wrap (((c.rts 0).length:Int)-1)=((([]:LI).length+c.tops.length:Nat):Int)-1 by rw[w64 (by omega) (by omega)];simp;omega]
  show (Ar (Dj fuel ((MT g F').em 0) (c.rts 0)) (((1:Nat):Int),_,_)).bind _=_
  rw[s2,Bo (show Dj fuel ((MT g F').em 0) (c.rts 0) (((1+c.sz:Nat):Int),(([]:List (Int×Int×LI)).length:Int)-1,(([]:LI).length:Int)-1)=some (.inr (.inl ((1+c.sz:Nat):Int))) by
   unfold Dj
   dsimp only
   rw[show decide ((0:Int)≤(([]:LI).length:Int)-1)=false from rfl,cF]),bs]
  show some _=some _
  congr 1;omega
theorem FB :D.M0 ((MT g F').em 0)=some true:=by
 have hsz:=C7 hg hFc hF'
 have h16:=hg.n16
 have hn1:=hg.n1
 have hpn:=C9 hg hFc hF'
 have hel:=(MT g F').em_len 0
 obtain⟨k,c,hf,hs,hst,hk,hc⟩:=root_T hg hFc hF'
 have hlf:(MT g F').lfc=g.length:=by
  have:=lfc_sum h16 _ hpn
  have ht:(MT g F').tops=[A9 g.length]:=Dt _ _ _
  rw[ht] at this
  have h2:=(Cp hg).2
  simp at this
  rw[this];exact h2
 unfold D.M0
 rw[DO,bs,hel,decide_eq_true (by omega),decide_eq_true (by omega),Bool.and_self,Bool.not_true,cF]
 have hw:=walk_T hg hFc hF'
 rw[hel] at hw
 rw[hw,bs,bne_self_eq_false,bs,cF]
 suffices h:∃y,(Ar _ _).bind _=some y∧y=true by
  obtain⟨y,h1,rfl⟩:=h;exact h1
 refine AO (λq:Int×Int=>∃i:Nat,q.2=(i:Int)∧i≤(MT g F').sz∧q.1=((((((MT g F').em 0).take i).filter λx=>decide (x.1=1)).length:Nat):Int)) (λq=>(MT g F').sz-q.2.toNat) (λz=>z= .inl (g.length:Int)) ?_ ⟨0,rfl,by omega,rfl⟩ ?_
 ·rintro⟨_,_⟩ ⟨i,rfl,hi,rfl⟩
  dsimp only
  by_cases hil:i<(MT g F').sz
  ·have hil':i<((MT g F').em 0).length:=by omega
   obtain⟨k',s',c',o',hN,_⟩:=Eu hpn hil
   have hKd:=hN.pn.2.2.1
   have hnode:((MT g F').em 0)[i]=(k',(if k'=1 then lst s' else 0),c'.rts o'):=by
    have:=hN.em
    rw[List.getElem?_eq_getElem hil'] at this
    exact Option.some.inj this
   have hidx:idx ((MT g F').em 0) (i:Int)=some (k',(if k'=1 then lst s' else 0),c'.rts o'):=by rw[AF hil',hnode]
   have hcl:=List.length_filter_le (λx:Int×Int×LI=>decide (x.1=1)) (((MT g F').em 0).take i)
   have htl:(((MT g F').em 0).take i).length≤i:=by simp;omega
   have hcnt:((cond ((((MT g F').em 0)[i]).1==1) (some (IntKind.i64.wrap (((((((MT g F').em 0).take i).filter λx=>decide (x.1=1)).length:Nat):Int)+1))) (some ((((((MT g F').em 0).take i).filter λx=>decide (x.1=1)).length:Nat):Int)):Option Int))=some ((((((MT g F').em 0).take (i+1)).filter λx=>decide (x.1=1)).length:Nat):Int):=by
    rw[List.take_succ_eq_append_getElem hil',List.filter_append]
    by_cases h1:(((MT g F').em 0)[i]).1=1
    ·rw[show ((((MT g F').em 0)[i]).1==1)=true from beq_iff_eq.2 h1,cT,wi (by omega)]
     simp[h1]
    ·rw[show ((((MT g F').em 0)[i]).1==1)=false from beq_eq_false_iff_ne.2 h1,cF]
     simp[h1]
   rw[hnode] at hcnt
   simp only[dlt hil,cT,hidx,bs]
   dsimp only at hcnt
   rw[hcnt,bs]
   have hrl:=c'.rts_len o'
   have hkl:=Ds hN.pn.1.1 hKd
   refine AO (λq:Int×Int=>∃m:Nat,q.2=(m:Int)∧m≤c'.tops.length∧((m=0∧q.1= -1)∨∃m',m=m'+1∧∃a:Nat,q.1=(a:Int)∧∀x,El (c'.tops.getD m' 0) x→a≤x)) (λq=>c'.tops.length-q.2.toNat) (λz=>z= .inl ()) ?_ ⟨0,rfl,by omega,.inl ⟨rfl,rfl⟩⟩ ?_
   ·rintro⟨la,_⟩ ⟨m,rfl,hm,hla⟩
    dsimp only at hla ⊢
    by_cases hml:m<c'.tops.length
    ·have hml':m<(c'.rts o').length:=by omega
     obtain⟨x,hx1,hx2,hx3,_⟩:=hN.kid m hml
     obtain⟨t1,t2,_⟩:=hKd.sub _ (List.getElem_mem hml)
     rw[A6 hml] at hx3
     have hxi:(c'.rts o')[m]=(x:Int):=by rw[List.getElem?_eq_getElem hml'] at hx1;exact Option.some.inj hx1
     obtain⟨a,ea,ei,ha,_⟩:=idx_elems0 t1.1 (bne_iff_ne.1 ((Cu t1.1).2 t2))
     obtain⟨a',ea',_,a1,_,a3⟩:=D3 h16 t1 t2
     have haa:a=a':=by have:=Option.some.inj (ea.symm.trans ea');omega
     subst haa
     rw[dlt hml',cT,AF hml',bs,hxi,has_T hg hFc hF' hx2,bs,hx3,ei,bs]
     have hlt:la<(a:Int):=by
      rcases hla with⟨_,rfl⟩|⟨m',rfl,b,rfl,hb⟩
      ·omega
      ·rw[A6 (by omega)] at hb
       have hB:Bef (c'.tops[m']'(by omega)) c'.tops[m'+1]:=List.pairwise_iff_getElem.1 hKd.ord m' (m'+1) (by omega) hml (by omega)
       have:=hB.least hb a1
       omega
     rw[show decide ((a:Int)≤la)=false from decide_eq_false (by omega),cF,wi (by omega)]
     exact⟨_,rfl,⟨m+1,rfl,by omega,.inr ⟨m,rfl,a,rfl,λy hy=>by rw[A6 hml] at hy;exact a3 y hy⟩⟩,by dsimp only;omega⟩
    ·obtain rfl:m=c'.tops.length:=by omega
     rw[show decide (((c'.tops.length:Nat):Int)<((c'.rts o').length:Int))=false from decide_eq_false (by omega),cF]
     exact⟨_,rfl,rfl⟩
   ·rintro _ rfl
    dsimp only
    rw[wi (by omega)]
    exact⟨_,rfl,⟨i+1,rfl,by omega,rfl⟩,by dsimp only;omega⟩
  ·obtain rfl:i=(MT g F').sz:=by omega
   rw[Bs,cF]
   refine⟨_,rfl,?_⟩
   rw[List.take_of_length_le (by omega),FT.lfc_em,hlf]
   exact rfl
 ·rintro _ rfl
  dsimp only
  rw[show IntKind.i64.wrap (((MT g F').sz:Int)-1)=((c.sz:Nat):Int) by rw[w64 (by omega) (by omega)];omega,has_T hg hFc hF' (by omega),bs,hst,show (Aj (A9 g.length)).length=g.length from (Cp hg).2,beq_self_eq_true,cT,
   show IntKind.i64.wrap ((g.length:Int)-1)=((g.length-1:Nat):Int) by rw[w64 (by omega) (by omega)];omega,AF (by rw[show (Aj (A9 g.length)).length=g.length from (Cp hg).2];omega),bs]
  refine⟨_,rfl,?_⟩
  rw[beq_iff_eq]
  simp only[EA h16]
  simp
theorem FC :D.d1 g ((MT g F').em 0)=some true:=by
 have hsz:=C7 hg hFc hF'
 have h16:=hg.n16
 obtain⟨k,c,hf,hs,hst,hk,hc⟩:=root_T hg hFc hF'
 unfold D.d1
 rw[Ce g hg.sh2,Cv hg,bs,cT,FB hg hFc hF',bs,bs,cT,FT.em_len,show IntKind.i64.wrap (((MT g F').sz:Int)-1)=((c.sz:Nat):Int) by rw[w64 (by omega) (by omega)];omega,has_T hg hFc hF' (by omega),bs,hst,
  show (Aj (A9 g.length)).length=g.length from (Cp hg).2,beq_self_eq_true]
end
end Go.Sx

namespace Go.Sx
section
variable {n : Nat} (hn : n ≤ 16) {s : Int} {ts : LI} (hK : Kids n s ts)
include hn hK
theorem Ch {i:Nat}(hi:i<ts.length):lst ts[i]=(lsn ts i:Int)∧El ts[i] (lsn ts i)∧lsn ts i<n∧∀x,El ts[i] x→lsn ts i≤x:=by
 obtain⟨g1,g2,g3⟩:=hK.sub ts[i] (List.getElem_mem hi)
 obtain⟨m,e,p1,p2,p3⟩:=Dg hn g1 g2
 have:lsn ts i=m:=by unfold lsn;rw[A6 hi,e];rfl
 rw[this]
 exact⟨e,p1,p2,p3⟩
theorem lst_set :SetOf (ts.map lst) (n:Int):=by
 refine⟨?_,λx hx=> ?_⟩
 ·unfold Inc
  rw[List.pairwise_map,List.pairwise_iff_getElem]
  intro i j hi hj hij
  obtain⟨e1,a1,_,a3⟩:=Ch hn hK hi
  obtain⟨e2,b1,_,_⟩:=Ch hn hK hj
  have:=(List.pairwise_iff_getElem.1 hK.ord i j hi hj hij).least a3 b1
  omega
 ·obtain⟨t,ht,rfl⟩:=List.mem_map.1 hx
  obtain⟨i,hi,rfl⟩:=List.getElem_of_mem ht
  obtain⟨e1,_,a2,_⟩:=Ch hn hK hi
  omega
end
section
variable {g : LL} (hg : GOk g) {F' : LI} (hFc : FOk F' g.length) (hF' : ∀ u w, u < g.length → nb F' u w = (decide (w < g.length) && !nb (g.map mk) u w && !decide (w = u)))
include hg hFc hF'
theorem MT_str :(MT g F').all (Nd (A5 (g.map mk) F') (λs=>QS g.length s∧Strg (Ad (g.map mk)) (El (A9 g.length)) (El s))):=by
 refine E4 (μ:=mu) (λs hs t ht=> ?_) _ _ λs hs=> ?_
 ·obtain⟨h1,h2⟩:=D5 hg.n16 (FOk.of hg) hFc hF' hs.1 t ht
  exact⟨⟨h1,hs.2.child (kin_strg hg.n16 (FOk.of hg) (DM hg.n16 (FOk.of hg) hFc hF' hs.1).1 ht)⟩,h2⟩
 ·obtain⟨h1,h2⟩:=Cp hg
  rw[List.mem_singleton.1 hs]
  exact⟨⟨h1,Strg.all h1.2⟩,by omega⟩
theorem Dp {X:Int}:X∈(MT g F').sts↔QS g.length X∧Strg (Ad (g.map mk)) (El (A9 g.length)) (El X):=by
 constructor
 ·intro hX
  obtain⟨i,hi,rfl⟩:=List.getElem_of_mem hX
  have hsz:=(MT g F').sts_len
  obtain⟨k,s,c,o,hN,hP⟩:=Eu (C9 hg hFc hF') (i:=i) (by omega)
  have h1:=(hP _ (MT_str hg hFc hF')).1
  have h2:=hN.st'
  rw[List.getElem?_eq_getElem hi] at h2
  rw[Option.some.inj h2];exact h1
 ·rintro⟨h1,h2⟩
  refine Ez (n:=g.length) (ad:=Ad (g.map mk)) (P:=PN (g.map mk) g.length) (λk s ks ts hk=>⟨hk.1.1,λT hT hst hp=> ?_⟩) (MT g F') (C9 hg hFc hF') (A9 g.length) ?_ X h1.1.1 h2
  ·exact kin_in hg.n16 (FOk.of hg) hk hst hp
  ·rw[show (MT g F').tops=[A9 g.length] from Dt _ _ _];simp
theorem sts_nd :(MT g F').sts.Nodup:=EY (P:=PN (g.map mk) g.length) PN.kids _ (C9 hg hFc hF') (by
 rw[show (MT g F').tops=[A9 g.length] from Dt _ _ _];simp)
theorem quo_at {i:Nat}(hi:i<(MT g F').sz){k s:Int}{c:FT}{o:Nat}(hN:NodeAt (MT g F') (g.map mk) g.length i k s c o)(h2:2≤c.tops.length):
  ∃y,D.T0 g ((MT g F').em 0) (i:Int)=some y∧GOk y∧y.length=c.tops.length∧∀a b,adj y a b↔a<c.tops.length∧b<c.tops.length∧Ad (g.map mk) (lsn c.tops a) (lsn c.tops b):=by
 have h16:=hg.n16
 have hKd:=hN.pn.2.2.1
 have hrl:=c.rts_len o
 have hkl:=Ds hN.pn.1.1 hKd
 have hel:=(MT g F').em_len 0
 have hidx:idx ((MT g F').em 0) (i:Int)=some (k,(if k=1 then lst s else 0),c.rts o):=by
  rw[AF (by omega),←List.getElem?_eq_getElem (by omega)];exact hN.em
 have hset:=lst_set h16 hKd
 have hll:(c.tops.map lst).length≤16:=by
  have:=hset.length_le (by omega)
  omega
 obtain⟨y,ey,hy,hyl,hya⟩:=l2Of_ok hg (L:=c.tops.map lst) (by simp;omega) hll (λx hx=>hset.2 x hx)
 unfold D.T0
 simp only[hidx,bs]
 suffices h:∃z,(Ar _ _).bind _=some z∧(GOk z∧z.length=c.tops.length∧∀a b,adj z a b↔a<c.tops.length∧b<c.tops.length∧Ad (g.map mk) (lsn c.tops a) (lsn c.tops b)) by
  obtain⟨z,h1,h2⟩:=h;exact⟨z,h1,h2⟩
 refine AO (λq:LI×Int=>∃m:Nat,q.2=(m:Int)∧m≤c.tops.length∧q.1=(c.tops.take m).map lst) (λq=>c.tops.length-q.2.toNat) (λl=>l=c.tops.map lst) ?_ ⟨0,rfl,by omega,rfl⟩ ?_
 ·rintro⟨_,_⟩ ⟨m,rfl,hm,rfl⟩
  dsimp only
  by_cases hml:m<c.tops.length
  ·have hml':m<(c.rts o).length:=by omega
   obtain⟨x,hx1,hx2,hx3,_⟩:=hN.kid m hml
   obtain⟨t1,t2,_⟩:=hKd.sub _ (List.getElem_mem hml)
   rw[A6 hml] at hx3
   have hxi:(c.rts o)[m]=(x:Int):=by rw[List.getElem?_eq_getElem hml'] at hx1;exact Option.some.inj hx1
   obtain⟨a,ea,ei,ha,_⟩:=idx_elems0 t1.1 (bne_iff_ne.1 ((Cu t1.1).2 t2))
   obtain⟨a',ea',el,a1,_,a3⟩:=D3 h16 t1 t2
   have haa:a=a':=by have:=Option.some.inj (ea.symm.trans ea');omega
   subst haa
   rw[dlt hml',cT,AF hml',bs,hxi,has_T hg hFc hF' hx2,bs,hx3,ei,bs,AY (by simp;omega),bs,wi (by omega)]
   refine⟨_,rfl,⟨m+1,rfl,by omega,?_⟩,by dsimp only;omega⟩
   rw[List.take_succ_eq_append_getElem hml,List.map_append,List.map_singleton,el]
  ·obtain rfl:m=c.tops.length:=by omega
   rw[show decide (((c.tops.length:Nat):Int)<((c.rts o).length:Int))=false from decide_eq_false (by omega),cF]
   exact⟨_,rfl,(by rw[List.take_length];exact rfl)⟩
 ·rintro _ rfl
  unfold D.s1
  rw[DB g _ hg.sh2 (by unfold Sh;omega),Cv hg,(CO _ _).2 hset,bs,show (((c.tops.map lst).length:Int)==0)=false from beq_eq_false_iff_ne.2 (by rw[List.length_map];omega)]
  simp only[Bool.and_self,Bool.not_true,Bool.or_self,cF,ey,bs]
  refine⟨_,rfl,hy,by rw[hyl,List.length_map],λa b=> ?_⟩
  rw[hya,List.length_map]
  constructor
  ·rintro⟨ha,hb,h⟩
   refine⟨ha,hb,?_⟩
   rw[A6 (by simpa using ha),A6 (by simpa using hb),List.getElem_map,List.getElem_map] at h
   obtain⟨e1,_,n1,_⟩:=Ch h16 hKd ha
   obtain⟨e2,_,n2,_⟩:=Ch h16 hKd hb
   rw[e1,e2,Int.toNat_natCast,Int.toNat_natCast] at h
   exact(CZ hg n1).2 h
  ·rintro⟨ha,hb,h⟩
   refine⟨ha,hb,?_⟩
   rw[A6 (by simpa using ha),A6 (by simpa using hb),List.getElem_map,List.getElem_map]
   obtain⟨e1,_,n1,_⟩:=Ch h16 hKd ha
   obtain⟨e2,_,n2,_⟩:=Ch h16 hKd hb
   rw[e1,e2,Int.toNat_natCast,Int.toNat_natCast]
   exact(CZ hg n1).1 h
theorem quo_prm {s:Int}{ts:LI}(hk:C2 (g.map mk) g.length s 4 ts){y:LL}(hy:GOk y)(hyl:y.length=ts.length)(hya:∀a b,a<ts.length→(adj y a b↔b<ts.length∧Ad (g.map mk) (lsn ts a) (lsn ts b))):D.M y=some true:=by
 have h16:=hg.n16
 have h4:=kin_four h16 (FOk.of hg) hk
 refine FD hy (by omega) λN hN p q hp hq hpq v hv=> ?_
 have hA:∀a b,a<ts.length→b<ts.length→(Ad (y.map mk) a b↔Ad (g.map mk) (lsn ts a) (lsn ts b)):=λa b ha hb=>by
  rw[show Ad (y.map mk) a b↔adj y a b from CZ hy (by omega),hya a b ha]
  exact⟨λh=>h.2,λh=>⟨hb,h⟩⟩
 refine kin_quo h16 (FOk.of hg) hk (N:=N) (λi hi=>by have:=hN.1 i hi;omega) (λw hw hnw a b ha hb=> ?_) hp hq hpq v (by omega)
 have ha':=hN.1 a ha
 have hb':=hN.1 b hb
 rw[←hA w a hw (by omega),←hA w b hw (by omega)]
 exact hN.2.2 w (by omega) hnw a b ha hb
theorem FA {i:Nat}(hi:i<(MT g F').sz):D.E0 g ((MT g F').em 0) (i:Int)=some true:=by
 have h16:=hg.n16
 have hel:=(MT g F').em_len 0
 obtain⟨k,s,c,o,hN,hP⟩:=Eu (C9 hg hFc hF') hi
 have hKd:=hN.pn.2.2.1
 have hrl:=c.rts_len o
 have hkl:=Ds hN.pn.1.1 hKd
 have hidx:idx ((MT g F').em 0) (i:Int)=some (k,(if k=1 then lst s else 0),c.rts o):=by
  rw[AF (by omega),←List.getElem?_eq_getElem (by omega)];exact hN.em
 unfold D.E0
 rw[hidx,bs]
 dsimp only
 rcases Di h16 hN.pn with⟨rfl,_⟩|⟨hkk,hne,h2⟩
 ·rfl
 have hk1:k≠1:=by rcases hkk with rfl|rfl|rfl<;>decide
 obtain⟨y,ey,hy,hyl,hya⟩:=quo_at hg hFc hF' hi hN h2
 rw[show (k==1)=false from beq_eq_false_iff_ne.2 hk1,cF,ey,bs]
 by_cases hk4:k=4
 ·subst hk4
  rw[beq_self_eq_true,cT,quo_prm hg hFc hF' hN.pn hy hyl (λa b ha=>by rw[hya];exact⟨λh=>h.2,λh=>⟨ha,h⟩⟩),bs]
 have hk23:k=2∨k=3:=by rcases hkk with h|h|h<;>omega
 rw[show (k==4)=false from beq_eq_false_iff_ne.2 hk4,cF]
 have hnd:=hP _ (MT_nd hg hFc hF')
 refine(CX (c.rts o).length (λ_=>true) (.inl ()) (.inr false) (λm hm=> ?_) ?_).trans ?_
 ·have hml:m<c.tops.length:=by omega
  obtain⟨x,hx1,hx2,hx3,z,hz1,hz2⟩:=hN.kid m hml
  have hxi:(c.rts o)[m]=(x:Int):=by rw[List.getElem?_eq_getElem hm] at hx1;exact Option.some.inj hx1
  have hzi:idx ((MT g F').em 0) (x:Int)=some z:=by
   rw[AF (by omega),←List.getElem?_eq_getElem (by omega)];exact hz1
  have hkd:c.kds.getD m 0=(A5 (g.map mk) F' c.tops[m]).1:=by
   obtain⟨_,_,_,h⟩:=hnd
   rw[h,A6 (by simpa using hml),List.getElem_map]
  have hq:QS g.length c.tops[m]:=⟨(hKd.sub _ (List.getElem_mem hml)).1,(hKd.sub _ (List.getElem_mem hml)).2.1⟩
  have hne2:=kin_kind h16 (FOk.of hg) hN.pn (List.getElem_mem hml) (DM h16 (FOk.of hg) hFc hF' hq).1 hk23
  have hrow:(k=2→row y m=[])∧(k=3→c.tops.length-1≤(row y m).length):=by
   refine⟨λe=> ?_,λe=> ?_⟩
   ·apply List.eq_nil_iff_forall_not_mem.2
    intro w hw
    have hwr:=(hy.rows m (by omega)).2 w hw
    obtain⟨b,rfl⟩:=Int.eq_ofNat_of_zero_le hwr.1
    have hadj:adj y m b:=hw
    obtain⟨_,hb,hAd⟩:=(hya m b).1 hadj
    have hmb:m≠b:=λc=>hy.irr m (by omega) (c▸hadj)
    obtain⟨_,a1,_,_⟩:=Ch h16 hKd hml
    obtain⟨_,b1,_,_⟩:=Ch h16 hKd hb
    have hdis:¬El c.tops[m] (lsn c.tops b):=λhc=>by
     have hd:=List.pairwise_iff_getElem.1 hKd.dis
     rcases Nat.lt_or_gt_of_ne hmb with h|h
     ·exact hd m b hml hb h _ ⟨hc,b1⟩
     ·exact hd b m hb hml h _ ⟨b1,hc⟩
    exact(kin_near h16 (FOk.of hg) hN.pn (List.getElem_mem hml) (List.getElem_mem hb) a1 b1 hdis).1 e hAd
   ·have:=BG (l:=wout m c.tops.length) (m:=row y m) (wo_inc _ _).nodup λw hw=>by
     obtain⟨b,rfl,hb,hbm⟩:=mem_wo.1 hw
     have hmb:m≠b:=λc=>hbm c.symm
     obtain⟨_,a1,_,_⟩:=Ch h16 hKd hml
     obtain⟨_,b1,_,_⟩:=Ch h16 hKd hb
     have hdis:¬El c.tops[m] (lsn c.tops b):=λhc=>by
      have hd:=List.pairwise_iff_getElem.1 hKd.dis
      rcases Nat.lt_or_gt_of_ne hmb with h|h
      ·exact hd m b hml hb h _ ⟨hc,b1⟩
      ·exact hd b m hb hml h _ ⟨b1,hc⟩
     have hAd:=(kin_near h16 (FOk.of hg) hN.pn (List.getElem_mem hml) (List.getElem_mem hb) a1 b1 hdis).2 e
     exact(hya m b).2 ⟨hml,hb,hAd⟩
    have hwl:c.tops.length-1≤(wout m c.tops.length).length:=by
     have:=BG (l:=(List.range c.tops.length).map Int.ofNat) (m:=(m:Int)::wout m c.tops.length) (by
      unfold List.Nodup
      rw[List.pairwise_map]
      exact(List.nodup_range (n:=c.tops.length)).imp fun{a b} h e=>h (by (have e:(a:Int)=(b:Int):=e);omega)) λw hw=>by
      obtain⟨b,hb,rfl⟩:=List.mem_map.1 hw
      by_cases hbm:b=m
      ·subst hbm;exact List.mem_cons_self ..
      ·exact List.mem_cons_of_mem _ (mem_wo.2 ⟨b,rfl,List.mem_range.1 hb,hbm⟩)
     simp at this
     omega
    omega
  have hrl2:(row y m).length≤16:=by have:=hy.row_len (show m<y.length by omega);have:=hy.n16;omega
  rw[dlt hm,cT,AF hm,bs,hxi,hzi,bs,hz2,hkd,show ((A5 (g.map mk) F' c.tops[m]).1==k)=false from beq_eq_false_iff_ne.2 hne2,cF,Cg (show m<y.length by omega),bs,bs,w64 (by omega) (by omega),wi (by omega)]
  rcases hk23 with rfl|rfl
  ·rw[hrow.1 rfl,show decide ((0:Int)<(([]:LI).length:Int))=false from rfl,Bool.false_and,cF,show ((2:Int)==3)=false from rfl,Bool.and_false,bs,cF]
   rfl
  ·rw[show decide ((((row y m).length:Nat):Int)<((c.rts o).length:Int)-1)=false from decide_eq_false (by have:=hrow.2 rfl;omega)]
   simp
 ·rw[Bs,cF]
 ·rw[show ((List.range (c.rts o).length).all λ_=>true)=true by simp];rfl
theorem Fb :D.u0 g ((MT g F').em 0)=some true:=by
 have hsz:=C7 hg hFc hF'
 have h16:=hg.n16
 have hel:=(MT g F').em_len 0
 unfold D.u0
 rw[FC hg hFc hF',bs,Bool.not_true,cF]
 refine(CX ((MT g F').em 0).length (λ_=>true) (.inl ()) (.inr false) (λi hi=> ?_) ?_).trans ?_
 ·have hi':i<(MT g F').sz:=by omega
  have hsl:=(MT g F').sts_len
  have hm:=(Dp hg hFc hF').1 (List.getElem_mem (show i<(MT g F').sts.length by omega))
  obtain⟨b,eb,hb⟩:=DX hg hm.1
  rw[dlt hi,cT,has_T hg hFc hF' hi',bs,A6 (by omega),eb,hb.2 hm.2.1,bs,Bool.not_true,cF,FA hg hFc hF' hi',bs,bs,Bool.not_true,cF,wi (by omega)]
  rfl
 ·rw[Bs,cF]
 ·rw[show ((List.range ((MT g F').em 0).length).all λ_=>true)=true by simp];rfl
theorem Ff (hc:D.X (g.map mk)=some F'):D.C0 g ((MT g F').em 0)=some true:=by
 have hsz:=C7 hg hFc hF'
 have h16:=hg.n16
 have hel:=(MT g F').em_len 0
 unfold D.C0
 rw[Et hg hFc hF' hc,bs]
 dsimp only
 rw[cT]
 have this:D.J0 ((MT g F').em 0) ((MT g F').em 0)=some true:=by
  unfold D.J0
  rw[bne_self_eq_false,cF]
  refine(CX ((MT g F').em 0).length (λ_=>true) (.inl ()) (.inr false) (λi hi=> ?_) ?_).trans ?_
  ·obtain⟨k,s,c,o,hN,_⟩:=Eu (C9 hg hFc hF') (i:=i) (by omega)
   have hkl:=Ds hN.pn.1.1 hN.pn.2.2.1
   have hrl:=c.rts_len o
   have hidx:idx ((MT g F').em 0) (i:Int)=some (k,(if k=1 then lst s else 0),c.rts o):=by
    rw[AF hi,←List.getElem?_eq_getElem hi];exact hN.em
   rw[dlt hi,cT,hidx,bs,bs]
   unfold D.r1
   rw[beq_self_eq_true,beq_self_eq_true,Bool.and_self,cT,Fc _ (by unfold Sh;dsimp only;omega),bs,bs,bs,Bool.not_true,cF,wi (by omega)]
   rfl
  ·rw[Bs,cF]
  ·rw[show ((List.range ((MT g F').em 0).length).all λ_=>true)=true by simp];rfl
 unfold D.x
 rw[this]
 rfl
end
end Go.Sx

namespace Go.Sx
theorem into_fold {x t:Int}(hx:VS x)(ht:VS t):
  (Ar (σ:=LI×Int) (ρ:=(LI)) (fun(s_487:LI×Int)=>match s_487 with|(l_490,x_493)=>cond (decide (x_493<((Aj t).length:Int))) ((idx (Aj t) x_493).bind λe_517=>(D.g l_490 e_517).bind λy_523=>some (.inl (y_523,(IntKind.i64.wrap (x_493+1))))) (some (.inr l_490))) (Aj x,0))=some (Aj (ior .u32 x t)):=by
 have:=into_all hx ht (k:=λr=>some (.inr r))
 cases hl:Ar (fun(s_487:LI×Int)=>match s_487 with|(l_490,x_493)=>cond (decide (x_493<((Aj t).length:Int))) ((idx (Aj t) x_493).bind λe_517=>(D.g l_490 e_517).bind λy_523=>some (.inl (y_523,(IntKind.i64.wrap (x_493+1))))) (some (.inr l_490))) (Aj x,(0:Int)) with
 |none=>rw[hl] at this;cases this
 |some z=>
  rw[hl] at this
  have:=Option.some.inj this
  rw[Sum.inr.inj this]
section
variable {g : LL} (hg : GOk g) {F' : LI} (hFc : FOk F' g.length) (hF' : ∀ u w, u < g.length → nb F' u w = (decide (w < g.length) && !nb (g.map mk) u w && !decide (w = u)))
include hg hFc hF'
theorem QuotientAt_ok {i:Nat}(hi:i<(MT g F').sz){s:Int}{c:FT}{o:Nat}(hN:NodeAt (MT g F') (g.map mk) g.length i 4 s c o):
  ∃y,D.t0 g ((MT g F').em 0) (i:Int)=some (y,true)∧D.M y=some true∧y.length=c.tops.length:=by
 have h16:=hg.n16
 have hsz:=C7 hg hFc hF'
 have hKd:=hN.pn.2.2.1
 have hrl:=c.rts_len o
 have hkl:=Ds hN.pn.1.1 hKd
 have hel:=(MT g F').em_len 0
 have hsl:=(MT g F').sts_len
 have hset:=lst_set h16 hKd
 have h4:=kin_four h16 (FOk.of hg) hN.pn
 have hk16:c.tops.length≤16:=by
  have:=hset.length_le (by omega)
  rw[List.length_map] at this
  omega
 have hidx:idx ((MT g F').em 0) (i:Int)=some (4,(if(4:Int)=1 then lst s else 0),c.rts o):=by
  rw[AF (by omega),←List.getElem?_eq_getElem (by omega)];exact hN.em
 obtain⟨k0,c0,hf,hs,hst,_,_⟩:=root_T hg hFc hF'
 have hlast:idx (MT g F').sts (IntKind.i64.wrap (((MT g F').sts.length:Int)-1))=some (A9 g.length):=by
  rw[show IntKind.i64.wrap (((MT g F').sts.length:Int)-1)=((c0.sz:Nat):Int) by rw[w64 (by omega) (by omega)];omega,AF (show c0.sz<(MT g F').sts.length by omega)]
  rw[A6 (by omega)] at hst
  rw[hst]
 unfold D.t0
 rw[subtree_ok hg hFc hF',bs,CL g hg.sh2,Cv hg,bs]
 dsimp only
 rw[Bool.not_true,Bool.or_self,cF,hlast,bs,Eg (Eo _),bs,show (Aj (A9 g.length)).length=g.length from (Cp hg).2,bne_self_eq_false,bs,cF,DJ,hel,w64 (by omega) (by omega),bs,decide_eq_true (by omega),decide_eq_true (by omega),Bool.and_self,Bool.not_true,bs,cF,hidx,bs]
 dsimp only
 rw[show ((4:Int)==1)=false from rfl,bs,cF]
 let p:Nat→Nat:=λj=>lsn c.tops j
 have hind:=inducedK_ok (k:=c.tops.length) (o:=c.tops.map lst) (p:=p) hk16 h16 (FOk.of hg) (by simp) (λj hj=>by
  obtain⟨e,_,_,_⟩:=Ch h16 hKd hj
  rw[List.getElem?_map,List.getElem?_eq_getElem hj]
  show some (lst c.tops[j])=_
  rw[e]) (λj hj=>(Ch h16 hKd hj).2.2.1)
 have hB:=indB_okK (k:=c.tops.length) (p:=p) hk16 (FOk.of hg) (λj hj=>(Ch h16 hKd hj).2.2.1)
 have hy:=GOk.grow hB (by omega) hk16
 have hBl:=hB.len
 suffices h:∃z,(Ar _ _).bind _=some z∧z=(grow (CE (g.map mk) p c.tops.length c.tops.length),true) by
  obtain⟨z,h1,rfl⟩:=h
  refine⟨_,h1,?_,by rw[grow_len,hBl]⟩
  refine quo_prm hg hFc hF' hN.pn hy (by rw[grow_len,hBl]) λa b ha=> ?_
  rw[Ey hB ha,Ef hk16 ha,Bool.and_eq_true,decide_eq_true_eq]
 refine AO (λq:LI×Int=>∃m:Nat,q.2=(m:Int)∧m≤c.tops.length∧q.1=(c.tops.take m).map lst) (λq=>c.tops.length-q.2.toNat) (λl=>l=c.tops.map lst) ?_ ⟨0,rfl,by omega,rfl⟩ ?_
 ·rintro⟨_,_⟩ ⟨m,rfl,hm,rfl⟩
  dsimp only
  by_cases hml:m<c.tops.length
  ·have hml':m<(c.rts o).length:=by omega
   obtain⟨x,hx1,hx2,hx3,_⟩:=hN.kid m hml
   obtain⟨t1,t2,_⟩:=hKd.sub _ (List.getElem_mem hml)
   rw[A6 hml,A6 (by omega)] at hx3
   have hxi:(c.rts o)[m]=(x:Int):=by rw[List.getElem?_eq_getElem hml'] at hx1;exact Option.some.inj hx1
   obtain⟨a',ea',el,a1,_,a3⟩:=D3 h16 t1 t2
   rw[dlt hml',cT,AF hml',bs,hxi,AF (show x<(MT g F').sts.length by omega),bs,hx3,ea',bs,AY (by simp;omega),bs,wi (by omega)]
   refine⟨_,rfl,⟨m+1,rfl,by omega,?_⟩,by dsimp only;omega⟩
   rw[List.take_succ_eq_append_getElem hml,List.map_append,List.map_singleton,el]
  ·obtain rfl:m=c.tops.length:=by omega
   rw[show decide (((c.tops.length:Nat):Int)<((c.rts o).length:Int))=false from decide_eq_false (by omega),cF]
   exact⟨_,rfl,(by rw[List.take_length];exact rfl)⟩
 ·rintro _ rfl
  rw[D6 g hg,bs,hind,bs,nets_graph_eq _ (by omega) (λu hu=>hB.vs u (by omega)),bs]
  exact⟨_,rfl,rfl⟩
end
theorem Parts.uniq {F:LI}{W:Int}{l l':LI}(h:Parts F (El W) l)(h':Parts F (El W) l'):∀s∈l,s∈l':=by
 intro s hs
 obtain⟨x,hx⟩:=h.ne s hs
 obtain⟨t,ht,hxt⟩:=h'.all x (h.sub s hs x hx)
 have:s=t:=VS.ext (h.vs s hs) (h'.vs t ht) λv _=>by
  rw[Bool.eq_iff_iff]
  exact(h.cn s hs x v hx).trans (h'.cn t ht x v hxt).symm
 rw[this];exact ht
theorem Parts.same {F:LI}{W:Int}{l l':LI}(h:Parts F (El W) l)(h':Parts F (El W) l')(hb:l.Pairwise Bef)(hb':l'.Pairwise Bef):l=l':=
 Bef.ext h.ne hb hb' λs=>⟨h.uniq h' s,h'.uniq h s⟩
section
variable {g : LL} (hg : GOk g)
include hg
theorem l16Parts_ok (tr:Bool){G:LI}(hG:∀a b,a<g.length→b<g.length→(tad g tr a b↔Ad G a b))(hGs:∀a b,a<g.length→Ad G a b→Ad G b a){W:Int}(hW:In g.length W):
  ∃l,D.h0 g (Aj W) tr=some (l.map Aj)∧Parts G (El W) l∧l.Pairwise Bef:=by
 have h16:=hg.n16
 have hlW:=Bb W
 have hWn:∀x,El W x→x<g.length:=hW.2
 have hin:∀z:Nat,((z:Int)∈Aj W)=El W z:=λz=>propext (AG hW.1)
 have hcv:∀f x,El W f→(Cn (tad g tr) (λz=>(z:Int)∈Aj W) f x↔Cn (Ad G) (El W) f x):=λf x hf=>by
  have e:(λz:Nat=>(z:Int)∈Aj W)=El W:=funext hin
  rw[e]
  exact⟨Cn.conv (λa b ha hb h=>(hG a b (hWn a ha) (hWn b hb)).1 h) hf,Cn.conv (λa b ha hb h=>(hG a b (hWn a ha) (hWn b hb)).2 h) hf⟩
 have hsy:∀a b,El W a→Ad G a b→Ad G b a:=λa b ha h=>hGs a b (hWn a ha) h
 have hel:∀i (hi:i<(Aj W).length),∃v:Nat,(Aj W)[i]=(v:Int)∧El W v:=λi hi=>by
  obtain⟨v,_,hv,e⟩:=mem_elems.1 (List.getElem_mem hi)
  exact⟨v,e,hv⟩
 unfold D.h0
 suffices h:∃z,(Ar _ _).bind _=some z∧∃l,z=l.map Aj∧Parts G (El W) l∧l.Pairwise Bef by
  obtain⟨z,h1,l,rfl,h2⟩:=h;exact⟨l,h1,h2⟩
 refine AO (λq:LL×LI×Int=>∃(i:Nat) (l:LI) (d:Int),q.2.2=(i:Int)∧i≤(Aj W).length∧q.1=l.map Aj∧q.2.1=Aj d∧VS d∧l.length≤i∧
   (∀s∈l,VS s∧(∃m:Nat,El s m∧(m:Int)∈(Aj W).take i)∧(∀x,El s x→El W x)∧∀x y,El s x→(El s y↔Cn (Ad G) (El W) x y))∧(∀v,El d v↔∃s∈l,El s v)∧(∀v:Nat,(v:Int)∈(Aj W).take i→El d v)∧
   (l.Pairwise λs t=>∀x,¬(El s x∧El t x))∧l.Pairwise Bef) (λq=>(Aj W).length-q.2.2.toNat) (λz=>∃l,z=l.map Aj∧Parts G (El W) l∧l.Pairwise Bef) ?_
  ⟨0,[],0,rfl,by omega,rfl,rfl,VS.zero,by simp,by simp,λv=>⟨λh=>(by rw[show El 0 v↔has 0 v=true from Iff.rfl,BH] at h;cases h),fun⟨_,h,_⟩=>(by cases h)⟩,by simp,List.Pairwise.nil,List.Pairwise.nil⟩ (λr hr=>⟨r,rfl,hr⟩)
 rintro⟨_,_,_⟩ ⟨i,l,d,rfl,hi,rfl,rfl,hd,hll,h1,h2,h3,h4,h5⟩
 dsimp only
 by_cases hil:i<(Aj W).length
 ·obtain⟨u,eu,hu⟩:=hel i hil
  have htk:∀v:Nat,(v:Int)∈(Aj W).take (i+1)↔(v:Int)∈(Aj W).take i∨v=u:=λv=>by
   rw[List.take_succ_eq_append_getElem hil,List.mem_append,eu,List.mem_singleton,Int.natCast_inj]
  rw[dlt hil,cT,AF hil,bs,eu,CN _ _ (by unfold Sh;have:=Bb d;omega),bs,wq i]
  by_cases hud:(u:Int)∈Aj d
  ·rw[decide_eq_true hud,cT]
   refine⟨_,rfl,⟨i+1,l,d,rfl,by omega,rfl,rfl,hd,by omega,λs hs=> ?_,h2,λv hv=> ?_,h4,h5⟩,by dsimp only;omega⟩
   ·obtain⟨a,⟨m,m1,m2⟩,b⟩:=h1 s hs
    exact⟨a,⟨m,m1,(htk m).2 (.inl m2)⟩,b⟩
   ·rcases(htk v).1 hv with h|rfl
    ·exact h3 v h
    ·exact(AG hd).1 hud
  ·rw[decide_eq_false hud,cF,bs]
   obtain⟨R,eR,hRi,hRr,hRm⟩:=l16ReachT_ok hg tr (set:=Aj W) (Bl W) (λx hx=>by
    obtain⟨v,_,hv,rfl⟩:=mem_elems.1 hx
    exact⟨v,rfl,hWn v hv⟩) (f:=u) ((AG hW.1).2 hu)
   have hRe:Aj (mk R)=R:=elems_mk h16 hRi λz hz=>by
    obtain⟨v,rfl,hv⟩:=hRr z hz;omega
   have hRv:∀x,El (mk R) x↔Cn (Ad G) (El W) u x:=λx=>by
    rw[←hcv u x hu,←hRm x,←hRe,AG (VS.mk R),hRe]
   rw[eR,bs,←hRe,into_fold hd (VS.mk R),bs,AY (by simp;omega),bs]
   have hoff:∀s∈l,∀x,¬(El s x∧El (mk R) x):=λs hs x ⟨p,q⟩=>by
    obtain⟨_,_,hsub,hcl⟩:=h1 s hs
    have:El s u:=(hcl x u p).2 (Eh hsy hu ((hRv x).1 q))
    exact hud ((AG hd).2 ((h2 u).2 ⟨s,hs,this⟩))
   have hior:∀v,El (ior .u32 d (mk R)) v↔El d v∨El (mk R) v:=λv=>by unfold El;rw[BU hd (VS.mk R),Bool.or_eq_true]
   have huR:El (mk R) u:=(hRv u).2 Cn.refl
   refine⟨_,rfl,⟨i+1,l++[mk R],ior .u32 d (mk R),rfl,by omega,by simp,rfl,VS.ior _ _,by simp;omega,λs hs=> ?_,λv=> ?_,λv hv=> ?_,?_,?_⟩,by dsimp only;omega⟩
   ·rcases List.mem_append.1 hs with h|h
    ·obtain⟨a,⟨m,m1,m2⟩,b⟩:=h1 s h
     exact⟨a,⟨m,m1,(htk m).2 (.inl m2)⟩,b⟩
    ·rw[List.mem_singleton.1 h]
     refine⟨VS.mk R,⟨u,huR,(htk u).2 (.inr rfl)⟩,λx hx=>((hRv x).1 hx).mem hu,λx y hx=> ?_⟩
     have hux:=(hRv x).1 hx
     rw[hRv]
     exact⟨λh=>(Eh hsy hu hux).trans h,λh=>hux.trans h⟩
   ·rw[hior,h2]
    constructor
    ·rintro(⟨s,hs,h⟩|h)
     ·exact⟨s,List.mem_append_left _ hs,h⟩
     ·exact⟨mk R,by simp,h⟩
    ·rintro⟨s,hs,h⟩
     rcases List.mem_append.1 hs with hs|hs
     ·exact .inl ⟨s,hs,h⟩
     ·rw[List.mem_singleton.1 hs] at h;exact .inr h
   ·rcases(htk v).1 hv with h|rfl
    ·exact(hior v).2 (.inl (h3 v h))
    ·exact(hior v).2 (.inr huR)
   ·rw[List.pairwise_append]
    refine⟨h4,List.pairwise_singleton _ _,λs hs t ht x=> ?_⟩
    rw[List.mem_singleton.1 ht]
    exact hoff s hs x
   ·rw[List.pairwise_append]
    refine⟨h5,List.pairwise_singleton _ _,λs hs t ht=> ?_⟩
    rw[List.mem_singleton.1 ht]
    obtain⟨_,⟨m,m1,m2⟩,_,_⟩:=h1 s hs
    refine⟨m,m1,λx hx=> ?_⟩
    have hxW:El W x:=((hRv x).1 hx).mem hu
    obtain⟨j,hj,ej⟩:=List.getElem_of_mem ((AG hW.1).2 hxW)
    obtain⟨j2,hj2,ej2⟩:=List.getElem_of_mem m2
    simp at hj2
    rw[List.getElem_take] at ej2
    have hji:i≤j:=Nat.le_of_not_lt λc=>by
     have:(x:Int)∈(Aj W).take i:=by rw[←ej];exact List.mem_take_iff_getElem.2 ⟨j,by omega,rfl⟩
     obtain⟨s',hs',hx'⟩:=(h2 x).1 (h3 x this)
     exact hoff s' hs' x ⟨hx',hx⟩
    have:=(List.pairwise_iff_getElem.1 (Bl W)) j2 j (by omega) hj (by omega)
    omega
 ·obtain rfl:i=(Aj W).length:=by omega
  rw[Bs,cF]
  rw[List.take_length] at h3
  exact⟨_,rfl,l,rfl,⟨λs hs=>(h1 s hs).1,λs hs=>(h1 s hs).2.1.imp λ_ h=>h.1,λs hs=>(h1 s hs).2.2.1,λs hs=>(h1 s hs).2.2.2,λx hx=>(h2 x).1 (h3 x ((AG hW.1).2 hx)),h4⟩,h5⟩
end
end Go.Sx

namespace Go.Sx
abbrev no4 (f:FT):Prop:=f.all λk _ _ _=>k≠4
theorem no4_em :∀(f:FT) (o:Nat),no4 f↔∀x∈f.em o,x.1≠4
 | .nil,o=>by simp[no4,FT.all,FT.em]
 | .cons k s c r,o=>by
  have h1:=no4_em c o
  have h2:=no4_em r (o+c.sz+1)
  show (k≠4∧no4 c∧no4 r)↔_
  rw[h1,h2]
  simp only[FT.em,List.mem_append,List.mem_cons]
  constructor
  ·rintro⟨a,b,d⟩ x (h|rfl|h)
   ·exact b x h
   ·exact a
   ·exact d x h
  ·intro h
   exact⟨h _ (.inr (.inl rfl)),λx hx=>h x (.inl hx),λx hx=>h x (.inr (.inr hx))⟩
noncomputable def DW (fuel:Nat)(g:LL)(ls:LL):(List (Int×Int×LI)×LI×Int)→Option ((List (Int×Int×LI)×LI×Int) ⊕ ((List (Int×Int×LI)×LI) ⊕ (List (Int×Int×LI)×Bool))):=
 (fun(s_208:(List (Int×Int×LI))×LI×Int)=>match s_208 with|(l_211,l_216,x_221)=>cond (decide (x_221<(ls.length:Int))) ((idx ls x_221).bind λe_314=>(D.I fuel g e_314 l_211).bind λy_323=>cond (!y_323.2) (some (.inr (.inr (([]:List (Int×Int×LI)),false)))) ((AK l_216 ([(IntKind.i64.wrap ((y_323.1.length:Int)-1))]:LI)).bind λl_345=>some (.inl (y_323.1,l_345,(IntKind.i64.wrap (x_221+1)))))) (some (.inr (.inl (l_211,l_216)))))
section
variable {g : LL} (hg : GOk g) {F' : LI} (hFc : FOk F' g.length) (hF' : ∀ u w, u < g.length → nb F' u w = (decide (w < g.length) && !nb (g.map mk) u w && !decide (w = u)))
include hg hFc hF'
theorem ct_loop {fuel k:Nat}{ps:LI}(ih:∀t tree,QS g.length t→mu t<k→tree.length+(mtr (A5 (g.map mk) F') k [t]).sz≤4294967296→∃X b,D.I fuel g (Aj t) tree=some (X,b)∧(b=true↔no4 (mtr (A5 (g.map mk) F') k [t]))∧(b=true→X.length=tree.length+(mtr (A5 (g.map mk) F') k [t]).sz))
  (hps:∀t∈ps,QS g.length t∧mu t<k) (hpl:ps.length≤1000):∀(rest pre:LI) (X:List (Int×Int×LI)) (K:LI),ps=pre++rest→X.length+(mtr (A5 (g.map mk) F') k rest).sz≤4294967296→K.length=pre.length→
   (no4 (mtr (A5 (g.map mk) F') k rest)∧∃X' K',Ar (DW fuel g (ps.map Aj)) (X,K,(pre.length:Int))=some (.inl (X',K'))∧X'.length=X.length+(mtr (A5 (g.map mk) F') k rest).sz)∨
   (¬no4 (mtr (A5 (g.map mk) F') k rest)∧Ar (DW fuel g (ps.map Aj)) (X,K,(pre.length:Int))=some (.inr ([],false)))
 |[],pre,X,K,e,hX,hK=>by
  rw[List.append_nil] at e
  subst e
  rw[CH]
  refine .inl ⟨trivial,X,K,Bo ?_,by simp[FT.sz]⟩
  unfold DW
  dsimp only
  rw[List.length_map,Bs,cF]
 |t::rest,pre,X,K,e,hX,hK=>by
  have htm:t∈ps:=by rw[e];simp
  obtain⟨hq,hm⟩:=hps t htm
  obtain⟨m,rfl⟩:∃m,k=m+1:=⟨k-1,by omega⟩
  have hlen:ps.length=pre.length+(rest.length+1):=by rw[e];simp
  have hget:ps[pre.length]'(by omega)=t:=by simp[e]
  have hsz:(mtr (A5 (g.map mk) F') (m+1) [t]).sz=(mtr (A5 (g.map mk) F') m (A5 (g.map mk) F' t).2).sz+1:=by rw[Cb];simp[FT.sz];rfl
  have hno:no4 (mtr (A5 (g.map mk) F') (m+1) (t::rest))↔no4 (mtr (A5 (g.map mk) F') (m+1) [t])∧no4 (mtr (A5 (g.map mk) F') (m+1) rest):=by
   rw[Cb,Cb,CH]
   exact⟨fun⟨a,b,c⟩=>⟨⟨a,b,trivial⟩,c⟩,fun⟨⟨a,b,_⟩,c⟩=>⟨a,b,c⟩⟩
  have hszr:(mtr (A5 (g.map mk) F') (m+1) (t::rest)).sz=(mtr (A5 (g.map mk) F') (m+1) [t]).sz+(mtr (A5 (g.map mk) F') (m+1) rest).sz:=by
   rw[hsz,Cb];rfl
  rw[hszr] at hX
  obtain⟨X1,b,eX,hb,hbl⟩:=ih t X hq hm (by omega)
  have hi:idx (ps.map Aj) (pre.length:Int)=some (Aj t):=by
   rw[AF (by simp;omega)]
   simp[hget]
  rw[hno,hszr]
  cases hbb:b with
  |false=>
   refine .inr ⟨λh=> ?_,Bo ?_⟩
   ·rw[hb.2 h.1] at hbb;cases hbb
   ·unfold DW
    dsimp only
    rw[List.length_map,dlt (by omega),cT,hi,bs,eX,bs]
    dsimp only
    rw[hbb,Bool.not_false,cT]
  |true=>
   have hl:=hbl hbb
   have hs:DW fuel g (ps.map Aj) (X,K,(pre.length:Int))=some (.inl (X1,K++[IntKind.i64.wrap ((X1.length:Int)-1)],((pre.length+1:Nat):Int))):=by
    unfold DW
    dsimp only
    rw[List.length_map,dlt (by omega),cT,hi,bs,eX,bs]
    dsimp only
    rw[hbb,Bool.not_true,cF,AY (by simp;omega),bs,wi (by omega)]
   rw[BK hs,show ((pre.length+1:Nat):Int)=(((pre++[t]).length:Nat):Int) by simp]
   rcases ct_loop ih hps hpl rest (pre++[t]) X1 (K++[IntKind.i64.wrap ((X1.length:Int)-1)]) (by rw[e];simp) (by omega) (by simp[hK]) with⟨h1,X',K',h2,h3⟩|⟨h1,h2⟩
   ·exact .inl ⟨⟨hb.1 hbb,h1⟩,X',K',h2,by omega⟩
   ·exact .inr ⟨λh=>h1 h.2,h2⟩
theorem ct_ok :∀(k:Nat) (s:Int) (fuel:Nat) (tree:List (Int×Int×LI)),QS g.length s→mu s<k→k≤fuel→tree.length+(mtr (A5 (g.map mk) F') k [s]).sz≤4294967296→
  ∃X b,D.I fuel g (Aj s) tree=some (X,b)∧(b=true↔no4 (mtr (A5 (g.map mk) F') k [s]))∧(b=true→X.length=tree.length+(mtr (A5 (g.map mk) F') k [s]).sz)
 |0,s,fuel,tree,hs,hm,_,_=>absurd hm (by omega)
 |k+1,s,0,tree,hs,hm,hf,hB=>by omega
 |k+1,s,fuel+1,tree,hs,hm,hf,hB=>by
  have h16:=hg.n16
  have hF:=FOk.of hg
  obtain⟨hk,hcase⟩:=DM h16 hF hFc hF' hs
  have hless:=D5 h16 hF hFc hF' hs
  rw[Cb] at hB ⊢
  have ih:=λt tree (h1:QS g.length t) (h2:mu t<k) (h3:tree.length+(mtr (A5 (g.map mk) F') k [t]).sz≤4294967296)=>ct_ok k t fuel tree h1 h2 (by omega) h3
  have e0:(mtr (A5 (g.map mk) F') (k+1) [])= .nil:=CH _ _
  rw[e0] at hB ⊢
  unfold D.I
  have fin:∀kd ps,A5 (g.map mk) F' s=(kd,ps)→ps.length≤1000→kd≠4→∃X b,((Ar (DW fuel g (ps.map Aj)) (tree,([]:LI),0)).bind λzz=>match zz with| .inl (l_282,l_287)=>((AK l_282 ([(kd,0,l_287)]:List (Int×Int×LI))).bind λl_359=>some (l_359,true))| .inr z=>(some z))=some (X,b)∧
    (b=true↔no4 (FT.cons (A5 (g.map mk) F' s).1 s (mtr (A5 (g.map mk) F') k (A5 (g.map mk) F' s).2) .nil))∧(b=true→X.length=tree.length+(FT.cons (A5 (g.map mk) F' s).1 s (mtr (A5 (g.map mk) F') k (A5 (g.map mk) F' s).2) .nil).sz):=by
   intro kd ps e hl hkd
   rw[e] at hless hB ⊢
   simp only[FT.sz] at hB
   rcases ct_loop hg hFc hF' (fuel:=fuel) (k:=k) (ps:=ps) ih (λt ht=>⟨(hless t ht).1,by have:=(hless t ht).2;omega⟩) hl ps [] tree [] rfl (by omega) rfl with⟨h1,X',K',h2,h3⟩|⟨h1,h2⟩
   ·rw[show (([]:LI).length:Int)=0 from rfl] at h2
    rw[h2,bs]
    dsimp only
    rw[AY (by simp;omega),bs]
    exact⟨_,true,rfl,⟨λ_=>⟨hkd,h1,trivial⟩,λ_=>rfl⟩,λ_=>by simp[FT.sz];omega⟩
   ·rw[show (([]:LI).length:Int)=0 from rfl] at h2
    rw[h2,bs]
    exact⟨_,false,rfl,⟨λh=>(by cases h),λh=>absurd h.2.1 h1⟩,λh=>(by cases h)⟩
  have hpar:=fun(tr:Bool) {G:LI} h1 h2=>l16Parts_ok hg tr (G:=G) h1 h2 hs.1
  rcases hcase with⟨h1,e1⟩|⟨h1,A,eA,lA,hA⟩
  ·have hone:(((Aj s).length:Int)==1)=true:=beq_iff_eq.2 (by unfold mu at h1;omega)
   obtain⟨v,hv⟩:=mu_one hs.1.1 h1
   rw[e1] at hB ⊢
   simp only[FT.sz] at hB
   rw[hone,cT,DU h16 hs.1 hv,show idx [(v:Int)] 0=some (v:Int) from rfl,bs,AY (by simp;omega),bs]
   refine⟨_,true,rfl,⟨λ_=>⟨(show (1:Int)≠4 by decide),by rw[CH];trivial,trivial⟩,λ_=>rfl⟩,λ_=>by rw[CH];simp[FT.sz]⟩
  ·have hone:(((Aj s).length:Int)==1)=false:=beq_eq_false_iff_ne.2 (by unfold mu at h1;omega)
   obtain⟨l,el,pl,bl⟩:=hpar false (G:=g.map mk) (λa b ha hb=>by
    rw[show Ad (g.map mk) a b↔adj g a b from CZ hg ha]
    unfold tad adj
    constructor
    ·rintro⟨_,h⟩;simpa using h
    ·intro h
     exact⟨λe=>hg.irr a ha (by rw[←e] at h;exact h),by simpa using h⟩) (λa b ha h=>Ad.sym hF h)
   obtain⟨A',eA',pA',bA',_⟩:=Ec h16 hF hs.1
   obtain rfl:A=A':=Option.some.inj (eA.symm.trans eA')
   obtain rfl:l=A:=pl.same pA' bl bA'
   rw[hone,cF,el,bs]
   rcases hA with⟨h2,e2⟩|⟨h2,B,eB,lB,hB'⟩
   ·rw[show ((((l.map Aj).length:Int)==1))=false from beq_eq_false_iff_ne.2 (by rw[List.length_map];omega),cF,bs]
    dsimp only
    rw[show ((((l.map Aj).length:Int)==1))=false from beq_eq_false_iff_ne.2 (by rw[List.length_map];omega),cF]
    exact fin 2 l e2 (by omega) (by decide)
   ·obtain⟨l2,el2,pl2,bl2⟩:=hpar true (G:=F') (λa b ha hb=>by
     show _↔nb F' a b=true
     rw[hF' a b ha,decide_eq_true hb,Bool.true_and,Bool.and_eq_true]
     have hnb:nb (g.map mk) a b=decide ((b:Int)∈row g a):=by
      rw[Bool.eq_iff_iff,decide_eq_true_eq];exact CZ hg ha
     unfold tad
     rw[hnb]
     constructor
     ·rintro⟨p,q⟩
      refine⟨by simpa using q,by simpa using λe=>p e.symm⟩
     ·rintro⟨p,q⟩
      exact⟨λe=>by rw[e] at q;simp at q,by simpa using p⟩) (λa b ha h=>Ad.sym hFc h)
    obtain⟨B',eB',pB',bB',_⟩:=Ec h16 hFc hs.1
    obtain rfl:B=B':=Option.some.inj (eB.symm.trans eB')
    obtain rfl:l2=B:=pl2.same pB' bl2 bB'
    rw[show ((((l.map Aj).length:Int)==1))=true from beq_iff_eq.2 (by rw[List.length_map];omega),cT,el2,bs,bs]
    dsimp only
    rcases hB' with⟨h3,e3⟩|⟨h3,C,eC,e4⟩
    ·rw[show ((((l2.map Aj).length:Int)==1))=false from beq_eq_false_iff_ne.2 (by rw[List.length_map];omega),cF]
     exact fin 3 l2 e3 (by omega) (by decide)
    ·rw[show ((((l2.map Aj).length:Int)==1))=true from beq_iff_eq.2 (by rw[List.length_map];omega),cT]
     refine⟨_,false,rfl,⟨λh=>(by cases h),λh=> ?_⟩,λh=>(by cases h)⟩
     have:=h.1
     rw[e4] at this
     exact absurd rfl this
theorem CographIn_ok :∃b,D.Z0 g=some b∧(b=true↔no4 (MT g F')):=by
 have h16:=hg.n16
 have hn1:=hg.n1
 have hsz:=C7 hg hFc hF'
 obtain⟨h1,h2⟩:=Cp hg
 obtain⟨X,b,e,hb,_⟩:=ct_ok hg hFc hF' (g.length+1) (A9 g.length) BP [] h1 (by omega) (by have:=C5;omega) (by rw[List.length_nil];unfold MT at hsz;omega)
 refine⟨b,?_,hb⟩
 unfold D.Z0 D.v1 D.l
 rw[Ce g hg.sh2,Cv hg,bs,show ((g.length:Int)==0)=false from beq_eq_false_iff_ne.2 (by omega)]
 simp only[Bool.not_true,Bool.or_self,cF]
 rw[D4 h16,bs,e]
 rfl
end
end Go.Sx

namespace Go.Sx
theorem w9Grown2_ok {b:LI}{i:Int}(h:DK b i)(z:Int):∃y,D.o0 b i z 6 2=some y∧(GOk y.1∧y.1.length≤6∧y.2.1=b∧DK b y.2.2.1):=by
 unfold D.o0
 obtain⟨g0,e0,hg0,hl0,hA0⟩:=GraphOf_ok 1 [] (by omega) (by omega) (by simp) (by simp)
 rw[show D.Q 1 ([]:LL)=some (g0,true) from e0,bs]
 refine B4 _ (C1 h z 6 (by omega)) ?_
 rintro⟨r,b1,i1,z1⟩ ⟨r0,r1,rfl,k1⟩
 dsimp only at r0 r1 k1 ⊢
 refine AO (λs=>∃c:Nat,s.1=(c:Int)∧s.2.1=b1∧DK b1 s.2.2.1∧GOk s.2.2.2.2∧s.2.2.2.2.length+c≤6) (λs=>s.1.toNat)
  (λr=>GOk r.1∧r.1.length≤6∧r.2.1=b1∧DK b1 r.2.2.1) ?_ ⟨r.toNat,by dsimp only;omega,rfl,k1,hg0,by dsimp only;omega⟩ (λr hr=>⟨_,rfl,hr⟩)
 rintro⟨_,b1,i,z,g⟩ ⟨c,rfl,rfl,hk,hg,hl⟩
 dsimp only at hk hg hl ⊢
 have hn1:=hg.n1
 by_cases hc:0<c
 ·rw[show decide ((0:Int)<(c:Int))=true from decide_eq_true (by omega),cT]
  refine B4 _ (C1 hk z (g.length:Int) (by omega)) ?_
  rintro⟨v,b2,i2,z2⟩ ⟨v0,v1,rfl,k2⟩
  dsimp only at v0 v1 k2 ⊢
  obtain⟨v,rfl⟩:∃n:Nat,v=n:=⟨v.toNat,by omega⟩
  have hvn:v<g.length:=by omega
  rw[show IntKind.i64.wrap (5-2)=3 from rfl]
  refine B4 _ (C1 k2 z2 3 (by omega)) ?_
  rintro⟨t,b3,i3,z3⟩ ⟨t0,t1,rfl,k3⟩
  dsimp only at t0 t1 k3 ⊢
  rw[w64 (x:=2+t) (by omega) (by omega),w64 (x:=(c:Int)-1) (by omega) (by omega)]
  have hfin:∀(x:LI),SetOf x (g.length:Int)→
    ∃q,((D.P g x).bind λy=>some (Sum.inl ((c:Int)-1,b3,i3,z3,y.1):(Int×LI×Int×Int×LL) ⊕ (LL×LI×Int×Int)))=some q∧
     Stp (λs:Int×LI×Int×Int×LL=>∃c:Nat,s.1=(c:Int)∧s.2.1=b3∧DK b3 s.2.2.1∧GOk s.2.2.2.2∧s.2.2.2.2.length+c≤6) (λs=>s.1.toNat) (λr=>GOk r.1∧r.1.length≤6∧r.2.1=b3∧DK b3 r.2.2.1) ((c:Int),b3,i,z,g) q:=by
   intro x hx
   obtain⟨y,e,y1,y2,y3⟩:=AddedVertex_ok hg (by omega) hx
   rw[e,bs]
   exact⟨_,rfl,⟨c-1,by dsimp only;omega,rfl,k3,y1,by dsimp only;omega⟩,by dsimp only;omega⟩
  have hrv:=hg.rows v hvn
  have hrl:=hg.row_len hvn
  by_cases e2:t=0
  ·subst e2
   simp only[show ((2+0:Int) !=2)=false from rfl,show ((2+0:Int)==4)=false from rfl,show ((2+0:Int)==1)=false from rfl,cF,bs]
   exact hfin [(v:Int)] ⟨by simp[Inc],λz hz=>by simp at hz;omega⟩
  ·have e2':(2+t !=2)=true:=by simp;omega
   rw[e2',cT,Cg hvn,bs,AY (by simp;omega),bs,List.nil_append,bs]
   have e1:(2+t==1)=false:=by simp;omega
   by_cases e4:t=2
   ·subst e4
    obtain⟨x,ex,hxi,hxm⟩:=w9With_ok hrv.1 (by omega) (v:Int)
    simp only[show ((2+2:Int)==4)=true from rfl,show ((2+2:Int)==1)=false from rfl,cT,cF,ex,bs]
    refine hfin x ⟨hxi,λz hz=> ?_⟩
    rcases(hxm z).1 hz with rfl|hz
    ·omega
    ·exact hrv.2 z hz
   ·have e4':(2+t==4)=false:=by simp;omega
    rw[e4',cF,bs,e1,cF]
    exact hfin _ hrv
 ·rw[show decide ((0:Int)<(c:Int))=false from decide_eq_false (by omega),cF]
  exact⟨_,rfl,hg,by dsimp only;omega,rfl,hk⟩
def prI {α:Type}(c:Nat→Nat→α)(a b i:Nat):List α:=(if b=0 then(List.range' (i+1) (a-(i+1))).map (c i) else [])++(List.range' 0 b).map λx=>c i (a+x)
def prL {α:Type}(c:Nat→Nat→α)(a b:Nat):Nat→List α
 |0=>[]
 |i+1=>prL c a b i++prI c a b i
def prN (a b:Nat):List (Nat×Nat):=prL Prod.mk a b a
def nd (a b i:Nat):Nat:=((List.range (a+b)).filter λw=>decide ((i,w)∈prN a b∨(w,i)∈prN a b)).length
def inr (x:Int)(n:Nat):Bool:=decide (0≤x)&&decide (x<(n:Int))
structure Perm (n:Nat)(p:Nat→Nat):Prop where
 lt:∀i,i<n→p i<n
 inj:∀i j,i<n→j<n→p i=p j→i=j
 sur:∀u,u<n→∃i,i<n∧p i=u
end Go.Sx
