/- Parts. -/
import Derived.Test.YtoakbbefbhdaaaaGreatDoorRm4
set_option linter.unusedVariables false
set_option linter.unusedSimpArgs false
set_option linter.unusedSectionVars false
namespace Go.Sx
theorem Cf (n:Nat)(h:n<18446744073709551616):(BitVec.ofInt 64 (n:Int)).toNat=n:=by
 rw[BitVec.toNat_ofInt];omega
theorem and64 {a b:Nat}(ha:a<4294967296)(hb:b<4294967296):iand .i64 (a:Int) (b:Int)=((a&&&b:Nat):Int):=by
 have hw:a&&&b<4294967296:=Nat.and_lt_two_pow (n:=32) _ hb
 show IntKind.i64.wrap (((BitVec.ofInt 64 (a:Int)&&&BitVec.ofInt 64 (b:Int)).toNat:Nat):Int)=_
 rw[BitVec.toNat_and,Cf a (by omega),Cf b (by omega),w64 (by omega) (by omega)]
theorem or64 {a b:Nat}(ha:a<4294967296)(hb:b<4294967296):ior .i64 (a:Int) (b:Int)=((a|||b:Nat):Int):=by
 have hw:a|||b<4294967296:=Nat.or_lt_two_pow (n:=32) ha hb
 show IntKind.i64.wrap (((BitVec.ofInt 64 (a:Int)|||BitVec.ofInt 64 (b:Int)).toNat:Nat):Int)=_
 rw[BitVec.toNat_or,Cf a (by omega),Cf b (by omega),w64 (by omega) (by omega)]
theorem and6432 {a b:Int}(ha:VS a)(hb:VS b):iand .i64 a b=iand .u32 a b:=by
 obtain⟨m,rfl,hm⟩:=ha.nat;obtain⟨n,rfl,hn⟩:=hb.nat
 rw[and64 hm hn,CW hm hn]
theorem or6432 {a b:Int}(ha:VS a)(hb:VS b):ior .i64 a b=ior .u32 a b:=by
 obtain⟨m,rfl,hm⟩:=ha.nat;obtain⟨n,rfl,hn⟩:=hb.nat
 rw[or64 hm hn,ior_nat hm hn]
theorem shl64 {v:Nat}(hv:v<32):ishl .i64 1 (v:Int)=ishl .u32 1 (v:Int):=by
 rw[one_eq hv]
 have h:(2:Nat)^v<2^32:=Nat.pow_lt_pow_right (by omega) hv
 have h':(2:Nat)^32=4294967296:=by decide
 rw[h'] at h
 show IntKind.i64.wrap (1*2^(min ((v:Int)).toNat 64))=_
 rw[show min ((v:Int)).toNat 64=v by simp;omega,Int.one_mul]
 have e:((2^v:Nat):Int)=(2:Int)^v:=by simp
 rw[←e]
 generalize 2^v=p at h ⊢
 rw[w64 (by omega) (by omega)]
theorem shr64 {s:Int}(h:VS s)(v:Nat)(hv:v<64):Bn .i64 s (v:Int)=((s.toNat>>>v:Nat):Int):=by
 obtain⟨m,rfl,hm⟩:=h.nat
 show Int.fdiv (m:Int) (2^(min ((v:Int)).toNat 64))=_
 rw[show min ((v:Int)).toNat 64=v by simp;omega]
 have e:((2^v:Nat):Int)=(2:Int)^v:=by simp
 rw[←e,Int.fdiv_eq_ediv_of_nonneg _ (Int.natCast_nonneg _),Nat.shiftRight_eq_div_pow]
 simp
theorem bit64 {s:Int}(h:VS s){v:Nat}(hv:v<64):(iand .i64 (Bn .i64 s (v:Int)) 1==1)=has s v:=by
 rw[shr64 h v hv]
 have hs:s.toNat>>>v<4294967296:=by
  obtain⟨m,rfl,hm⟩:=h.nat
  rw[Nat.shiftRight_eq_div_pow]
  exact Nat.lt_of_le_of_lt (Nat.div_le_self _ _) hm
 rw[show (1:Int)=((1:Nat):Int) from rfl,and64 hs (by omega),has,Nat.testBit]
 rw[Nat.and_comm]
 have h1:1&&&(s.toNat>>>v)=0∨1&&&(s.toNat>>>v)=1:=by
  rw[Nat.and_comm,Nat.and_one_is_mod];omega
 rcases h1 with e|e<;>rw[e]<;>rfl
theorem uw {v:Nat}(hv:v<1000):IntKind.u64.wrap (v:Int)=(v:Int):=wu64 (by omega) (by omega)
theorem DC (v:Nat):decide ((v:Int)<0)=false:=by simp
theorem pow_full {n:Nat}(hn:n≤16):full n=((2^n-1:Nat):Int):=by
 have key:∀k:Fin 17,full k.val=((2^k.val-1:Nat):Int):=by decide+kernel
 exact key ⟨n,by omega⟩
theorem l25All_eq {g:LL}(hg:GOk g):D.p1 g=some (full g.length):=by
 have h16:=hg.n16
 unfold D.p1
 rw[uw (by omega),DC,cond_false,shl64 (by omega),one_eq (by omega),pow_full h16]
 have h:(2:Nat)^g.length≤2^16:=Nat.pow_le_pow_right (by omega) h16
 have h0:0<(2:Nat)^g.length:=Nat.pow_pos (by omega)
 rw[w64 (by omega) (by omega)]
 congr 1;omega
theorem lowbits64 {s:Int}(h:VS s)(h0:s≠0):iand .i64 s (IntKind.i64.wrap (s-1))=iand .u32 s (IntKind.u32.wrap (s-1)):=by
 obtain⟨m,rfl,hm⟩:=h.nat
 have hm0:m≠0:=by omega
 have e1:IntKind.i64.wrap ((m:Int)-1)=((m-1:Nat):Int):=by rw[w64 (by omega) (by omega)];omega
 have e2:IntKind.u32.wrap ((m:Int)-1)=((m-1:Nat):Int):=by rw[C3];omega
 rw[e1,e2,and64 hm (by omega),CW hm (by omega)]
theorem l25Many_eq {s:Int}(h:VS s):D.I s=some ((Az s).length:Int):=by
 have hel:=BS s
 unfold D.I
 obtain⟨y,hy,hq⟩:=A5 (step:=(fun(s_10:Int×Int)=>match s_10 with|(x_13,x_14)=>cond (decide ((0:Int)<x_13)) (some (.inl ((iand .i64 x_13 (IntKind.i64.wrap (x_13-1))),(IntKind.i64.wrap (x_14+1))))) (some (.inr x_14)))) (s:=(s,0)) (k:=λx=>some x) (Q:=λy=>y=((Az s).length:Int))
  (λst=>VS st.1∧∃c:Nat,st.2=(c:Int)∧c+(Az st.1).length=(Az s).length) (λst=>(Az st.1).length) (λr=>r=((Az s).length:Int)) (by
   rintro⟨x,_⟩ ⟨hx,c,rfl,hc⟩
   dsimp only at hx hc ⊢
   by_cases h0:x=0
   ·subst h0
    rw[elems_zero] at hc
    simp only[List.length_nil,Nat.add_zero] at hc
    have e:decide ((0:Int)<0)=false:=rfl
    rw[e,cond_false]
    exact⟨_,rfl,by show (c:Int)=_;omega⟩
   ·have e:decide ((0:Int)<x)=true:=by have:=hx.1;simp;omega
    obtain⟨k,hk,h1,h2,_,h3⟩:=least_spec hx h0
    have he:=Ev hk h1 h2 h3
    have hl:(Az x).length=(Az (iand .u32 x (IntKind.u32.wrap (x-1)))).length+1:=by rw[he];rfl
    rw[e,cond_true,lowbits64 hx h0,wq c]
    exact⟨_,rfl,⟨VS.iand _ _,c+1,rfl,by dsimp only;omega⟩,by dsimp only;omega⟩) ⟨h,0,rfl,by simp⟩ (λr hr=>⟨r,rfl,hr⟩)
 rw[hy,hq]
theorem impl_SetOk_eq (g:LL)(s:LI)(h:Sh2 g)(hs:Sh s):D.N0 g s=some (gB g&&CM s g.length):=by
 unfold D.N0
 rw[CR g h,bs]
 cases gB g
 ·rfl
 ·have:=h.1
  unfold Sh at this
  rw[cond_true,D3 s _ hs (by omega) (by omega)];rfl
theorem spec_SetOk_eq (g:LL)(s:LI)(h:Sh2 g)(hs:Sh s):D.L0 g s=some (gB g&&CM s g.length):=by
 unfold D.L0 D.B
 rw[Dt g h,bs]
 cases gB g
 ·rfl
 ·have:=h.1
  unfold Sh at this
  rw[cond_true,bs,l1Set_eq s _ hs (by omega) (by omega)];rfl
def ch (cs:LI)(i v:Nat):Bool:=has (cs.getD i 0) v
def Opn (cs:LI)(p:Int)(v:Nat):Prop:=(∃i,i<cs.length∧has p i=true∧ch cs i v=true)∧∃i,i<cs.length∧has p i=false∧ch cs i v=true
def Ft (cs:LI)(p:Int)(k:Nat):Prop:=k<cs.length∧has p k=false∧∀v,Opn cs p v→ch cs k v=true
def Goes (cs:LI):Int→LI→Prop
 |p,[]=>∀i,i<cs.length→has p i=true
 |p,x::l=>∃k:Nat,x=(k:Int)∧Ft cs p k∧Goes cs (ior .u32 p (ishl .u32 1 (k:Int))) l
section
variable {cs : LI} (hvs : ∀ s ∈ cs, VS s) (hm : cs.length ≤ 16)
include hvs hm
end
end Go.Sx

namespace Go.Sx
section
variable {g : LL} (hg : GOk g)
include hg
end
end Go.Sx

namespace Go.Sx
structure Iv (g:LL)(L R:Nat→Int):Prop where
 le:∀v,v<g.length→L v≤R v
 ad:∀u v,u<g.length→v<g.length→(adj g u v↔u≠v∧L u≤R v∧L v≤R u)
section
variable {g : LL} (hg : GOk g)
include hg
variable {L R : Nat → Int} (hI : Iv g L R)
include hI
end
end Go.Sx

namespace Go.Sx
structure Un (cs:LI)(m:Nat)(U:LI):Prop where
 len:U.length=2^m
 vs:∀b,b<2^m→VS (U.getD b 0)
 hs:∀b,b<2^m→∀v,has (U.getD b 0) v=true↔∃i,i<m∧b.testBit i=true∧ch cs i v=true
section
variable {cs U : LI} (hs : ∀ s ∈ cs, VS s) (hm : cs.length ≤ 16) (hU : Un cs cs.length U)
include hs hm hU
end
end Go.Sx

namespace Go.Sx
section
variable {F : LI} {n : Nat} (hF : FOk F n) (h1 : 1 ≤ n) (h16 : n ≤ 16) {L : Int} (hL : VS L)
include hF h1 h16 hL
end
end Go.Sx

namespace Go.Sx
section
variable {g : LL} {o : LI} (hg : GOk g) (ho : OOk g o)
include hg ho
end
end Go.Sx

namespace Go.Sx
structure Net (A:LI)(n:Nat):Prop where
 len:A.length=n
 vs:∀u,u<n→VS (A.getD u 0)
 lt:∀u w,u<n→nb A u w=true→w<n
theorem FOk.net {A:LI}{n:Nat}(h:FOk A n):Net A n:=⟨h.len,h.vs,h.lt⟩
structure Rch (A:LI)(W:Int)(v:Nat)(S:Int):Prop where
 vs:VS S
 me:has S v=true
 step:∀x y,has S x=true→nb A x y=true→has W y=true→has S y=true
 least:∀T:Nat→Prop,T v→(∀x y,T x→nb A x y=true→has W y=true→T y)→∀x,has S x=true→T x
theorem reach_ok {A:LI}{n:Nat}(hn:n≤16)(hA:Net A n){v:Nat}(hv:v<n){W:Int}(hW:VS W):∃S,D.U A (v:Int) W=some S∧Rch A W v S∧∀x,has S x=true→x<n:=by
 unfold D.U
 rw[Ew,bs]
 refine A5 (λS=>VS S∧has S v=true∧(∀x,has S x=true→x<n)∧∀T:Nat→Prop,T v→(∀x y,T x→nb A x y=true→has W y=true→T y)→∀x,has S x=true→T x) (λS=>n-(Az S).length)
  (λS=>Rch A W v S∧∀x,has S x=true→x<n) ?_ ?_ (λr hr=>⟨r,rfl,hr⟩)
 ·rintro S ⟨hS,hv',hlt,hT⟩
  have hle:=BS S
  simp only[list_eq S hS,bs]
  have hin:=A5 (step:=(fun(s_223:Int×Int)=>match s_223 with|(x_226,x_227)=>cond (decide (x_227<((Az S).length:Int))) ((idx (Az S) x_227).bind λe_246=>(idx A e_246).bind λe_252=>some (.inl ((ior .u32 x_226 (iand .u32 e_252 W)),(IntKind.i64.wrap (x_227+1))))) (some (.inr x_226)))) (s:=(S,0)) (k:=λr=>some r) (Q:=λX:Int=>VS X∧∀y,has X y=true↔has S y=true∨∃u:Nat,has S u=true∧nb A u y=true∧has W y=true)
   (λs=>∃k:Nat,s.2=(k:Int)∧k≤(Az S).length∧VS s.1∧∀y,has s.1 y=true↔has S y=true∨∃u:Nat,(u:Int)∈(Az S).take k∧nb A u y=true∧has W y=true) (λs=>(Az S).length-s.2.toNat) (λX=>VS X∧∀y,has X y=true↔has S y=true∨∃u:Nat,has S u=true∧nb A u y=true∧has W y=true)
   ?_ ⟨0,rfl,by omega,hS,λy=>by simp⟩ (λr hr=>⟨r,rfl,hr⟩)
  ·obtain⟨X,hX,hX1,hX2⟩:=hin
   rw[Option.bind_eq_some_iff] at hX
   obtain⟨z,e1,e2⟩:=hX
   cases e2
   rw[e1,bs]
   by_cases hc:X=S
   ·subst hc
    simp only[beq_self_eq_true,cond_true]
    refine⟨_,rfl,⟨hS,hv',λx y h1 h2 h3=>(hX2 y).2 (.inr ⟨x,h1,h2,h3⟩),hT⟩,hlt⟩
   ·have e3:(X==S)=false:=by simpa using hc
    simp only[e3,cond_false]
    have hXlt:∀x,has X x=true→x<n:=λx hx=>by
     rcases(hX2 x).1 hx with h|⟨u,h1,h2,_⟩
     ·exact hlt x h
     ·exact hA.lt u x (hlt u h1) h2
    refine⟨_,rfl,⟨hX1,(hX2 v).2 (.inl hv'),hXlt,λT h1 h2 x hx=> ?_⟩,?_⟩
    ·rcases(hX2 x).1 hx with h|⟨u,h3,h4,h5⟩
     ·exact hT T h1 h2 x h
     ·exact h2 u x (hT T h1 h2 u h3) h4 h5
    ·
     obtain⟨w,hw,hws⟩:∃w:Nat,has X w=true∧has S w=false:=by
      apply Classical.byContradiction
      intro hno
      refine hc (hX1.ext hS (λw _=> ?_))
      rw[Bool.eq_iff_iff]
      refine⟨λh=> ?_,λh=>(hX2 w).2 (.inl h)⟩
      cases hh:has S w
      ·exact absurd ⟨w,h,hh⟩ hno
      ·rfl
     have h1:((w:Int)::Az S).length≤(Az X).length:=B1 (List.nodup_cons.2 ⟨λhm=>by rw[A7 hS,hws] at hm;exact Bool.noConfusion hm,(BL S).nodup⟩) (λx hx=>by
      rcases List.mem_cons.1 hx with rfl|hx
      ·rw[A7 hX1];exact hw
      ·obtain⟨u,_,h2,rfl⟩:=mem_elems.1 hx
       rw[A7 hX1];exact(hX2 u).2 (.inl h2))
     have h2:(Az X).length≤n:=(BL X).short (n:=n) (λx hx=>by
      obtain⟨u,_,h2,rfl⟩:=mem_elems.1 hx
      have:=hXlt u h2;omega)
     simp at h1
     show n-(Az X).length<n-(Az S).length
     omega
  ·rintro⟨X,_⟩ ⟨k,rfl,hk,hX1,hX2⟩
   dsimp only at hX1 hX2 ⊢
   by_cases hkl:k<(Az S).length
   ·obtain⟨u,_,h2,h3⟩:=mem_elems.1 (List.getElem_mem hkl)
    have hu:=hlt u h2
    have hAu:idx A (u:Int)=some (A.getD u 0):=by rw[AN (by rw[hA.len];exact hu),AI (by rw[hA.len];exact hu)]
    simp only[dlt hkl,cond_true,AN hkl,bs,h3,hAu,wq k]
    refine⟨_,rfl,⟨k+1,rfl,hkl,VS.ior _ _,λy=> ?_⟩,by dsimp only;omega⟩
    dsimp only
    rw[has_ior hX1 (VS.iand _ _),Bool.or_eq_true,has_iand (hA.vs u hu) hW,Bool.and_eq_true,hX2,List.take_succ_eq_append_getElem hkl,h3]
    constructor
    ·rintro((h|⟨u',h4,h5⟩)|⟨h4,h5⟩)
     ·exact .inl h
     ·exact .inr ⟨u',List.mem_append_left _ h4,h5⟩
     ·exact .inr ⟨u,List.mem_append_right _ (by simp),h4,h5⟩
    ·rintro(h|⟨u',h4,h5,h6⟩)
     ·exact .inl (.inl h)
     ·rcases List.mem_append.1 h4 with h4|h4
      ·exact .inl (.inr ⟨u',h4,h5,h6⟩)
      ·simp at h4
       obtain rfl:u'=u:=by omega
       exact .inr ⟨h5,h6⟩
   ·obtain rfl:k=(Az S).length:=by omega
    simp only[Bo,cond_false]
    refine⟨_,rfl,hX1,λy=> ?_⟩
    rw[hX2,List.take_length]
    constructor
    ·rintro(h|⟨u,h1,h2⟩)
     ·exact .inl h
     ·exact .inr ⟨u,(A7 hS).1 h1,h2⟩
    ·rintro(h|⟨u,h1,h2⟩)
     ·exact .inl h
     ·exact .inr ⟨u,(A7 hS).2 h1,h2⟩
 ·refine⟨VS.ishl _ _,by rw[CY (by omega)];simp,λx hx=> ?_,λT h1 _ x hx=> ?_⟩
  ·rw[CY (by omega)] at hx
   have:=of_decide_eq_true hx;omega
  ·rw[CY (by omega)] at hx
   rw[of_decide_eq_true hx];exact h1
abbrev Pr :=Int×Int×Int
theorem elems_full {n:Nat}(hn:n≤16):Az (full n)=(List.range n).map Int.ofNat:=by
 refine Inc.ext (BL _) ?_ (λz=> ?_)
 ·unfold Inc
  rw[List.pairwise_map]
  exact List.Pairwise.imp (fun{a b} h=>by show (a:Int)<(b:Int);omega) List.pairwise_lt_range
 ·rw[mem_elems,List.mem_map]
  constructor
  ·rintro⟨v,_,h,rfl⟩
   rw[DX hn] at h
   exact⟨v,List.mem_range.2 (of_decide_eq_true h),rfl⟩
  ·rintro⟨v,hv,rfl⟩
   have:=List.mem_range.1 hv
   exact⟨v,by omega,by rw[DX hn];exact decide_eq_true this,rfl⟩
theorem loop_set {α S ρ β:Type}{step:S→Option (S ⊕ ρ)}{k:ρ→Option β}{s0:S}(xs ys:List α)(hl:xs.length=ys.length)(enc:List α→Int→S)(r:ρ)(h0:enc ys 0=s0)
  (hstep:∀l (i:Nat) (h:i<xs.length),l.length=xs.length→step (enc l i)=some (.inl (enc (l.set i xs[i]) ((i+1:Nat):Int))))
  (hend:step (enc xs xs.length)=some (.inr r)):(Aq step s0).bind k=k r:=by
 refine Ch (λi=>enc (xs.take i++ys.drop i) (i:Int)) xs.length r (by simpa using h0) (λi hi=> ?_) ?_
 ·have e:(xs.take i++ys.drop i).set i xs[i]=xs.take (i+1)++ys.drop (i+1):=by
   rw[List.take_succ_eq_append_getElem hi,List.drop_eq_getElem_cons (show i<ys.length by omega),List.set_append_right _ _ (by simp;omega)]
   have e0:i-(xs.take i).length=0:=by rw[List.length_take];omega
   rw[e0,List.set_cons_zero,List.append_assoc];rfl
  rw[hstep _ i hi (by simp;omega),e]
 ·rw[←hend,List.take_length,hl,List.drop_length,List.append_nil]
theorem toS_eq (xs:LI)(h:Sh xs):D.j xs=some xs:=by
 unfold Sh at h
 unfold D.j
 rw[makeD_ok (by omega) (by omega),bs]
 refine(loop_set xs (List.replicate xs.length 0) (by simp) (λl i=>(l,i)) xs rfl (λl i hi hl=> ?_) ?_).trans rfl
 ·simp only[dlt hi,cond_true,AN hi,AN (show i<l.length by omega),bs,wq i,Int.toNat_natCast]
 ·simp only[Bo,cond_false]
theorem toSS_eq (xs:LL)(h:Sh2 xs):D.k0 xs=some xs:=by
 obtain⟨h,h2⟩:=h
 unfold Sh at h
 unfold D.k0
 rw[makeD_ok (by omega) (by omega),bs]
 refine(loop_set xs (List.replicate xs.length []) (by simp) (λl i=>(l,i)) xs rfl (λl i hi hl=> ?_) ?_).trans rfl
 ·simp only[dlt hi,cond_true,AN hi,AN (show i<l.length by omega),bs,wq i,Int.toNat_natCast,toS_eq _ (h2 _ (List.getElem_mem hi))]
 ·simp only[Bo,cond_false]
theorem toGraph_eq (g:LL)(h:Sh2 g):D.O g=some g:=by
 unfold D.O;rw[toSS_eq g h];rfl
theorem Ez {α:Type}[DecidableEq α](xs ys:List α)(d:α)(hl:xs.length=ys.length):(List.range xs.length).all (λi=>decide (xs.getD i d=ys.getD i d))=decide (xs=ys):=by
 rw[Bool.eq_iff_iff,Cz,decide_eq_true_eq]
 constructor
 ·intro h
  apply List.ext_getElem hl
  intro i h1 h2
  have:=h i h1
  rw[AI h1,AI h2] at this
  exact of_decide_eq_true this
 ·rintro rfl i _;simp
theorem eqS_eq (xs ys:LI)(h:Sh xs):D.k xs ys=some (decide (xs=ys)):=by
 unfold Sh at h
 unfold D.k
 by_cases hl:xs.length=ys.length
 ·have e:((xs.length:Int) !=(ys.length:Int))=false:=by simp[hl]
  rw[e,cond_false,←Ez xs ys 0 hl]
  refine Cd xs.length _ false (λi hi=> ?_) ?_ rfl rfl
  ·have hi':i<ys.length:=by omega
   simp only[dlt hi,cond_true,AN hi,AN hi',bs,wq i,AI hi,AI hi']
   by_cases hc:xs[i]=ys[i]
   ·simp[hc]
   ·have:(xs[i] !=ys[i])=true:=by simpa using hc
    simp[hc,this]
  ·simp only[Bo,cond_false]
 ·have e:((xs.length:Int) !=(ys.length:Int))=true:=by simp;omega
  have:xs≠ys:=by rintro rfl;exact hl rfl
  simp[e,this]
theorem eqSS_eq (xs ys:LL)(h:Sh2 xs):D.r0 xs ys=some (decide (xs=ys)):=by
 obtain⟨h,h2⟩:=h
 unfold Sh at h
 unfold D.r0
 by_cases hl:xs.length=ys.length
 ·have e:((xs.length:Int) !=(ys.length:Int))=false:=by simp[hl]
  rw[e,cond_false,←Ez xs ys [] hl]
  refine Cd xs.length _ false (λi hi=> ?_) ?_ rfl rfl
  ·have hi':i<ys.length:=by omega
   simp only[dlt hi,cond_true,AN hi,AN hi',bs,wq i,AI hi,AI hi',eqS_eq _ _ (h2 _ (List.getElem_mem hi))]
   by_cases hc:xs[i]=ys[i]
   ·simp[hc]
   ·simp[hc]
  ·simp only[Bo,cond_false]
 ·have e:((xs.length:Int) !=(ys.length:Int))=true:=by simp;omega
  have:xs≠ys:=by rintro rfl;exact hl rfl
  simp[e,this]
theorem eqGraph_eq (xs ys:LL)(h:Sh2 xs):D.Y0 xs ys=some (decide (xs=ys)):=by
 unfold D.Y0;rw[eqSS_eq xs ys h,bs];cases decide (xs=ys)<;>rfl
def tot :LL→Int
 |[]=>0
 |x::xs=>x.length+tot xs
theorem CT :∀xs,0≤tot xs
 |[]=>Int.le_refl _
 |x::xs=>by have:=CT xs;simp only[tot];omega
theorem tot_app :∀xs ys,tot (xs++ys)=tot xs+tot ys
 |[],ys=>by simp[tot]
 |x::xs,ys=>by simp only[List.cons_append,tot,tot_app xs ys];omega
theorem tot_mem :∀{xs:LL} {x},x∈xs→(x.length:Int)≤tot xs
 |y::xs,x,h=>by
  have:=CT xs
  simp only[tot]
  rcases List.mem_cons.1 h with rfl|h
  ·omega
  ·have:=tot_mem h;omega
theorem tot_take {xs:LL}{i:Nat}(h:i<xs.length):tot (xs.take (i+1))=tot (xs.take i)+xs[i].length:=by
 rw[List.take_succ_eq_append_getElem h,tot_app];simp[tot]
theorem Sh2.of_tot {xs:LL}(h:Sh xs)(h2:tot xs≤4294967296):Sh2 xs:=⟨h,λx hx=>by have:=tot_mem hx;unfold Sh;omega⟩
theorem szS_eq (xs:LI)(k:Int)(hx:(xs.length:Int)≤9223372036854775807)(h0:0≤k)(h1:k≤1048576):
  D.g xs k=some (if(xs.length:Int)≤k then k-xs.length else-1):=by
 unfold D.g
 rw[w64 (by omega) (by omega)]
 by_cases h:k-(xs.length:Int)<0
 ·rw[if_neg (by omega)];simp[h]
 ·rw[if_pos (by omega)];simp[h]
theorem szSS_eq (xs:LL)(k:Int)(hx:(xs.length:Int)≤9223372036854775807)(hx2:∀x∈xs,(x.length:Int)≤9223372036854775807)(h0:0≤k)(h1:k≤1048576):
  ∃y,D.s0 xs k=some y∧(y<0∨(y+xs.length+tot xs=k∧0≤y)):=by
 unfold D.s0
 rw[w64 (by omega) (by omega)]
 by_cases h:k-(xs.length:Int)<0
 ·simp only[h,decide_true,cond_true];exact⟨-1,rfl,.inl (by omega)⟩
 ·simp only[h,decide_false,cond_false]
  have key:∀(n i:Nat) (l:Int),i+n=xs.length→0≤l→l+tot (xs.take i)=k-xs.length→
    ∃r,Aq (σ:=Int×Int) (ρ:=(Int) ⊕ (Int)) (fun(s_39:Int×Int)=>match s_39 with|(x_42,x_43)=>cond (decide (x_43<(xs.length:Int))) ((idx xs x_43).bind λe_64=>(D.g e_64 x_42).bind λy_70=>cond (decide (y_70<0)) (some (.inr (.inr (-1)))) (some (.inl (y_70,(IntKind.i64.wrap (x_43+1)))))) (some (.inr (.inl x_42)))) (l,(i:Int))=some r∧
     (r= .inr (-1)∨∃y,r= .inl y∧y+xs.length+tot xs=k∧0≤y):=by
   intro n
   induction n with
   |zero=>
    intro i l hi hl he
    obtain rfl:i=xs.length:=by omega
    refine⟨.inl l,BP (by simp only[Bo,cond_false]),.inr ⟨l,rfl,?_,hl⟩⟩
    rw[List.take_length] at he;omega
   |succ n ih=>
    intro i l hi hl he
    have hil:i<xs.length:=by omega
    have ht:=CT (xs.take i)
    have e1:=szS_eq xs[i] l (hx2 _ (List.getElem_mem hil)) hl (by omega)
    by_cases hc:(xs[i].length:Int)≤l
    ·rw[if_pos hc] at e1
     obtain⟨r,hr,hp⟩:=ih (i+1) (l-xs[i].length) (by omega) (by omega) (by rw[tot_take hil];omega)
     refine⟨r,?_,hp⟩
     rw[Cc (s':=(l-xs[i].length,((i+1:Nat):Int)))]
     ·exact hr
     ·have hd:decide (l-(xs[i].length:Int)<0)=false:=by simp;omega
      simp only[dlt hil,cond_true,AN hil,bs,e1,hd,cond_false,wq i]
    ·rw[if_neg hc] at e1
     refine⟨.inr (-1),BP ?_,.inl rfl⟩
     have hd:decide ((-1:Int)<0)=true:=by decide
     simp only[dlt hil,cond_true,AN hil,bs,e1,hd]
  obtain⟨r,hr,hp⟩:=key xs.length 0 (k-xs.length) (by omega) (by omega) (by simp[tot])
  rw[show ((0:Nat):Int)=0 from rfl] at hr
  rw[hr,bs]
  rcases hp with rfl|⟨y,rfl,h1,h2⟩
  ·exact⟨-1,rfl,.inl (by omega)⟩
  ·exact⟨y,rfl,.inr ⟨h1,h2⟩⟩
theorem szGraph_eq (xs:LL)(k:Int)(hx:(xs.length:Int)≤9223372036854775807)(hx2:∀x∈xs,(x.length:Int)≤9223372036854775807)(h0:0≤k)(h1:k≤1048576):
  ∃y,D.W0 xs k=some y∧(y<0∨(y+xs.length+tot xs=k∧0≤y)):=by
 obtain⟨y,e,h⟩:=szSS_eq xs k hx hx2 h0 h1
 unfold D.W0
 rw[e,bs]
 by_cases hy:y<0
 ·simp only[hy,decide_true,cond_true];exact⟨-1,rfl,.inl (by omega)⟩
 ·simp only[hy,decide_false,cond_false];exact⟨y,rfl,h⟩
def joinF (n:Nat)(F:LI)(v:Nat)(S:Int):LI:=(List.range n).map λu=>ior .u32 (ior .u32 (F.getD u 0) (if u=v then S else 0)) (if has S u then ishl .u32 1 (v:Int) else 0)
def Cn (ad:Nat→Nat→Prop)(S:Nat→Prop)(x y:Nat):Prop:=∀T:Nat→Prop,T x→(∀a b,T a→ad a b→S b→T b)→T y
section
variable {ad : Nat → Nat → Prop} {S S' : Nat → Prop} {x y z : Nat}
theorem Cn.refl :Cn ad S x x:=λ_ h _=>h
theorem Cn.step (h:Cn ad S x y)(ha:ad y z)(hz:S z):Cn ad S x z:=λT h1 h2=>h2 _ _ (h T h1 h2) ha hz
theorem Cn.trans (h:Cn ad S x y)(h':Cn ad S y z):Cn ad S x z:=λT h1 h2=>h' T (h T h1 h2) h2
theorem Cn.mono (hs:∀w,S w→S' w)(h:Cn ad S x y):Cn ad S' x y:=λT h1 h2=>h T h1 (λa b p q r=>h2 a b p q (hs _ r))
theorem Cn.mem (h:Cn ad S x y)(hx:S x):S y:=h S hx (λ_ _ _ _ h=>h)
end
def Joint (ad:Nat→Nat→Prop)(S:Nat→Prop):Prop:=∀x y,S x→S y→Cn ad S x y
abbrev Ad (F:LI)(a b:Nat):Prop:=nb F a b=true
abbrev El (s:Int)(x:Nat):Prop:=has s x=true
abbrev Mn (s:Int)(v x:Nat):Prop:=has s x=true∧x≠v
structure Parts (F:LI)(W:Nat→Prop)(l:LI):Prop where
 vs:∀s∈l,VS s
 ne:∀s∈l,∃v,El s v
 sub:∀s∈l,∀x,El s x→W x
 cn:∀s∈l,∀x y,El s x→(El s y↔Cn (Ad F) W x y)
 all:∀x,W x→∃s∈l,El s x
 dis:l.Pairwise λs t=>∀x,¬(El s x∧El t x)
section
variable {F : LI} {n : Nat} (hn : n ≤ 16) (hF : FOk F n)
include hn hF
theorem rch_cn {W:Int}{v:Nat}{S:Int}(hR:Rch F W v S)(x:Nat):El S x↔Cn (Ad F) (El W) v x:=
 ⟨λh=>hR.least (λx=>Cn (Ad F) (El W) v x) Cn.refl (λ_ _ p q r=>p.step q r) x h,λh=>h (El S) hR.me (λa b p q r=>hR.step a b p q r)⟩
theorem cn_sym {W:Nat→Prop}(hW:∀x,W x→x<n){x y:Nat}(hx:W x)(h:Cn (Ad F) W x y):Cn (Ad F) W y x:=
 (h (λw=>W w∧Cn (Ad F) W w x) ⟨hx,Cn.refl⟩ (λa b ⟨p1,p2⟩ q r=>⟨r,(Cn.refl.step (hF.sym a b (hW a p1) q) p1).trans p2⟩)).2
theorem partsOf_ok {W:Int}(hW:In n W):∃l,D.e0 F W=some l∧Parts F (El W) l∧l.length≤16:=by
 have main:=A5 (k:=λl=>some l) (Q:=λl=>Parts F (El W) l∧l.length≤16) (step:=fun(s_66:Int×LI)=>match s_66 with|(x_69,l_70)=>cond (x_69 !=0) ((D.E x_69).bind λy_109=>(D.U F y_109 x_69).bind λy_116=>(Bd l_70 ([y_116]:LI)).bind λl_127=>some (.inl ((iandNot .u32 x_69 y_116),l_127))) (some (.inr l_70)))
  (s:=(W,([]:LI))) (λq=>VS q.1∧(∀x,El q.1 x→El W x)∧(∀s∈q.2,VS s)∧(∀s∈q.2,∃v,El s v)∧(∀s∈q.2,∀x,El s x→El W x)∧(∀s∈q.2,∀x y,El s x→(El s y↔Cn (Ad F) (El W) x y))∧(∀x,El W x→El q.1 x∨∃s∈q.2,El s x)∧(∀x,El q.1 x→∀s∈q.2,¬El s x)∧(q.2.Pairwise λs t=>∀x,¬(El s x∧El t x))∧q.2.length+(Az q.1).length≤16)
  (λq=>(Az q.1).length) (λl=>Parts F (El W) l∧l.length≤16) ?_ ⟨hW.1,λx h=>h,by simp,by simp,by simp,by simp,λx h=> .inl h,by simp,by simp,?_⟩ (λr hr=>⟨r,rfl,hr⟩)
 ·obtain⟨l,e,hl⟩:=main
  refine⟨l,?_,hl⟩
  unfold D.e0
  exact e
 ·rintro⟨W',l⟩ ⟨v1,h1,h2,h3,h4,h5,h6,h7,h8,h9⟩
  dsimp only at v1 h1 h2 h3 h4 h5 h6 h7 h8 h9 ⊢
  by_cases h0:W'=0
  ·have:(W' !=0)=false:=by simp[h0]
   rw[this,cond_false]
   refine⟨_,rfl,⟨h2,h3,h4,h5,λx hx=> ?_,h8⟩,by omega⟩
   rcases h6 x hx with h|h
   ·rw[h0] at h;simp[El,CI] at h
   ·exact h
  ·have:(W' !=0)=true:=by simpa using h0
   rw[this,cond_true]
   obtain⟨k,hk32,ek,hk,_,_⟩:=least_eq v1 h0
   have hkn:=hW.2 k (h1 k hk)
   obtain⟨S,eS,hR,hSn⟩:=reach_ok hn hF.net hkn v1
   have hlen:=BS W'
   rw[ek,bs,eS,bs,BQ (by simp;omega),bs]
   have hSW:∀x,El S x→El W' x:=λx hx=>((rch_cn hn hF hR x).1 hx).mem hk
   have hS':∀x,El (iandNot .u32 W' S) x↔El W' x∧¬El S x:=λx=>by
    unfold El
    rw[CE v1 hR.vs];simp
   have hWn:∀x,El W x→x<n:=λx hx=>hW.2 x hx
   have hW'n:∀x,El W' x→x<n:=λx hx=>hW.2 x (h1 x hx)
   refine⟨_,rfl,⟨VS.iandNot _ _,λx hx=>h1 x ((hS' x).1 hx).1,?_,?_,?_,?_,λx hx=> ?_,λx hx s hs=> ?_,?_,?_⟩,?_⟩
   ·intro s hs
    rcases List.mem_append.1 hs with h|h
    ·exact h2 s h
    ·simp at h;subst h;exact hR.vs
   ·intro s hs
    rcases List.mem_append.1 hs with h|h
    ·exact h3 s h
    ·simp at h;subst h;exact⟨k,hR.me⟩
   ·intro s hs x hx
    rcases List.mem_append.1 hs with h|h
    ·exact h4 s h x hx
    ·simp at h;subst h;exact h1 x (hSW x hx)
   ·intro s hs x y hx
    rcases List.mem_append.1 hs with h|h
    ·exact h5 s h x y hx
    ·simp at h;subst h
     constructor
     ·intro hy
      have c1:=cn_sym hn hF hW'n hk ((rch_cn hn hF hR x).1 hx)
      exact(c1.trans ((rch_cn hn hF hR y).1 hy)).mono h1
     ·intro hc
      refine hc (El s) hx (λa b ha hab hb=> ?_)
      have haW:=hSW a ha
      rcases h6 b hb with h|⟨t,ht,hbt⟩
      ·exact hR.step a b ha hab h
      ·exfalso
       have:El t a:=(h5 t ht b a hbt).2 (Cn.refl.step (hF.sym a b (hW'n a haW) hab) (h1 a haW))
       exact h7 a haW t ht this
   ·by_cases hxS:El S x
    ·exact .inr ⟨S,by simp,hxS⟩
    ·rcases h6 x hx with h|⟨s,hs,h⟩
     ·exact .inl ((hS' x).2 ⟨h,hxS⟩)
     ·exact .inr ⟨s,by simp[hs],h⟩
   ·obtain⟨p,q⟩:=(hS' x).1 hx
    rcases List.mem_append.1 hs with h|h
    ·exact h7 x p s h
    ·simp at h;subst h;exact q
   ·rw[List.pairwise_append]
    refine⟨h8,by simp,λs hs t ht x ⟨p,q⟩=> ?_⟩
    simp at ht;subst ht
    exact h7 x (hSW x q) s hs p
   ·dsimp only
    have hlt:(Az (iandNot .u32 W' S)).length+1≤(Az W').length:=by
     have:=B1 (l:=(k:Int)::Az (iandNot .u32 W' S)) (m:=Az W') (List.nodup_cons.2 ⟨λhx=> ?_,List.Pairwise.imp (λh e=>by omega) (BL _)⟩) (λx hx=> ?_)
     ·simpa using this
     ·exact((hS' k).1 ((A7 (VS.iandNot _ _)).1 hx)).2 hR.me
     ·rcases List.mem_cons.1 hx with rfl|hx
      ·exact(A7 v1).2 hk
      ·obtain⟨w,hw,q,rfl⟩:=mem_elems.1 hx
       exact(A7 v1).2 ((hS' w).1 q).1
    simp;omega
   ·dsimp only
    have:=B1 (l:=(k:Int)::Az (iandNot .u32 W' S)) (m:=Az W') (List.nodup_cons.2 ⟨λhx=> ?_,List.Pairwise.imp (λh e=>by omega) (BL _)⟩) (λx hx=> ?_)
    ·simp at this;omega
    ·exact((hS' k).1 ((A7 (VS.iandNot _ _)).1 hx)).2 hR.me
    ·rcases List.mem_cons.1 hx with rfl|hx
     ·exact(A7 v1).2 hk
     ·obtain⟨w,hw,q,rfl⟩:=mem_elems.1 hx
      exact(A7 v1).2 ((hS' w).1 q).1
 ·have:=inc_len (n:=n) (BL W) (λz hz=>by
   obtain⟨w,_,q,rfl⟩:=mem_elems.1 hz
   have:=hW.2 w q;omega)
  simp;omega
end
end Go.Sx

namespace Go.Sx
def Way (ad:Nat→Nat→Prop):List Nat→Prop
 |[]=>True
 |[_]=>True
 |a::b::l=>ad a b∧Way ad (b::l)
structure Hole (ad:Nat→Nat→Prop)(c:List Nat):Prop where
 len:4≤c.length
 nd:c.Nodup
 step:∀i (h:i+1<c.length),ad c[i] c[i+1]
 close:ad (c[c.length-1]'(by omega)) (c[0]'(by omega))
 no:∀i j (_:i+1<j) (hj:j<c.length),¬(i=0∧j=c.length-1)→¬ad (c[i]'(by omega)) c[j]
def NoHole (ad:Nat→Nat→Prop)(X:Nat→Prop):Prop:=∀c,Hole ad c→¬∀x∈c,X x
section
variable {ad : Nat → Nat → Prop} (hs : ∀ a b, ad a b → ad b a) (hi : ∀ a, ¬ ad a a)
include hs hi
end
end Go.Sx

namespace Go.Sx
section
variable {g : LL} (hg : GOk g)
include hg
end
end Go.Sx

namespace Go.Sx
section
variable {g : LL} (hg : GOk g)
include hg
end
end Go.Sx

namespace Go.Sx
def Nr (ad:Nat→Nat→Prop)(v:Nat):Nat→Nat→Prop
 |0,_=>False
 |k+1,u=>u=v∨∃w,Nr ad v k w∧ad w u
section
variable {g : LL} (hg : GOk g)
include hg
end
end Go.Sx

namespace Go.Sx
section
variable {g : LL} (hg : GOk g)
include hg
end
end Go.Sx

namespace Go.Sx
section
variable {g : LL} (hg : GOk g) {c : List Nat} (hH : Hole (adj g) c) (hlt : ∀ x ∈ c, x < g.length)
include hg hH hlt
end
end Go.Sx

namespace Go.Sx
structure Rd (ad:Nat→Nat→Prop)(c:List Nat):Prop where
 len:3≤c.length
 nd:c.Nodup
 step:∀i (h:i+1<c.length),ad c[i] c[i+1]
 close:ad (c[c.length-1]'(by omega)) (c[0]'(by omega))
section
variable {g : LL} (hg : GOk g) {c : List Nat} (hH : Rd (adj g) c) (hlt : ∀ x ∈ c, x < g.length)
include hg hH hlt
end
end Go.Sx

namespace Go.Sx
section
variable {F : LI} {n : Nat} (hF : FOk F n) (h1 : 1 ≤ n) (h16 : n ≤ 16) {L : Int}
include hF h1 h16
end
end Go.Sx

namespace Go.Sx
def Gm (E:Nat→Nat→Prop)(a b c d:Nat):Prop:=E c d∧((a=c∧¬E b d∧b≠d)∨(b=d∧¬E a c∧a≠c))
def Kl (E:Nat→Nat→Prop)(a b c d:Nat):Prop:=∀T:Nat→Nat→Prop,T a b→(∀p q r s,T p q→Gm E p q r s→T r s)→T c d
section
variable {E : Nat → Nat → Prop} (hs : ∀ a b, E a b → E b a) (hi : ∀ a, ¬ E a a)
include hs
include hi
end
section
variable {E : Nat → Nat → Prop} (hs : ∀ a b, E a b → E b a) (hi : ∀ a, ¬ E a a)
include hs hi
end
end Go.Sx

namespace Go.Sx
section
variable {E : Nat → Nat → Prop} (hs : ∀ a b, E a b → E b a) (hi : ∀ a, ¬ E a a)
include hs
include hi
end
end Go.Sx

namespace Go.Sx
def AdW (g:LL)(all:Int)(a b:Nat):Prop:=adj g a b∧has all b=true
def Dst (g:LL)(all:Int)(v j u:Nat):Prop:=Nr (AdW g all) v (j+1) u∧¬Nr (AdW g all) v j u
section
variable {g : LL} (hg : GOk g)
include hg
end
end Go.Sx

namespace Go.Sx
def Av (ad:Nat→Nat→Prop)(X:Nat→Prop)(c z:Nat):Prop:=X z∧z≠c∧¬ad c z
def Apt (ad:Nat→Nat→Prop)(X:Nat→Prop)(a b c:Nat):Prop:=
 X a∧X b∧X c∧a≠b∧a≠c∧b≠c∧¬ad a b∧¬ad a c∧¬ad b c∧Cn ad (Av ad X c) a b∧Cn ad (Av ad X b) a c∧Cn ad (Av ad X a) b c
def Ape (ad:Nat→Nat→Prop)(X S:Nat→Prop)(a b:Nat):Prop:=
 X a∧X b∧a≠b∧¬ad a b∧(∃k,S k∧Cn ad (Av ad X b) a k)∧∃k,S k∧Cn ad (Av ad X a) b k
structure Rp (ad:Nat→Nat→Prop)(X:Nat→Prop)(L R:Nat→Int):Prop where
 le:∀v,X v→L v≤R v
 ad:∀u v,X u→X v→u≠v→(ad u v↔L u≤R v∧L v≤R u)
section
variable {ad : Nat → Nat → Prop} (hs : ∀ a b, ad a b → ad b a)
include hs
end
end Go.Sx

namespace Go.Sx
section
variable {ad : Nat → Nat → Prop}
variable (hs : ∀ a b, ad a b → ad b a) (hi : ∀ a, ¬ ad a a)
include hs
include hi
end
section
variable {ad : Nat → Nat → Prop} (hs : ∀ a b, ad a b → ad b a) (hi : ∀ a, ¬ ad a a)
include hs
include hi
end
end Go.Sx

namespace Go.Sx
section
variable {g : LL} (hg : GOk g)
include hg
end
end Go.Sx

namespace Go.Sx
section
variable {g : LL} (hg : GOk g)
include hg
end
end Go.Sx

namespace Go.Sx
section
variable {g : LL} (hg : GOk g)
include hg
end
end Go.Sx

namespace Go.Sx
section
variable {ad : Nat → Nat → Prop} (hs : ∀ a b, ad a b → ad b a) (hi : ∀ a, ¬ ad a a)
include hs hi
end
end Go.Sx

namespace Go.Sx
section
variable {ad : Nat → Nat → Prop} {X : Nat → Prop} {L R : Nat → Int} (h : Rp ad X L R)
include h
end
end Go.Sx

namespace Go.Sx
def atp (cs o:LI)(k v:Nat):Bool:=ch cs (o.getD k 0).toNat v
section
variable {g : LL} (hg : GOk g) {l o : LI} (hl : GC g l) (h16 : l.length ≤ 16) (ho : Goes l 0 o)
include hg hl
include h16 ho
end
end Go.Sx

namespace Go.Sx
section
variable {g l : LL} {cs : LI} (hg : GOk g)
include hg
end
end Go.Sx

namespace Go.Sx
end Go.Sx



namespace Go.Sx
section
variable {l : LI} (hn : l.length ≤ 16) (hvs : ∀ s ∈ l, VS s)
include hn hvs
end
section
variable {g : LL} (hg : GOk g)
include hg
end
end Go.Sx

namespace Go.Sx
section
variable {g : LL} (hg : GOk g)
include hg
end
end Go.Sx

namespace Go.Sx
def nearS (F:LI)(p:Pr):Int:=if p.2.2=2 then ishl .u32 1 p.2.1 else if p.2.2=3 then F.getD p.2.1.toNat 0 else if p.2.2=4 then ior .u32 (F.getD p.2.1.toNat 0) (ishl .u32 1 p.2.1) else 0
def Fs (n:Nat):List Pr→LI
 |[]=>List.replicate n 0
 |p::l=>joinF n (Fs n l) p.1.toNat (nearS (Fs n l) p)
def vsOf (l:List Pr):LI:=l.map (·.1)
def Lsts (g:LL)(K:Int):Prop:=In g.length K∧(∀u w,has K u=true→has K w=true→¬adj g u w)∧∀w,w<g.length→has K w=true∨∃v,has K v=true∧adj g v w
def lf (xs:List (Int×Int))(v:Nat):Int:=(xs.getD v (0,0)).1
def rt (xs:List (Int×Int))(v:Nat):Int:=(xs.getD v (0,0)).2
structure IvL (xs:List (Int×Int)):Prop where
 n1:1≤xs.length
 n16:xs.length≤16
 ok:∀x∈xs,0≤x.1∧x.1≤x.2∧x.2≤100
section
variable {xs : List (Int × Int)} (h : IvL xs)
include h
end
end Go.Sx

namespace Go.Sx
section
variable {g : LL} (hg : GOk g) {l o : LI} (hl : GC g l) (h16 : l.length ≤ 16) (ho : Goes l 0 o) (hol : o.length ≤ 32)
include hg hl h16 ho hol
end
end Go.Sx

namespace Go.Sx
section
variable {g : LL} (hg : GOk g)
include hg
end
end Go.Sx

namespace Go.Sx
section
variable {g : LL} (hg : GOk g)
include hg
end
end Go.Sx

namespace Go.Sx
abbrev ap (a b:Nat):Int×Int:=((a:Int),(b:Int))
section
variable {g : LL} (hg : GOk g)
include hg
end
end Go.Sx

namespace Go.Sx
section
variable {g : LL} (hg : GOk g)
include hg
end
end Go.Sx

namespace Go.Sx
abbrev Vx (n at' x:Nat):Prop:=x<n∧x≠at'
def PP (F:LI)(n:Nat)(S:Nat→Prop):Prop:=∀c x,S c→S x→x≠c→(∀w,Ad F c w→Cn (Ad F) (Vx n c) x w→S w)∧∀y,S y→y≠c→Cn (Ad F) (Vx n c) x y→Cn (Ad F) (λz=>S z∧z≠c) x y
def Two (S:Int):Prop:=∃x y,El S x∧El S y∧x≠y
section
variable {F : LI} {n : Nat} (hn : n ≤ 16) (hF : FOk F n)
include hn hF
end
end Go.Sx

namespace Go.Sx
section
variable {g : LL} (hg : GOk g)
include hg
end
end Go.Sx

namespace Go.Sx
def pr (a b:Nat):LI:=[(a:Int),(b:Int)]
def Clo (g:LL)(u v a b:Nat):Prop:=∀T:Nat→Nat→Prop,T u v→T v u→(∀a b w,T a b→adj g a w→Cn (adj g) (Vx g.length a) b w→T a w∧T w a)→T a b
section
variable {g : LL} (hg : GOk g) {u v : Nat}
include hg
end
end Go.Sx

namespace Go.Sx
section
variable {g : LL} (hg : GOk g) {u v : Nat}
include hg
end
end Go.Sx

namespace Go.Sx
section
variable {g : LL} (hg : GOk g)
include hg
end
end Go.Sx

namespace Go.Sx
section
variable {g : LL} (hg : GOk g)
include hg
end
end Go.Sx

namespace Go.Sx
section
variable {g : LL} {o F L : LI} (hg : GOk g) (ho : OOk g o) (hF : Fill g o F L)
include hg ho hF
end
end Go.Sx

namespace Go.Sx
section
variable {g : LL} {o F L : LI} (hg : GOk g) (ho : OOk g o) (hF : Fill g o F L)
include hg ho hF
end
end Go.Sx

namespace Go.Sx
structure PB (g bags:LL):Prop where
 n16:bags.length≤16
 sets:∀i,i<bags.length→SetOf (bags.getD i []) g.length
 some:∀i,i<bags.length→bags.getD i []≠[]
 all:∀v:Nat,v<g.length→∃i,i<bags.length∧(v:Int)∈bags.getD i []
 edge:∀u v:Nat,u<g.length→adj g u v→∃i,i<bags.length∧(u:Int)∈bags.getD i []∧(v:Int)∈bags.getD i []
 run:∀(v:Nat) (i j k:Nat),i<j→j<k→k<bags.length→(v:Int)∈bags.getD i []→(v:Int)∈bags.getD k []→(v:Int)∈bags.getD j []
section
variable {g : LL} {o : LI} (hg : GOk g) (ho : OOk g o)
include hg ho
end
section
variable {g : LL} {o : LI} (hg : GOk g) (ho : OOk g o)
include hg ho
end
section
variable {g bags : LL} (hg : GOk g) (h : PB g bags)
include hg h
end
section
variable {g : LL} {o : LI} (hg : GOk g) (ho : OOk g o)
include hg ho
end
end Go.Sx

namespace Go.Sx
section
variable {B K : LL} (hB : Sh2 B) (hK : Sh2 K)
include hB hK
end
section
variable {g B K : LL} (hg : GOk g) (hB : Sh2 B) (hK : Sh2 K)
include hg hB hK
end
end Go.Sx

namespace Go.Sx
section
variable {g B K : LL} (hg : GOk g) (hs : ∀ b ∈ B, SetOf b (g.length : Int)) (hBl : B.length ≤ 16)
include hg hs hBl
end
section
variable {g B K : LL} (hg : GOk g) (hB : Sh2 B) (hK : Sh2 K)
include hg hB hK
end
end Go.Sx

namespace Go.Sx
def prt (s t:Int):Bool:=(iandNot .u32 s t)==0
structure TS (M:LI)(K:LL):Prop where
 n16:M.length≤16
 vs:∀s∈M,VS s
 lk:∀l∈K,LinkIn M.length l
 k16:K.length≤16
section
variable {M : LI} {K : LL} (h : TS M K) {g k : Nat} (hg : g < M.length) (hk : k < M.length) (hgk : g ≠ k)
include h hg hk hgk
end
def spareM (M:LI)(l:LI):Option (Nat×Nat):=
 if prt (M.getD (l.getD 1 0).toNat 0) (M.getD (l.getD 0 0).toNat 0) then some ((l.getD 1 0).toNat,(l.getD 0 0).toNat)
 else if prt (M.getD (l.getD 0 0).toNat 0) (M.getD (l.getD 1 0).toNat 0) then some ((l.getD 0 0).toNat,(l.getD 1 0).toNat) else none
def C6 (M:LI)(K:LL):Option (Nat×Nat):=(List.range K.length).findSome? (λi=>spareM M (K.getD i []))
section
variable {M : LI} {K : LL} (h : TS M K)
include h
end
end Go.Sx

namespace Go.Sx
section
variable {G : LL} {M : LI} {K : LL} (h : TS M K) (hT : TB G (M.map Az) K) {g k : Nat} (hg : g < M.length) (hk : k < M.length) (hgk : g ≠ k)
include h hT hg hk hgk
end
end Go.Sx

namespace Go.Sx
section
variable {g : LL} (hg : GOk g)
include hg
end
end Go.Sx

namespace Go.Sx
section
variable {g : LL} (hg : GOk g)
include hg
def prs (P:List (Nat×Nat)):LL:=P.map λp=>pr p.1 p.2
end
end Go.Sx

namespace Go.Sx
section
variable {g : LL} (hg : GOk g)
include hg
end
end Go.Sx

namespace Go.Sx
section
variable {g : LL} (hg : GOk g)
include hg
end
end Go.Sx

namespace Go.Sx
section
variable {g : LL} (hg : GOk g)
include hg
end
end Go.Sx

namespace Go.Sx
section
variable {g : LL} (hg : GOk g)
include hg
end
end Go.Sx

namespace Go.Sx
section
variable {g : LL} (hg : GOk g)
include hg
end
end Go.Sx

namespace Go.Sx
section
variable {g : LL} (hg : GOk g)
include hg
end
end Go.Sx

namespace Go.Sx
def wst (A:Nat→Nat→Bool)(s v u:Nat):Bool:=A v u&& !s.testBit u
def wcnF (A:Nat→Nat→Bool)(n:Nat)(L:Nat→Bool):Nat→Nat→Nat→Nat
 |0,_,_=>0
 |k+1,s,v=>if s=2^n-1 then bit (L v) else Bc (λu=>bit (wst A s v u)*wcnF A n L k (s|||2^u) u) n
def wcn (A:Nat→Nat→Bool)(n:Nat)(L:Nat→Bool)(s v:Nat):Nat:=wcnF A n L (2^n) s v
def rm (n:Nat)(m:Int):Int:=iandNot .u32 (full n) m
noncomputable def bh (F:LI)(m v:Int):Int:=(D.t1 F m v).getD 0
noncomputable def indP (p:Prop):Nat:=by classical exact if p then 1 else 0
theorem A8 {p:Prop}(h:p):indP p=1:=by unfold indP;rw[if_pos h]
theorem AQ {p:Prop}(h:¬p):indP p=0:=by unfold indP;rw[if_neg h]
noncomputable def Bz (n:Nat)(p:Nat→Prop):Nat:=Bc (λv=>indP (p v)) n
section
variable (A : Nat → Nat → Prop) (n : Nat)
def EdI (e:Nat):Prop:=e<n*n∧(e/n=e%n∨A (e/n) (e%n))
def AtI (v:Nat)(P:Nat→Prop):Prop:=∃e,EdI A n e∧P e∧(e/n=v∨e%n=v)
def TI (X:BitVec (n*n))(v:Nat):Prop:=AtI A n v λe=>X.getLsbD e=true
def BdI (X:BitVec (n*n))(v:Nat):Prop:=TI A n X v∧TI A n (~~~X) v
def DelI (m:List (BitVec (n*n)))(v:Nat):Prop:=∃X∈m,BdI A n X v
end
def DisI {N:Nat}(X Y:BitVec N):Prop:=∀e,¬(X.getLsbD e=true∧Y.getLsbD e=true)
def PartI {N:Nat}(m:List (BitVec N)):Prop:=m.Pairwise DisI∧∀e,e<N→∃X∈m,X.getLsbD e=true
section
variable {A : Nat → Nat → Prop} {n k : Nat}
end
end Go.Sx

namespace Go.Sx
def PermN (m:Nat)(f:Nat→Nat):Prop:=(∀x,x<m→f x<m)∧∀x y,x<m→y<m→f x=f y→x=y
def Bp (t:Nat)(f:Nat→Nat)(x:Nat):Nat:=if f x=t then f t else f x
def A4 (p q x:Nat):Nat:=if x=p then q else if x=q then p else x
def Bw :Nat→(Nat→Nat)→Nat
 |0,_=>0
 |m+1,f=>Bw m (Bp m f)+if f m=m then 0 else 1
theorem PermN.hat {m:Nat}{f:Nat→Nat}(h:PermN (m+1) f):PermN m (Bp m f):=by
 constructor
 ·intro x hx
  unfold Bp
  have h1:=h.1 x (by omega)
  split
  ·have h2:=h.1 m (by omega)
   have h3:f m≠m:=λe=>by
    have:=h.2 x m (by omega) (by omega) (by omega)
    omega
   omega
  ·omega
 ·intro x y hx hy e
  unfold Bp at e
  split at e<;>split at e
  ·exact h.2 x y (by omega) (by omega) (by omega)
  ·have:=h.2 m y (by omega) (by omega) e
   omega
  ·have:=h.2 x m (by omega) (by omega) e
   omega
  ·exact h.2 x y (by omega) (by omega) e
theorem Cy :∀{m:Nat} {f g:Nat→Nat},(∀x,x<m→f x=g x)→Bw m f=Bw m g
 |0,_,_,_=>rfl
 |m+1,f,g,h=>by
  unfold Bw
  rw[Cy (m:=m) (f:=Bp m f) (g:=Bp m g) (λx hx=>by unfold Bp;rw[h x (by omega),h m (by omega)]),h m (by omega)]
theorem swpN_comm (p q x:Nat):A4 p q x=A4 q p x:=by
 unfold A4
 split<;>split<;>simp_all
theorem Ee (p q x:Nat):A4 p q (A4 p q x)=x:=by
 unfold A4
 by_cases h1:x=p
 ·rw[if_pos h1]
  by_cases h2:q=p
  ·rw[if_pos h2];omega
  ·rw[if_neg h2,if_pos rfl];exact h1.symm
 ·rw[if_neg h1]
  by_cases h2:x=q
  ·rw[if_pos h2,if_pos rfl];exact h2.symm
  ·rw[if_neg h2,if_neg h1,if_neg h2]
theorem swpN_inj {p q x y:Nat}(h:A4 p q x=A4 p q y):x=y:=by
 have:=congrArg (A4 p q) h
 rwa [Ee,Ee] at this
theorem swpN_lt {p q x m:Nat}(hp:p<m)(hq:q<m)(hx:x<m):A4 p q x<m:=by
 unfold A4
 split
 ·exact hq
 ·split
  ·exact hp
  ·exact hx
theorem PermN.swp {m p q:Nat}{h:Nat→Nat}(hh:PermN m h)(hp:p<m)(hq:q<m):PermN m λx=>A4 p q (h x):=
 ⟨λx hx=>swpN_lt hp hq (hh.1 x hx),λx y hx hy e=>hh.2 x y hx hy (swpN_inj e)⟩
theorem De {t x:Nat}{f:Nat→Nat}(h:f x=t):Bp t f x=f t:=by unfold Bp;rw[if_pos h]
theorem Cp {t x:Nat}{f:Nat→Nat}(h:f x≠t):Bp t f x=f x:=by unfold Bp;rw[if_neg h]
theorem Ek {m:Nat}{f:Nat→Nat}(h:f m=m):Bw (m+1) f=Bw m (Bp m f):=by
 show Bw m (Bp m f)+(if f m=m then 0 else 1)=_
 rw[if_pos h];rfl
theorem Dc {m:Nat}{f:Nat→Nat}(h:f m≠m):Bw (m+1) f=Bw m (Bp m f)+1:=by
 show Bw m (Bp m f)+(if f m=m then 0 else 1)=_
 rw[if_neg h]
theorem swp_l (p q:Nat):A4 p q p=q:=by unfold A4;rw[if_pos rfl]
theorem swp_r (p q:Nat):A4 p q q=p:=by rw[swpN_comm,swp_l]
theorem swp_o {p q x:Nat}(h1:x≠p)(h2:x≠q):A4 p q x=x:=by unfold A4;rw[if_neg h1,if_neg h2]
theorem par_swp1 {m p:Nat}{h:Nat→Nat}(hh:PermN (m+1) h)(hp:p<m)
  (ih:∀(q:Nat) (h:Nat→Nat),PermN m h→q<m→p≠q→(Bw m (λx=>A4 p q (h x))+Bw m h)%2=1):(Bw (m+1) (λx=>A4 p m (h x))+Bw (m+1) h)%2=1:=by
 have hinj:∀x,x<m→h x≠h m:=λx hx e=>by
  have:=hh.2 x m (by omega) (by omega) e
  omega
 by_cases r1:h m=m
 ·have e1:A4 p m (h m)=p:=by rw[r1,swp_r]
  have e2:Bw m (Bp m λx=>A4 p m (h x))=Bw m (Bp m h):=Cy (λx hx=>by
   have h1:=hinj x hx
   have h2:h x≠m:=by omega
   rw[Cp (f:=h) h2]
   by_cases c:h x=p
   ·rw[De (f:=λx=>A4 p m (h x)) (show A4 p m (h x)=m by rw[c,swp_l])]
    show A4 p m (h m)=_
    rw[e1,c]
   ·have e3:A4 p m (h x)=h x:=swp_o c h2
    rw[Cp (f:=λx=>A4 p m (h x)) (show A4 p m (h x)≠m by rw[e3];exact h2)]
    exact e3)
  rw[Dc (f:=λx=>A4 p m (h x)) (show A4 p m (h m)≠m by omega),Ek r1,e2]
  omega
 ·by_cases r2:h m=p
  ·have e1:A4 p m (h m)=m:=by rw[r2,swp_l]
   have e2:Bw m (Bp m λx=>A4 p m (h x))=Bw m (Bp m h):=Cy (λx hx=>by
    have h1:=hinj x hx
    by_cases c:h x=m
    ·have e3:A4 p m (h x)=p:=by rw[c,swp_r]
     rw[Cp (f:=λx=>A4 p m (h x)) (show A4 p m (h x)≠m by omega),De c]
     show A4 p m (h x)=_
     omega
    ·have e3:A4 p m (h x)=h x:=swp_o (by omega) c
     rw[Cp (f:=λx=>A4 p m (h x)) (show A4 p m (h x)≠m by omega),Cp c]
     exact e3)
   rw[Ek (f:=λx=>A4 p m (h x)) e1,Dc r1,e2]
   omega
  ·have hm:=hh.1 m (by omega)
   have e1:A4 p m (h m)=h m:=swp_o r2 r1
   have e2:Bw m (Bp m λx=>A4 p m (h x))=Bw m (λx=>A4 p (h m) (Bp m h x)):=Cy (λx hx=>by
    have h1:=hinj x hx
    by_cases c:h x=m
    ·have e3:A4 p m (h x)=p:=by rw[c,swp_r]
     rw[Cp (f:=λx=>A4 p m (h x)) (show A4 p m (h x)≠m by omega),De c,swp_r]
     exact e3
    ·rw[Cp c]
     by_cases c2:h x=p
     ·rw[De (f:=λx=>A4 p m (h x)) (show A4 p m (h x)=m by rw[c2,swp_l])]
      show A4 p m (h m)=_
      rw[e1,c2,swp_l]
     ·have e3:A4 p m (h x)=h x:=swp_o c2 c
      rw[Cp (f:=λx=>A4 p m (h x)) (show A4 p m (h x)≠m by omega),swp_o c2 h1]
      exact e3)
   have h2:=ih (h m) (Bp m h) hh.hat (by omega) (by omega)
   rw[Dc (f:=λx=>A4 p m (h x)) (show A4 p m (h m)≠m by omega),Dc r1,e2]
   omega
theorem DS :∀{m p q:Nat} {h:Nat→Nat},PermN m h→p<m→q<m→p≠q→(Bw m (λx=>A4 p q (h x))+Bw m h)%2=1
 |0,_,_,_,_,hp,_,_=>absurd hp (Nat.not_lt_zero _)
 |m+1,p,q,h,hh,hp,hq,hne=>by
  by_cases c1:q=m
  ·rw[c1]
   exact par_swp1 hh (by omega) (λq' h' hh' hq' hne'=>DS hh' (by omega) hq' hne')
  ·by_cases c2:p=m
   ·have:(λx=>A4 p q (h x))=λx=>A4 q p (h x):=funext (λx=>swpN_comm _ _ _)
    rw[this,c2]
    exact par_swp1 hh (by omega) (λq' h' hh' hq' hne'=>DS hh' (by omega) hq' hne')
   ·have h1:=DS (m:=m) (p:=p) (q:=q) (h:=Bp m h) hh.hat (by omega) (by omega) hne
    have hiff:∀x,A4 p q x=m↔x=m:=λx=>by
     unfold A4
     split
     ·omega
     ·split<;>omega
    have e2:Bw m (Bp m λx=>A4 p q (h x))=Bw m (λx=>A4 p q (Bp m h x)):=Cy (λx hx=>by
     by_cases c:h x=m
     ·rw[De c,De (f:=λx=>A4 p q (h x)) (show A4 p q (h x)=m from (hiff _).2 c)]
     ·rw[Cp c,Cp (f:=λx=>A4 p q (h x)) (show A4 p q (h x)≠m from λe=>c ((hiff _).1 e))])
    by_cases c:h m=m
    ·rw[Ek c,Ek (f:=λx=>A4 p q (h x)) ((hiff _).2 c),e2];omega
    ·rw[Dc c,Dc (f:=λx=>A4 p q (h x)) (λe=>c ((hiff _).1 e)),e2];omega
theorem PermN.comp {m:Nat}{f g:Nat→Nat}(hf:PermN m f)(hg:PermN m g):PermN m λx=>f (g x):=
 ⟨λx hx=>hf.1 _ (hg.1 x hx),λx y hx hy e=>hg.2 x y hx hy (hf.2 _ _ (hg.1 x hx) (hg.1 y hy) e)⟩
theorem parN_id :∀{m:Nat} {f:Nat→Nat},(∀x,x<m→f x=x)→Bw m f=0
 |0,_,_=>rfl
 |m+1,f,h=>by
  unfold Bw
  rw[if_pos (h m (by omega)),parN_id (m:=m) (λx hx=>by
   unfold Bp
   have:=h x (by omega)
   rw[this,if_neg (by omega)])]
theorem par_mul {m:Nat}{g:Nat→Nat}(hg:PermN m g):∀(j:Nat) (f:Nat→Nat),PermN m f→(∀x,j≤x→x<m→f x=x)→(Bw m (λx=>f (g x))+Bw m f+Bw m g)%2=0:=by
 intro j
 induction j with
 |zero=>
  intro f hf h
  have e1:=parN_id (m:=m) (λx hx=>h x (Nat.zero_le _) hx)
  have e2:Bw m (λx=>f (g x))=Bw m g:=Cy (λx hx=>h _ (Nat.zero_le _) (hg.1 x hx))
  rw[e1,e2];omega
 |succ j ih=>
  intro f hf h
  by_cases hj:j<m
  ·by_cases hfj:f j=j
   ·exact ih f hf (λx hx hxm=>by
     by_cases c:x=j
     ·subst c;exact hfj
     ·exact h x (by omega) hxm)
   ·have hjm:=hf.1 j hj
    have h2:=hf.swp (p:=j) (q:=f j) hj hjm
    have h3:=ih (λx=>A4 j (f j) (f x)) h2 (λx hx hxm=>by
     by_cases c:x=j
     ·subst c
      unfold A4
      rw[if_neg hfj,if_pos rfl]
     ·have e:=h x (by omega) hxm
      have hne:f x≠f j:=λe'=>c (hf.2 x j hxm hj e')
      unfold A4
      rw[if_neg (by omega),if_neg hne,e])
    have h4:=DS (h2.comp hg) hj hjm (λe=>hfj e.symm)
    have h5:=DS h2 hj hjm (λe=>hfj e.symm)
    simp only[Ee] at h4 h5
    have e5:Bw m (λx=>f x)=Bw m f:=rfl
    omega
  ·exact ih f hf (λx hx hxm=>absurd hxm (by omega))
def itN (f:Nat→Nat):Nat→Nat→Nat
 |0,x=>x
 |k+1,x=>f (itN f k x)
theorem Dd (f:Nat→Nat)(a b x:Nat):itN f (a+b) x=itN f a (itN f b x):=by
 induction a with
 |zero=>rw[Nat.zero_add];rfl
 |succ a ih=>rw[Nat.succ_add];unfold itN;rw[ih]
def B8 (f:Nat→Nat)(x:Nat):Prop:=∀k,x≤itN f k x
noncomputable def cycN (m:Nat)(f:Nat→Nat):Nat:=Bz m (B8 f)
theorem led_hat {m:Nat}{f:Nat→Nat}{x:Nat}(hx:x<m):B8 f x↔B8 (Bp m f) x:=by
 constructor
 ·intro h k
  have:∃k',itN (Bp m f) k x=itN f k' x:=by
   induction k with
   |zero=>exact⟨0,rfl⟩
   |succ k ih=>
    obtain⟨k',e⟩:=ih
    unfold itN
    rw[e]
    unfold Bp
    split
    ·rename_i h1
     exact⟨k'+2,by show f m=f (f (itN f k' x));rw[h1]⟩
    ·exact⟨k'+1,rfl⟩
  obtain⟨k',e⟩:=this
  rw[e]
  exact h k'
 ·intro h k
  have:(itN f k x=m∧∃k',Bp m f (itN (Bp m f) k' x)=f m)∨∃k',itN f k x=itN (Bp m f) k' x:=by
   induction k with
   |zero=>exact .inr ⟨0,rfl⟩
   |succ k ih=>
    rcases ih with⟨e,k',e'⟩|⟨k',e⟩
    ·right
     refine⟨k'+1,?_⟩
     unfold itN
     rw[e,e']
    ·by_cases c:f (itN (Bp m f) k' x)=m
     ·left
      refine⟨by unfold itN;rw[e,c],k',?_⟩
      show (if f (itN (Bp m f) k' x)=m then f m else _)=_
      rw[if_pos c]
     ·right
      refine⟨k'+1,?_⟩
      unfold itN
      rw[e]
      show _=if f (itN (Bp m f) k' x)=m then f m else f (itN (Bp m f) k' x)
      rw[if_neg c]
  rcases this with⟨e,_⟩|⟨k',e⟩
  ·omega
  ·rw[e];exact h k'
theorem Ei :∀{m:Nat} {f:Nat→Nat},PermN m f→cycN m f+Bw m f=m
 |0,_,_=>rfl
 |m+1,f,h=>by
  have ih:=Ei h.hat
  have e1:cycN (m+1) f=cycN m (Bp m f)+indP (f m=m):=by
   unfold cycN Bz
   simp only[Bc]
   congr 1
   ·refine AX (λx hx=> ?_)
    have:=led_hat (m:=m) (f:=f) hx
    by_cases c:B8 f x
    ·rw[A8 c,A8 (this.1 c)]
    ·rw[AQ c,AQ (λh=>c (this.2 h))]
   ·have:B8 f m↔f m=m:=by
     constructor
     ·intro hl
      have h1:=hl 1
      have h2:=h.1 m (by omega)
      have:itN f 1 m=f m:=rfl
      omega
     ·intro e k
      have:itN f k m=m:=by
       induction k with
       |zero=>rfl
       |succ k ih=>unfold itN;rw[ih,e]
      omega
    by_cases c:B8 f m
    ·rw[A8 c,A8 (this.1 c)]
    ·rw[AQ c,AQ (λh=>c (this.2 h))]
  unfold Bw
  by_cases c:f m=m
  ·rw[A8 c] at e1
   rw[if_pos c]
   omega
  ·rw[AQ c] at e1
   rw[if_neg c]
   omega
theorem cyc_mul {m:Nat}{f g:Nat→Nat}(hf:PermN m f)(hg:PermN m g):(cycN m (λx=>f (g x))+cycN m f+cycN m g+m)%2=0:=by
 have h1:=Ei (hf.comp hg)
 have h2:=Ei hf
 have h3:=Ei hg
 have h4:=par_mul hg m f hf (λx hx hxm=>absurd hxm (by omega))
 omega
section
variable {m : Nat} {f : Nat → Nat}
theorem Cs (h:PermN m f){x:Nat}(hx:x<m):∀k,itN f k x<m
 |0=>hx
 |k+1=>h.1 _ (Cs h hx k)
theorem itN_inj (h:PermN m f){x y:Nat}(hx:x<m)(hy:y<m):∀k,itN f k x=itN f k y→x=y
 |0,e=>e
 |k+1,e=>itN_inj h hx hy k (h.2 _ _ (Cs h hx k) (Cs h hy k) e)
theorem DT (h:PermN m f){x:Nat}(hx:x<m){i j:Nat}(hij:i≤j)(e:itN f i x=itN f j x):itN f (j-i) x=x:=by
 rw[show j=i+(j-i) by omega,Dd] at e
 exact(itN_inj h hx (Cs h hx _) i e).symm
theorem per_ex (h:PermN m f){x:Nat}(hx:x<m):∃k,0<k∧itN f k x=x:=by
 refine Classical.byContradiction λhn=> ?_
 have h1:((List.range (m+1)).map λi=>((itN f i x:Nat):Int)).Nodup:=by
  rw[List.nodup_iff_pairwise_ne,List.pairwise_map]
  have:=List.pairwise_lt_range (n:=m+1)
  exact this.imp fun{a b} (hab:a<b) (e:((itN f a x:Nat):Int)=((itN f b x:Nat):Int))=>hn ⟨b-a,by omega,DT h hx (by omega) (by omega)⟩
 have:=B1 (m:=(List.range m).map Int.ofNat) h1 (λy hy=>by
  obtain⟨i,_,rfl⟩:=List.mem_map.1 hy
  exact List.mem_map.2 ⟨_,List.mem_range.2 (Cs h hx i),rfl⟩)
 simp at this
 omega
noncomputable def BM (f:Nat→Nat)(x:Nat):Nat:=by
 classical exact if h:∃k,(0<k∧itN f k x=x)∧∀i,i<k→¬(0<i∧itN f i x=x) then h.choose else 1
theorem DN (h:PermN m f){x:Nat}(hx:x<m):0<BM f x∧itN f (BM f x) x=x∧∀i,0<i→i<BM f x→itN f i x≠x:=by
 have he:=least_of (per_ex h hx)
 unfold BM
 rw[dif_pos he]
 have:=he.choose_spec
 exact⟨this.1.1,this.1.2,λi h0 hi e=>this.2 i hi ⟨h0,e⟩⟩
theorem Ec {p x:Nat}(e:itN f p x=x):∀k,itN f (p*k) x=x
 |0=>rfl
 |k+1=>by rw[Nat.mul_succ,Dd,e,Ec e k]
theorem orb_symm (h:PermN m f){x y:Nat}(hx:x<m)(o:∃k,itN f k x=y):∃k,itN f k y=x:=by
 obtain⟨k,rfl⟩:=o
 obtain⟨p0,p1,_⟩:=DN h hx
 refine⟨BM f x*k-k,?_⟩
 rw[←Dd,Nat.sub_add_cancel (Nat.le_mul_of_pos_left k p0),Ec p1]
theorem orb_mod (h:PermN m f){x y:Nat}(hx:x<m)(o:∃k,itN f k x=y):∃i,i<BM f x∧itN f i x=y:=by
 obtain⟨k,rfl⟩:=o
 obtain⟨p0,p1,_⟩:=DN h hx
 refine⟨k%BM f x,Nat.mod_lt _ p0,?_⟩
 have e:itN f k x=itN f (k%BM f x+BM f x*(k/BM f x)) x:=by rw[Nat.mod_add_div]
 rw[e,Dd,Ec p1]
variable {da : Nat → Prop}
def SInv (m:Nat)(f:Nat→Nat)(da S:Nat→Prop)(b:Nat):Prop:=∀x,x<m→(S x↔da x∧∃j,itN f j x<b)
def Sto (f:Nat→Nat)(S:Nat→Prop)(d j:Nat)(x:Nat):Prop:=S x∨∃i,i<j∧itN f i d=x
theorem da_it (hc:∀x,x<m→da x→da (f x))(h:PermN m f){x:Nat}(hx:x<m)(hd:da x):∀k,da (itN f k x)
 |0=>hd
 |k+1=>hc _ (Cs h hx k) (da_it hc h hx hd k)
variable (h : PermN m f) (hc : ∀ x, x < m → da x → da (f x)) {S : Nat → Prop} {b d : Nat}
include h hc
theorem SInv.not_yet (hS:SInv m f da S d)(hd:d<m)(hda:da d)(hn:¬S d){j:Nat}(hj:j<BM f d):¬Sto f S d j (itN f j d):=by
 rintro(hs|⟨i,hi,e⟩)
 ·obtain⟨_,k,hk⟩:=(hS _ (Cs h hd j)).1 hs
  rw[←Dd] at hk
  exact hn ((hS d hd).2 ⟨hda,_,hk⟩)
 ·exact(DN h hd).2.2 (j-i) (by omega) (by omega) (DT h hd (by omega) e)
omit hc in
theorem SInv.closed (hd:d<m):Sto f S d (BM f d) (itN f (BM f d) d):=by
 obtain⟨p0,p1,_⟩:=DN h hd
 exact .inr ⟨0,p0,by rw[p1];rfl⟩
theorem SInv.next (hS:SInv m f da S d)(hd:d<m)(hda:da d):SInv m f da (Sto f S d (BM f d)) (d+1):=by
 intro x hx
 constructor
 ·rintro(hs|⟨i,hi,rfl⟩)
  ·obtain⟨h1,k,hk⟩:=(hS x hx).1 hs
   exact⟨h1,k,by omega⟩
  ·obtain⟨k,hk⟩:=orb_symm h hd ⟨i,rfl⟩
   exact⟨da_it hc h hd hda i,k,by omega⟩
 ·rintro⟨h1,k,hk⟩
  by_cases e:itN f k x<d
  ·exact .inl ((hS x hx).2 ⟨h1,k,e⟩)
  ·obtain⟨i,hi,e'⟩:=orb_mod h hd (orb_symm h hx ⟨k,show itN f k x=d by omega⟩)
   exact .inr ⟨i,hi,e'⟩
omit hc in
theorem SInv.pass (hS:SInv m f da S d)(hd:d<m)(hs:S d):SInv m f da S (d+1):=by
 intro x hx
 rw[hS x hx]
 constructor
 ·rintro⟨h1,k,hk⟩;exact⟨h1,k,by omega⟩
 ·rintro⟨h1,k,hk⟩
  refine⟨h1,?_⟩
  by_cases e:itN f k x<d
  ·exact⟨k,e⟩
  ·obtain⟨_,j,hj⟩:=(hS d hd).1 hs
   refine⟨j+k,?_⟩
   rw[Dd,show itN f k x=d by omega];exact hj
theorem SInv.skip (hS:SInv m f da S d)(hno:¬da d):SInv m f da S (d+1):=by
 intro x hx
 rw[hS x hx]
 constructor
 ·rintro⟨h1,k,hk⟩;exact⟨h1,k,by omega⟩
 ·rintro⟨h1,k,hk⟩
  refine⟨h1,k,?_⟩
  have:itN f k x≠d:=λe=>hno (e▸da_it hc h hx h1 k)
  omega
omit h hc in
theorem SInv.led (hS:SInv m f da S d)(hd:d<m)(hda:da d):S d↔¬B8 f d:=by
 rw[hS d hd]
 constructor
 ·rintro⟨_,k,hk⟩ hl
  have:=hl k;omega
 ·intro hn
  refine⟨hda,Classical.byContradiction λhno=>hn λk=> ?_⟩
  refine Classical.byContradiction λhk=>hno ⟨k,by omega⟩
noncomputable def B7 (f:Nat→Nat)(da:Nat→Prop)(face:Nat→LI)(b:Nat):LL:=by
 classical exact((List.range b).filter λd=>decide (da d∧B8 f d)).map face
omit h hc in
theorem outAt_no {face:Nat→LI}(hn:¬(da d∧B8 f d)):B7 f da face (d+1)=B7 f da face d:=by
 unfold B7
 rw[List.range_succ,List.filter_append,List.map_append,List.filter_cons_of_neg (by simpa using hn)];simp
omit h hc in
theorem outAt_yes {face:Nat→LI}(hn:da d∧B8 f d):B7 f da face (d+1)=B7 f da face d++[face d]:=by
 unfold B7
 rw[List.range_succ,List.filter_append,List.map_append,List.filter_cons_of_pos (by simpa using hn)];simp
def AtN (m:Nat)(f:Nat→Nat)(da:Nat→Prop)(face:Nat→LI)(b:Nat)(S:Nat→Prop)(out:LL):Prop:=SInv m f da S b∧out=B7 f da face b
variable {face : Nat → LI} {out : LL}
theorem AtN.skip (hA:AtN m f da face d S out)(hno:¬da d):AtN m f da face (d+1) S out:=
 ⟨hA.1.skip h hc hno,by rw[outAt_no (λhh=>hno hh.1)];exact hA.2⟩
theorem AtN.far (hA:AtN m f da face b S out):∀k,(∀d,b≤d→d<b+k→¬da d)→AtN m f da face (b+k) S out
 |0,_=>hA
 |k+1,hn=>(AtN.far hA k λd h1 h2=>hn d h1 (by omega)).skip h hc (hn _ (by omega) (by omega))
omit hc in
theorem AtN.pass (hA:AtN m f da face d S out)(hd:d<m)(hda:da d)(hs:S d):AtN m f da face (d+1) S out:=
 ⟨hA.1.pass h hd hs,by rw[outAt_no (λhh=>(hA.1.led hd hda).1 hs hh.2)];exact hA.2⟩
theorem AtN.next (hA:AtN m f da face d S out)(hd:d<m)(hda:da d)(hs:¬S d):AtN m f da face (d+1) (Sto f S d (BM f d)) (out++[face d]):=
 ⟨hA.1.next h hc hd hda,by
  rw[outAt_yes ⟨hda,Classical.byContradiction λhl=>hs ((hA.1.led hd hda).2 hl)⟩,hA.2]⟩
end
end Go.Sx

namespace Go.Sx
def nx (t:LI)(x:Int):Int:=t.getD ((t.idxOf x+1)%t.length) 0
theorem Dz {t:LI}(hn:t.Nodup){i j:Nat}(hi:i<t.length)(hj:j<t.length)(e:t[i]=t[j]):i=j:=by
 rw[List.nodup_iff_pairwise_ne,List.pairwise_iff_getElem] at hn
 rcases Nat.lt_trichotomy i j with h|h|h
 ·exact absurd e (hn i j hi hj h)
 ·exact h
 ·exact absurd e.symm (hn j i hj hi h)
theorem nx_at {t:LI}(hn:t.Nodup){i:Nat}(hi:i<t.length):nx t t[i]=t[(i+1)%t.length]'(Nat.mod_lt _ (by omega)):=by
 have h1:t.idxOf t[i]<t.length:=List.idxOf_lt_length_of_mem (List.getElem_mem hi)
 have h2:t.idxOf t[i]=i:=Dz hn h1 hi (List.getElem_idxOf h1)
 unfold nx
 rw[h2,AI (Nat.mod_lt _ (by omega))]
theorem nx_mem {t:LI}(hn:t.Nodup){x:Int}(hx:x∈t):nx t x∈t:=by
 obtain⟨i,hi,rfl⟩:=List.mem_iff_getElem.1 hx
 rw[nx_at hn hi]
 exact List.getElem_mem _
theorem nx_inj {t:LI}(hn:t.Nodup){x y:Int}(hx:x∈t)(hy:y∈t)(e:nx t x=nx t y):x=y:=by
 obtain⟨i,hi,rfl⟩:=List.mem_iff_getElem.1 hx
 obtain⟨j,hj,rfl⟩:=List.mem_iff_getElem.1 hy
 rw[nx_at hn hi,nx_at hn hj] at e
 have h1:=Dz hn _ _ e
 have h2:i=j:=by
  by_cases c1:i+1=t.length<;>by_cases c2:j+1=t.length
  ·omega
  ·rw[c1,Nat.mod_self,Nat.mod_eq_of_lt (by omega)] at h1;omega
  ·rw[c2,Nat.mod_self,Nat.mod_eq_of_lt (by omega)] at h1;omega
  ·rw[Nat.mod_eq_of_lt (by omega),Nat.mod_eq_of_lt (by omega)] at h1;omega
 subst h2;rfl
theorem Behind_eq {t:LI}(hs:t.length≤16)(hn:t.Nodup){x:Int}(hx:x∈t):D.B0 t x=some (nx t x):=by
 obtain⟨i,hi,rfl⟩:=List.mem_iff_getElem.1 hx
 unfold D.B0
 refine(Ch (λk=>(k:Int)) i (.inr (nx t t[i])) rfl (λk hk=> ?_) ?_).trans rfl
 ·have hkl:k<t.length:=by omega
  have hne:(t[k]==t[i])=false:=by
   rw[beq_eq_false_iff_ne];exact λe=>by have:=Dz hn hkl hi e;omega
  rw[dlt hkl,cond_true,AN hkl,bs,hne,cond_false,wi (by omega)]
 ·have h0:((t.length:Int)==0)=false:=by rw[beq_eq_false_iff_ne];omega
  have hm:(i+1)%t.length<t.length:=Nat.mod_lt _ (by omega)
  rw[dlt hi,cond_true,AN hi,bs,beq_self_eq_true,cond_true,h0,cond_false,wi (by omega),show Int.tmod ((i+1:Nat):Int) (t.length:Int)=(((i+1)%t.length:Nat):Int) from by rw[Int.tmod_eq_emod_of_nonneg (by omega)];rfl,AN hm,nx_at hn hi]
  rfl
theorem Index_int_eq {t:LI}(hs:t.length≤16)(hn:t.Nodup){i:Nat}(hi:i<t.length):D.S0 t t[i]=some (i:Int):=by
 unfold D.S0
 refine(Ch (λk=>(k:Int)) i (.inr (i:Int)) rfl (λk hk=> ?_) ?_).trans rfl
 ·have hkl:k<t.length:=by omega
  have hne:(t[i]==t[k])=false:=by
   rw[beq_eq_false_iff_ne];exact λe=>by have:=Dz hn hi hkl e;omega
  rw[dlt hkl,cond_true,AN hkl,bs,hne,cond_false,wi (by omega)]
 ·rw[dlt hi,cond_true,AN hi,bs,beq_self_eq_true,cond_true]
structure Rot (g T:LL):Prop where
 ok:GOk g
 len:T.length=g.length
 rows:∀v,v<g.length→RowOk (row T v) (row g v)
section
variable {g T : LL} (R : Rot g T)
include R
theorem Rot.perm {v:Nat}(hv:v<g.length):(row T v).Perm (row g v):=by
 have h:=(R.rows v hv).1
 exact DD _ _ (DE λk hk=>(h.2 k hk).2) (λx hx=>by
  obtain⟨k,hk,rfl⟩:=List.mem_iff_getElem.1 hx
  exact(h.2 k hk).1) (by omega)
theorem Rot.nodup {v:Nat}(hv:v<g.length):(row T v).Nodup:=DE λk hk=>((R.rows v hv).1.2 k hk).2
theorem Rot.mem {v:Nat}(hv:v<g.length){x:Int}:x∈row T v↔x∈row g v:=(R.perm hv).mem_iff
theorem Rot.rlen {v:Nat}(hv:v<g.length):(row T v).length≤16:=by
 rw[(R.perm hv).length_eq];exact R.ok.row_len hv
theorem Rot.nx {u v:Nat}(hu:u<g.length)(ha:adj g u v):∃w:Nat,nx (row T u) (v:Int)=(w:Int)∧w<g.length∧adj g u w:=by
 have:=(R.mem hu).1 (nx_mem (R.nodup hu) ((R.mem hu).2 ha))
 obtain⟨w,e,hw,h⟩:=R.ok.mem hu this
 exact⟨w,e,hw,h⟩
theorem Rot.after {u v:Nat}(hu:u<g.length)(ha:adj g u v):D.v0 T (u:Int) (v:Int)=some (Sx.nx (row T u) (v:Int)):=by
 have hT:u<T.length:=by have:=R.len;omega
 have hm:(v:Int)∈row T u:=(R.mem hu).2 ha
 have h16:=R.rlen hu
 obtain⟨i,hi,e⟩:=List.mem_iff_getElem.1 hm
 have h0:(((row T u).length:Int)==0)=false:=by rw[beq_eq_false_iff_ne];omega
 unfold D.v0
 rw[BZ hT,bs,←e,Index_int_eq h16 (R.nodup hu) hi,bs,bs,bs,h0,cond_false,wi (by omega),show Int.tmod ((i+1:Nat):Int) ((row T u).length:Int)=(((i+1)%(row T u).length:Nat):Int) from by rw[Int.tmod_eq_emod_of_nonneg (by omega)];rfl,AN (Nat.mod_lt _ (by omega)),nx_at (R.nodup hu) hi]
 rfl
end
def daN (g:LL)(d:Nat):Prop:=d<g.length*g.length∧adj g (d/g.length) (d%g.length)
open Classical in
noncomputable def roN (g T:LL)(d:Nat):Nat:=if daN g d then d/g.length*g.length+(nx (row T (d/g.length)) ((d%g.length:Nat):Int)).toNat else d
open Classical in
noncomputable def opN (g:LL)(d:Nat):Nat:=if daN g d then d%g.length*g.length+d/g.length else d
noncomputable def fcN (g T:LL)(d:Nat):Nat:=roN g T (opN g d)
theorem dn_lt {n u v:Nat}(hu:u<n)(hv:v<n):u*n+v<n*n:=by
 have:u*n≤(n-1)*n:=Nat.mul_le_mul_right _ (by omega)
 have h2:(n-1)*n+n=n*n:=by rw[←Nat.succ_mul];congr 1;omega
 omega
theorem B3 {n u v:Nat}(hv:v<n):(u*n+v)/n=u:=by
 rw[Nat.mul_comm,Nat.mul_add_div (by omega),Nat.div_eq_of_lt hv,Nat.add_zero]
theorem B2 {n u v:Nat}(hv:v<n):(u*n+v)%n=v:=by
 rw[Nat.mul_comm,Nat.mul_add_mod,Nat.mod_eq_of_lt hv]
theorem dn_eq {n d:Nat}(h:d<n*n):d/n<n∧d%n<n∧d/n*n+d%n=d:=by
 have hn:0<n:=Nat.pos_of_ne_zero λe=>by subst e;simp at h
 exact⟨Nat.div_lt_of_lt_mul h,Nat.mod_lt _ hn,by rw[Nat.mul_comm];exact Nat.div_add_mod d n⟩
theorem dn_inj {n u v u' v':Nat}(hv:v<n)(hv':v'<n)(e:u*n+v=u'*n+v'):u=u'∧v=v':=by
 have h1:=congrArg (·/n) e
 have h2:=congrArg (·%n) e
 simp only[B3 hv,B3 hv',B2 hv,B2 hv'] at h1 h2
 exact⟨h1,h2⟩
theorem CS {g:LL}{u v:Nat}(hu:u<g.length)(hv:v<g.length):daN g (u*g.length+v)↔adj g u v:=by
 unfold daN
 rw[B3 hv,B2 hv]
 exact⟨λh=>h.2,λh=>⟨dn_lt hu hv,h⟩⟩
theorem DK {g:LL}{d:Nat}(h:daN g d):∃u v,u<g.length∧v<g.length∧d=u*g.length+v∧adj g u v:=by
 have:=dn_eq h.1
 exact⟨_,_,this.1,this.2.1,this.2.2.symm,h.2⟩
section
variable {g T : LL} (R : Rot g T)
include R
theorem Rot.ro {u v:Nat}(hu:u<g.length)(hv:v<g.length)(ha:adj g u v):roN g T (u*g.length+v)=u*g.length+(Sx.nx (row T u) (v:Int)).toNat:=by
 unfold roN
 rw[if_pos ((CS hu hv).2 ha),B3 hv,B2 hv]
omit R in
theorem op_dn {u v:Nat}(hu:u<g.length)(hv:v<g.length)(ha:adj g u v):opN g (u*g.length+v)=v*g.length+u:=by
 unfold opN
 rw[if_pos ((CS hu hv).2 ha),B3 hv,B2 hv]
theorem Rot.ro_da {d:Nat}(h:daN g d):daN g (roN g T d):=by
 obtain⟨u,v,hu,hv,rfl,ha⟩:=DK h
 obtain⟨w,e,hw,haw⟩:=R.nx hu ha
 rw[R.ro hu hv ha,e,Int.toNat_natCast,CS hu hw];exact haw
theorem Rot.op_da {d:Nat}(h:daN g d):daN g (opN g d):=by
 obtain⟨u,v,hu,hv,rfl,ha⟩:=DK h
 rw[op_dn hu hv ha,CS hv hu];exact R.ok.sym u v hu ha
omit R in
theorem ro_no {d:Nat}(h:¬daN g d):roN g T d=d:=by unfold roN;rw[if_neg h]
omit R in
theorem op_no {d:Nat}(h:¬daN g d):opN g d=d:=by unfold opN;rw[if_neg h]
theorem Rot.ro_perm :PermN (g.length*g.length) (roN g T):=by
 constructor
 ·intro x hx
  by_cases h:daN g x
  ·exact(R.ro_da h).1
  ·rw[ro_no h];exact hx
 ·intro x y hx hy e
  by_cases h1:daN g x<;>by_cases h2:daN g y
  ·obtain⟨u,v,hu,hv,rfl,ha⟩:=DK h1
   obtain⟨u',v',hu',hv',rfl,ha'⟩:=DK h2
   obtain⟨w,e1,hw,_⟩:=R.nx hu ha
   obtain⟨w',e2,hw',_⟩:=R.nx hu' ha'
   rw[R.ro hu hv ha,R.ro hu' hv' ha',e1,e2,Int.toNat_natCast,Int.toNat_natCast] at e
   obtain⟨rfl,rfl⟩:=dn_inj hw hw' e
   have:=nx_inj (R.nodup hu) ((R.mem hu).2 ha) ((R.mem hu).2 ha') (e1.trans e2.symm)
   obtain rfl:v=v':=by omega
   rfl
  ·have:=R.ro_da h1
   rw[e,ro_no h2] at this;exact absurd this h2
  ·have:=R.ro_da h2
   rw[←e,ro_no h1] at this;exact absurd this h1
  ·rwa [ro_no h1,ro_no h2] at e
theorem Rot.op_op (d:Nat):opN g (opN g d)=d:=by
 by_cases h:daN g d
 ·obtain⟨u,v,hu,hv,rfl,ha⟩:=DK h
  rw[op_dn hu hv ha,op_dn hv hu (R.ok.sym u v hu ha)]
 ·rw[op_no h,op_no h]
theorem Rot.op_perm :PermN (g.length*g.length) (opN g):=by
 constructor
 ·intro x hx
  by_cases h:daN g x
  ·exact(R.op_da h).1
  ·rw[op_no h];exact hx
 ·intro x y hx hy e
  have:=congrArg (opN g) e
  rwa [R.op_op,R.op_op] at this
theorem Rot.fc_perm :PermN (g.length*g.length) (fcN g T):=R.ro_perm.comp R.op_perm
theorem Rot.fc_da (x:Nat)(_:x<g.length*g.length)(h:daN g x):daN g (fcN g T x):=R.ro_da (R.op_da h)
theorem Rot.fc {u v:Nat}(hu:u<g.length)(hv:v<g.length)(ha:adj g u v):fcN g T (u*g.length+v)=v*g.length+(Sx.nx (row T v) (u:Int)).toNat:=by
 unfold fcN
 rw[op_dn hu hv ha,R.ro hv hu (R.ok.sym u v hu ha)]
end
end Go.Sx

namespace Go.Sx
theorem perN_le {m:Nat}{f:Nat→Nat}(h:PermN m f){x:Nat}(hx:x<m):BM f x≤m:=by
 obtain⟨p0,p1,p2⟩:=DN h hx
 have h1:((List.range (BM f x)).map λi=>((itN f i x:Nat):Int)).Nodup:=by
  rw[List.nodup_iff_pairwise_ne,List.pairwise_map,List.pairwise_iff_getElem]
  intro i j hi hj hij e
  rw[List.getElem_range,List.getElem_range] at e
  have:itN f i x=itN f j x:=by omega
  rw[List.length_range] at hj
  exact p2 (j-i) (by omega) (by omega) (DT h hx (by omega) this)
 have:=B1 (m:=(List.range m).map Int.ofNat) h1 (λy hy=>by
  obtain⟨i,_,rfl⟩:=List.mem_map.1 hy
  exact List.mem_map.2 ⟨_,List.mem_range.2 (Cs h hx i),rfl⟩)
 simpa using this
theorem Dw {f:Nat→Nat}{da:Nat→Prop}{face:Nat→LI}(b:Nat):(B7 f da face b).length≤b:=by
 unfold B7
 rw[List.length_map]
 refine Nat.le_trans (List.length_filter_le _ _) ?_
 rw[List.length_range];exact Nat.le_refl _
theorem DA {n:Nat}(h:n≤16):n*n≤256:=Nat.mul_le_mul h h
theorem wdn {n u v:Nat}(hn:n≤16)(hu:u<n)(hv:v<n):IntKind.i64.wrap (IntKind.i64.wrap ((u:Int)*(n:Int))+(v:Int))=((u*n+v:Nat):Int):=by
 have h1:=dn_lt hu hv
 have h2:=DA hn
 rw[←Int.natCast_mul,w64 (x:=((u*n:Nat):Int)) (by omega) (by omega),w64 (by omega) (by omega)];rfl
structure RepB (m:Nat)(l:List Bool)(S:Nat→Prop):Prop where
 len:l.length=m
 val:∀x,x<m→(l.getD x false=true↔S x)
theorem RepB.yes {m:Nat}{l:List Bool}{S:Nat→Prop}(h:RepB m l S){x:Nat}(hx:x<m)(hs:S x):idx l (x:Int)=some true:=by
 have hl:x<l.length:=by rw[h.len];exact hx
 have:=(h.val x hx).2 hs
 rw[AI hl] at this
 rw[AN hl,this]
theorem RepB.no {m:Nat}{l:List Bool}{S:Nat→Prop}(h:RepB m l S){x:Nat}(hx:x<m)(hs:¬S x):idx l (x:Int)=some false:=by
 have hl:x<l.length:=by rw[h.len];exact hx
 have:=mt (h.val x hx).1 hs
 rw[AI hl,Bool.not_eq_true] at this
 rw[AN hl,this]
def C7 (f:Nat→Nat)(l:List Bool)(d:Nat):Nat→List Bool
 |0=>l
 |j+1=>(C7 f l d j).set (itN f j d) true
theorem RepB.sets {m:Nat}{f:Nat→Nat}{l:List Bool}{S:Nat→Prop}(h:RepB m l S)(d:Nat):∀j,RepB m (C7 f l d j) (Sto f S d j)
 |0=>⟨h.len,λx hx=>(h.val x hx).trans ⟨.inl,λh=>h.elim id (fun⟨_,h,_⟩=>absurd h (Nat.not_lt_zero _))⟩⟩
 |j+1=>by
  have ih:=RepB.sets (f:=f) h d j
  refine⟨by unfold C7;rw[List.length_set];exact ih.len,λx hx=> ?_⟩
  unfold C7
  have hl:x<(C7 f l d j).length:=by rw[ih.len];exact hx
  by_cases e:x=itN f j d
  ·rw[←e,AI (by rw[List.length_set];exact hl),List.getElem_set_self]
   exact⟨λ_=> .inr ⟨j,by omega,e.symm⟩,λ_=>rfl⟩
  ·rw[List.getD_eq_getElem?_getD,List.getElem?_set_ne (λh=>e h.symm),←List.getD_eq_getElem?_getD,ih.val x hx]
   constructor
   ·rintro(hs|⟨i,hi,e'⟩)
    ·exact .inl hs
    ·exact .inr ⟨i,by omega,e'⟩
   ·rintro(hs|⟨i,hi,e'⟩)
    ·exact .inl hs
    ·refine .inr ⟨i,?_,e'⟩
     have:i≠j:=λh=>e (h▸e'.symm)
     omega
def RepM (n:Nat)(M:List ((Int×Int)×Int))(S:Nat→Prop):Prop:=∀u v,u<n→v<n→((BB M ((u:Int),(v:Int))).isSome=true↔S (u*n+v))
def Dy (f:Nat→Nat)(n:Nat)(c:Int)(M:List ((Int×Int)×Int))(d:Nat):Nat→List ((Int×Int)×Int)
 |0=>M
 |j+1=>Dy f n c M d j++[((((itN f j d/n:Nat):Int),((itN f j d%n:Nat):Int)),c)]
theorem mpGet_app {M:List ((Int×Int)×Int)}{k x:Int×Int}{c:Int}:(BB (M++[(k,c)]) x).isSome=true↔(BB M x).isSome=true∨k=x:=by
 unfold BB
 rw[Option.isSome_map,Option.isSome_map,List.find?_append]
 cases hf:M.find? λkv=>kv.1==x with
 |some y=>simp
 |none=>simp[List.find?_cons];split<;>simp_all
theorem RepM.puts {n:Nat}{f:Nat→Nat}{M:List ((Int×Int)×Int)}{S:Nat→Prop}(h:RepM n M S)(c:Int)(d:Nat)(hd:∀j,itN f j d<n*n):∀j,RepM n (Dy f n c M d j) (Sto f S d j)
 |0=>λu v hu hv=>(h u v hu hv).trans ⟨.inl,λh=>h.elim id (fun⟨_,h,_⟩=>absurd h (Nat.not_lt_zero _))⟩
 |j+1=>λu v hu hv=>by
  have ih:=RepM.puts h c d hd j u v hu hv
  unfold Dy
  rw[mpGet_app,ih]
  have hP:=dn_eq (hd j)
  constructor
  ·rintro((hs|⟨i,hi,e'⟩)|e)
   ·exact .inl hs
   ·exact .inr ⟨i,by omega,e'⟩
   ·refine .inr ⟨j,by omega,?_⟩
    rw[Prod.mk.injEq] at e
    have e1:itN f j d/n=u:=by omega
    have e2:itN f j d%n=v:=by omega
    rw[←e1,←e2];exact hP.2.2.symm
  ·rintro(hs|⟨i,hi,e'⟩)
   ·exact .inl (.inl hs)
   ·by_cases hij:i=j
    ·subst hij
     right
     rw[e',B3 hv,B2 hv]
    ·exact .inl (.inr ⟨i,by omega,e'⟩)
noncomputable def BI (g T:LL)(d:Nat):LI:=(List.range (BM (fcN g T) d)).map λk=>((itN (fcN g T) k d/g.length:Nat):Int)
section
variable {g T : LL} (R : Rot g T)
include R
theorem Rot.it {d:Nat}(hd:daN g d)(j:Nat):∃u v w,u<g.length∧v<g.length∧w<g.length∧itN (fcN g T) j d=u*g.length+v∧adj g u v∧adj g v u∧Sx.nx (row T v) (u:Int)=(w:Int)∧itN (fcN g T) (j+1) d=v*g.length+w:=by
 obtain⟨u,v,hu,hv,e,ha⟩:=DK (da_it R.fc_da R.fc_perm hd.1 hd j)
 have hb:=R.ok.sym u v hu ha
 obtain⟨w,e1,hw,_⟩:=R.nx hv hb
 refine⟨u,v,w,hu,hv,hw,e,ha,hb,e1,?_⟩
 show fcN g T (itN (fcN g T) j d)=_
 rw[e,R.fc hu hv ha,e1,Int.toNat_natCast]
theorem Rot.spec_walk {d:Nat}(hd:daN g d){S:Nat→Prop}{l:List Bool}(hl:RepB (g.length*g.length) l S)(hS:SInv (g.length*g.length) (fcN g T) (daN g) S d)(hn:¬S d){β:Type}(k:List Bool×LI→Option β){x0 y0:Int}(hx:x0=((d/g.length:Nat):Int))(hy:y0=((d%g.length:Nat):Int)):
  (Aq (σ:=(List Bool)×LI×Int×Int) (ρ:=((List Bool)×LI)) (fun(s_3942:(List Bool)×LI×Int×Int)=>match s_3942 with|(l_3945,l_3948,x_3953,x_3954)=>(idx l_3945 (IntKind.i64.wrap ((IntKind.i64.wrap (x_3953*(T.length:Int)))+x_3954))).bind λe_4002=>cond (!e_4002) ((idx l_3945 (IntKind.i64.wrap ((IntKind.i64.wrap (x_3953*(T.length:Int)))+x_3954))).bind λe_4009=>(Bd l_3948 ([x_3953]:LI)).bind λl_4019=>(idx T x_3954).bind λe_4025=>(D.B0 e_4025 x_3953).bind λy_4031=>some (.inl ((l_3945.set (Int.toNat (IntKind.i64.wrap ((IntKind.i64.wrap (x_3953*(T.length:Int)))+x_3954))) true),l_4019,x_3954,y_4031))) (some (.inr (l_3945,l_3948)))) (l,([]:LI),x0,y0)).bind k
  =k (C7 (fcN g T) l d (BM (fcN g T) d),BI g T d):=by
 subst hx hy
 have h16:=R.ok.n16
 have hpl:=perN_le R.fc_perm hd.1
 have hsq:=DA h16
 refine Ch (λj=>(C7 (fcN g T) l d j,(List.range j).map (λk=>((itN (fcN g T) k d/g.length:Nat):Int)),((itN (fcN g T) j d/g.length:Nat):Int),((itN (fcN g T) j d%g.length:Nat):Int))) (BM (fcN g T) d) _ rfl (λj hj=> ?_) ?_
 ·obtain⟨u,v,w,hu,hv,hw,e,ha,hb,e1,e2⟩:=R.it hd j
  have hno:=hS.not_yet R.fc_perm R.fc_da hd.1 hd hn hj
  have hrep:=hl.sets (f:=fcN g T) d j
  dsimp only
  rw[e] at hno
  rw[List.range_succ,List.map_append,List.map_singleton,e2,B3 hw,B2 hw,e,B3 hv,B2 hv,R.len,wdn h16 hu hv,hrep.no (dn_lt hu hv) hno,bs,Bool.not_false,cond_true,bs,BQ (by simp;omega),bs,BZ (show v<T.length by rw[R.len];exact hv),bs,Behind_eq (R.rlen hv) (R.nodup hv) ((R.mem hv).2 hb),bs,e1,Int.toNat_natCast]
  show _=some (Sum.inl ((C7 (fcN g T) l d j).set (itN (fcN g T) j d) true,_))
  rw[e]
 ·obtain⟨u,v,w,hu,hv,hw,e,ha,hb,e1,e2⟩:=R.it hd (BM (fcN g T) d)
  have hyes:=SInv.closed (S:=S) R.fc_perm hd.1
  have hrep:=hl.sets (f:=fcN g T) d (BM (fcN g T) d)
  dsimp only
  rw[e] at hyes
  rw[e,B3 hv,B2 hv,R.len,wdn h16 hu hv,hrep.yes (dn_lt hu hv) hyes]
  rfl
theorem Rot.impl_walk {d:Nat}(hd:daN g d){S:Nat→Prop}{M:List ((Int×Int)×Int)}(hl:RepM g.length M S)(hS:SInv (g.length*g.length) (fcN g T) (daN g) S d)(hn:¬S d)(c:Int){β:Type}(k:List ((Int×Int)×Int)×LI→Option β){x0 y0:Int}(hx:x0=((d/g.length:Nat):Int))(hy:y0=((d%g.length:Nat):Int)):
  (Aq (σ:=(List ((Int×Int)×Int))×LI×Int×Int) (ρ:=((List ((Int×Int)×Int))×LI)) (fun(s_2833:(List ((Int×Int)×Int))×LI×Int×Int)=>match s_2833 with|(l_2836,l_2839,x_2846,x_2847)=>cond ((BB l_2836 (x_2846,x_2847)).isSome) (some (.inr (l_2836,l_2839))) ((mapPut l_2836 (x_2846,x_2847) c).bind λl_2883=>(Bd l_2839 ([x_2846]:LI)).bind λl_2891=>(D.v0 T x_2847 x_2846).bind λy_2899=>some (.inl (l_2883,l_2891,x_2847,y_2899)))) (M,([]:LI),x0,y0)).bind k
  =k (Dy (fcN g T) g.length c M d (BM (fcN g T) d),BI g T d):=by
 subst hx hy
 have h16:=R.ok.n16
 have hpl:=perN_le R.fc_perm hd.1
 have hsq:=DA h16
 have hrep:=λj=>hl.puts (f:=fcN g T) c d (Cs R.fc_perm hd.1) j
 refine Ch (λj=>(Dy (fcN g T) g.length c M d j,(List.range j).map (λk=>((itN (fcN g T) k d/g.length:Nat):Int)),((itN (fcN g T) j d/g.length:Nat):Int),((itN (fcN g T) j d%g.length:Nat):Int))) (BM (fcN g T) d) _ rfl (λj hj=> ?_) ?_
 ·obtain⟨u,v,w,hu,hv,hw,e,ha,hb,e1,e2⟩:=R.it hd j
  have hno:=hS.not_yet R.fc_perm R.fc_da hd.1 hd hn hj
  dsimp only
  rw[e] at hno
  have hf:(BB (Dy (fcN g T) g.length c M d j) ((u:Int),(v:Int))).isSome=false:=by
   rw[←Bool.not_eq_true,hrep j u v hu hv];exact hno
  rw[List.range_succ,List.map_append,List.map_singleton,e2,B3 hw,B2 hw,e,B3 hv,B2 hv,hf,cond_false]
  unfold mapPut
  rw[hf,if_neg (by decide),bs,BQ (by simp;omega),bs,R.after hv hb,bs,e1]
  show _=some (Sum.inl (Dy (fcN g T) g.length c M d j++[((((itN (fcN g T) j d/g.length:Nat):Int),((itN (fcN g T) j d%g.length:Nat):Int)),c)],_))
  rw[e,B3 hv,B2 hv]
 ·obtain⟨u,v,w,hu,hv,hw,e,ha,hb,e1,e2⟩:=R.it hd (BM (fcN g T) d)
  have hyes:=SInv.closed (S:=S) R.fc_perm hd.1
  dsimp only
  rw[e] at hyes
  have hf:=(hrep (BM (fcN g T) d) u v hu hv).2 hyes
  rw[e,B3 hv,B2 hv,hf]
  rfl
end
end Go.Sx

namespace Go.Sx
section
variable {g T : LL} (R : Rot g T)
include R
theorem Rot.spec_Faces :∃y,D.o0 T=some y∧y=B7 (fcN g T) (daN g) (BI g T) (g.length*g.length):=by
 have h16:=R.ok.n16
 have hsq:=DA h16
 have hTl:=R.len
 unfold D.o0
 rw[R.len,←Int.natCast_mul,w64 (by omega) (by omega),makeD_ok (Int.le_refl _) (by omega),bs]
 refine A5 (λs:List Bool×LL×Int=>∃S u,s.2.2=((u:Nat):Int)∧u≤g.length∧RepB (g.length*g.length) s.1 S∧AtN (g.length*g.length) (fcN g T) (daN g) (BI g T) (u*g.length) S s.2.1) (λs=>g.length-s.2.2.toNat) (λr=>r=B7 (fcN g T) (daN g) (BI g T) (g.length*g.length)) ?_ ?_ (λr hr=>⟨r,rfl,hr⟩)
 ·rintro⟨l,out,x⟩ ⟨S,u,rfl,hu,hB,hA⟩
  dsimp only at hB hA ⊢
  by_cases hul:u<g.length
  ·have huT:u<T.length:=by omega
   rw[dlt hul,cond_true]
   refine A5 (λs:List Bool×LL×Int=>∃S v,s.2.2=((v:Nat):Int)∧v≤g.length∧RepB (g.length*g.length) s.1 S∧AtN (g.length*g.length) (fcN g T) (daN g) (BI g T) (u*g.length+v) S s.2.1) (λs=>g.length-s.2.2.toNat) (λr:List Bool×LL=>∃S,RepB (g.length*g.length) r.1 S∧AtN (g.length*g.length) (fcN g T) (daN g) (BI g T) (u*g.length+g.length) S r.2) ?_ ⟨S,0,rfl,Nat.zero_le _,hB,hA⟩ ?_
   ·rintro⟨l,out,x⟩ ⟨S,v,rfl,hv,hB,hA⟩
    dsimp only at hB hA ⊢
    by_cases hvl:v<g.length
    ·have hd:=dn_lt hul hvl
     have hm:=R.mem hul (x:=(v:Int))
     rw[dlt hvl,cond_true,BZ huT,bs,Dk _ _ (by have:=R.rlen hul;unfold Sh;omega),bs]
     by_cases ha:adj g u v
     ·have hda:=(CS hul hvl).2 ha
      rw[decide_eq_true (hm.2 ha),Bool.not_true,cond_false,wdn h16 hul hvl]
      by_cases hs:S (u*g.length+v)
      ·rw[hB.yes hd hs,bs,bs,cond_true,wi (by omega)]
       exact⟨_,rfl,⟨S,v+1,rfl,hvl,hB,hA.pass R.fc_perm hd hda hs⟩,by dsimp only;omega⟩
      ·rw[hB.no hd hs,bs,bs,cond_false]
       have hw:=R.spec_walk hda hB hA.1 hs (fun(z:List Bool×LI)=>match z with|(l_3993,l_3996)=>(Bd out ([l_3996]:LL)).bind λl_4045=>(some (.inl (l_3993,l_4045,(IntKind.i64.wrap ((v:Int)+1)))):Option ((List Bool×LL×Int) ⊕ (List Bool×LL)))) (x0:=(u:Int)) (y0:=(v:Int)) (by rw[B3 hvl]) (by rw[B2 hvl])
       rw[R.len] at hw
       have hol:out.length≤u*g.length+v:=by rw[hA.2];exact Dw _
       refine⟨.inl (C7 (fcN g T) l (u*g.length+v) (BM (fcN g T) (u*g.length+v)),out++[BI g T (u*g.length+v)],((v+1:Nat):Int)),hw.trans ?_,?_⟩
       ·dsimp only
        rw[BQ (by simp;omega),bs,wi (by omega)]
       ·exact⟨⟨_,v+1,rfl,hvl,hB.sets _ _,hA.next R.fc_perm R.fc_da hd hda hs⟩,by dsimp only;omega⟩
     ·rw[decide_eq_false (mt hm.1 ha),Bool.not_false,cond_true,bs,cond_true,wi (by omega)]
      exact⟨_,rfl,⟨S,v+1,rfl,hvl,hB,hA.skip R.fc_perm R.fc_da (mt (CS hul hvl).1 ha)⟩,by dsimp only;omega⟩
    ·obtain rfl:v=g.length:=by omega
     rw[Bo,cond_false]
     exact⟨_,rfl,S,hB,hA⟩
   ·rintro⟨l,out⟩ ⟨S,hB,hA⟩
    dsimp only at hB hA ⊢
    rw[wi (by omega)]
    exact⟨_,rfl,⟨S,u+1,rfl,hul,hB,by rw[Nat.succ_mul];exact hA⟩,by dsimp only;omega⟩
  ·obtain rfl:u=g.length:=by omega
   rw[Bo,cond_false]
   exact⟨_,rfl,hA.2⟩
 ·refine⟨λ_=>False,0,rfl,Nat.zero_le _,⟨List.length_replicate,λx hx=> ?_⟩,?_,?_⟩
  ·rw[List.getD_eq_getElem?_getD,List.getElem?_replicate]
   split<;>simp
  ·intro x hx
   rw[Nat.zero_mul]
   exact⟨False.elim,fun⟨_,j,hj⟩=>absurd hj (Nat.not_lt_zero _)⟩
  ·rw[Nat.zero_mul];rfl
omit R in
def cutN (n:Nat)(N:LI)(k:Nat):Nat:=(N.getD k n).toNat
theorem Rot.cut_lt {u k:Nat}(hu:u<g.length)(hk:k<(row g u).length):∃v,(row g u)[k]=((v:Nat):Int)∧cutN g.length (row g u) k=v∧v<g.length∧adj g u v:=by
 obtain⟨v,e,hv,ha⟩:=R.ok.mem hu (List.getElem_mem hk)
 refine⟨v,e,?_,hv,ha⟩
 unfold cutN
 rw[AI hk,e];rfl
omit R in
theorem cut_end {n:Nat}{N:LI}:cutN n N N.length=n:=by
 unfold cutN
 rw[List.getD_eq_getElem?_getD,List.getElem?_eq_none (Nat.le_refl _)];rfl
theorem Rot.cut_le {u k:Nat}(hu:u<g.length)(hk:k≤(row g u).length):cutN g.length (row g u) k≤g.length:=by
 by_cases c:k<(row g u).length
 ·obtain⟨v,_,e,hv,_⟩:=R.cut_lt hu c
  omega
 ·obtain rfl:k=(row g u).length:=by omega
  rw[cut_end];exact Nat.le_refl _
theorem Rot.inc {u i j:Nat}(hu:u<g.length)(hj:j<(row g u).length)(hij:i<j):(row g u)[i]<(row g u)[j]:=by
 have:=(R.ok.rows u hu).1
 unfold Inc at this
 exact List.pairwise_iff_getElem.1 this i j (by omega) hj hij
theorem Rot.gap0 {u v:Nat}(hu:u<g.length)(hv:v<cutN g.length (row g u) 0):¬adj g u v:=by
 intro ha
 obtain⟨i,hi,e⟩:=List.mem_iff_getElem.1 (show (v:Int)∈row g u from ha)
 obtain⟨w,e1,e2,_⟩:=R.cut_lt hu (show 0<(row g u).length by omega)
 rcases Nat.eq_zero_or_pos i with h0|h0
 ·subst h0;omega
 ·have:=R.inc hu hi h0
  omega
theorem Rot.gap {u k v:Nat}(hu:u<g.length)(hk:k<(row g u).length)(h1:cutN g.length (row g u) k<v)(h2:v<cutN g.length (row g u) (k+1)):¬adj g u v:=by
 intro ha
 obtain⟨i,hi,e⟩:=List.mem_iff_getElem.1 (show (v:Int)∈row g u from ha)
 obtain⟨w,e1,e2,_⟩:=R.cut_lt hu hk
 have hik:k<i:=Classical.byContradiction λhn=>by
  by_cases c:i=k
  ·subst c;omega
  ·have:=R.inc hu hk (show i<k by omega)
   omega
 obtain⟨w',e1',e2',_⟩:=R.cut_lt hu (show k+1<(row g u).length by omega)
 by_cases c:i=k+1
 ·subst c;omega
 ·have:=R.inc hu hi (show k+1<i by omega)
  omega
theorem Rot.far {u a b:Nat}(hu:u<g.length){S:Nat→Prop}{out:LL}(hab:a≤b)(hb:b≤g.length)(hA:AtN (g.length*g.length) (fcN g T) (daN g) (BI g T) (u*g.length+a) S out)(hno:∀v,a≤v→v<b→¬adj g u v):AtN (g.length*g.length) (fcN g T) (daN g) (BI g T) (u*g.length+b) S out:=by
 have:=hA.far R.fc_perm R.fc_da (b-a) (λd h1 h2 hd=>by
  have e:d=u*g.length+(d-u*g.length):=by omega
  have hv:d-u*g.length<g.length:=by omega
  rw[e,CS hu hv] at hd
  exact hno _ (by omega) (by omega) hd)
 rwa [show u*g.length+a+(b-a)=u*g.length+b by omega] at this
theorem Rot.impl_faces :∃y,D.l0 T=some y∧y.1=B7 (fcN g T) (daN g) (BI g T) (g.length*g.length):=by
 have h16:=R.ok.n16
 have hsq:=DA h16
 have hTl:=R.len
 unfold D.l0
 rw[R.len]
 refine A5 (λs:LL×List ((Int×Int)×Int)×Int=>∃S u,s.2.2=((u:Nat):Int)∧u≤g.length∧RepM g.length s.2.1 S∧AtN (g.length*g.length) (fcN g T) (daN g) (BI g T) (u*g.length) S s.1) (λs=>g.length-s.2.2.toNat) (λr=>r.1=B7 (fcN g T) (daN g) (BI g T) (g.length*g.length)) ?_ ?_ (λr hr=>⟨r,rfl,hr⟩)
 ·rintro⟨out,M,x⟩ ⟨S,u,rfl,hu,hB,hA⟩
  dsimp only at hB hA ⊢
  by_cases hul:u<g.length
  ·have huT:u<T.length:=by omega
   have hrl:=R.ok.row_len hul
   obtain⟨y,_,ey,hp,hso⟩:=sorted_any (row T u) (by have:=R.rlen hul;omega)
   have hyN:y=row g u:=(rowIs hp hso (R.ok.rows u hul).1).2 (R.rows u hul).1
   rw[dlt hul,cond_true,BZ huT,bs,ey,bs,hyN]
   refine A5 (λs:LL×List ((Int×Int)×Int)×Int=>∃S k,s.2.2=((k:Nat):Int)∧k≤(row g u).length∧RepM g.length s.2.1 S∧AtN (g.length*g.length) (fcN g T) (daN g) (BI g T) (u*g.length+cutN g.length (row g u) k) S s.1) (λs=>(row g u).length-s.2.2.toNat) (λr:LL×List ((Int×Int)×Int)=>∃S,RepM g.length r.2 S∧AtN (g.length*g.length) (fcN g T) (daN g) (BI g T) (u*g.length+g.length) S r.1) ?_ ⟨S,0,rfl,Nat.zero_le _,hB,R.far hul (Nat.zero_le _) (R.cut_le hul (Nat.zero_le _)) hA (λv _ h=>R.gap0 hul h)⟩ ?_
   ·rintro⟨out,M,x⟩ ⟨S,k,rfl,hk,hB,hA⟩
    dsimp only at hB hA ⊢
    by_cases hkl:k<(row g u).length
    ·obtain⟨v,e1,e2,hvl,ha⟩:=R.cut_lt hul hkl
     have hd:=dn_lt hul hvl
     have hda:=(CS hul hvl).2 ha
     have hc1:=R.cut_le hul (k:=k+1) hkl
     have hc2:v<cutN g.length (row g u) (k+1):=by
      by_cases c:k+1<(row g u).length
      ·obtain⟨w,f1,f2,_,_⟩:=R.cut_lt hul c
       have:=R.inc hul c (show k<k+1 by omega)
       omega
      ·rw[show k+1=(row g u).length by omega,cut_end];exact hvl
     have hgo:∀S out,AtN (g.length*g.length) (fcN g T) (daN g) (BI g T) (u*g.length+v+1) S out→AtN (g.length*g.length) (fcN g T) (daN g) (BI g T) (u*g.length+cutN g.length (row g u) (k+1)) S out:=
      λS out h=>R.far (a:=v+1) hul hc2 hc1 h (λw h1 h2=>R.gap hul hkl (by omega) h2)
     rw[e2] at hA
     rw[dlt hkl,cond_true,AN hkl,e1,bs]
     by_cases hs:S (u*g.length+v)
     ·rw[(hB u v hul hvl).2 hs,cond_true,wi (by omega)]
      exact⟨_,rfl,⟨S,k+1,rfl,hkl,hB,hgo _ _ (hA.pass R.fc_perm hd hda hs)⟩,by dsimp only;omega⟩
     ·have hf:(BB M ((u:Int),(v:Int))).isSome=false:=by
       rw[←Bool.not_eq_true,hB u v hul hvl];exact hs
      rw[hf,cond_false]
      have hw:=R.impl_walk hda hB hA.1 hs (out.length:Int) (fun(z:List ((Int×Int)×Int)×LI)=>match z with|(l_2873,l_2876)=>(Bd out ([l_2876]:LL)).bind λl_2912=>(some (.inl (l_2912,l_2873,(IntKind.i64.wrap ((k:Int)+1)))):Option ((LL×List ((Int×Int)×Int)×Int) ⊕ (LL×List ((Int×Int)×Int))))) (x0:=(u:Int)) (y0:=(v:Int)) (by rw[B3 hvl]) (by rw[B2 hvl])
      have hol:out.length≤u*g.length+v:=by rw[hA.2];exact Dw _
      refine⟨.inl (out++[BI g T (u*g.length+v)],Dy (fcN g T) g.length (out.length:Int) M (u*g.length+v) (BM (fcN g T) (u*g.length+v)),((k+1:Nat):Int)),hw.trans ?_,?_⟩
      ·dsimp only
       rw[BQ (by simp;omega),bs,wi (by omega)]
      ·exact⟨⟨_,k+1,rfl,hkl,hB.puts _ _ (Cs R.fc_perm hd) _,hgo _ _ (hA.next R.fc_perm R.fc_da hd hda hs)⟩,by dsimp only;omega⟩
    ·obtain rfl:k=(row g u).length:=by omega
     rw[cut_end] at hA
     rw[Bo,cond_false]
     exact⟨_,rfl,S,hB,hA⟩
   ·rintro⟨out,M⟩ ⟨S,hB,hA⟩
    dsimp only at hB hA ⊢
    rw[wi (by omega)]
    exact⟨_,rfl,⟨S,u+1,rfl,hul,hB,by rw[Nat.succ_mul];exact hA⟩,by dsimp only;omega⟩
  ·obtain rfl:u=g.length:=by omega
   rw[Bo,cond_false]
   exact⟨_,rfl,hA.2⟩
 ·refine⟨λ_=>False,0,rfl,Nat.zero_le _,λu v _ _=> ?_,?_,?_⟩
  ·exact⟨λh=>by simp[BB] at h,False.elim⟩
  ·intro x hx
   rw[Nat.zero_mul]
   exact⟨False.elim,fun⟨_,j,hj⟩=>absurd hj (Nat.not_lt_zero _)⟩
  ·rw[Nat.zero_mul];rfl
end
end Go.Sx

namespace Go.Sx
theorem sumN_cat (h:Nat→Nat)(n k:Nat):Bc h (n+k)=Bc h n+Bc (λi=>h (n+i)) k:=by
 induction k with
 |zero=>rfl
 |succ k ih=>show Bc h (n+k)+h (n+k)=_+(Bc _ k+h (n+k));omega
theorem sumN_rows (h:Nat→Nat)(n k:Nat):Bc h (k*n)=Bc (λu=>Bc (λv=>h (u*n+v)) n) k:=by
 induction k with
 |zero=>rw[Nat.zero_mul];rfl
 |succ k ih=>rw[Nat.succ_mul,sumN_cat,ih];rfl
theorem sumN_only {f:Nat→Nat}{c:Nat}:∀{n:Nat},c<n→(∀i,i<n→i≠c→f i=0)→Bc f n=f c
 |n+1,hc,h=>by
  show Bc f n+f n=f c
  by_cases e:c=n
  ·subst e
   have:Bc f c=Bc (λ_=>0) c:=AX λi hi=>h i (by omega) (by omega)
   rw[this,CK];omega
  ·rw[sumN_only (n:=n) (by omega) (λi hi hne=>h i (by omega) hne),h n (by omega) (λe'=>e e'.symm)];rfl
theorem C9 {n:Nat}{p q:Nat→Prop}(h:∀x,x<n→(p x↔q x)):Bz n p=Bz n q:=
 AX λx hx=>by
  by_cases c:p x
  ·rw[A8 c,A8 ((h x hx).1 c)]
  ·rw[AQ c,AQ (mt (h x hx).2 c)]
theorem cntP_split {n:Nat}(p q:Nat→Prop):Bz n p=Bz n (λx=>q x∧p x)+Bz n (λx=>¬q x∧p x):=by
 unfold Bz
 rw[←CU]
 refine AX λx _=> ?_
 by_cases c:p x<;>by_cases d:q x
 ·rw[A8 c,A8 ⟨d,c⟩,AQ (λh=>h.1 d)]
 ·rw[A8 c,AQ (λh=>d h.1),A8 ⟨d,c⟩]
 ·rw[AQ c,AQ (λh=>c h.2),AQ (λh=>c h.2)]
 ·rw[AQ c,AQ (λh=>c h.2),AQ (λh=>c h.2)]
theorem cntP_all {n:Nat}:Bz n (λ_=>True)=n:=by
 induction n with
 |zero=>rfl
 |succ n ih=>show Bz n _+indP True=n+1;rw[ih,A8 trivial]
theorem outAt_cnt (f:Nat→Nat)(da:Nat→Prop)(face:Nat→LI)(b:Nat):(B7 f da face b).length=Bz b (λd=>da d∧B8 f d):=by
 unfold B7
 rw[List.length_map,Db]
 classical
 refine AX λx _=> ?_
 by_cases c:da x∧B8 f x
 ·rw[A8 c,decide_eq_true c];rfl
 ·rw[AQ c,decide_eq_false c];rfl
theorem led_fix {f:Nat→Nat}{d:Nat}(h:f d=d):B8 f d:=by
 intro k
 have:itN f k d=d:=by
  induction k with
  |zero=>rfl
  |succ k ih=>unfold itN;rw[ih,h]
 omega
theorem Ea {m:Nat}{f:Nat→Nat}{da:Nat→Prop}(h:∀d,¬da d→f d=d):cycN m f=Bz m (λd=>da d∧B8 f d)+Bz m (λd=>¬da d):=by
 unfold cycN
 rw[cntP_split (B8 f) da]
 congr 1
 exact C9 λx _=>⟨λh=>h.1,λh'=>⟨h',led_fix (h x h')⟩⟩
section
variable {g T : LL} (R : Rot g T)
include R
theorem Rot.cnt_rows (p:Nat→Prop):Bz (g.length*g.length) (λd=>daN g d∧p d)=Bc (λu=>Bz g.length (λv=>adj g u v∧p (u*g.length+v))) g.length:=by
 unfold Bz
 rw[sumN_rows]
 refine AX λu hu=>AX λv hv=> ?_
 have h:=CS hu hv
 by_cases c:adj g u v∧p (u*g.length+v)
 ·rw[A8 c,A8 ⟨h.2 c.1,c.2⟩]
 ·rw[AQ c,AQ (λh'=>c ⟨h.1 h'.1,h'.2⟩)]
theorem Rot.ro_it {u i:Nat}(hu:u<g.length)(hi:i<(row T u).length)(k:Nat):itN (roN g T) k (u*g.length+((row T u)[i]).toNat)=u*g.length+((row T u)[(i+k)%(row T u).length]'(Nat.mod_lt _ (by omega))).toNat:=by
 have hin:∀j (hj:j<(row T u).length),∃w:Nat,(row T u)[j]=(w:Int)∧w<g.length∧adj g u w:=λj hj=>by
  obtain⟨w,e,hw,h⟩:=R.ok.mem hu ((R.mem hu).1 (List.getElem_mem hj))
  exact⟨w,e,hw,h⟩
 induction k with
 |zero=>
  have:(i+0)%(row T u).length=i:=Nat.mod_eq_of_lt hi
  simp only[this];rfl
 |succ k ih=>
  have hm:(i+k)%(row T u).length<(row T u).length:=Nat.mod_lt _ (by omega)
  obtain⟨w,e,hw,ha⟩:=hin _ hm
  show roN g T (itN (roN g T) k _)=_
  rw[ih,e,Int.toNat_natCast,R.ro hu hw ha,←e,nx_at (R.nodup hu) hm]
  have:((i+k)%(row T u).length+1)%(row T u).length=(i+(k+1))%(row T u).length:=by
   rw[Nat.mod_add_mod];rfl
  simp only[this]
theorem Rot.ro_led {u v:Nat}(hu:u<g.length)(hv:v<g.length)(ha:adj g u v):B8 (roN g T) (u*g.length+v)↔(v:Int)=(row g u).getD 0 0:=by
 obtain⟨i,hi,e⟩:=List.mem_iff_getElem.1 ((R.mem hu).2 ha)
 have hl:=(R.rows u hu).1.1
 have h0:0<(row T u).length:=by omega
 have h0':0<(row g u).length:=by omega
 have hh:=(R.rows u hu).2 h0
 rw[AI h0,AI h0'] at hh
 have hmin:∀x∈row g u,(row g u)[0]≤x:=λx hx=>by
  obtain⟨j,hj,rfl⟩:=List.mem_iff_getElem.1 hx
  rcases Nat.eq_zero_or_pos j with h|h
  ·subst h;exact Int.le_refl _
  ·have:=R.inc hu hj h;omega
 rw[AI h0']
 have hit:=R.ro_it hu hi
 rw[e,Int.toNat_natCast] at hit
 constructor
 ·intro hled
  have h1:=hled ((row T u).length-i)
  rw[hit] at h1
  have:(i+((row T u).length-i))%(row T u).length=0:=by rw[show i+((row T u).length-i)=(row T u).length by omega,Nat.mod_self]
  simp only[this] at h1
  rw[hh] at h1
  have h2:=hmin _ ha
  obtain⟨w,e2,_⟩:=R.cut_lt hu h0'
  omega
 ·intro hv0 k
  rw[hit]
  have h2:=hmin _ ((R.mem hu).1 (List.getElem_mem (Nat.mod_lt (i+k) h0)))
  rw[←hv0] at h2
  omega
theorem Rot.cyc_ro :Bz (g.length*g.length) (λd=>daN g d∧B8 (roN g T) d)=Bz g.length (λu=>row g u≠[]):=by
 rw[R.cnt_rows]
 refine AX λu hu=> ?_
 by_cases h0:row g u=[]
 ·rw[AQ (λh=>h h0)]
  have:Bz g.length (λv=>adj g u v∧B8 (roN g T) (u*g.length+v))=Bc (λ_=>0) g.length:=AX λv hv=>AQ λh=>by
   have:=h.1
   unfold adj at this
   rw[h0] at this;cases this
  rw[this,CK]
 ·have hlen:0<(row g u).length:=List.length_pos_iff.2 h0
  obtain⟨w,e,_,hw,ha⟩:=R.cut_lt hu hlen
  rw[A8 h0]
  have:=sumN_only (f:=λv=>indP (adj g u v∧B8 (roN g T) (u*g.length+v))) hw (λv hv hne=>AQ λh=>by
   have:=(R.ro_led hu hv h.1).1 h.2
   rw[AI hlen,e] at this
   omega)
  unfold Bz
  rw[this]
  exact A8 ⟨ha,(R.ro_led hu hw ha).2 (by rw[AI hlen,e])⟩
theorem Rot.op_led {u v:Nat}(hu:u<g.length)(hv:v<g.length)(ha:adj g u v):B8 (opN g) (u*g.length+v)↔u<v:=by
 have hne:u≠v:=λe=>R.ok.irr u hu (by rw[←e] at ha;exact ha)
 have hle:u*g.length+v≤v*g.length+u↔u<v:=by
  constructor
  ·intro h
   refine Classical.byContradiction λhn=> ?_
   have:(v+1)*g.length≤u*g.length:=Nat.mul_le_mul_right _ (by omega)
   rw[Nat.succ_mul] at this
   omega
  ·intro h
   have:(u+1)*g.length≤v*g.length:=Nat.mul_le_mul_right _ (by omega)
   rw[Nat.succ_mul] at this
   omega
 rw[←hle]
 have hb:=R.ok.sym u v hu ha
 have hit:∀k,itN (opN g) k (u*g.length+v)=u*g.length+v∨itN (opN g) k (u*g.length+v)=v*g.length+u:=by
  intro k
  induction k with
  |zero=>exact .inl rfl
  |succ k ih=>
   unfold itN
   rcases ih with e|e
   ·rw[e,op_dn hu hv ha];exact .inr rfl
   ·rw[e,op_dn hv hu hb];exact .inl rfl
 constructor
 ·intro h
  have:=h 1
  unfold itN itN at this
  rwa [op_dn hu hv ha] at this
 ·intro h k
  rcases hit k with e|e<;>omega
theorem Rot.even :((B7 (fcN g T) (daN g) (BI g T) (g.length*g.length)).length+Bz g.length (λu=>row g u≠[])+(Ca g).length)%2=0:=by
 have h1:=cyc_mul R.ro_perm R.op_perm
 have hf:(λx=>roN g T (opN g x))=fcN g T:=rfl
 rw[hf,Ea (da:=daN g) (f:=fcN g T) (λd h=>by unfold fcN;rw[op_no h,ro_no h]),Ea (da:=daN g) (f:=roN g T) (λd h=>ro_no h),Ea (da:=daN g) (f:=opN g) (λd h=>op_no h),R.cyc_ro] at h1
 rw[outAt_cnt]
 have hall:=cntP_split (n:=g.length*g.length) (λ_=>True) (daN g)
 rw[cntP_all] at hall
 have hn:Bz (g.length*g.length) (λx=>¬daN g x∧True)=Bz (g.length*g.length) (λd=>¬daN g d):=C9 λx _=>⟨λh=>h.1,λh=>⟨h,trivial⟩⟩
 rw[hn,R.cnt_rows] at hall
 have hbit:∀(p:Prop) [Decidable p],indP p=bit (decide p):=λp _=>by
  by_cases c:p
  ·rw[A8 c,decide_eq_true c];rfl
  ·rw[AQ c,decide_eq_false c];rfl
 have hA:∀u v,Decidable (adj g u v):=λu v=>Classical.propDecidable _
 have e1:Bc (λu=>Bz g.length (λv=>adj g u v∧True)) g.length=S2 g.length (λu v=>decide (adj g u v)):=AX λu hu=>AX λv hv=>by
  rw[←hbit]
  by_cases c:adj g u v
  ·rw[A8 c,A8 ⟨c,trivial⟩]
  ·rw[AQ c,AQ (λh=>c h.1)]
 have e2:Bz (g.length*g.length) (λd=>daN g d∧B8 (opN g) d)=S2 g.length (λu v=>decide (adj g u v)&&decide (u<v)):=by
  rw[R.cnt_rows]
  refine AX λu hu=>AX λv hv=> ?_
  show indP (adj g u v∧B8 (opN g) (u*g.length+v))=bit (decide (adj g u v)&&decide (u<v))
  rw[←Bool.decide_and,←hbit]
  by_cases c:adj g u v
  ·have:=R.op_led hu hv c
   by_cases d:u<v
   ·rw[A8 ⟨c,this.2 d⟩,A8 ⟨c,d⟩]
   ·rw[AQ (λh=>d (this.1 h.2)),AQ (λh=>d h.2)]
  ·rw[AQ (λh=>c h.1),AQ (λh=>c h.1)]
 have e3:=S2_half (n:=g.length) (A:=λu v=>decide (adj g u v)) (lt:=λu v=>decide (u<v)) (λu w hu hw=>by
   rw[Bool.eq_iff_iff,decide_eq_true_eq,decide_eq_true_eq];exact⟨R.ok.sym u w hu,R.ok.sym w u hw⟩)
  (λu w hu hw h=>by
   rw[decide_eq_true_eq] at h
   have:u≠w:=λe=>R.ok.irr u hu (by rw[←e] at h;exact h)
   rw[decide_eq_true_eq,decide_eq_true_eq];omega)
  (λu w hu hw h1 h2=>by rw[decide_eq_true_eq] at h1 h2;omega)
 have e4:(Ca g).length=S2 g.length (λu v=>decide (adj g u v)&&decide (u<v)):=by
  rw[edgesF_len]
  refine AX λu hu=> ?_
  have hr:Az (Sx.mk (row g u))=row g u:=elems_mk R.ok.n16 (R.ok.rows u hu).1 (R.ok.rows u hu).2
  have hm:∀v,has (Sx.mk (row g u)) v=decide (adj g u v):=λv=>by
   rw[Dj (λx hx=>by have:=(R.ok.rows u hu).2 x hx;have:=R.ok.n16;omega),Bool.eq_iff_iff,decide_eq_true_eq,decide_eq_true_eq];exact Iff.rfl
  rw[←hr,Df (n:=g.length) (by have:=R.ok.n16;omega) (λv hv=>R.ok.lt hu (by rw[hm] at hv;exact of_decide_eq_true hv))]
  refine AX λv hv=> ?_
  rw[hm]
  congr 2
  rw[Bool.eq_iff_iff,decide_eq_true_eq,decide_eq_true_eq];omega
 omega
end
end Go.Sx

namespace Go.Sx
def Pot (n:Nat)(h w:Nat→Nat→Nat)(a:Nat):Nat:=Bc (λk=>Bc (λu=>(if a≤k then w k u else 0)*h k u) n) (2^n)
def zer (n s:Nat):Nat:=Bc (λu=>bit (!s.testBit u)) n
section
variable {F : LI} {n : Nat} (hF : FOk F n) (h1 : 1 ≤ n) (h16 : n ≤ 16)
include hF h1 h16
end
end Go.Sx

namespace Go.Sx
section
variable {F : LI} {n : Nat} (hF : FOk F n) (h1 : 1 ≤ n) (h16 : n ≤ 16)
include hF h1 h16
end
end Go.Sx

namespace Go.Sx
section
variable {g : LL} (hg : GOk g)
include hg
end
end Go.Sx

namespace Go.Sx
section
variable {g : LL} (hg : GOk g)
include hg
end
end Go.Sx

namespace Go.Sx
section
variable {g : LL} (hg : GOk g)
include hg
end
end Go.Sx

namespace Go.Sx
theorem bit64z {s:Int}(h:VS s){v:Nat}(hv:v<64):(iand .i64 (Bn .i64 s (v:Int)) 1==0)= !has s v:=by
 have h1:=bit64 h hv
 have hb:iand .i64 (Bn .i64 s (v:Int)) 1=0∨iand .i64 (Bn .i64 s (v:Int)) 1=1:=by
  rw[shr64 h v hv]
  have hlt:s.toNat>>>v<4294967296:=by
   obtain⟨m,rfl,hm⟩:=h.nat
   rw[Nat.shiftRight_eq_div_pow]
   exact Nat.lt_of_le_of_lt (Nat.div_le_self _ _) hm
  rw[show (1:Int)=((1:Nat):Int) from rfl,and64 hlt (by omega),Nat.and_one_is_mod]
  omega
 rw[←h1]
 rcases hb with e|e<;>rw[e]<;>rfl
theorem l27Low_ok {s:Int}(h:VS s){k:Nat}(hk:k<32)(hs:has s k=true)(hl:∀v,v<k→has s v=false):D.j0 s=some (k:Int):=by
 unfold D.j0
 refine(Ch (λi=>((i:Nat):Int)) k (k:Int) rfl (λi hi=> ?_) ?_).trans rfl
 ·rw[uw (by omega),DC,cond_false,bit64z h (by omega),hl i hi,Bool.not_false,cond_true,wi (by omega)]
 ·rw[uw (by omega),DC,cond_false,bit64z h (by omega),hs,Bool.not_true,cond_false]
theorem andnot64 {a b:Int}(ha:VS a)(hb:VS b):iandNot .i64 a b=iandNot .u32 a b:=by
 obtain⟨m,rfl,hm⟩:=ha.nat;obtain⟨n,rfl,hn⟩:=hb.nat
 have hle:(BitVec.ofInt 64 (m:Int)&&& ~~~(BitVec.ofInt 64 (n:Int))).toNat≤m:=by
  rw[BitVec.toNat_and,Cf m (by omega)];exact Nat.and_le_left
 have e:iandNot .i64 (m:Int) (n:Int)=(((BitVec.ofInt 64 (m:Int)&&& ~~~(BitVec.ofInt 64 (n:Int))).toNat:Nat):Int):=by
  show IntKind.i64.wrap (((BitVec.ofInt 64 (m:Int)&&& ~~~(BitVec.ofInt 64 (n:Int))).toNat:Nat):Int)=_
  rw[w64 (by omega) (by omega)]
 rw[e]
 refine VS.ext ⟨by omega,by omega⟩ (VS.iandNot _ _) (λv hv=> ?_)
 have h1:(BitVec.ofInt 64 (m:Int)).getLsbD v=m.testBit v:=by rw[BitVec.getLsbD,Cf m (by omega)]
 have h2:(BitVec.ofInt 64 (n:Int)).getLsbD v=n.testBit v:=by rw[BitVec.getLsbD,Cf n (by omega)]
 rw[CE ⟨by omega,by omega⟩ ⟨by omega,by omega⟩,BK,BK,BK,←BitVec.getLsbD,BitVec.getLsbD_and,BitVec.getLsbD_not,h1,h2]
 simp[show v<64 by omega]
section
variable {g : LL} (hg : GOk g)
include hg
end
end Go.Sx

namespace Go.Sx
section
variable {g : LL} (hg : GOk g)
include hg
end
end Go.Sx

namespace Go.Sx
noncomputable def wv (F:LI)(rec:Int→Int)(m v:Int):Int:=if((Az (bh F m v)).length:Int)<rec (ior .u32 m (ishl .u32 1 v)) then rec (ior .u32 m (ishl .u32 1 v)) else((Az (bh F m v)).length:Int)
noncomputable def wd (F:LI)(n:Nat):Nat→Int→Int
 |0,_=>0
 |k+1,m=>(Az (rm n m)).foldl (λb v=>if wv F (wd F n k) m v<b then wv F (wd F n k) m v else b) 16
section
variable {F : LI} {n k : Nat} (hn : n ≤ 16) (hF : FOk F n)
include hn hF
end
section
variable {A : Nat → Nat → Prop} {n k : Nat}
end
section
variable {F : LI} {n k : Nat} (hn : n ≤ 16) (hF : FOk F n)
include hn hF
end
end Go.Sx

namespace Go.Sx
def Tch (F:LI)(s t:Int):Prop:=∃x y,El s x∧El t y∧(x=y∨nb F x y=true)
section
variable {F : LI} {n k : Nat} (hn : n ≤ 16) (hF : FOk F n)
include hn hF
end
end Go.Sx

namespace Go.Sx
section
variable {g : LL} (hg : GOk g)
include hg
end
end Go.Sx

namespace Go.Sx
section
variable {g : LL} (hg : GOk g)
include hg
end
end Go.Sx

namespace Go.Sx
section
variable {g : LL} (hg : GOk g)
include hg
end
end Go.Sx

namespace Go.Sx
section
variable {g B K : LL} (hg : GOk g) (h : TB g B K)
include hg h
end
end Go.Sx

namespace Go.Sx
noncomputable def bo (F:LI)(n:Nat)(most:Int):Nat→Int→LI
 |0,_=>[]
 |k+1,m=>match(Az (rm n m)).find? (λv=>decide (wv F (wd F n k) m v≤most)) with
  |some v=>v::bo F n most k (ior .u32 m (ishl .u32 1 v))
  |none=>[]
section
variable {g : LL} {o F L : LI} (hg : GOk g) (ho : OOk g o) (hF : Fill g o F L)
include hg ho hF
end
end Go.Sx

namespace Go.Sx
section
variable {g : LL} (hg : GOk g)
include hg
end
end Go.Sx

namespace Go.Sx
section
variable {F : LI} {n : Nat} (hn : n ≤ 16) (hF : FOk F n)
include hn hF
end
section
variable {g : LL} (hg : GOk g)
include hg
end
end Go.Sx

namespace Go.Sx
def Bef (s t:Int):Prop:=∃m,El s m∧∀x,El t x→m<x
section
variable {F : LI} {n : Nat} (hn : n ≤ 16) (hF : FOk F n)
include hn hF
theorem partsOf_ord {W:Int}(hW:In n W):∃l,D.e0 F W=some l∧l.Pairwise Bef:=by
 have main:=A5 (k:=λl=>some l) (Q:=λl:LI=>l.Pairwise Bef) (step:=fun(s_66:Int×LI)=>match s_66 with|(x_69,l_70)=>cond (x_69 !=0) ((D.E x_69).bind λy_109=>(D.U F y_109 x_69).bind λy_116=>(Bd l_70 ([y_116]:LI)).bind λl_127=>some (.inl ((iandNot .u32 x_69 y_116),l_127))) (some (.inr l_70)))
  (s:=(W,([]:LI))) (λq=>VS q.1∧(∀x,El q.1 x→El W x)∧(∀s∈q.2,∃m,El s m∧∀x,El q.1 x→m<x)∧q.2.Pairwise Bef∧q.2.length+(Az q.1).length≤32)
  (λq=>(Az q.1).length) (λl=>l.Pairwise Bef) ?_ ⟨hW.1,λx h=>h,by simp,by simp,by have:=BS W;simp;omega⟩ (λr hr=>⟨r,rfl,hr⟩)
 ·obtain⟨l,e,hl⟩:=main
  refine⟨l,?_,hl⟩
  unfold D.e0
  exact e
 ·rintro⟨W',l⟩ ⟨v1,h1,h2,h3,h4⟩
  dsimp only at v1 h1 h2 h3 h4 ⊢
  by_cases h0:W'=0
  ·have:(W' !=0)=false:=by simp[h0]
   rw[this,cond_false]
   exact⟨_,rfl,h3⟩
  ·have:(W' !=0)=true:=by simpa using h0
   rw[this,cond_true]
   obtain⟨k,hk32,ek,hk,hkl,_⟩:=least_eq v1 h0
   have hkn:=hW.2 k (h1 k hk)
   obtain⟨S,eS,hR,hSn⟩:=reach_ok hn hF.net hkn v1
   rw[ek,bs,eS,bs,BQ (by simp;omega),bs]
   have hSW:∀x,El S x→El W' x:=λx hx=>((rch_cn hn hF hR x).1 hx).mem hk
   have hS':∀x,El (iandNot .u32 W' S) x↔El W' x∧¬El S x:=λx=>by
    unfold El
    rw[CE v1 hR.vs];simp
   have hlt:(Az (iandNot .u32 W' S)).length+1≤(Az W').length:=by
    have:=B1 (l:=(k:Int)::Az (iandNot .u32 W' S)) (m:=Az W') (List.nodup_cons.2 ⟨λhx=>((hS' k).1 ((A7 (VS.iandNot _ _)).1 hx)).2 hR.me,(BL _).nodup⟩) (λx hx=>by
     rcases List.mem_cons.1 hx with rfl|hx
     ·exact(A7 v1).2 hk
     ·obtain⟨w,hw,q,rfl⟩:=mem_elems.1 hx
      exact(A7 v1).2 ((hS' w).1 q).1)
    simpa using this
   refine⟨_,rfl,⟨VS.iandNot _ _,λx hx=>h1 x ((hS' x).1 hx).1,λs hs=> ?_,?_,by simp;omega⟩,by dsimp only;omega⟩
   ·dsimp only at hs ⊢
    rcases List.mem_append.1 hs with h|h
    ·obtain⟨m,hm,hmx⟩:=h2 s h
     exact⟨m,hm,λx hx=>hmx x ((hS' x).1 hx).1⟩
    ·rw[List.mem_singleton] at h
     subst h
     refine⟨k,hR.me,λx hx=> ?_⟩
     obtain⟨a,b⟩:=(hS' x).1 hx
     apply Classical.byContradiction
     intro hc
     by_cases e:x=k
     ·subst e;exact b hR.me
     ·have:=hkl x (by omega)
      unfold El at a
      rw[this] at a;cases a
   ·dsimp only
    rw[List.pairwise_append]
    refine⟨h3,List.pairwise_singleton _ _,λs hs t ht=> ?_⟩
    rw[List.mem_singleton] at ht
    subst ht
    obtain⟨m,hm,hmx⟩:=h2 s hs
    exact⟨m,hm,λx hx=>hmx x (hSW x hx)⟩
end
section
variable {g : LL} (hg : GOk g)
include hg
end
end Go.Sx

namespace Go.Sx
theorem DW (xs:LI)(h:Sh xs)(h0:∀x∈xs,0≤x∧x<32):D.u xs=some (mk xs):=by
 unfold Sh at h
 unfold D.u
 refine(Ch (λk=>(mk (xs.take k),(k:Int))) xs.length (mk xs) (by simp[mk]) (λk hk=> ?_) ?_).trans rfl
 ·have hx:=h0 _ (List.getElem_mem hk)
  obtain⟨w,hw⟩:∃w:Nat,xs[k]=(w:Int):=⟨xs[k].toNat,by omega⟩
  simp only[dlt hk,cond_true,AN hk,hw,bs,uw (show w<1000 by omega),DC,cond_false,wq k]
  rw[shl64 (show w<32 by omega),or6432 (VS.mk _) (VS.ishl _ _)]
  have:mk (xs.take (k+1))=ior .u32 (mk (xs.take k)) (ishl .u32 1 (w:Int)):=by
   unfold mk
   rw[List.take_succ_eq_append_getElem hk,List.foldl_append,hw];rfl
  rw[this]
 ·simp only[Bo,cond_false,List.take_length]
theorem mk_perm {x y:LI}(h:∀v,v∈x↔v∈y)(hx:∀v∈x,0≤v∧v<32):mk x=mk y:=
 VS.ext (VS.mk _) (VS.mk _) λv _=>by
  rw[Dj hx,Dj (λv hv=>hx v ((h v).2 hv)),Bool.eq_iff_iff,decide_eq_true_eq,decide_eq_true_eq];exact h _
theorem elems_ssub {s t:Int}(hs:VS s)(ht:VS t)(h:∀x,El s x→El t x){y:Nat}(h1:El t y)(h2:¬El s y):(Az s).length<(Az t).length:=by
 have:=B1 (l:=(y:Int)::Az s) (m:=Az t) (List.nodup_cons.2 ⟨λhx=>h2 ((A7 hs).1 hx),(BL _).nodup⟩) (λx hx=>by
  rcases List.mem_cons.1 hx with rfl|hx
  ·exact(A7 ht).2 h1
  ·obtain⟨v,_,hv,rfl⟩:=mem_elems.1 hx
   exact(A7 ht).2 (h v hv))
 simp at this
 omega
section
variable {F : LI} {n : Nat} (hn : n ≤ 16) (hF : FOk F n)
include hn hF
theorem l27Part_ok {v:Nat}(hv:v<n){W:Int}(hW:VS W):∃S,D.g0 F (v:Int) W=some S∧Rch F W v S:=by
 have hFl:=hF.len
 unfold D.g0
 rw[uw (by omega),DC,cond_false]
 refine A5 (λs:Int×Bool=>VS s.1∧El s.1 v∧(∀x,El s.1 x→x<n)∧(∀T:Nat→Prop,T v→(∀x y,T x→nb F x y=true→has W y=true→T y)→∀x,El s.1 x→T x)∧(s.2=false→∀x y,El s.1 x→nb F x y=true→has W y=true→El s.1 y)) (λs=>2*(32-(Az s.1).length)+bit s.2)
  (λS=>Rch F W v S) ?_ ?_ (λr hr=>⟨r,rfl,hr⟩)
 ·rintro⟨S,b⟩ ⟨hS,hv',hlt,hT,hb⟩
  dsimp only at hS hv' hlt hT hb ⊢
  cases b with
  |false=>exact⟨_,rfl,hS,hv',hb rfl,hT⟩
  |true=>
   rw[cond_true]
   refine A5 (λs:Int×Bool×Int=>∃k:Nat,s.2.2=(k:Int)∧k≤n∧VS s.1∧(∀x,El S x→El s.1 x)∧(∀x,El s.1 x→x<n)∧(∀T:Nat→Prop,T v→(∀x y,T x→nb F x y=true→has W y=true→T y)→∀x,El s.1 x→T x)∧(s.2.1=true→(Az S).length<(Az s.1).length)∧(s.2.1=false→s.1=S∧∀x,x<k→El S x→∀y,nb F x y=true→has W y=true→El S y)) (λs=>n-s.2.2.toNat)
    (λs:Int×Bool=>VS s.1∧(∀x,El S x→El s.1 x)∧(∀x,El s.1 x→x<n)∧(∀T:Nat→Prop,T v→(∀x y,T x→nb F x y=true→has W y=true→T y)→∀x,El s.1 x→T x)∧(s.2=true→(Az S).length<(Az s.1).length)∧(s.2=false→s.1=S∧∀x,x<n→El S x→∀y,nb F x y=true→has W y=true→El S y)) ?_ ⟨0,rfl,Nat.zero_le _,hS,λ_ h=>h,hlt,hT,λh=>(by cases h),λ_=>⟨rfl,λx hx=>absurd hx (Nat.not_lt_zero _)⟩⟩ ?_
   ·rintro⟨S',b,_⟩ ⟨k,rfl,hk,g1,g2,g3,g4,g5,g6⟩
    dsimp only at g1 g2 g3 g4 g5 g6 ⊢
    by_cases hkn:k<n
    ·have hkF:k<F.length:=by omega
     have hvk:=hF.vs k hkn
     rw[decide_eq_true (show (k:Int)<(F.length:Int) by omega),cond_true,uw (by omega),DC,cond_false,bit64 g1 (by omega),AN hkF,←AI hkF 0,bs,bs,and6432 hvk hW,andnot64 (VS.iand _ _) g1,or6432 g1 (VS.iand _ _),wi (by omega)]
     have hfr:∀y,El (iandNot .u32 (iand .u32 (F.getD k 0) W) S') y↔nb F k y=true∧has W y=true∧¬El S' y:=λy=>by
      unfold El nb
      rw[CE (VS.iand _ _) g1,has_iand hvk hW]
      simp[and_assoc]
     by_cases hc:El S' k∧iandNot .u32 (iand .u32 (F.getD k 0) W) S'≠0
     ·have hne:(iandNot .u32 (iand .u32 (F.getD k 0) W) S' !=0)=true:=by rw[bne_iff_ne];exact hc.2
      have h1:has S' k=true:=hc.1
      rw[h1,cond_true,hne,bs,cond_true]
      obtain⟨y,hy⟩:∃y,El (iandNot .u32 (iand .u32 (F.getD k 0) W) S') y:=by
       refine Classical.byContradiction λhno=>hc.2 ((VS.eq_zero (VS.iandNot _ _)).2 λy _=> ?_)
       rw[←Bool.not_eq_true]
       exact λh=>hno ⟨y,h⟩
      have hor:∀y,El (ior .u32 S' (iand .u32 (F.getD k 0) W)) y↔El S' y∨(nb F k y=true∧has W y=true):=λy=>by
       unfold El nb
       rw[has_ior g1 (VS.iand _ _),has_iand hvk hW];simp
      obtain⟨y1,y2,y3⟩:=(hfr y).1 hy
      refine⟨_,rfl,⟨k+1,rfl,hkn,VS.ior _ _,λx hx=>(hor x).2 (.inl (g2 x hx)),λx hx=> ?_,λT t1 t2 x hx=> ?_,λ_=> ?_,λh=>(by cases h)⟩,by dsimp only;omega⟩
      ·rcases(hor x).1 hx with h|h
       ·exact g3 x h
       ·exact hF.lt k x hkn h.1
      ·rcases(hor x).1 hx with h|h
       ·exact g4 T t1 t2 x h
       ·exact t2 k x (g4 T t1 t2 k hc.1) h.1 h.2
      ·exact elems_ssub hS (VS.ior _ _) (λx hx=>(hor x).2 (.inl (g2 x hx))) ((hor y).2 (.inr ⟨y1,y2⟩)) (λh=>y3 (g2 y h))
     ·have hcond:(cond (has S' k) (some (iandNot .u32 (iand .u32 (F.getD k 0) W) S' !=0)) (some false))=some false:=by
       cases h1:has S' k with
       |false=>rfl
       |true=>
        rw[cond_true]
        have:¬iandNot .u32 (iand .u32 (F.getD k 0) W) S'≠0:=λh=>hc ⟨h1,h⟩
        simpa using this
      rw[hcond,bs,cond_false]
      refine⟨_,rfl,⟨k+1,rfl,hkn,g1,g2,g3,g4,g5,λh=> ?_⟩,by dsimp only;omega⟩
      obtain⟨rfl,h2⟩:=g6 h
      refine⟨rfl,λx hx hxS y hy1 hy2=> ?_⟩
      by_cases e:x=k
      ·subst e
       refine Classical.byContradiction λhno=>hc ⟨hxS,λh0=> ?_⟩
       have:=(hfr y).2 ⟨hy1,hy2,hno⟩
       rw[h0] at this
       unfold El at this
       rw[CI] at this;cases this
      ·exact h2 x (by omega) hxS y hy1 hy2
    ·obtain rfl:k=n:=by omega
     rw[decide_eq_false (by omega),cond_false]
     exact⟨_,rfl,g1,g2,g3,g4,g5,g6⟩
   ·rintro⟨S',b⟩ ⟨g1,g2,g3,g4,g5,g6⟩
    dsimp only at g1 g2 g3 g4 g5 g6 ⊢
    have hle:=BS S
    have hle':=BS S'
    refine⟨_,rfl,⟨g1,g2 v hv',g3,g4,λh=> ?_⟩,?_⟩
    ·obtain⟨rfl,h2⟩:=g6 h
     exact λx y hx h3 h4=>h2 x (g3 x hx) hx y h3 h4
    ·dsimp only
     cases b with
     |true=>have:=g5 rfl;unfold bit;simp only[if_true];omega
     |false=>
      obtain⟨rfl,_⟩:=g6 rfl
      unfold bit;simp
 ·dsimp only
  rw[shl64 (by omega)]
  refine⟨VS.ishl _ _,?_,λx hx=> ?_,λT t1 t2 x hx=> ?_,λh=>(by cases h)⟩
  ·unfold El;rw[CY (by omega)];simp
  ·unfold El at hx;rw[CY (by omega)] at hx;have:=of_decide_eq_true hx;omega
  ·unfold El at hx;rw[CY (by omega)] at hx;have:=of_decide_eq_true hx;subst this;exact t1
end
def Cj (W:Int)(l:LI):Nat→Int
 |0=>W
 |i+1=>iandNot .u32 (Cj W l i) (l.getD i 0)
theorem lef_vs {W:Int}(hW:VS W)(l:LI):∀i,VS (Cj W l i)
 |0=>hW
 |_+1=>VS.iandNot _ _
theorem lef_el {F:LI}{W:Int}{l:LI}(hW:VS W)(hP:Parts F (El W) l):∀i,i≤l.length→∀x,El (Cj W l i) x↔∃j,∃h:j<l.length,i≤j∧El l[j] x
 |0,_,x=>by
  constructor
  ·intro h
   obtain⟨s,hs,hx⟩:=hP.all x h
   obtain⟨j,hj,rfl⟩:=List.mem_iff_getElem.1 hs
   exact⟨j,hj,Nat.zero_le _,hx⟩
  ·rintro⟨j,hj,_,hx⟩
   exact hP.sub _ (List.getElem_mem hj) x hx
 |i+1,hi,x=>by
  have ih:=lef_el hW hP i (by omega) x
  have hil:i<l.length:=by omega
  unfold Cj El
  rw[AI hil,CE (lef_vs hW l i) (hP.vs _ (List.getElem_mem hil)),Bool.and_eq_true]
  have ih':has (Cj W l i) x=true↔_:=ih
  rw[ih']
  constructor
  ·rintro⟨⟨j,hj,hij,hx⟩,hn⟩
   refine⟨j,hj,?_,hx⟩
   refine Classical.byContradiction λhc=> ?_
   obtain rfl:j=i:=by omega
   have hx':has l[j] x=true:=hx
   rw[hx'] at hn;cases hn
  ·rintro⟨j,hj,hij,hx⟩
   refine⟨⟨j,hj,by omega,hx⟩,?_⟩
   have:=(List.pairwise_iff_getElem.1 hP.dis) i j hil hj (by omega) x
   cases h:has l[i] x with
   |false=>rfl
   |true=>exact absurd ⟨h,hx⟩ this
def BN (l:LI):Nat×Nat:=l.foldl (λp s=>if 1<(Az s).length then(p.1+1,p.2+(Az s).length) else p) (0,0)
theorem Du (l:LI)(s:Int):BN (l++[s])=if 1<(Az s).length then((BN l).1+1,(BN l).2+(Az s).length) else BN l:=by
 unfold BN
 rw[List.foldl_append];rfl
theorem bigs_le (l:LI):(BN l).1≤l.length∧(BN l).2≤32*l.length:=by
 have key:∀k,k≤l.length→(BN (l.take k)).1≤k∧(BN (l.take k)).2≤32*k:=by
  intro k
  induction k with
  |zero=>intro _;exact⟨Nat.le_refl _,Nat.le_refl _⟩
  |succ k ih=>
   intro hk
   have:=ih (by omega)
   have hel:=BS l[k]
   rw[List.take_succ_eq_append_getElem (show k<l.length by omega),Du]
   split
   ·exact⟨by dsimp only;omega,by dsimp only;omega⟩
   ·omega
 have:=key l.length (Nat.le_refl _)
 rwa [List.take_length] at this
section
variable {F : LI} {n : Nat} (hn : n ≤ 16) (hF : FOk F n)
include hn hF
theorem peel {W:Int}(hW:In n W){l:LI}(hP:Parts F (El W) l)(hO:l.Pairwise Bef){i:Nat}(hi:i<l.length):∃k:Nat,k<n∧D.j0 (Cj W l i)=some (k:Int)∧D.g0 F (k:Int) (Cj W l i)=some l[i]:=by
 have hvs:=lef_vs hW.1 l i
 have hel:=lef_el hW.1 hP i (by omega)
 have hsm:∀x,El (Cj W l i) x→El W x:=λx hx=>by
  obtain⟨j,hj,_,h⟩:=(hel x).1 hx
  exact hP.sub _ (List.getElem_mem hj) x h
 obtain⟨m0,hm0⟩:=hP.ne _ (List.getElem_mem hi)
 obtain⟨k,hk,hmin⟩:=least_of (P:=λx=>El (Cj W l i) x) ⟨m0,(hel m0).2 ⟨i,hi,Nat.le_refl _,hm0⟩⟩
 have hkn:=hW.2 k (hsm k hk)
 have hki:El l[i] k:=by
  obtain⟨j,hj,hij,h⟩:=(hel k).1 hk
  by_cases e:i=j
  ·subst e;exact h
  ·obtain⟨m,h1,h2⟩:=(List.pairwise_iff_getElem.1 hO) i j hi hj (by omega)
   have:=h2 k h
   exact absurd ((hel m).2 ⟨i,hi,Nat.le_refl _,h1⟩) (hmin m this)
 refine⟨k,hkn,l27Low_ok hvs (by omega) hk (λv hv=>by rw[←Bool.not_eq_true];exact hmin v hv),?_⟩
 obtain⟨S,eS,hR⟩:=l27Part_ok hn hF hkn hvs
 rw[eS]
 congr 1
 have hWn:∀x,El W x→x<n:=hW.2
 have hcl:∀x y,El (Cj W l i) x→Cn (Ad F) (El W) x y→El (Cj W l i) y:=λx y hx hc=>by
  obtain⟨j,hj,hij,h⟩:=(hel x).1 hx
  exact(hel y).2 ⟨j,hj,hij,(hP.cn _ (List.getElem_mem hj) x y h).2 hc⟩
 refine VS.ext hR.vs (hP.vs _ (List.getElem_mem hi)) λx _=> ?_
 rw[Bool.eq_iff_iff]
 refine(rch_cn hn hF hR x).trans (Iff.trans ?_ (hP.cn _ (List.getElem_mem hi) k x hki).symm)
 constructor
 ·exact λh=>h.mono hsm
 ·intro h
  exact(h (λy=>Cn (Ad F) (El W) k y∧Cn (Ad F) (El (Cj W l i)) k y) ⟨Cn.refl,Cn.refl⟩ (λa b ⟨h1,h2⟩ hab hb=>⟨h1.step hab hb,h2.step hab (hcl k b hk (h1.step hab hb))⟩)).2
theorem spec_bigs {W:Int}(hW:In n W){l:LI}(hP:Parts F (El W) l)(hO:l.Pairwise Bef)(hl:l.length≤16){β:Type}(k:Int×Int→Option β):
  (Aq (σ:=Int×Int×Int) (ρ:=(Int×Int)) (fun(s_231:Int×Int×Int)=>match s_231 with|(x_234,x_235,x_236)=>cond (decide ((0:Int)<x_236)) ((D.j0 x_236).bind λy_276=>(D.g0 F y_276 x_236).bind λy_283=>(D.I y_283).bind λy_293=>cond (decide ((1:Int)<y_293)) ((D.I y_283).bind λy_301=>some (.inl ((IntKind.i64.wrap (x_234+y_301)),(IntKind.i64.wrap (x_235+1)),(iandNot .i64 x_236 y_283)))) (some (.inl (x_234,x_235,(iandNot .i64 x_236 y_283))))) (some (.inr (x_234,x_235)))) (0,0,W)).bind k
  =k (((BN l).2:Int),((BN l).1:Int)):=by
 refine Ch (λi=>(((BN (l.take i)).2:Int),((BN (l.take i)).1:Int),Cj W l i)) l.length _ rfl (λi hi=> ?_) ?_
 ·obtain⟨k,hk,e1,e2⟩:=peel hn hF hW hP hO hi
  have hvs:=lef_vs hW.1 l i
  have hsv:=hP.vs _ (List.getElem_mem hi)
  have hpos:decide ((0:Int)<Cj W l i)=true:=by
   rw[decide_eq_true_eq]
   have h0:Cj W l i≠0:=λe0=>by
    obtain⟨m0,hm0⟩:=hP.ne _ (List.getElem_mem hi)
    have:=(lef_el hW.1 hP i (by omega) m0).2 ⟨i,hi,Nat.le_refl _,hm0⟩
    unfold El at this
    rw[e0,CI] at this;cases this
   have:=hvs.1
   omega
  have hb:=bigs_le (l.take i)
  rw[List.length_take] at hb
  have hel:=BS l[i]
  dsimp only
  rw[hpos,cond_true,e1,bs,e2,bs,l25Many_eq hsv,bs,andnot64 hvs hsv,List.take_succ_eq_append_getElem hi,Du]
  have hlef:Cj W l (i+1)=iandNot .u32 (Cj W l i) l[i]:=by
   show iandNot .u32 (Cj W l i) (l.getD i 0)=_
   rw[AI hi]
  rw[hlef]
  by_cases c:1<(Az l[i]).length
  ·rw[decide_eq_true (show (1:Int)<((Az l[i]).length:Int) by omega),cond_true,if_pos c,bs,w64 (by omega) (by omega),w64 (by omega) (by omega)];rfl
  ·rw[decide_eq_false (show¬(1:Int)<((Az l[i]).length:Int) by omega),cond_false,if_neg c]
 ·have h0:Cj W l l.length=0:=by
   rw[VS.eq_zero (lef_vs hW.1 l _)]
   intro v _
   rw[←Bool.not_eq_true]
   intro h
   obtain⟨j,hj,hij,_⟩:=(lef_el hW.1 hP l.length (Nat.le_refl _) v).1 h
   omega
  dsimp only
  rw[h0,List.take_length];rfl
omit hn hF in
theorem impl_bigs {l:LI}(hv:∀s∈l,VS s)(hl:l.length≤16){a:Int}(ha: -1000≤a∧a≤1000){β:Type}(k:Int→Option β):
  (Aq (σ:=Int×Int) (ρ:=(Int)) (fun(s_135:Int×Int)=>match s_135 with|(x_138,x_139)=>cond (decide (x_139<(l.length:Int))) ((idx l x_139).bind λe_167=>(D.S e_167).bind λy_173=>cond (decide ((1:Int)<y_173)) ((D.S e_167).bind λy_181=>some (.inl ((IntKind.i64.wrap (x_138+(IntKind.i64.wrap (2-y_181)))),(IntKind.i64.wrap (x_139+1))))) (some (.inl (x_138,(IntKind.i64.wrap (x_139+1)))))) (some (.inr x_138))) (a,0)).bind k
  =k (a+2*((BN l).1:Int)-((BN l).2:Int)):=by
 refine Ch (λi=>(a+2*((BN (l.take i)).1:Int)-((BN (l.take i)).2:Int),(i:Int))) l.length _ ?_ (λi hi=> ?_) ?_
 ·show (a+2*((0:Nat):Int)-((0:Nat):Int),((0:Nat):Int))=_
  congr 1;omega
 ·have hb:=bigs_le (l.take i)
  rw[List.length_take] at hb
  have hel:=BS l[i]
  dsimp only
  rw[dlt hi,cond_true,AN hi,bs,size_eq (hv _ (List.getElem_mem hi)),bs,bs,wi (by omega),List.take_succ_eq_append_getElem hi,Du]
  by_cases c:1<(Az l[i]).length
  ·rw[decide_eq_true (show (1:Int)<((Az l[i]).length:Int) by omega),cond_true,if_pos c,w64 (x:=2-((Az l[i]).length:Int)) (by omega) (by omega),w64 (by omega) (by omega)]
   congr 3
   dsimp only;omega
  ·rw[decide_eq_false (show¬(1:Int)<((Az l[i]).length:Int) by omega),cond_false,if_neg c]
 ·dsimp only
  rw[Bo,cond_false,List.take_length]
omit hn hF in
theorem bigs_sum {n:Nat}(hn:n≤16){l:LI}(hv:∀s∈l,VS s)(hlt:∀s∈l,∀x,El s x→x<n)(hd:l.Pairwise λs t=>∀x,¬(El s x∧El t x)):∀i,i≤l.length→(BN (l.take i)).2=Bz n (λu=>∃s∈l.take i,1<(Az s).length∧El s u)
 |0,_=>by
  have:Bz n (λu=>∃s∈l.take 0,1<(Az s).length∧El s u)=Bc (λ_=>0) n:=AX λu _=>AQ fun⟨s,h,_⟩=>by simp at h
  rw[this,CK];rfl
 |i+1,hi=>by
  have hil:i<l.length:=by omega
  have ih:=bigs_sum hn hv hlt hd i (by omega)
  have hsplit:∀u,(∃s∈l.take (i+1),1<(Az s).length∧El s u)↔(∃s∈l.take i,1<(Az s).length∧El s u)∨(1<(Az l[i]).length∧El l[i] u):=λu=>by
   rw[List.take_succ_eq_append_getElem hil]
   constructor
   ·rintro⟨s,hs,h⟩
    rcases List.mem_append.1 hs with h1|h1
    ·exact .inl ⟨s,h1,h⟩
    ·rw[List.mem_singleton] at h1;subst h1;exact .inr h
   ·rintro(⟨s,hs,h⟩|h)
    ·exact⟨s,List.mem_append_left _ hs,h⟩
    ·exact⟨_,List.mem_append_right _ (List.mem_singleton.2 rfl),h⟩
  have hdis:∀u,(∃s∈l.take i,1<(Az s).length∧El s u)→(1<(Az l[i]).length∧El l[i] u)→False:=λu ⟨s,hs,_,h1⟩ ⟨_,h2⟩=>by
   obtain⟨j,hj,rfl⟩:=List.mem_take_iff_getElem.1 hs
   exact(List.pairwise_iff_getElem.1 hd) j i (by omega) hil (by omega) u ⟨h1,h2⟩
  rw[C9 (λu _=>hsplit u)]
  have hadd:Bz n (λu=>(∃s∈l.take i,1<(Az s).length∧El s u)∨(1<(Az l[i]).length∧El l[i] u))=Bz n (λu=>∃s∈l.take i,1<(Az s).length∧El s u)+Bz n (λu=>1<(Az l[i]).length∧El l[i] u):=by
   unfold Bz
   rw[←CU]
   refine AX λu _=> ?_
   by_cases c:∃s∈l.take i,1<(Az s).length∧El s u<;>by_cases d:1<(Az l[i]).length∧El l[i] u
   ·exact(hdis u c d).elim
   ·rw[A8 (.inl c),A8 c,AQ d]
   ·rw[A8 (.inr d),AQ c,A8 d]
   ·rw[AQ (λh=>h.elim c d),AQ c,AQ d]
  rw[hadd,←ih,List.take_succ_eq_append_getElem hil,Du]
  by_cases c:1<(Az l[i]).length
  ·rw[if_pos c]
   show _+(Az l[i]).length=_+_
   congr 1
   refine(elems_sum (n:=n) (by omega) (λv h=>hlt _ (List.getElem_mem hil) v h)).trans (AX λu _=> ?_)
   cases h:has l[i] u with
   |true=>rw[A8 ⟨c,h⟩];rfl
   |false=>rw[AQ (λh'=>by have:has l[i] u=true:=h'.2;rw[h] at this;cases this)];rfl
  ·rw[if_neg c]
   have:Bz n (λu=>1<(Az l[i]).length∧El l[i] u)=Bc (λ_=>0) n:=AX λu _=>AQ λh=>c h.1
   rw[this,CK];omega
end
theorem bigs_rows {g:LL}(hg:GOk g){W:Int}(hW:In g.length W)(hWa:∀x,x<g.length→El W x){l:LI}(hP:Parts (g.map mk) (El W) l):(BN l).2=Bz g.length (λu=>row g u≠[]):=by
 have h16:=hg.n16
 have h1:=bigs_sum h16 hP.vs (λs hs x hx=>hW.2 x (hP.sub s hs x hx)) hP.dis l.length (Nat.le_refl _)
 rw[List.take_length] at h1
 rw[h1]
 refine C9 λu hu=> ?_
 constructor
 ·rintro⟨s,hs,hsz,hx⟩ h0
  obtain⟨y,hy,hne⟩:∃y,El s y∧y≠u:=by
   refine Classical.byContradiction λhno=> ?_
   have:=B1 (l:=Az s) (m:=[(u:Int)]) (BL s).nodup (λz hz=>by
    obtain⟨w,_,hw,rfl⟩:=mem_elems.1 hz
    have:w=u:=Classical.byContradiction λhc=>hno ⟨w,hw,hc⟩
    subst this;simp)
   rw[List.length_singleton] at this
   omega
  have hc:=(hP.cn s hs u y hx).1 hy
  have:=hc (λw=>w=u) rfl (λa b ha hab _=>by
   subst ha
   have:=(nb_mk hg hu).1 hab
   unfold adj at this
   rw[h0] at this;cases this)
  exact hne this
 ·intro h0
  have hlen:0<(row g u).length:=List.length_pos_iff.2 h0
  obtain⟨w,e,hw,ha⟩:=hg.mem hu (List.getElem_mem hlen)
  obtain⟨s,hs,hx⟩:=hP.all u (hWa u hu)
  have hy:El s w:=(hP.cn s hs u w hx).2 (Cn.refl.step ((nb_mk hg hu).2 ha) (hWa w hw))
  have hne:u≠w:=λe=>hg.irr u hu (by rw[←e] at ha;exact ha)
  refine⟨s,hs,?_,hx⟩
  have:=B1 (l:=[(u:Int),(w:Int)]) (m:=Az s) (by simp;omega) (λz hz=>by
   rcases List.mem_cons.1 hz with rfl|hz
   ·exact(A7 (hP.vs s hs)).2 hx
   ·rw[List.mem_singleton] at hz;subst hz
    exact(A7 (hP.vs s hs)).2 hy)
  simp at this
  omega
end Go.Sx

namespace Go.Sx
theorem Rot.of {g T:LL}(h:(gB g&&decide (T.length=g.length)&&(List.range T.length).all λv=>CO (T.getD v []) (g.getD v []))=true):Rot g T:=by
 rw[Bool.and_eq_true,Bool.and_eq_true,decide_eq_true_eq,Cz] at h
 obtain⟨⟨h1,h2⟩,h3⟩:=h
 refine⟨(gB_iff g).1 h1,h2,λv hv=> ?_⟩
 have:=h3 v (by omega)
 refine Classical.byContradiction λhn=> ?_
 have h4:CO (T.getD v []) (g.getD v [])=false:=DM hn
 rw[h4] at this;cases this
theorem sides_eq {g:LL}(hg:GOk g):Bc (λu=>(row g u).length) g.length=2*(Ca g).length:=by
 have h16:=hg.n16
 have hA:∀u v,Decidable (adj g u v):=λu v=>Classical.propDecidable _
 have hm:∀u,u<g.length→∀v,has (mk (row g u)) v=decide (adj g u v):=λu hu v=>by
  rw[Dj (λx hx=>by have:=(hg.rows u hu).2 x hx;omega),Bool.eq_iff_iff,decide_eq_true_eq,decide_eq_true_eq];exact Iff.rfl
 have hr:∀u,u<g.length→Az (mk (row g u))=row g u:=λu hu=>elems_mk h16 (hg.rows u hu).1 (hg.rows u hu).2
 have hlt:∀u,u<g.length→∀v,has (mk (row g u)) v=true→v<g.length:=λu hu v hv=>hg.lt hu (by rw[hm u hu] at hv;exact of_decide_eq_true hv)
 have e1:Bc (λu=>(row g u).length) g.length=S2 g.length (λu v=>decide (adj g u v)):=AX λu hu=>by
  rw[←hr u hu,elems_sum (n:=g.length) (by omega) (hlt u hu)]
  exact AX λv _=>by rw[hm u hu]
 have e3:=S2_half (n:=g.length) (A:=λu v=>decide (adj g u v)) (lt:=λu v=>decide (u<v)) (λu w hu hw=>by
   rw[Bool.eq_iff_iff,decide_eq_true_eq,decide_eq_true_eq];exact⟨hg.sym u w hu,hg.sym w u hw⟩)
  (λu w hu hw h=>by
   rw[decide_eq_true_eq] at h
   have:u≠w:=λe=>hg.irr u hu (by rw[←e] at h;exact h)
   rw[decide_eq_true_eq,decide_eq_true_eq];omega)
  (λu w hu hw h1 h2=>by rw[decide_eq_true_eq] at h1 h2;omega)
 have e4:(Ca g).length=S2 g.length (λu v=>decide (adj g u v)&&decide (u<v)):=by
  rw[edgesF_len]
  refine AX λu hu=> ?_
  rw[←hr u hu,Df (n:=g.length) (by omega) (hlt u hu)]
  refine AX λv hv=> ?_
  rw[hm u hu]
  congr 2
  rw[Bool.eq_iff_iff,decide_eq_true_eq,decide_eq_true_eq];omega
 omega
theorem sumN_bd {f:Nat→Nat}{c:Nat}:∀n,(∀i,i<n→f i≤c)→Bc f n≤n*c
 |0,_=>by rw[Nat.zero_mul];exact Nat.le_refl _
 |n+1,h=>by
  have:=sumN_bd n (λi hi=>h i (by omega))
  have:=h n (by omega)
  rw[Nat.succ_mul]
  show Bc f n+f n≤_
  omega
theorem edges_bd {g:LL}(hg:GOk g):2*(Ca g).length≤256:=by
 have h16:=hg.n16
 rw[←sides_eq hg]
 have:=sumN_bd (c:=16) g.length (λi hi=>hg.row_len hi)
 omega
section
variable {g T : LL} (R : Rot g T)
include R
theorem Rot.mk_row {v:Nat}(hv:v<g.length):Sx.mk (row T v)=Sx.mk (row g v):=by
 have h16:=R.ok.n16
 exact mk_perm (λx=>R.mem hv) (λx hx=>by have:=(R.ok.rows v hv).2 x ((R.mem hv).1 hx);omega)
theorem Rot.row_r {v:Nat}(hv:v<g.length):∀x∈row T v,0≤x∧x<32:=λx hx=>by
 have h16:=R.ok.n16
 have:=(R.ok.rows v hv).2 x ((R.mem hv).1 hx)
 omega
theorem Rot.twice_gen :∃x:Int,D.Z0 T=some x∧D.D0 g T=some (Int.tdiv x 2)∧x%2=0:=by
 have h16:=R.ok.n16
 have hg:=R.ok
 have hF:=FOk.of hg
 have hsd:=sides_eq hg
 have hbd:=edges_bd hg
 have hW:In g.length (full g.length):=⟨full_vs _,λw hw=>by rw[DX h16] at hw;exact of_decide_eq_true hw⟩
 have hWa:∀x,x<g.length→El (full g.length) x:=λx hx=>by unfold El;rw[DX h16];exact decide_eq_true hx
 obtain⟨l,e1,hP,hl⟩:=partsOf_ok h16 hF hW
 obtain⟨l1,e1',hO⟩:=partsOf_ord h16 hF hW
 rw[e1] at e1'
 obtain rfl:l=l1:=Option.some.inj e1'
 obtain⟨y,ey,hy⟩:=R.spec_Faces
 obtain⟨z,ez,hz⟩:=R.impl_faces
 have hbig:=bigs_rows hg hW hWa hP
 have hble:=bigs_le l
 have heven:=R.even
 have hfl:=Dw (f:=fcN g T) (da:=daN g) (face:=BI g T) (g.length*g.length)
 have hsq:=DA h16
 rw[←hy] at heven hfl
 rw[←hy] at hz
 refine⟨((Ca g).length:Int)-(y.length:Int)+2*((BN l).1:Int)-((BN l).2:Int),?_,?_,by omega⟩
 ·unfold D.Z0
  have hlen:=R.len
  have e0:((List.map Sx.mk (g.take 0)),((Bc (λu=>(row g u).length) 0:Nat):Int),((0:Nat):Int))=(([]:LI),(0:Int),(0:Int)):=by simp;rfl
  rw[←e0]
  refine(Ch (λi=>((g.take i).map Sx.mk,((Bc (λu=>(row g u).length) i:Nat):Int),(i:Int))) g.length (g.map Sx.mk,((Bc (λu=>(row g u).length) g.length:Nat):Int)) rfl (λi hi=> ?_) ?_).trans ?_
  ·have hiT:i<T.length:=by omega
   have hs:=sumN_bd (c:=16) i (λj hj=>hg.row_len (show j<g.length by omega))
   have hrl:=R.rlen hi
   dsimp only
   rw[dlt hiT,cond_true,BZ hiT,bs,DW _ (by unfold Sh;omega) (R.row_r hi),bs,BQ (by simp;omega),bs,bs,w64 (by omega) (by omega),wi (by omega),R.mk_row hi,List.take_succ_eq_append_getElem hi,List.map_append,(R.perm hi).length_eq,←C2 hi]
   rfl
  ·dsimp only
   rw[decide_eq_false (by omega),cond_false,List.take_length]
  ·have hfu:IntKind.i64.wrap (ishl .i64 1 ((g.length:Nat):Int)-1)=full g.length:=by
    have:=l25All_eq hg
    unfold D.p1 at this
    rw[uw (by omega),DC,cond_false] at this
    exact Option.some.inj this
   dsimp only
   rw[hlen,uw (by omega),DC,cond_false,hfu,spec_bigs h16 hF hW hP hO hl]
   dsimp only
   rw[ey,bs,hsd,show Int.tdiv ((2*(Ca g).length:Nat):Int) 2=((Ca g).length:Int) from by rw[Int.tdiv_eq_ediv_of_nonneg (by omega)];omega]
   rw[w64 (x:=2*((BN l).1:Int)) (by omega) (by omega),w64 (x:=((Ca g).length:Int)) (by omega) (by omega),w64 (x:=2*((BN l).1:Int)+_) (by omega) (by omega),w64 (x:=2*((BN l).1:Int)+_-((BN l).2:Int)) (by omega) (by omega),w64 (by omega) (by omega)]
   congr 1;omega
 ·unfold D.D0
  have hAO:=Dp (g:=g) (T:=T) hg.sh2 (by have:=R.len;omega) (λx hx=>by
   obtain⟨v,hv,rfl⟩:=List.mem_iff_getElem.1 hx
   have:=R.rlen (v:=v) (by have:=R.len;omega)
   rw[C2 hv] at this;omega)
  have hall:(gB g&&decide (T.length=g.length)&&(List.range T.length).all λv=>CO (T.getD v []) (g.getD v []))=true:=by
   rw[gB_true hg,decide_eq_true R.len,Bool.true_and,Bool.true_and,Cz]
   exact λv hv=>rowB_t (R.rows v (by have:=R.len;omega))
  have htu:D.P T=some T:=by
   unfold D.P
   refine(CV T (λs i=>(s,i)) (λx=>x) (by have:=R.len;omega) (λs i hi _=> ?_) (λs=> ?_)).trans (by simp)
   ·have:=R.rlen (v:=i) (by have:=R.len;omega)
    rw[C2 hi] at this
    simp only[dlt hi,cond_true,AN hi,bs,narrow_eq T[i] (by unfold Sh;omega),wi (show i<4611686018427387904 by have:=R.len;omega)]
   ·simp only[Bo,cond_false]
  have hFl:(g.map Sx.mk).length=g.length:=by simp
  rw[hAO,hall,bs,Bool.not_true,cond_false,htu,bs,ez,bs,Ep g hg,bs,netsOf_eq g hg,bs,DZ,bs,hFl,e1,bs,hz,w64 (by omega) (by omega),impl_bigs hP.vs hl (by omega)]
  have hr:∀x:Int,-1000≤x→x≤1000→-1000≤Int.tdiv x 2∧Int.tdiv x 2≤1000:=λx h1 h2=>by
   rcases Int.le_total 0 x with h|h
   ·rw[Int.tdiv_eq_ediv_of_nonneg h];omega
   ·have:Int.tdiv x 2= -Int.tdiv (-x) 2:=by rw[Int.neg_tdiv,Int.neg_neg]
    rw[this,Int.tdiv_eq_ediv_of_nonneg (by omega)];omega
  have:=hr (((Ca g).length:Int)-(y.length:Int)+2*((BN l).1:Int)-((BN l).2:Int)) (by omega) (by omega)
  rw[w64 (by omega) (by omega)]
theorem Rot.face_r {L:LI}(hL:L∈B7 (fcN g T) (daN g) (BI g T) (g.length*g.length)):L.length≤256∧∀x∈L,0≤x∧x<32:=by
 have h16:=R.ok.n16
 unfold B7 at hL
 obtain⟨d,hd,rfl⟩:=List.mem_map.1 hL
 have h1:=(List.mem_filter.1 hd).1
 rw[List.mem_range] at h1
 have h2:=perN_le R.fc_perm h1
 have hsq:=DA h16
 unfold BI
 refine⟨by simp;omega,λx hx=> ?_⟩
 obtain⟨k,_,rfl⟩:=List.mem_map.1 hx
 have:=(dn_eq (Cs R.fc_perm h1 k)).1
 exact⟨Int.natCast_nonneg _,Int.ofNat_lt.2 (Nat.lt_of_lt_of_le this (by omega:g.length≤32))⟩
end
theorem RimOf_both {g T:LL}(hs:Sh2 g)(hT:T.length≤1100000)(hT2:∀x∈T,x.length≤1100000):∃b,D.C0 g T=some b∧D.t0 g T=some b:=by
 have hA1:=EF hs hT hT2
 have hA2:=Dp hs hT hT2
 cases hb:(gB g&&decide (T.length=g.length)&&(List.range T.length).all λv=>CO (T.getD v []) (g.getD v [])) with
 |false=>
  rw[hb] at hA1 hA2
  refine⟨false,?_,?_⟩
  ·unfold D.C0 D.x0
   rw[hA1];rfl
  ·unfold D.t0 D.A0 D.D0
   rw[hA2];rfl
 |true=>
  rw[hb] at hA1 hA2
  have R:=Rot.of hb
  have hg:=R.ok
  have h16:=hg.n16
  obtain⟨x,e1,e2,hev⟩:=R.twice_gen
  have hz:(Int.tdiv x 2==0)=(x==0):=by
   rw[Bool.eq_iff_iff,beq_iff_eq,beq_iff_eq]
   have:x=2*(x/2):=by omega
   rw[this,Int.mul_comm,Int.mul_tdiv_cancel _ (by decide)]
   omega
  have hp1:D.x0 g T=some (x==0):=by
   unfold D.x0
   rw[hA1,bs,cond_true,e1];rfl
  have hp2:D.A0 g T=some (x==0):=by
   unfold D.A0
   rw[e2,bs,hz]
  unfold D.C0 D.t0
  rw[hp1,hp2,bs,bs]
  cases hx:(x==0) with
  |false=>exact⟨false,rfl,rfl⟩
  |true=>
   have hFl:(g.map mk).length=g.length:=by simp
   have hsz:D.B g=some (g.length:Int):=rfl
   have hAl:Sh ((List.range g.length).map Int.ofNat):=by unfold Sh;simp;omega
   have hAr:∀z∈(List.range g.length).map Int.ofNat,0≤z∧z<32:=λz hz=>by
    obtain⟨w,hw,rfl⟩:=List.mem_map.1 hz
    rw[List.mem_range] at hw
    show 0≤(w:Int)∧(w:Int)<32
    omega
   rw[cond_true,cond_true,hsz,bs,l1All_eq _ (by omega),bs,netsOf_eq g hg,bs,DZ,bs,hFl,numbers_eq _ (full_vs _),bs,elems_full h16]
   generalize hAe:(List.range g.length).map Int.ofNat=A at hAl hAr
   unfold D.f1 D.z
   rw[hA1,hA2,bs,bs,Bool.not_true,cond_false,cond_false,spec_SetOk_eq g A hs hAl,impl_SetOk_eq g A hs hAl,bs,bs]
   cases hc:(gB g&&CM A g.length) with
   |false=>exact⟨false,rfl,rfl⟩
   |true=>
    obtain⟨y,ey,hy⟩:=R.spec_Faces
    obtain⟨z,ez,hz⟩:=R.impl_faces
    have htu:D.P T=some T:=by
     unfold D.P
     refine(CV T (λs i=>(s,i)) (λx=>x) (by have:=R.len;omega) (λs i hi _=> ?_) (λs=> ?_)).trans (by simp)
     ·have:=R.rlen (v:=i) (by have:=R.len;omega)
      rw[C2 hi] at this
      simp only[dlt hi,cond_true,AN hi,bs,narrow_eq T[i] (by unfold Sh;omega),wi (show i<4611686018427387904 by have:=R.len;omega)]
     ·simp only[Bo,cond_false]
    have hyl:y.length≤256:=by
     have:=Dw (f:=fcN g T) (da:=daN g) (face:=BI g T) (g.length*g.length)
     have:=DA h16
     rw[hy];omega
    have hyr:∀L∈y,L.length≤256∧∀x∈L,0≤x∧x<32:=λL hL=>R.face_r (by rw[←hy];exact hL)
    have hfo:D.c1 g T=some y:=by
     unfold D.c1
     rw[hA2,bs,Bool.not_true,cond_false,htu,bs,ez,bs,hz,←hy]
     refine(CV y (λs i=>(s,i)) (λx=>x) (by omega) (λs i hi _=> ?_) (λs=> ?_)).trans (by simp)
     ·have:=(hyr _ (List.getElem_mem hi)).1
      simp only[dlt hi,cond_true,AN hi,bs,wide_eq y[i] (by unfold Sh;omega),wq i]
     ·simp only[Bo,cond_false]
    rw[Bool.not_true,cond_false,bs,cond_false,ey,bs,hfo,bs]
    have hfind:∃r:Int,(∀{β:Type} (k:Int→Option β),((Aq (σ:=Int) (ρ:=(Unit) ⊕ (Int)) (fun(x_91:Int)=>cond (decide (x_91<(y.length:Int))) ((D.u A).bind λy_112=>(idx y x_91).bind λe_115=>(D.u e_115).bind λy_121=>cond ((iandNot .i64 y_112 y_121)==0) (some (.inr (.inr x_91))) (some (.inl (IntKind.i64.wrap (x_91+1))))) (some (.inr (.inl ())))) 0).bind λzz=>match zz with| .inl _=>(some (-1))| .inr z=>(some z)).bind k=k r)∧
      D.b1 y A=some r:=by
     have c1:=CL (step:=fun(x_91:Int)=>cond (decide (x_91<(y.length:Int))) ((D.u A).bind λy_112=>(idx y x_91).bind λe_115=>(D.u e_115).bind λy_121=>cond ((iandNot .i64 y_112 y_121)==0) (some (Sum.inr (Sum.inr (α:=Unit) x_91))) (some (Sum.inl (IntKind.i64.wrap (x_91+1))))) (some (Sum.inr (Sum.inl (β:=Int) ())))) y.length (λi=>if iandNot .u32 (mk A) (mk (y.getD i []))=0 then some (.inr (i:Int)) else none) (.inl ()) (λi hi=>by
       have hr:=hyr _ (List.getElem_mem hi)
       rw[dlt hi,cond_true,DW A hAl hAr,bs,AN hi,bs,DW y[i] (by unfold Sh;omega) hr.2,bs,andnot64 (VS.mk _) (VS.mk _),AI hi]
       by_cases h:iandNot .u32 (mk A) (mk y[i])=0
       ·rw[if_pos h,h];rfl
       ·rw[if_neg h,beq_eq_false_iff_ne.2 h,cond_false,wi (by omega)]) (by
       rw[Bo,cond_false])
     have c2:=CL (step:=fun(x_40:Int)=>cond (decide (x_40<(y.length:Int))) ((idx y x_40).bind λe_60=>(D.d1 e_60 A).bind λy_66=>cond y_66 (some (Sum.inr (Sum.inr (α:=Unit) x_40))) (some (Sum.inl (IntKind.i64.wrap (x_40+1))))) (some (Sum.inr (Sum.inl (β:=Int) ())))) y.length (λi=>if iandNot .u32 (mk A) (mk (y.getD i []))=0 then some (.inr (i:Int)) else none) (.inl ()) (λi hi=>by
       have hr:=hyr _ (List.getElem_mem hi)
       unfold D.d1
       rw[dlt hi,cond_true,AN hi,bs,Ed A hAl (λz hz=>(hAr z hz).1),bs,Ed y[i] (by unfold Sh;omega) (λz hz=>(hr.2 z hz).1),bs,bs,AI hi]
       by_cases h:iandNot .u32 (mk A) (mk y[i])=0
       ·rw[if_pos h,h];rfl
       ·rw[if_neg h,beq_eq_false_iff_ne.2 h,cond_false,wi (by omega)]) (by
       rw[Bo,cond_false])
     generalize ((List.range y.length).findSome? λi=>if iandNot .u32 (mk A) (mk (y.getD i []))=0 then some (Sum.inr (i:Int)) else none).getD (Sum.inl ())=w at c1 c2
     refine⟨w.elim (λ_=> -1) id,λk=> ?_,?_⟩
     ·rw[c1]
      cases w<;>rfl
     ·unfold D.b1
      rw[c2]
      cases w<;>rfl
    obtain⟨r,hr1,hr2⟩:=hfind
    refine⟨decide ((0:Int)≤r),?_,?_⟩
    ·exact hr1 _
    ·rw[hr2];rfl
theorem Eo (g T:LL)(hx:(g.length:Int)≤9223372036854775807)(hx2:∀x∈g,(x.length:Int)≤9223372036854775807)(hy:(T.length:Int)≤9223372036854775807)(hy2:∀x∈T,(x.length:Int)≤9223372036854775807):D.m1 g T=some true:=by
 unfold D.m1 D.j1
 have tg:=CT g
 have tT:=CT T
 obtain⟨y,e,hy'⟩:=szGraph_eq g 1048576 hx hx2 (by omega) (by omega)
 rw[e,bs]
 rcases hy' with hy'|⟨hy',hy0⟩
 ·simp only[hy',decide_true,cond_true]
 ·have hd:decide (y<0)=false:=by simp;omega
  rw[hd,cond_false]
  obtain⟨z,e2,hz⟩:=szSS_eq T y hy hy2 hy0 (by omega)
  rw[e2,bs]
  rcases hz with hz|⟨hz,hz0⟩
  ·simp only[hz,decide_true,cond_true,bs]
   rfl
  ·have hd2:decide (z<0)=false:=by simp;omega
   have h1:Sh2 g:=Sh2.of_tot (by unfold Sh;omega) (by omega)
   have h2:Sh2 T:=Sh2.of_tot (by unfold Sh;omega) (by omega)
   obtain⟨b,f1,f2⟩:=RimOf_both h1 (T:=T) (by omega) (λx hx=>by have:=tot_mem hx;omega)
   have hto:D.M T=some T:=by unfold D.M;rw[toSS_eq T h2];rfl
   have heq:D.M0 T T=some true:=by unfold D.M0;rw[eqSS_eq T T h2];simp
   simp only[hd2,cond_false,bs,toGraph_eq g h1,hto,f1,f2,bne_self_eq_false,eqGraph_eq g g h1,heq,decide_true,Bool.not_true]
end Go.Sx
