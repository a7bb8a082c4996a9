/- Parts. -/
import Derived.Test.YtaddadondmaeaaaDoorSb1
import Derived.Lib.TrailingZeros
import Derived.Lib.AppendZeros
import Derived.KernelRfl
import Derived.Test.YtaddadondmaeaaaDoorProg
set_option linter.unusedVariables false
set_option linter.unusedSimpArgs false
namespace Go.Sx
theorem Dl (n:Int):IntKind.u32.wrap n=n%4294967296:=by simp[IntKind.wrap,IntKind.signed,IntKind.bits]
def VS (s:Int):Prop:=0≤s∧s<4294967296
def has (s:Int)(v:Nat):Bool:=s.toNat.testBit v
theorem VS.nat {s:Int}(h:VS s):∃n:Nat,s=n∧n<4294967296:=⟨s.toNat,by have:=h.1;omega,by have:=h.1;have:=h.2;omega⟩
theorem VS.zero :VS 0:=⟨by omega,by omega⟩
theorem VS.wrap (n:Int):VS (IntKind.u32.wrap n):=by rw[Dl];exact⟨by omega,by omega⟩
theorem B1 (n v:Nat):has (n:Int) v=n.testBit v:=by simp[has]
theorem BT (v:Nat):has 0 v=false:=by simp[has]
theorem CJ (n:Nat)(h:n<4294967296):(BitVec.ofInt 32 (n:Int)).toNat=n:=by
 rw[BitVec.toNat_ofInt]
 omega
theorem ior_nat {a b:Nat}(ha:a<4294967296)(hb:b<4294967296):ior .u32 (a:Int) (b:Int)=((a|||b:Nat):Int):=by
 have hw:a|||b<4294967296:=Nat.or_lt_two_pow (n:=32) ha hb
 show IntKind.u32.wrap (((BitVec.ofInt 32 (a:Int)|||BitVec.ofInt 32 (b:Int)).toNat:Nat):Int)=_
 rw[BitVec.toNat_or,CJ a ha,CJ b hb,Dl];omega
theorem Dj {a b:Nat}(ha:a<4294967296)(hb:b<4294967296):iand .u32 (a:Int) (b:Int)=((a&&&b:Nat):Int):=by
 have hw:a&&&b<4294967296:=Nat.and_lt_two_pow (n:=32) _ hb
 show IntKind.u32.wrap (((BitVec.ofInt 32 (a:Int)&&&BitVec.ofInt 32 (b:Int)).toNat:Nat):Int)=_
 rw[BitVec.toNat_and,CJ a ha,CJ b hb,Dl];omega
theorem VS.ior (a b:Int):VS (ior .u32 a b):=VS.wrap _
theorem VS.iand (a b:Int):VS (iand .u32 a b):=VS.wrap _
theorem VS.iandNot (a b:Int):VS (iandNot .u32 a b):=VS.wrap _
theorem VS.ishl (a b:Int):VS (ishl .u32 a b):=VS.wrap _
theorem Df {a b:Int}(ha:VS a)(hb:VS b)(v:Nat):has (ior .u32 a b) v=(has a v||has b v):=by
 obtain⟨m,rfl,hm⟩:=ha.nat;obtain⟨n,rfl,hn⟩:=hb.nat
 rw[ior_nat hm hn];simp only[B1,Nat.testBit_or]
theorem has_iand {a b:Int}(ha:VS a)(hb:VS b)(v:Nat):has (iand .u32 a b) v=(has a v&&has b v):=by
 obtain⟨m,rfl,hm⟩:=ha.nat;obtain⟨n,rfl,hn⟩:=hb.nat
 rw[Dj hm hn];simp only[B1,Nat.testBit_and]
theorem Dv {a b:Int}(ha:VS a)(hb:VS b)(v:Nat):has (iandNot .u32 a b) v=(has a v&& !has b v):=by
 obtain⟨m,rfl,hm⟩:=ha.nat;obtain⟨n,rfl,hn⟩:=hb.nat
 have e:iandNot .u32 (m:Int) (n:Int)=(((BitVec.ofInt 32 (m:Int)&&& ~~~(BitVec.ofInt 32 (n:Int))).toNat:Nat):Int):=by
  have hw:=(BitVec.ofInt 32 (m:Int)&&& ~~~(BitVec.ofInt 32 (n:Int))).isLt
  show IntKind.u32.wrap (((BitVec.ofInt 32 (m:Int)&&& ~~~(BitVec.ofInt 32 (n:Int))).toNat:Nat):Int)=_
  rw[Dl];omega
 rw[e,B1,B1,B1]
 have h1:∀i,(BitVec.ofInt 32 (m:Int)).getLsbD i=m.testBit i:=λi=>by rw[BitVec.getLsbD,CJ m hm]
 have h2:∀i,(BitVec.ofInt 32 (n:Int)).getLsbD i=n.testBit i:=λi=>by rw[BitVec.getLsbD,CJ n hn]
 rw[←BitVec.getLsbD,BitVec.getLsbD_and,BitVec.getLsbD_not,h1,h2]
 by_cases hv:v<32
 ·simp[hv]
 ·have:m.testBit v=false:=Nat.testBit_lt_two_pow (Nat.lt_of_lt_of_le hm (Nat.pow_le_pow_right (n:=2) (by omega) (show 32≤v by omega)))
  simp[this]
theorem D6 {a:Int}(ha:VS a){v:Nat}(hv:32≤v):has a v=false:=by
 obtain⟨m,rfl,hm⟩:=ha.nat
 rw[B1]
 exact Nat.testBit_lt_two_pow (Nat.lt_of_lt_of_le hm (Nat.pow_le_pow_right (n:=2) (by omega) hv))
theorem VS.ext {a b:Int}(ha:VS a)(hb:VS b)(h:∀v,v<32→has a v=has b v):a=b:=by
 have:∀v,has a v=has b v:=λv=>by
  by_cases hv:v<32
  ·exact h v hv
  ·rw[D6 ha (by omega),D6 hb (by omega)]
 obtain⟨m,rfl,hm⟩:=ha.nat;obtain⟨n,rfl,hn⟩:=hb.nat
 congr 1
 apply Nat.eq_of_testBit_eq
 intro v
 have:=this v
 rwa [B1,B1] at this
theorem VS.eq_zero {a:Int}(ha:VS a):a=0↔∀v,v<32→has a v=false:=
 ⟨λh v _=>by rw[h,BT],λh=>ha.ext VS.zero (λv hv=>by rw[h v hv,BT])⟩
theorem one_eq {v:Nat}(hv:v<32):ishl .u32 1 (v:Int)=((2^v:Nat):Int):=by
 have h:(2:Nat)^v<2^32:=Nat.pow_lt_pow_right (by omega) hv
 have h':(2:Nat)^32=4294967296:=by decide
 rw[h'] at h
 show IntKind.u32.wrap (1*2^(min ((v:Int)).toNat 32))=_
 rw[Dl,show min ((v:Int)).toNat 32=v by simp;omega,Int.one_mul]
 have e:((2^v:Nat):Int)=(2:Int)^v:=by simp
 rw[←e]
 generalize 2^v=p at h ⊢
 omega
theorem CT {v:Nat}(hv:v<32)(u:Nat):has (ishl .u32 1 (v:Int)) u=decide (u=v):=by
 rw[one_eq hv,B1,Nat.testBit_two_pow]
 simp[eq_comm]
theorem shr_eq (s:Int)(v:Nat)(h:VS s)(hv:v<32):B5 .u32 s (v:Int)=((s.toNat>>>v:Nat):Int):=by
 obtain⟨m,rfl,hm⟩:=h.nat
 show Int.fdiv (m:Int) (2^(min ((v:Int)).toNat 32))=_
 rw[show min ((v:Int)).toNat 32=v by simp;omega]
 have e:((2^v:Nat):Int)=(2:Int)^v:=by simp
 rw[←e,Int.fdiv_eq_ediv_of_nonneg _ (Int.natCast_nonneg _),Nat.shiftRight_eq_div_pow]
 simp
theorem bitAt_eq {s:Int}{v:Nat}(h:VS s)(hv:v<32):(iand .u32 (B5 .u32 s (v:Int)) 1==1)=has s v:=by
 rw[shr_eq s v h hv]
 have hs:s.toNat>>>v<4294967296:=by
  obtain⟨m,rfl,hm⟩:=h.nat
  rw[Nat.shiftRight_eq_div_pow]
  exact Nat.lt_of_le_of_lt (Nat.div_le_self _ _) hm
 have:=Dj hs (show (1:Nat)<4294967296 by omega)
 rw[show (1:Int)=((1:Nat):Int) from rfl,this,has,Nat.testBit]
 rw[Nat.and_comm]
 have h1:1&&&(s.toNat>>>v)=0∨1&&&(s.toNat>>>v)=1:=by
  rw[Nat.and_comm,Nat.and_one_is_mod];omega
 rcases h1 with e|e<;>rw[e]<;>rfl
def Ax (s:Int):LI:=((List.range 32).filter (has s)).map Int.ofNat
theorem mem_elems {s:Int}{x:Int}:x∈Ax s↔∃v:Nat,v<32∧has s v=true∧x=v:=by
 unfold Ax
 rw[List.mem_map]
 constructor
 ·rintro⟨v,hv,rfl⟩
  rw[List.mem_filter,List.mem_range] at hv
  exact⟨v,hv.1,hv.2,rfl⟩
 ·rintro⟨v,h1,h2,rfl⟩
  exact⟨v,List.mem_filter.2 ⟨List.mem_range.2 h1,h2⟩,rfl⟩
theorem BI {s:Int}(h:VS s){v:Nat}:(v:Int)∈Ax s↔has s v=true:=by
 rw[mem_elems]
 constructor
 ·rintro⟨u,_,h2,h3⟩;obtain rfl:v=u:=by omega
  exact h2
 ·intro h2
  refine⟨v,?_,h2,rfl⟩
  by_cases hv:v<32
  ·exact hv
  ·rw[D6 h (by omega)] at h2;cases h2
theorem Dr (s:Int):(Ax s).length≤32:=by
 unfold Ax
 rw[List.length_map]
 exact Nat.le_trans (List.length_filter_le _ _) (by simp)
def Inc (l:LI):Prop:=l.Pairwise (·<·)
theorem BY (s:Int):Inc (Ax s):=by
 unfold Ax Inc
 rw[List.pairwise_map]
 refine List.Pairwise.filter _ ?_
 refine List.Pairwise.imp ?_ (List.pairwise_lt_range (n:=32))
 intro a b h
 show (a:Int)<(b:Int)
 omega
theorem Inc.ext :∀{l l':LI},Inc l→Inc l'→(∀x,x∈l↔x∈l')→l=l'
 |[],[],_,_,_=>rfl
 |[],y::l',_,_,h=>by have:=(h y).2 (by simp);simp at this
 |x::l,[],_,_,h=>by have:=(h x).1 (by simp);simp at this
 |x::l,y::l',h1,h2,h=>by
  have h1':=List.pairwise_cons.1 h1;have h2':=List.pairwise_cons.1 h2
  have e:x=y:=by
   rcases List.mem_cons.1 ((h x).1 (by simp)) with e|e
   ·exact e
   ·rcases List.mem_cons.1 ((h y).2 (by simp)) with e'|e'
    ·exact e'.symm
    ·have:=h2'.1 x e;have:=h1'.1 y e';omega
  subst e
  have:l=l':=by
   refine Inc.ext h1'.2 h2'.2 (λz=> ?_)
   constructor
   ·intro hz
    rcases List.mem_cons.1 ((h z).1 (List.mem_cons_of_mem _ hz)) with e|e
    ·have:=h1'.1 z hz;omega
    ·exact e
   ·intro hz
    rcases List.mem_cons.1 ((h z).2 (List.mem_cons_of_mem _ hz)) with e|e
    ·have:=h2'.1 z hz;omega
    ·exact e
  rw[this]
theorem least_spec {s:Int}(h:VS s)(h0:s≠0):∃k:Nat,k<32∧has s k=true∧(∀v,v<k→has s v=false)∧
  iand .u32 s (IntKind.u32.wrap (0-s))=((2^k:Nat):Int)∧(∀v,has (iand .u32 s (IntKind.u32.wrap (s-1))) v=(has s v&& !decide (v=k))):=by
 obtain⟨m,rfl,hm⟩:=h.nat
 have hm0:m≠0:=by omega
 obtain⟨q,hq,hk⟩:=Lib.ctzFrom_spec 32 m (by omega) hm
 have hc:Lib.ctz 32 m=Lib.ctzFrom 32 m:=by unfold Lib.ctz;rw[if_neg hm0]
 obtain⟨hl,_⟩:=Lib.lowest_bit 32 m hm0 hm
 rw[hc] at hl
 generalize Lib.ctzFrom 32 m=k at*
 have hpos:0<2^k:=Nat.pow_pos (by omega)
 have hb:∀v,m.testBit v=(decide (v≥k)&&(2*q+1).testBit (v-k)):=λv=>by rw[hq,Nat.mul_comm,Nat.testBit_mul_two_pow,Bool.and_comm]
 refine⟨k,hk,?_,λv hv=> ?_,?_,λv=> ?_⟩
 ·rw[B1,hb];simp
 ·rw[B1,hb];simp;intro hc;omega
 ·have e:IntKind.u32.wrap (0-(m:Int))=((4294967296-m:Nat):Int):=by rw[Dl];omega
  rw[e,Dj hm (by omega)]
  rw[←hl]
 ·have e:IntKind.u32.wrap ((m:Int)-1)=((m-1:Nat):Int):=by rw[Dl];omega
  rw[e,Dj hm (by omega),B1,B1,Nat.testBit_and]
  have hm1:m-1=2^k*(2*q)+(2^k-1):=by rw[hq,Nat.mul_add];omega
  have hb1:(m-1).testBit v=if v<k then true else(2*q).testBit (v-k):=by
   rw[hm1,Nat.testBit_two_pow_mul_add _ (by omega)]
   split
   ·rename_i hv;rw[Nat.testBit_two_pow_sub_one];simp[hv]
   ·rfl
  rw[hb1,hb]
  by_cases hv:v<k
  ·simp[hv];intro hc;omega
  ·rw[if_neg hv]
   by_cases hvk:v=k
   ·subst hvk;simp
   ·obtain⟨t,ht⟩:∃t,v-k=t+1:=⟨v-k-1,by omega⟩
    rw[ht,Nat.testBit_succ,Nat.testBit_succ]
    have e1:(2*q+1)/2=q:=by omega
    have e2:2*q/2=q:=by omega
    rw[e1,e2]
    simp[hvk]
theorem elems_least {s t:Int}{k:Nat}(hk:k<32)(h1:has s k=true)(h2:∀v,v<k→has s v=false)(h3:∀v,has t v=(has s v&& !decide (v=k))):
  Ax s=(k:Int)::Ax t:=by
 refine Inc.ext (BY s) ?_ (λx=> ?_)
 ·refine List.pairwise_cons.2 ⟨λx hx=> ?_,BY t⟩
  obtain⟨v,hv,h4,rfl⟩:=mem_elems.1 hx
  rw[h3] at h4
  simp at h4
  by_cases hc:v<k
  ·rw[h2 v hc] at h4;simp at h4
  ·omega
 ·rw[List.mem_cons,mem_elems,mem_elems]
  constructor
  ·rintro⟨v,hv,h4,rfl⟩
   by_cases e:v=k
   ·left;omega
   ·right;exact⟨v,hv,by rw[h3,h4];simp[e],rfl⟩
  ·rintro(rfl|⟨v,hv,h4,rfl⟩)
   ·exact⟨k,hk,h1,rfl⟩
   ·rw[h3] at h4;simp at h4
    exact⟨v,hv,h4.1,rfl⟩
theorem Dc :Ax 0=[]:=by
 unfold Ax
 rw[List.filter_eq_nil_iff.2 (λv _=>by simp[BT])];rfl
theorem tz_table :∀k:Nat,k<32→idx tab32 (B5 .u32 (IntKind.u32.wrap (((2^k:Nat):Int)*125613361)) 27)=some (k:Int):=by decide+kernel
abbrev ArM :=List ((Int×Int)×Int)
abbrev ArL :=List (Int×Int)
end Go.Sx

namespace Go.Sx
end Go.Sx

namespace Go.Sx
open Go
section
variable {P : Program} {ρ : Operand → Value} {w : World} {d : Option Tmp} {t : TypeId} {pos : String} {af : Array Edge} {gd : Option (Nat × Bool)}
end
end Go.Sx

namespace Go.Sx
end Go.Sx

namespace Go.Sx
end Go.Sx

namespace Go.Sx
open Go
def ai (x:Nat→Int)(j:Int):Option Int:=if 0≤j∧j<16 then some (x j.toNat) else none
section
variable {P : Program} {ρ : Operand → Value} {w : World} {d : Option Tmp} {t : TypeId} {pos : String} {af : Array Edge} {gd : Option (Nat × Bool)}
end
section
variable {P : Program} {ops : Array Oper} {rest : List Oper} {n r : AS} {x : List (Nat × AS)} {a : Act} {w : World} {N : Nat} {L : A5}
variable {d : Nat} {t : TypeId} {pos : String} {af : Array Edge}
end
section
variable {P : Program} {ops : Array Oper} {nn r : AS} {x : List (Nat × AS)} {T : Act → World → Prop} {W : World} {G : GH} {E H : List Itm} {N : Nat} {L : A5} {a : Act} {fuel : Nat} {listed listed' : Array Bool}
variable {t : TypeId} {pos : String} {af : Array Edge} {gd : Option (Nat × Bool)} {d i : Nat}
end
end Go.Sx

namespace Go.Sx
end Go.Sx

namespace Go.Sx
end Go.Sx

namespace Go.Sx
noncomputable def D.p0 (a:LL):Option (Bool):=
 (D.Z0 a).bind λb=>some (b&&(decide ((a.length:Int)≤8)))
end Go.Sx

namespace Go.Sx
section
variable {P : Program} {ops : Array Oper} {rest : List Oper} {n r : AS} {x : List (Nat × AS)} {a : Act} {w w' W : World} {G : GH} {H : List Itm} {N : Nat} {L : A5}
variable {d : Nat} {t : TypeId} {pos : String} {af : Array Edge}
end
end Go.Sx

namespace Go.Sx
section
variable {P : Program} {ops : Array Oper} {rest : List Oper} {n r : AS} {x : List (Nat × AS)} {a : Act} {w : World} {N : Nat} {L : A5}
variable {W : World} {G : GH} {H : List Itm} {d : Nat} {t : TypeId} {pos : String} {af : Array Edge} {kt ft : TypeId} {f0 f1 : Field}
end
end Go.Sx

namespace Go.Sx
end Go.Sx

namespace Go.Sx
open IntKind
noncomputable section
def D.l0 (a:LI):Option LI:=
 (AM ([]:LI) a).bind λb=>some b
def D.q (a:Int):Option (Int×Int):=
 cond (a==1) (some (5,0)) (cond (a==2) (some (3,3)) (cond (a==3) (some (4,0)) (cond (a==4) (some (2,3)) (some (0,0)))))
def D.E (h:Int):Option LL:=
 (D.q h).bind λa=>(AC (σ:=LL×Int) (ρ:=LL) (fun(c,b)=>cond (decide (b<a.1)) (((cond (a.2==0) ((AC (σ:=LL×Int) (ρ:=LL) (fun(f,d)=>cond (decide (d<a.1)) ((AM f ([([b,d]:LI)]:LL)).bind λk=>some (.inl (k,(i64.wrap (d+1))))) (some (.inr f))) (c,(i64.wrap (b+1)))).bind λl=>some l) (some c):Option LL)).bind λm=>(AC (σ:=LL×Int) (ρ:=LL) (fun(g,e)=>cond (decide (e<a.2)) ((AM g ([([b,(i64.wrap (a.1+e))]:LI)]:LL)).bind λo=>some (.inl (o,(i64.wrap (e+1))))) (some (.inr g))) (m,0)).bind λp=>some (.inl (p,(i64.wrap (b+1))))) (some (.inr c))) (([]:LL),0)).bind λq=>some q
def D.J0 (d:Int):Option LL:=
 (D.q d).bind λb=>cond (b.1==0) (some ([]:LL)) ((D.n (i64.wrap (b.1+b.2))).bind λf=>(D.E d).bind λc=>(AC (σ:=Int×LL) (ρ:=LL) (fun(a,e)=>cond (decide (a<(c.length:Int))) ((idx c a).bind λh=>(idx h 0).bind λi=>(idx c a).bind λj=>(idx j 1).bind λk=>(D.j e i k).bind λl=>some (.inl ((i64.wrap (a+1)),l))) (some (.inr e))) (0,f)).bind λm=>some m)
def D.d0 (a:LL)(b c:Int):Option (Bool):=
 (D.p a).bind λd=>(cond d ((D.m a b).bind λe=>some e) (some false)).bind λf=>(cond f ((D.m a c).bind λg=>some g) (some false)).bind λh=>some (h&&(b !=c))
def D.U (d:LL)(a b:Int):Option (LL×Bool):=
 (D.d0 d a b).bind λf=>(cond (!f) (some true) ((D.i d a b).bind λg=>some (!g))).bind λh=>cond h (some (([]:LL),false)) ((D.J d).bind λc=>(idx c a).bind λi=>(D.m0 i b).bind λe=>(idx c a).bind λl=>(idx (c.set (Int.toNat a) e) b).bind λj=>(D.m0 j a).bind λk=>(idx (c.set (Int.toNat a) e) b).bind λm=>some (((c.set (Int.toNat a) e).set (Int.toNat b) k),true))
def D.t0 (c:LL)(a b:Int):Option (LL×Bool):=
 (D.b c).bind λe=>(D.S0 c a b).bind λf=>cond ((!f)||(decide ((16:Int)≤e))) (some (([]:LL),false)) ((D.U c a b).bind λg=>(D.O a b).bind λh=>(D.N0 a b).bind λi=>(D.w0 g.1 ([h,i]:LI)).bind λd=>some (d.1,d.2))
def D.u0 (a:LL)(b c:Int):Option (LL×Bool):=
 (D.d0 a b c).bind λd=>(cond (!d) (some true) ((D.i a b c).bind λe=>some e)).bind λf=>cond f (some (([]:LL),false)) ((D.J a).bind λg=>(D.j g b c).bind λh=>some (h,true))
def D.b0 (a:LL)(b:LI):Option (LL×Bool):=
 (D.M0 a b).bind λc=>cond (!c) (some (([]:LL),false)) ((D.H0 a b).bind λd=>some (d,true))
def D.y0 (ad:LI)(ae af:Int):Option (LL×LI×Int×Int):=
 (D.l ad ae af 2).bind λa=>cond a.1 ((D.D0 a.2.1 a.2.2.1 a.2.2.2).bind λg=>some (g.1,g.2.1,g.2.2.1,g.2.2.2)) ((D.a a.2.1 a.2.2.1 a.2.2.2 4).bind λh=>(D.J0 (i64.wrap (1+h.1))).bind λag=>(D.a h.2.1 h.2.2.1 h.2.2.2 3).bind λi=>(AC (σ:=Int×LI×Int×Int×LL) (ρ:=(LI×Int×Int×LL)) (fun(q,r,s,t,j)=>(cond (decide ((0:Int)<q)) ((D.b j).bind λai=>some (decide (ai<7))) (some false)).bind λaj=>cond aj ((D.M j).bind λu=>(D.a r s t (u.length:Int)).bind λk=>(idx u k.1).bind λv=>(((idx v 0).bind λak=>(idx v 1).bind λal=>(D.t0 j ak al).bind λam=>some am.1:Option LL)).bind λan=>some (.inl ((i64.wrap (q-1)),k.2.1,k.2.2.1,k.2.2.2,an))) (some (.inr (r,s,t,j)))) (i.1,i.2.1,i.2.2.1,i.2.2.2,ag)).bind fun(ao,ap,aq,f)=>(D.l ao ap aq 3).bind λb=>((cond b.1 ((D.b f).bind λar=>(D.a b.2.1 b.2.2.1 b.2.2.2 ar).bind λl=>(D.b f).bind λau=>(D.a l.2.1 l.2.2.1 l.2.2.2 au).bind λc=>(D.u0 f l.1 c.1).bind λw=>cond w.2 (some (c.2.1,c.2.2.1,c.2.2.2,w.1)) (some (c.2.1,c.2.2.1,c.2.2.2,f))) (some (b.2.1,b.2.2.1,b.2.2.2,f)):Option (LI×Int×Int×LL))).bind fun(av,aw,ax,p)=>(D.l av aw ax 3).bind λd=>((cond d.1 ((D.M p).bind λx=>(D.a d.2.1 d.2.2.1 d.2.2.2 (x.length:Int)).bind λm=>(idx x m.1).bind λy=>(((idx y 0).bind λay=>(idx y 1).bind λaz=>(D.U p ay az).bind λa0=>some a0.1:Option LL)).bind λa1=>some (m.2.1,m.2.2.1,m.2.2.2,a1)) (some (d.2.1,d.2.2.1,d.2.2.2,p)):Option (LI×Int×Int×LL))).bind fun(a2,a3,a4,n)=>(D.l a2 a3 a4 2).bind λe=>cond e.1 ((((D.r0 e.2.1 e.2.2.1 e.2.2.2 n).bind λo=>(D.b0 n o.1).bind λz=>some (z.1,z.2,o.2.1,o.2.2.1,o.2.2.2):Option (LL×Bool×LI×Int×Int))).bind fun(a5,a6,aa,ab,ac)=>cond a6 (some (a5,aa,ab,ac)) (some (n,aa,ab,ac))) (some (n,e.2.1,e.2.2.1,e.2.2.2)))
def D.E0 (d:LI):Option (LL×Int):=
 (D.v0 d).bind λc=>(D.y0 c.1 c.2.1 c.2.2).bind λb=>(D.l b.2.1 b.2.2.1 b.2.2.2 12).bind λa=>cond a.1 ((D.n0 a.2.1 a.2.2.1 a.2.2.2 (-1) 6).bind λe=>some (b.1,e.1)) ((D.a a.2.1 a.2.2.1 a.2.2.2 4).bind λf=>some (b.1,(i64.wrap (1+f.1))))
def D.v (a:Int):Option (Int×Int):=
 cond (a==1) (some (5,0)) (cond (a==2) (some (3,3)) (cond (a==3) (some (4,0)) (cond (a==4) (some (2,3)) (some (0,0)))))
def D.F (h:Int):Option (((List (Int×Int)))):=
 (D.v h).bind λa=>(AC (σ:=(List (Int×Int))×Int) (ρ:=((List (Int×Int)))) (fun(i:(List (Int×Int))×Int)=>match i with|(c,b)=>cond (decide (b<a.1)) (((cond (a.2==0) ((AC (σ:=(List (Int×Int))×Int) (ρ:=((List (Int×Int)))) (fun(j:(List (Int×Int))×Int)=>match j with|(f,d)=>cond (decide (d<a.1)) ((AM f ([(b,d)]:List (Int×Int))).bind λk=>some (.inl (k,(i64.wrap (d+1))))) (some (.inr f))) (c,(i64.wrap (b+1)))).bind λl=>some l) (some c):Option ((List (Int×Int))))).bind λm=>(AC (σ:=(List (Int×Int))×Int) (ρ:=((List (Int×Int)))) (fun(n:(List (Int×Int))×Int)=>match n with|(g,e)=>cond (decide (e<a.2)) ((AM g ([(b,(i64.wrap (a.1+e)))]:List (Int×Int))).bind λo=>some (.inl (o,(i64.wrap (e+1))))) (some (.inr g))) (m,0)).bind λp=>some (.inl (p,(i64.wrap (b+1))))) (some (.inr c))) (([]:List (Int×Int)),0)).bind λq=>some q
def D.i0 (c:Int):Option LL:=
 (D.v c).bind λa=>cond (a.1==0) (some ([]:LL)) ((CC (0:Int) (i64.wrap (a.1+a.2)) (i64.wrap (a.1+a.2))).bind λh=>(D.F c).bind λd=>(AC (σ:=LI×(List (Int×Int))×Int) (ρ:=LI) (fun(i:LI×(List (Int×Int))×Int)=>match i with|(e,f,b)=>cond (decide (b<(d.length:Int))) ((idx f b).bind λg=>(D.o0 e g.1 g.2).bind λj=>some (.inl (j,f,(i64.wrap (b+1))))) (some (.inr e))) (h,d,0)).bind λk=>(D.B0 k).bind λl=>some l)
end
end Go.Sx

namespace Go.Sx
open IntKind
noncomputable section
def D.U0 (rec_:LI→LI→((List (Int×Int)))→LL→Int→Int→Option (Bool×LL))(c:LI)(d:Int)(x2s_0 x2s_1:LI)(x2s_2:(List (Int×Int)))(x2s_3:LL)(b:Int):Option (Bool×LL):=
 (rec_ x2s_0 x2s_1 x2s_2 x2s_3 (i64.wrap (b+1)) d).bind λa=>cond (!a.1) (some (false,a.2)) ((idx a.2 b).bind λe=>some (true,(a.2.set (Int.toNat b) c)))
def D.a0 (rec_:LI→LI→((List (Int×Int)))→LL→Int→Int→Option (Bool×LL)):Nat→LI→LI→((List (Int×Int)))→LL→LI→Int→Int→Int→Int→Option (Bool×LL)
 |0,_,_,_,_,_,_,_,_,_=>none
 |fuel+1,b,h,i,c,a,j,d,e,k=>(idx a (i64.wrap ((a.length:Int)-1))).bind λl=>cond ((a.length:Int)==(i64.wrap (j-1))) ((idx b l).bind λr=>(D.W0 r d).bind λs=>(cond s ((D.l0 a).bind λt=>(AM t ([d]:LI)).bind λu=>(D.U0 rec_ u e b h i c k).bind λm=>some (m.1,m.2)) (some (false,c))).bind λn=>some (n.1,n.2)) ((idx b l).bind λv=>(D.t (iand .u32 v e)).bind λo=>(AC (σ:=Int×LL) (ρ:=LL ⊕ (Bool×LL)) (fun(f,p)=>cond (decide (f<(o.length:Int))) ((idx o f).bind λq=>(D.l0 a).bind λx=>(AM x ([q]:LI)).bind λy=>(D.f q).bind λaa=>(D.a0 rec_ fuel b h i p y j d (iandNot .u32 e aa) k).bind λg=>cond g.1 (some (.inr (.inr (true,g.2)))) (some (.inl ((i64.wrap (f+1)),g.2)))) (some (.inr (.inl p)))) (0,c)).bind λzz=>match zz with| .inl ab=>(some (false,ab))| .inr z=>(some z))
def D.u (rec_:LI→LI→((List (Int×Int)))→LL→Int→Int→Option (Bool×LL))(a b:LI)(c:(List (Int×Int)))(d:LL)(e:LI)(f g:Int)(h i:Int):Option (Bool×LL):=D.a0 rec_ BA a b c d e f g h i
def D.L :Nat→LI→LI→((List (Int×Int)))→LL→Int→Int→Option (Bool×LL)
 |0,_,_,_,_,_,_=>none
 |fuel+1,i,c,a,f,b,g=>cond (b==(a.length:Int)) (some (true,f)) ((idx a b).bind λj=>(idx c j.1).bind λk=>(idx a b).bind λl=>(idx c l.2).bind λm=>(AC (σ:=Int×LL) (ρ:=LL ⊕ (Bool×LL)) (fun(d,h)=>(D.P g).bind λo=>cond (decide (d≤(i64.wrap (o+2)))) ((D.u (D.L fuel) i c a h ([k]:LI) d m g b).bind λe=>cond e.1 (some (.inr (.inr (true,e.2)))) (some (.inl ((i64.wrap (d+1)),e.2)))) (some (.inr (.inl h)))) (2,f)).bind λzz=>match zz with| .inl p=>(some (false,p))| .inr z=>(some z))
def D.k (a b:LI)(c:(List (Int×Int)))(d:LL)(e f:Int):Option (Bool×LL):=D.L BA a b c d e f
def D.Y (b c g:Int)(x3s_0 x3s_1:LI)(x3s_2:(List (Int×Int)))(x3s_3:LL)(e h:LI):Option (Bool×LI×LL):=
 (cond ((iand .u32 c b) !=0) (some true) ((cond (g==2) ((D.B c).bind λi=>(D.B b).bind λj=>some (decide (j<i))) (some false)).bind λk=>some k)).bind λl=>cond l (some (false,x3s_1,x3s_3)) ((D.t c).bind λm=>(D.t b).bind λn=>(AM m n).bind λa=>(AC (σ:=Int) (ρ:=(Unit) ⊕ (Bool×LI×LL)) (fun(d:Int)=>cond (decide (d<(a.length:Int))) ((idx a d).bind λo=>(idx e o).bind λp=>(D.P p).bind λq=>(idx h d).bind λr=>(D.P r).bind λs=>cond (decide (q<s)) (some (.inr (.inr (false,a,x3s_3)))) (some (.inl (i64.wrap (d+1))))) (some (.inr (.inl ())))) 0).bind λzz=>match zz with| .inl _=>((D.q0 e).bind λt=>(D.k x3s_0 a x3s_2 x3s_3 0 (iandNot .u32 (iandNot .u32 t c) b)).bind λf=>some (f.1,a,f.2))| .inr z=>(some z))
def D.X :Nat→Int→Int→Int→Int→Int→Int→LI→LI→((List (Int×Int)))→LL→LI→LI→Option (Bool×LI×LL)
 |0,_,_,_,_,_,_,_,_,_,_,_,_=>none
 |fuel+1,e,m,c,f,g,h,x4c2s_0,x4c2s_1,x4c2s_2,x4c2s_3,i,j=>cond (c==0) ((D.Y f g h x4c2s_0 x4c2s_1 x4c2s_2 x4c2s_3 i j).bind λd=>some (d.1,d.2.1,d.2.2)) ((AC (σ:=Int×LI×LL) (ρ:=(LI×LL) ⊕ (Bool×LI×LL)) (fun(b,k,l)=>cond (decide ((i64.wrap (b+c))≤e)) ((D.f b).bind λo=>(D.X fuel e (i64.wrap (b+1)) (i64.wrap (c-1)) (ior .u32 f o) g h x4c2s_0 k x4c2s_2 l i j).bind λa=>cond a.1 (some (.inr (.inr (true,a.2.1,a.2.2)))) (some (.inl ((i64.wrap (b+1)),a.2.1,a.2.2)))) (some (.inr (.inl (k,l))))) (m,x4c2s_1,x4c2s_3)).bind λzz=>match zz with| .inl (p,q)=>(some (false,p,q))| .inr z=>(some z))
def D.y (a b:Int)(c d:Int)(e f:Int)(x4c2s_0 x4c2s_1:LI)(x4c2s_2:(List (Int×Int)))(x4c2s_3:LL)(g h:LI):Option (Bool×LI×LL):=D.X BA a b c d e f x4c2s_0 x4c2s_1 x4c2s_2 x4c2s_3 g h
def D.o (c:Int)(b:LI)(d e:Int)(x4s_0 x4s_1:LI)(x4s_2:(List (Int×Int)))(x4s_3:LL)(f:LI):Option (Bool×LI×LL):=
 (D.y (b.length:Int) 0 d 0 c e x4s_0 x4s_1 x4s_2 x4s_3 b f).bind λa=>some (a.1,a.2.1,a.2.2)
def D.Q :Nat→Int→Int→Int→Int→LI→Int→Int→LI→LI→((List (Int×Int)))→LL→LI→Option (Bool×LI×LL)
 |0,_,_,_,_,_,_,_,_,_,_,_,_=>none
 |fuel+1,e,m,c,f,g,h,i,x4c3s_0,x4c3s_1,x4c3s_2,x4c3s_3,j=>cond (c==0) ((D.o f g h i x4c3s_0 x4c3s_1 x4c3s_2 x4c3s_3 j).bind λd=>some (d.1,d.2.1,d.2.2)) ((AC (σ:=Int×LI×LL) (ρ:=(LI×LL) ⊕ (Bool×LI×LL)) (fun(b,k,l)=>cond (decide ((i64.wrap (b+c))≤e)) ((D.f b).bind λo=>(D.Q fuel e (i64.wrap (b+1)) (i64.wrap (c-1)) (ior .u32 f o) g h i x4c3s_0 k x4c3s_2 l j).bind λa=>cond a.1 (some (.inr (.inr (true,a.2.1,a.2.2)))) (some (.inl ((i64.wrap (b+1)),a.2.1,a.2.2)))) (some (.inr (.inl (k,l))))) (m,x4c3s_1,x4c3s_3)).bind λzz=>match zz with| .inl (p,q)=>(some (false,p,q))| .inr z=>(some z))
def D.d (a b:Int)(c d:Int)(e:LI)(f g:Int)(x4c3s_0 x4c3s_1:LI)(x4c3s_2:(List (Int×Int)))(x4c3s_3:LL)(h:LI):Option (Bool×LI×LL):=D.Q BA a b c d e f g x4c3s_0 x4c3s_1 x4c3s_2 x4c3s_3 h
def D.h (c:LI)(a:Int):Option (Int×LI×LL×Bool):=
 (D.v a).bind λf=>(D.i0 a).bind λh=>(D.e0 h).bind λi=>(((D.F a).bind λj=>some j:Option ((List (Int×Int))))).bind λd=>(CC (([]:LI):LI) (d.length:Int) (d.length:Int)).bind λk=>(D.d (c.length:Int) 0 f.1 0 c f.2 a c ([]:LI) d k i).bind λb=>cond (!b.1) (some (0,([]:LI),([]:LL),false)) ((((D.A b.2.1).bind λl=>some l:Option LI)).bind λm=>(AC (σ:=Int×LL) (ρ:=LL) (fun(e,g)=>cond (decide (e<(b.2.2.length:Int))) ((idx b.2.2 e).bind λo=>(D.A o).bind λp=>(AM g ([p]:LL)).bind λq=>some (.inl ((i64.wrap (e+1)),q))) (some (.inr g))) (0,([]:LL))).bind λr=>some (a,m,r,true))
def D.C (b:LL)(c:Int):Option (Int×LI×LL×Bool):=
 (D.v c).bind λd=>(D.p0 b).bind λe=>cond ((!e)||(d.1==0)) (some (0,([]:LI),([]:LL),false)) ((D.e0 b).bind λf=>(D.h f c).bind λa=>some (a.1,a.2.1,a.2.2.1,a.2.2.2))
def D.I0 (a:LL):Option (Bool):=
 (D.p a).bind λb=>some (b&&(decide ((a.length:Int)≤8)))
def D.k0 (b:LI):Option (Bool):=
 (AC (σ:=Int) (ρ:=(Unit) ⊕ (Bool)) (fun(a:Int)=>cond (decide (a<(b.length:Int))) ((idx b a).bind λc=>(idx b (i64.wrap (a-1))).bind λd=>cond (decide (c≤d)) (some (.inr (.inr false))) (some (.inl (i64.wrap (a+1))))) (some (.inr (.inl ())))) 1).bind λzz=>match zz with| .inl _=>(some true)| .inr z=>(some z)
def D.j0 (e:LL)(d:Int)(a:LI):Option (Bool):=
 (D.q d).bind λb=>(cond ((b.1==0)||((a.length:Int) !=(i64.wrap (b.1+b.2)))) (some true) ((Bt a 0 b.1).bind λf=>(D.k0 f).bind λg=>some (!g))).bind λh=>(cond h (some true) ((Bt a b.1 (a.length:Int)).bind λi=>(D.k0 i).bind λj=>some (!j))).bind λk=>(cond k (some true) ((cond (d==2) ((idx a 0).bind λl=>(idx a 3).bind λm=>some (decide (m≤l))) (some false)).bind λn=>some n)).bind λo=>cond o (some false) ((AC (σ:=Int) (ρ:=(Unit) ⊕ (Bool)) (fun(c:Int)=>cond (decide (c<(a.length:Int))) ((idx a c).bind λp=>(D.m e p).bind λq=>(cond (!q) (some true) ((Bt a 0 c).bind λr=>(idx a c).bind λs=>(D.g r s).bind λt=>some t)).bind λu=>cond u (some (.inr (.inr false))) (some (.inl (i64.wrap (c+1))))) (some (.inr (.inl ())))) 0).bind λzz=>match zz with| .inl _=>(some true)| .inr z=>(some z))
def D.s0 (f c:LL)(e:LI):Option (Bool):=
 (AC (σ:=Int) (ρ:=(Unit) ⊕ (Bool)) (fun(a:Int)=>cond (decide (a<(e.length:Int))) ((AC (σ:=Int×Int) (ρ:=(Int)) (fun(d,b)=>cond (decide (b<(c.length:Int))) ((idx c b).bind λh=>(idx h 0).bind λi=>(cond (i==a) (some true) ((idx c b).bind λj=>(idx j 1).bind λk=>some (k==a))).bind λl=>cond l (some (.inl ((i64.wrap (d+1)),(i64.wrap (b+1))))) (some (.inl (d,(i64.wrap (b+1)))))) (some (.inr d))) (0,0)).bind λm=>(idx e a).bind λn=>(idx f n).bind λo=>cond (decide ((o.length:Int)<m)) (some (.inr (.inr false))) (some (.inl (i64.wrap (a+1))))) (some (.inr (.inl ())))) 0).bind λzz=>match zz with| .inl _=>(some true)| .inr z=>(some z)
def D.S :Nat→LL→LI→Int→Int→LI→Option LL
 |0,_,_,_,_,_=>none
 |fuel+1,b,a,c,h,i=>(idx a (i64.wrap ((a.length:Int)-1))).bind λf=>cond (h==1) ((idx b f).bind λj=>(D.g j c).bind λk=>((cond k ((D.c a).bind λl=>(AM l ([c]:LI)).bind λm=>(AM ([]:LL) ([m]:LL)).bind λn=>some n) (some ([]:LL)):Option LL)).bind λo=>some o) ((AC (σ:=LL×Int) (ρ:=LL) (fun(g,d)=>(idx b f).bind λq=>cond (decide (d<(q.length:Int))) ((idx b f).bind λr=>(idx r d).bind λe=>(cond (e !=c) ((D.g i e).bind λs=>some (!s)) (some false)).bind λt=>(cond t ((D.g a e).bind λu=>some (!u)) (some false)).bind λv=>cond v ((((D.c a).bind λw=>(AM w ([e]:LI)).bind λx=>(D.S fuel b x c (i64.wrap (h-1)) i).bind λy=>(AM g y).bind λz=>some z:Option LL)).bind λaa=>some (.inl (aa,(i64.wrap (d+1))))) (some (.inl (g,(i64.wrap (d+1)))))) (some (.inr g))) (([]:LL),0)).bind λab=>some ab)
def D.x (a:LL)(b:LI)(c d:Int)(e:LI):Option LL:=D.S BA a b c d e
def D.N :Nat→LL→LI→LL→LI→Option (LL×Bool)
 |0,_,_,_,_=>none
 |fuel+1,b,c,a,d=>cond ((a.length:Int)==0) (some (([]:LL),true)) ((idx a 0).bind λj=>(idx j 0).bind λk=>(idx c k).bind λl=>(idx a 0).bind λm=>(idx m 1).bind λn=>(idx c n).bind λo=>(AC (σ:=Int) (ρ:=(Unit) ⊕ (LL×Bool)) (fun(e:Int)=>cond (decide (e≤(i64.wrap ((i64.wrap ((b.length:Int)-(d.length:Int)))+1)))) ((D.x b ([l]:LI) o e d).bind λh=>(AC (σ:=Int) (ρ:=(Unit) ⊕ (LL×Bool)) (fun(f:Int)=>cond (decide (f<(h.length:Int))) ((idx h f).bind λg=>(Bt a 1 (a.length:Int)).bind λp=>(Bt g 1 (i64.wrap ((g.length:Int)-1))).bind λq=>(D.c d).bind λr=>(AM r q).bind λs=>(D.N fuel b c p s).bind λi=>cond i.2 ((AM ([g]:LL) i.1).bind λt=>some (.inr (.inr (t,true)))) (some (.inl (i64.wrap (f+1))))) (some (.inr (.inl ())))) 0).bind λzz=>match zz with| .inl _=>(some (.inl (i64.wrap (e+1))))| .inr z=>(some (.inr (.inr z)))) (some (.inr (.inl ())))) 1).bind λzz=>match zz with| .inl _=>(some (([]:LL),false))| .inr z=>(some z))
def D.s (a:LL)(b:LI)(c:LL)(d:LI):Option (LL×Bool):=D.N BA a b c d
def D.T (e:LI)(f:Int):Option (LI×Bool):=
 (D.c e).bind λd=>(AC (σ:=LI×Int) (ρ:=LI ⊕ (LI×Bool)) (fun(b,a)=>cond (decide ((0:Int)≤a)) ((idx b a).bind λc=>(idx b a).bind λj=>(idx (b.set (Int.toNat a) (i64.wrap (c+1))) a).bind λh=>cond (decide (h<f)) (some (.inr (.inr ((b.set (Int.toNat a) (i64.wrap (c+1))),true)))) ((idx (b.set (Int.toNat a) (i64.wrap (c+1))) a).bind λk=>some (.inl (((b.set (Int.toNat a) (i64.wrap (c+1))).set (Int.toNat a) 0),(i64.wrap (a-1)))))) (some (.inr (.inl b)))) (d,(i64.wrap ((d.length:Int)-1)))).bind λzz=>match zz with| .inl i=>(some (i,false))| .inr z=>(some z)
def D.R (b:LL)(d:Int):Option (Int×LI×LL×Bool):=
 (D.q d).bind λc=>(D.I0 b).bind λi=>cond ((!i)||(c.1==0)) (some (0,([]:LI),([]:LL),false)) ((D.E d).bind λj=>(CC (0:Int) (i64.wrap (c.1+c.2)) (i64.wrap (c.1+c.2))).bind λk=>(AC (σ:=LL×LI×Bool) (ρ:=(Unit) ⊕ (Int×LI×LL×Bool)) (fun(e,a,m)=>cond m ((D.j0 b d a).bind λn=>(cond (!n) (some true) ((D.s0 b e a).bind λo=>some (!o))).bind λp=>cond p ((D.b b).bind λq=>(D.T a q).bind λf=>some (.inl (e,f.1,f.2))) ((D.s b a e a).bind λg=>cond g.2 ((D.c a).bind λr=>some (.inr (.inr (d,r,g.1,true)))) ((D.b b).bind λs=>(D.T a s).bind λh=>some (.inl (e,h.1,h.2))))) (some (.inr (.inl ())))) (j,k,true)).bind λzz=>match zz with| .inl _=>(some (0,([]:LI),([]:LL),false))| .inr z=>(some z))
def D.I (f:LL)(h:Int)(c:LI)(i:LL):Option (Bool):=
 (D.E h).bind λd=>(D.p f).bind λj=>(cond (!j) (some true) ((D.j0 f h c).bind λk=>some (!k))).bind λl=>cond (l||((i.length:Int) !=(d.length:Int))) (some false) ((D.c c).bind λm=>(AC (σ:=LI×Int) (ρ:=(Unit) ⊕ (Bool)) (fun(o,b)=>cond (decide (b<(d.length:Int))) ((idx i b).bind λa=>(cond ((decide ((a.length:Int)<2))||(decide ((16:Int)<(a.length:Int)))) (some true) ((D.Q0 f a).bind λp=>some (!p))).bind λq=>(cond q (some true) ((idx a 0).bind λr=>(idx d b).bind λs=>(idx s 0).bind λt=>(idx c t).bind λu=>some (r !=u))).bind λv=>(cond v (some true) ((idx a (i64.wrap ((a.length:Int)-1))).bind λw=>(idx d b).bind λx=>(idx x 1).bind λy=>(idx c y).bind λaa=>some (w !=aa))).bind λab=>cond ab (some (.inr (.inr false))) ((AC (σ:=LI×Int) (ρ:=LI ⊕ (Bool)) (fun(g,e)=>cond (decide ((i64.wrap (e+1))<(a.length:Int))) ((idx a e).bind λad=>(D.g g ad).bind λae=>cond ae (some (.inr (.inr false))) ((idx a e).bind λaf=>(AM g ([af]:LI)).bind λag=>some (.inl (ag,(i64.wrap (e+1)))))) (some (.inr (.inl g)))) (o,1)).bind λzz=>match zz with| .inl ah=>(some (.inl (ah,(i64.wrap (b+1)))))| .inr z=>(some (.inr (.inr z))))) (some (.inr (.inl ())))) (m,0)).bind λzz=>match zz with| .inl _=>(some true)| .inr z=>(some z))
def D.x0 (a:Int):Option (Int):=
 (D.F a).bind λb=>some (b.length:Int)
def D.f1 (f:LI):Option (Bool):=
 (D.d1 f).bind λg=>cond g (some true) ((D.E0 f).bind λa=>(D.C a.1 a.2).bind λb=>(D.R a.1 a.2).bind λh=>(cond (b.2.2.2 !=h.2.2.2) (some true) ((cond b.2.2.2 ((cond (b.1 !=a.2) (some true) ((D.I a.1 b.1 b.2.1 b.2.2.1).bind λi=>some (!i))).bind λj=>some j) (some false)).bind λk=>some k)).bind λl=>cond l (some false) ((AC (σ:=Int) (ρ:=(Unit) ⊕ (Bool)) (fun(c:Int)=>cond (decide (c≤4)) ((D.i0 c).bind λd=>(D.C d c).bind λe=>(D.p d).bind λm=>(cond ((!m)||(!e.2.2.2)) (some true) ((D.I d e.1 e.2.1 e.2.2.1).bind λn=>some (!n))).bind λo=>(cond o (some true) ((D.F0 d).bind λp=>(D.x0 c).bind λq=>some (p !=q))).bind λr=>cond r (some (.inr (.inr false))) (some (.inl (i64.wrap (c+1))))) (some (.inr (.inl ())))) 1).bind λzz=>match zz with| .inl _=>(some true)| .inr z=>(some z)))
end
end Go.Sx

namespace Go.Sx
end Go.Sx

namespace Go.Sx
end Go.Sx

namespace Go.Sx
end Go.Sx

namespace Go.Sx
end Go.Sx

namespace Go.Sx
end Go.Sx

namespace Go.Sx
end Go.Sx



namespace Go.Sx
end Go.Sx

namespace Go.Sx.Gs
class Srtd (α:Type) where
 dflt:α
 key:α→Int
 good:α→Prop
 cmp:α→α→Option Int
 law:∀x y,good x→good y→∃v,cmp x y=some v∧decide (v<0)=decide (key x<key y)
variable {α : Type} [Srtd α]
def el (l:List α)(i:Int):α:=l.getD i.toNat Srtd.dflt
def at' (l:List α)(i:Int):Int:=Srtd.key (el l i)
end Go.Sx.Gs

namespace Go.Sx.Gs
variable {α : Type} [Srtd α]
end Go.Sx.Gs

namespace Go.Sx.Gs
variable {α : Type} [Srtd α]
end Go.Sx.Gs

namespace Go.Sx.Gs
variable {α : Type} [Srtd α]
end Go.Sx.Gs

namespace Go.Sx
end Go.Sx

namespace Go.Sx.Gs
variable {α : Type} [Srtd α]
end Go.Sx.Gs

namespace Go.Sx.Gs
variable {α : Type} [Srtd α]
end Go.Sx.Gs

namespace Go.Sx.Gs
variable {α : Type} [Srtd α]
end Go.Sx.Gs

namespace Go.Sx
end Go.Sx

set_option maxRecDepth 100000
namespace Go.Proofs.YtaddadondmaeaaaDoor
open Go Go.Sx
open Go.Proofs.Tryd Go.Proofs.YtaddadondmaeaaaDoor.Tryd IntKind
variable {W w : World} {G : GH} {H : List Itm}
theorem AW :prog.follows .mixedOrders=true:=by kernel_rfl
theorem Pl2 :BS prog 2:=isAgg2
theorem T29 :SlT prog 29 2 1 8 (iv 0):=⟨underlying29,Tryd.t2,by kernel_rfl,by kernel_rfl,by kernel_rfl,by kernel_rfl⟩
theorem Pl5 :BS prog 5:=isAgg5
theorem T61 :SlT prog 61 3 1 8 (iv 0):=⟨underlying61,Tryd.t3,by kernel_rfl,by kernel_rfl,by kernel_rfl,by kernel_rfl⟩
theorem Wk.h1 {v0:Value}{x0:LI}{x1:Int}(m:Mem W G w (H))(h0:R1 G v0 x0){y:Int}(hd:D.h1 x0 x1=some y):
  Calls prog 93 #[v0,(iv x1)] w (Res W G H (λ_ Ho v=>Ho=[]∧v=(iv y))):=by
 refine Aw (args:=[v0,(iv x1)]) (N:=19) [.tmp 4] func93 Z Z (lb Z) Z λa f=> ?_
 unfold D.h1 at hd
 refine Ae ?_
 refine Ac f Z λa f=>Aa (Ag (Ae ?_))
 refine Ab f Z λa f=>Bb underlying29 f Z Z h0 λa f=>Ab f Z λa f=>Aa ?_
 have⟨aa,ab,hd⟩:=bind_some hd
 refine AR (λa w=>∃q_19':Unit,aa= .inl q_19'∧∃(ac:GH),GLe G ac∧Fr a 19 []∧Mem W ac w (H)) ?_ ?_
 ·refine Ap ?_
  refine AQ (λad a w=>∃ae:Int,ae=ad∧∃(af:GH),GLe G af∧Fr a 19 [(0,v0),(1,(iv x1)),(7,(iv (x0.length:Int))),(8,(iv ae))]∧Mem W af w (H)) ab ⟨_,Z,_,gr,f.k Z,m⟩ ?_
  clear ab f m
  rintro ad ag ah ai a w ⟨ae,rfl,af,aj,f,m⟩
  have h0:=rd1 aj h0
  refine Ae ?_
  refine Ak f Z Z AV λa f=>Aa (Ag ?_)
  rcases Af ah with⟨ak,ah⟩|⟨ak,ah⟩
  ·refine Al f Z ak ?_
   refine Ao ?_
   refine Ag (Ap (Ae ?_))
   refine Ab f Z λa f=>Ac f Z λa f=>AG ?_
   refine Ab f Z λa f=>Ab f Z λa f=>Ab f Z λa f=> ?_
   have⟨al,am,ah⟩:=bind_some ah
   refine Bo T29 f Z Z Z h0 am λan ao a ap aq f=> ?_
   subst aq
   refine AN m Pl2 f Z Z ap λa f=>Ak f Z Z Bj λa f=>Aa ?_
   rcases Af ah with⟨ar,ah⟩|⟨ar,ah⟩
   ·refine Al f Z ar ?_
    refine Ae ?_
    refine Ab f Z λa f=>Ac f Z λa f=>Aa ?_
    refine Am ?_
    obtain rfl:=sj ah
    obtain rfl:=ai _ rfl
    obtain rfl:=sj hd
    exact⟨[(iv ae)],f.g Z,f.d,_,[],aj,m,Z,Z⟩
   ·refine Aj f Z ar ?_
    refine Ao ?_
    refine Aq ?_
    refine Ak f Z Z AD λa f=>Ab f Z λa f=>Aa ?_
    obtain rfl:=sj ah
    exact⟨_,Z,_,Z,_,aj,f.k Z,m⟩
  ·refine Aj f Z ak ?_
   refine AO Z ?_
   obtain rfl:=sj ah
   obtain rfl:=ai _ rfl
   exact⟨_,Z,_,aj,f.weak trivial,m⟩
 ·rintro a w ⟨_,rfl,ac,au,f,m⟩
  refine Ae ?_
  refine Ac f Z λa f=>Aa ?_
  refine Am ?_
  obtain rfl:=sj hd
  exact⟨[(iv (-1))],f.g Z,f.d,_,[],au,m,Z,Z⟩
theorem Wk.h0 {v0:Value}{x0:LI}{x1:Int}(m:Mem W G w (H))(h0:R1 G v0 x0){y:Bool}(hd:D.h0 x0 x1=some y):
  Calls prog 79 #[v0,(iv x1)] w (Res W G H (λ_ Ho v=>Ho=[]∧v=(.bool y))):=by
 refine Aw (args:=[v0,(iv x1)]) (N:=9) [.tmp 4] func79 Z Z (lb Z) Z λa f=> ?_
 unfold D.h0 at hd
 refine Ae ?_
 refine Ac f Z λa f=>AG ?_
 refine Ab f Z λa f=>Ab f Z λa f=> ?_
 have⟨aa,ab,hd⟩:=bind_some hd
 refine A4 f Z call93 (Wk.h1 m h0 ab) λac w ad m a f=>Ak f Z Z b_geq λa f=>Ac f Z λa f=>Aa ?_
 refine Am ?_
 obtain rfl:=sj hd
 exact⟨[(.bool (decide ((0:Int)≤aa)))],f.g Z,f.d,_,[],ad,m,Z,Z⟩
theorem Wk.b1 {x0:Int}(hW:B4 W)(m:Mem W G w (H)){y:Int}(hd:D.b1 x0=some y):
  Calls prog 80 #[(.int .u32 x0)] w (Res W G H (λ_ Ho v=>Ho=[]∧v=(iv y))):=by
 refine Aw (args:=[(.int .u32 x0)]) (N:=14) [.tmp 2] func80 Z Z (lb Z) Z λa f=> ?_
 unfold D.b1 at hd
 refine Ae ?_
 refine Ac f Z λa f=>Aa (Ag (Ae ?_))
 refine Ab f Z λa f=>Ak f Z Z Bj λa f=>Aa ?_
 rcases Af hd with⟨aa,hd⟩|⟨aa,hd⟩
 ·refine Al f Z aa ?_
  refine Ae ?_
  refine Ac f Z λa f=>Aa ?_
  refine Am ?_
  obtain rfl:=sj hd
  exact⟨[(iv 32)],f.g Z,f.d,_,[],gr,m,Z,Z⟩
 ·refine Aj f Z aa ?_
  refine Ao ?_
  refine Ae ?_
  refine Ab f Z λa f=>Ab f Z λa f=>l_o f (r_neg (f.e Z)) λa f=>Ak f Z Z CL λa f=>Ak f Z Z b_mul λa f=>l_o f (r_shr (f.e Z) (f.e Z) (by decide)) λa f=> ?_
  have⟨ab,ac,hd⟩:=bind_some hd
  refine l_tab hW m underlying111 sizeOf5 f Z Z ac λad a ae f=>AN m Pl5 f Z Z ae λa f=>l_o f (r_conv (f.e Z) ⟨_,underlying5⟩ underlying3) λa f=>Ac f Z λa f=>Aa ?_
  refine Am ?_
  obtain rfl:=sj hd
  exact⟨[(iv (i64.wrap ab))],f.g Z,f.d,_,[],gr,m,Z,Z⟩
theorem Wk.K0 {x0:Int}(m:Mem W G w (H)){y:Int}(hd:D.K0 x0=some y):
  Calls prog 81 #[(.int .u32 x0)] w (Res W G H (λ_ Ho v=>Ho=[]∧v=(iv y))):=by
 refine Aw (args:=[(.int .u32 x0)]) (N:=21) [.tmp 2] func81 Z Z (lb Z) Z λa f=> ?_
 unfold D.K0 at hd
 refine Ae ?_
 refine Ac f Z λa f=>Aa (Ag ?_)
 refine Bc 19 AW (by kernel_rfl) m ?_
 refine Ay 0 19 Z f Z λa f=>q_p 1 19 Z f (λ_=>r_shr (f.e Z) (f.e Z) (by decide)) λa f=> ?_
 have⟨aa,ab,hd⟩:=bind_some hd
 refine q_p 2 19 Z f (λ_=>Eb (f.e Z) (f.e Z) underlying9 ab) λa f=>Ay 3 19 Z f Z λa f=>q_p 4 19 Z f (λ_=>r_shr (f.e Z) (f.e Z) (by decide)) λa f=>q_p 5 19 Z f (λ_=>Bi (f.e Z) (f.e Z) CL) λa f=> ?_
 have⟨ac,ad,hd⟩:=bind_some hd
 refine q_p 6 19 Z f (λ_=>Eb (f.e Z) (f.e Z) underlying9 ad) λa f=>q_p 7 19 Z f (λ_=>Bi (f.e Z) (f.e Z) AD) λa f=>Ay 8 19 Z f Z λa f=>q_p 9 19 Z f (λ_=>r_shr (f.e Z) (f.e Z) (by decide)) λa f=>q_p 10 19 Z f (λ_=>Bi (f.e Z) (f.e Z) CL) λa f=> ?_
 have⟨ae,af,hd⟩:=bind_some hd
 refine q_p 11 19 Z f (λ_=>Eb (f.e Z) (f.e Z) underlying9 af) λa f=>q_p 12 19 Z f (λ_=>Bi (f.e Z) (f.e Z) AD) λa f=>Ay 13 19 Z f Z λa f=>q_p 14 19 Z f (λ_=>Bi (f.e Z) (f.e Z) CL) λa f=> ?_
 have⟨ag,ah,hd⟩:=bind_some hd
 refine q_p 15 19 Z f (λ_=>Eb (f.e Z) (f.e Z) underlying9 ah) λa f=>q_p 16 19 Z f (λ_=>Bi (f.e Z) (f.e Z) AD) λa f=>q_p 17 19 Z f (λ_=>r_conv (f.e Z) ⟨_,underlying5⟩ underlying3) λa f=>q_p 18 19 Z f (λ_=>CH (f.e Z)) λa f=>A1 λai w aj m=>Aa ?_
 refine Am ?_
 obtain rfl:=sj hd
 exact⟨[(iv (i64.wrap (IntKind.u8.wrap ((IntKind.u8.wrap ((IntKind.u8.wrap (aa+ac))+ae))+ag))))],f.g Z,f.d,_,[],aj,m,Z,Z⟩
theorem Wk.l0 {v0:Value}{x0:LI}(m:Mem W G w (H))(h0:R1 G v0 x0){y:(LI)}(hd:D.l0 x0=some y):
  Calls prog 95 #[v0] w (Res W G H (λG' Ho v=>∃r0:Value,∃i0:Itm,Ho=[i0]∧r0=v∧Ow R0 3 G' i0 r0 y)):=by
 refine Aw (args:=[v0]) (N:=8) [.tmp 2] func95 Z Z (lb Z) Z λa f=> ?_
 unfold D.l0 at hd
 refine Ae ?_
 refine Ac f Z λa f=>Aa (Ag (Ae ?_))
 refine Ab f Z λa f=>l_o f (r_nil_eql (f.e Z) (f.e Z) h0.hdr underlying61 Z) λa f=>Aa ?_
 rcases Bool.eq_false_or_eq_true (isNil v0) with aa|aa
 ·have hz:=h0.nil_inv aa
  subst hz
  replace hd:some ([]:LI)=some _:=hd
  refine Al f Z aa ?_
  refine Ae ?_
  refine Ac f Z λa f=>Aa ?_
  refine Am ?_
  obtain⟨ab,m,ac⟩:=Ow.nil R0 3 m
  obtain rfl:=sj hd
  exact⟨[sn],f.g Z,f.d,_,[ab],gr,m,_,_,Z,Z,ac⟩
 ·refine Aj f Z aa ?_
  refine Ao ?_
  refine Ae ?_
  refine AU (R:=R0) (xs:=([]:LI)) (RI.one _) m T61 f Z Z Z (by decide) (All2.nil _) λad ae w a m af f=>Ab f Z λa f=> ?_
  have⟨ag,ah,hd⟩:=bind_some hd
  refine AX (RI.one _) 0 m af Z T61 Z (by decide) f Z Z Z (h0.src m) ah λai aj w a m ak f=>Ac f Z λa f=>Aa ?_
  refine Am ?_
  obtain rfl:=sj hd
  exact⟨[aj],f.g Z,f.d,_,[ai],gr,m,_,_,Z,Z,ak⟩
end Go.Proofs.YtaddadondmaeaaaDoor

set_option maxRecDepth 100000
namespace Go.Proofs.YtaddadondmaeaaaDoor
open Go Go.Sx
open Go.Proofs.Tryd Go.Proofs.YtaddadondmaeaaaDoor.Tryd IntKind
variable {W w : World} {G : GH} {H : List Itm}
theorem T22 :SlT prog 22 5 1 1 (.int .u8 0):=⟨underlying22,Tryd.t5,by kernel_rfl,by kernel_rfl,by kernel_rfl,by kernel_rfl⟩
theorem Pl3 :BS prog 3:=isAgg3
theorem Pl22 :BS prog 22:=isAgg22
theorem T24 :SlT prog 24 29 1 24 sn:=⟨underlying24,Tryd.t29,by kernel_rfl,by kernel_rfl,by kernel_rfl,by kernel_rfl⟩
theorem Bk :BS prog 24:=isAgg24
theorem AA :Agg prog 26 1:=⟨isAgg26,sizeOf26⟩
theorem By :BS prog 29:=isAgg29
theorem T51 :SlT prog 51 61 1 24 sn:=⟨underlying51,Tryd.t61,by kernel_rfl,by kernel_rfl,by kernel_rfl,by kernel_rfl⟩
theorem CU :BS prog 61:=isAgg61
theorem Wk.d1 {v0:Value}{x0:LI}(m:Mem W G w (H))(h0:RSl (RI .u8) G v0 x0){y:Bool}(hd:D.d1 x0=some y):
  Calls prog 4 #[v0] w (Res W G H (λ_ Ho v=>Ho=[]∧v=(.bool y))):=by
 refine Aw (args:=[v0]) (N:=6) [.tmp 2] func4 Z Z (lb Z) Z λa f=> ?_
 unfold D.d1 at hd
 refine Ae ?_
 refine Ac f Z λa f=>AG ?_
 refine Ab f Z λa f=>Bb underlying22 f Z Z h0 λa f=>Ak f Z Z Cu λa f=>Ac f Z λa f=>Aa ?_
 refine Am ?_
 obtain rfl:=sj hd
 exact⟨[(.bool (decide ((4096:Int)<(x0.length:Int))))],f.g Z,f.d,_,[],gr,m,Z,Z⟩
theorem Wk.v0 {v0:Value}{x0:LI}(m:Mem W G w (H))(h0:RSl (RI .u8) G v0 x0){y:(LI)×Int×Int}(hd:D.v0 x0=some y):
  Calls prog 13 #[v0] w (Res W G H (λG' Ho v=>∃r0:Value,∃c1:Nat,Ho=[ib c1 72 [r0,(iv y.2.1),(iv y.2.2)]]∧v=(pb c1)∧RSl (RI .u8) G' r0 y.1)):=by
 refine Aw (args:=[v0]) (N:=28) [.tmp 2] func13 Z Z (lb Z) Z λa f=> ?_
 unfold D.v0 at hd
 refine Ae ?_
 refine Ac f Z λa f=>AG ?_
 refine Ab f Z λa f=>Bb underlying22 f Z Z h0 λa f=>Ak f Z Z AD λa f=>Ac f Z λa f=>Aa (Ag (Ae ?_))
 refine Ac f Z λa f=>Aa ?_
 have⟨aa,ab,hd⟩:=bind_some hd
 refine AR (λa w=>∃ac:Int,ac=aa∧∃(ad:GH),GLe G ad∧Fr a 28 [(0,v0),(3,(iv ac))]∧Mem W ad w (H)) ?_ ?_
 ·refine Ap ?_
  refine AQ (λae a w=>∃af:Int,∃ag:Int,(af,ag)=ae∧∃(ah:GH),GLe G ah∧Fr a 28 [(0,v0),(3,(iv af)),(4,(iv ag))]∧Mem W ah w (H)) ab ⟨_,_,Z,_,gr,f.k Z,m⟩ ?_
  clear ab f m
  rintro ae ai aj ak a w ⟨af,ag,rfl,ah,al,f,m⟩
  have h0:=rd1 al h0
  refine Ag (Ae ?_)
  refine Ab f Z λa f=>Ab f Z λa f=>Bb underlying22 f Z Z h0 λa f=>Ak f Z Z AV λa f=>Aa ?_
  rcases Af aj with⟨am,aj⟩|⟨am,aj⟩
  ·refine Al f Z am ?_
   refine Ao ?_
   refine Ag (Ap (Aq ?_))
   refine Ab f Z λa f=>Ak f Z Z b_mul λa f=>Ab f Z λa f=>Ab f Z λa f=> ?_
   have⟨an,ao,aj⟩:=bind_some aj
   refine Bo T22 f Z Z Z h0 ao λap aq a ar au f=> ?_
   subst au
   refine AN m Pl5 f Z Z ar λa f=>l_o f (r_conv (f.e Z) ⟨_,underlying5⟩ underlying2) λa f=>Ak f Z Z AD λa f=>Ak f Z Z AD λa f=>Ak f Z Z CL λa f=>Ac f Z λa f=>Aa (Aq ?_)
   refine Ab f Z λa f=>Ak f Z Z AD λa f=>Ac f Z λa f=>Aa ?_
   obtain rfl:=sj aj
   exact⟨_,Z,_,_,Z,_,al,f.k Z,m⟩
  ·refine Aj f Z am ?_
   refine AO Z ?_
   obtain rfl:=sj aj
   obtain rfl:=ak _ rfl
   exact⟨_,Z,_,al,f.k Z,m⟩
 ·rintro a w ⟨ac,rfl,ad,av,f,m⟩
  have h0:=rd1 av h0
  refine Ae ?_
  refine Ab f Z λa f=>Ab f Z λa f=> ?_
  have aw:∀w,(Instr.build 72 #[(0,v0),(2,(iv ac))]).run prog w= .ok (.agg #[v0,(iv 0),(iv ac)]) w:=by intro w;simp[Instr.build,Instr.fill,h0.cells,A8,A6,AT,AZ,AP,A9]
  refine Bl f Z Z aw λa f=>Bf (cs:=[v0,(iv 0),(iv ac)]) m f Z Z Z λax w a m f=>Ac f Z λa f=>Aa ?_
  refine Am ?_
  obtain rfl:=sj hd
  exact⟨[(pb ax)],f.g Z,f.d,_,[ib ax 72 [v0,(iv 0),(iv ac)]],av,m,_,_,Z,Z,h0⟩
theorem Wk.z {b0:Nat}{aa:Value}{ab:LI}{ac ad:Int}(m:Mem W G w (ib b0 72 [aa,(iv ac),(iv ad)]::H))(ae:RSl (RI .u8) G aa ab){y:Int×(LI)×Int×Int}(hd:D.z ab ac ad=some y):
  Calls prog 46 #[(pb b0)] w (Res W G H (λG' Ho v=>∃r0:Value,Ho=[ib b0 72 [r0,(iv y.2.2.1),(iv y.2.2.2)]]∧v=(iv y.1)∧RSl (RI .u8) G' r0 y.2.1)):=by
 refine Aw (args:=[(pb b0)]) (N:=58) [.tmp 2] func46 Z Z (lb Z) Z λa f=> ?_
 unfold D.z at hd
 refine Ae ?_
 refine Ac f Z λa f=>AG ?_
 refine Ab f Z λa f=>Ab f Z λa f=>l_o f (Ba (f.e Z)) λa f=>Bh underlying72 Z sizeOf2 f Z λa f=>AE 0 2 m Pl2 f Z Z Z Z λa f=>Ak f Z Z b_mul λa f=>Ak f Z Z AD λa f=>l_o f (Ba (f.e Z)) λa f=>Bh underlying72 Z sizeOf2 f Z λa f=>Ai 0 2 (ds:=[(iv (i64.wrap ((i64.wrap (ad*6364136223846793005))+1442695040888963407)))]) m sizeOf2 f Z Z Z (Ah Z An) Z (lb Z) Z λw m=>Aa (Ag ?_)
 refine Bc 13 AW (by kernel_rfl) m ?_
 refine Ay 0 13 Z f Z λa f=>q_p 1 13 Z f (λ_=>Ba (f.e Z)) λa f=>BB 2 13 underlying72 Z sizeOf2 Z f Z λa f=>Bd 3 13 0 Pl2 Z Z Z f Z λa f=>q_p 4 13 Z f (λ_=>r_shr (f.e Z) (f.e Z) (by decide)) λa f=>Ay 5 13 Z f Z λa f=>q_p 6 13 Z f (λ_=>Ba (f.e Z)) λa f=>BB 7 13 underlying72 Z sizeOf2 Z f Z λa f=>Bd 8 13 0 Pl2 Z Z Z f Z λa f=>q_p 9 13 Z f (λ_=>r_shr (f.e Z) (f.e Z) (by decide)) λa f=>q_p 10 13 Z f (λ_=>Bi (f.e Z) (f.e Z) b_xor) λa f=>q_p 11 13 Z f (λ_=>Bi (f.e Z) (f.e Z) CL) λa f=>q_p 12 13 Z f (λ_=>CH (f.e Z)) λa f=>A1 λaf w ag m=> ?_
 have ae:=rd1 ag ae
 refine Aa (Ag (Ag ?_))
 refine Bc 10 AW (by kernel_rfl) m ?_
 refine Ay 0 10 Z f Z λa f=>q_p 1 10 Z f (λ_=>Ba (f.e Z)) λa f=>BB 2 10 underlying72 Z sizeOf3 Z f Z λa f=>Bd 3 10 0 Pl3 Z Z Z f Z λa f=>Ay 4 10 Z f Z λa f=>q_p 5 10 Z f (λ_=>Ba (f.e Z)) λa f=>BB 6 10 underlying72 Z sizeOf22 Z f Z λa f=>Bd 7 10 0 Pl22 Z Z Z f Z λa f=>q_len (i:=8) 10 underlying22 ae Z (by kernel_rfl) Z f Z Z Z λa f=>q_p 9 10 Z f (λ_=>Bi (f.e Z) (f.e Z) AV) λa f=>A1 λah w ai m=> ?_
 have ae:=rd1 ai ae
 refine Aa ?_
 rcases Af hd with⟨aj,hd⟩|⟨aj,hd⟩
 ·refine Al f Z aj ?_
  refine Ag ?_
  refine Bc 15 AW (by kernel_rfl) m ?_
  refine Ay 0 15 Z f Z λa f=>Ay 1 15 Z f Z λa f=>q_p 2 15 Z f (λ_=>Ba (f.e Z)) λa f=>BB 3 15 underlying72 Z sizeOf22 Z f Z λa f=>Bd 4 15 0 Pl22 Z Z Z f Z λa f=>Ay 5 15 Z f Z λa f=>q_p 6 15 Z f (λ_=>Ba (f.e Z)) λa f=>BB 7 15 underlying72 Z sizeOf3 Z f Z λa f=>Bd 8 15 0 Pl3 Z Z Z f Z λa f=> ?_
  have⟨ak,al,hd⟩:=bind_some hd
  refine Bs 9 15 T22 ae al Z f Z Z λam an a ao ap f=> ?_
  subst ap
  refine Bq 10 15 Pl5 ao Z f Z λa f=>q_p 11 15 Z f (λ_=>r_conv (f.e Z) ⟨_,underlying5⟩ underlying2) λa f=>q_p 12 15 Z f (λ_=>Bi (f.e Z) (f.e Z) AD) λa f=>q_p 13 15 Z f (λ_=>Bi (f.e Z) (f.e Z) CL) λa f=>q_p 14 15 Z f (λ_=>CH (f.e Z)) λa f=>A1 λaq w ar m=> ?_
  have ae:=rd1 ar ae
  refine Aa (Aq ?_)
  refine Ab f Z λa f=>Ab f Z λa f=>l_o f (Ba (f.e Z)) λa f=>Bh underlying72 Z sizeOf3 f Z λa f=>AE 0 1 m Pl3 f Z Z Z Z λa f=>Ak f Z Z AD λa f=>l_o f (Ba (f.e Z)) λa f=>Bh underlying72 Z sizeOf3 f Z λa f=>Ai 0 1 (ds:=[(iv (i64.wrap (ac+1)))]) m sizeOf3 f Z Z Z (Ah Z An) Z (lb Z) Z λw m=>AG ?_
  refine Ab f Z λa f=>Ac f Z λa f=>Aa ?_
  refine Am ?_
  obtain rfl:=sj hd
  exact⟨[(iv (iand .i64 (i64.wrap ((iand .i64 (ixor .i64 (B5 .i64 (i64.wrap ((i64.wrap (ad*6364136223846793005))+1442695040888963407)) 33) (B5 .i64 (i64.wrap ((i64.wrap (ad*6364136223846793005))+1442695040888963407)) 45)) 255)+(i64.wrap ak))) 255))],f.g Z,f.d,_,[ib b0 72 [aa,(iv (i64.wrap (ac+1))),(iv (i64.wrap ((i64.wrap (ad*6364136223846793005))+1442695040888963407)))]],(gt ag (gt ai ar)),m,_,Z,Z,ae⟩
 ·refine Aj f Z aj ?_
  refine Ao ?_
  refine Ae ?_
  refine Ab f Z λa f=>Ac f Z λa f=>Aa ?_
  refine Am ?_
  obtain rfl:=sj hd
  exact⟨[(iv (iand .i64 (ixor .i64 (B5 .i64 (i64.wrap ((i64.wrap (ad*6364136223846793005))+1442695040888963407)) 33) (B5 .i64 (i64.wrap ((i64.wrap (ad*6364136223846793005))+1442695040888963407)) 45)) 255))],f.g Z,f.d,_,[ib b0 72 [aa,(iv ac),(iv (i64.wrap ((i64.wrap (ad*6364136223846793005))+1442695040888963407)))]],(gt ag ai),m,_,Z,Z,ae⟩
theorem Wk.a {b0:Nat}{aa:Value}{ab:LI}{ac ad x1:Int}(m:Mem W G w (ib b0 72 [aa,(iv ac),(iv ad)]::H))(ae:RSl (RI .u8) G aa ab){y:Int×(LI)×Int×Int}(hd:D.a ab ac ad x1=some y):
  Calls prog 17 #[(pb b0),(iv x1)] w (Res W G H (λG' Ho v=>∃r0:Value,Ho=[ib b0 72 [r0,(iv y.2.2.1),(iv y.2.2.2)]]∧v=(iv y.1)∧RSl (RI .u8) G' r0 y.2.1)):=by
 refine Aw (args:=[(pb b0),(iv x1)]) (N:=37) [.tmp 4] func17 Z Z (lb Z) Z λa f=> ?_
 unfold D.a at hd
 refine Ae ?_
 refine Ac f Z λa f=>Aa (Ag (Ae ?_))
 refine Ab f Z λa f=>Ak f Z Z Ch λa f=>Aa ?_
 rcases Af hd with⟨af,hd⟩|⟨af,hd⟩
 ·refine Al f Z af ?_
  refine Ae ?_
  refine Ac f Z λa f=>Aa ?_
  refine Am ?_
  obtain rfl:=sj hd
  exact⟨[(iv 0)],f.g Z,f.d,_,[ib b0 72 [aa,(iv ac),(iv ad)]],gr,m,_,Z,Z,ae⟩
 ·refine Aj f Z af ?_
  refine Ao ?_
  refine Ag (Ae ?_)
  refine Ab f Z λa f=>Ak f Z Z Ch λa f=>Aa ?_
  rcases Af hd with⟨ag,hd⟩|⟨ag,hd⟩
  ·refine Al f Z ag ?_
   refine Ae ?_
   refine Ab f Z λa f=> ?_
   have⟨ah,ai,hd⟩:=bind_some hd
   refine Az f Z call46 (Wk.z m ae ai) λaj ak al w am m an a f=> ?_
   obtain⟨ao,rfl,rfl,ap⟩:=an
   refine Ab f Z λa f=> ?_
   obtain⟨aq,hd⟩:=C3 hd
   refine Ak f Z Z (b_rem aq) λa f=>Ac f Z λa f=>Aa ?_
   refine Am ?_
   obtain rfl:=sj hd
   exact⟨[(iv (Int.tmod ah.1 x1))],f.g Z,f.d,_,[ib b0 72 [ao,(iv ah.2.2.1),(iv ah.2.2.2)]],am,m,_,Z,Z,ap⟩
  ·refine Aj f Z ag ?_
   refine Ao ?_
   refine Ae ?_
   refine Ab f Z λa f=> ?_
   have⟨ar,au,hd⟩:=bind_some hd
   refine Az f Z call46 (Wk.z m ae au) λav aw ax w ay m az a f=> ?_
   obtain⟨aA,rfl,rfl,aB⟩:=az
   refine Ac f Z λa f=>AG ?_
   refine Ab f Z λa f=> ?_
   have⟨aC,aD,hd⟩:=bind_some hd
   refine Az f Z call46 (Wk.z m aB aD) λaE aF aG w aH m aI a f=> ?_
   obtain⟨aJ,rfl,rfl,aK⟩:=aI
   refine Ac f Z λa f=>AG ?_
   refine Ab f Z λa f=> ?_
   have⟨aL,aM,hd⟩:=bind_some hd
   refine Az f Z call46 (Wk.z m aK aM) λaN aO aP w aQ m aR a f=> ?_
   obtain⟨aS,rfl,rfl,aT⟩:=aR
   refine Ac f Z λa f=>AG ?_
   refine Ab f Z λa f=> ?_
   have⟨aU,aV,hd⟩:=bind_some hd
   refine Az f Z call46 (Wk.z m aT aV) λaW aX aY w aZ m a0 a f=> ?_
   obtain⟨a1,rfl,rfl,a2⟩:=a0
   refine Ac f Z λa f=>AG ?_
   refine Ab f Z λa f=>Ak f Z Z b_mul λa f=>Ab f Z λa f=>Ak f Z Z b_mul λa f=>Ak f Z Z AD λa f=>Ab f Z λa f=>Ak f Z Z b_mul λa f=>Ak f Z Z AD λa f=>Ab f Z λa f=>Ak f Z Z AD λa f=>Ab f Z λa f=> ?_
   obtain⟨a3,hd⟩:=C3 hd
   refine Ak f Z Z (b_rem a3) λa f=>Ac f Z λa f=>Aa ?_
   refine Am ?_
   obtain rfl:=sj hd
   exact⟨[(iv (Int.tmod (i64.wrap ((i64.wrap ((i64.wrap ((i64.wrap (ar.1*16777216))+(i64.wrap (aC.1*65536))))+(i64.wrap (aL.1*256))))+aU.1)) x1))],f.g Z,f.d,_,[ib b0 72 [a1,(iv aU.2.2.1),(iv aU.2.2.2)]],(gt ay (gt aH (gt aQ aZ))),m,_,Z,Z,a2⟩
theorem Wk.l {b0:Nat}{aa:Value}{ab:LI}{ac ad x1:Int}(m:Mem W G w (ib b0 72 [aa,(iv ac),(iv ad)]::H))(ae:RSl (RI .u8) G aa ab){y:Bool×(LI)×Int×Int}(hd:D.l ab ac ad x1=some y):
  Calls prog 15 #[(pb b0),(iv x1)] w (Res W G H (λG' Ho v=>∃r0:Value,Ho=[ib b0 72 [r0,(iv y.2.2.1),(iv y.2.2.2)]]∧v=(.bool y.1)∧RSl (RI .u8) G' r0 y.2.1)):=by
 refine Aw (args:=[(pb b0),(iv x1)]) (N:=9) [.tmp 4] func15 Z Z (lb Z) Z λa f=> ?_
 unfold D.l at hd
 refine Ae ?_
 refine Ac f Z λa f=>AG ?_
 refine Ab f Z λa f=>Ab f Z λa f=> ?_
 have⟨af,ag,hd⟩:=bind_some hd
 refine Az f Z call17 (Wk.a m ae ag) λah ai aj w ak m al a f=> ?_
 obtain⟨am,rfl,rfl,an⟩:=al
 refine Ak f Z Z Bj λa f=>Ac f Z λa f=>Aa ?_
 refine Am ?_
 obtain rfl:=sj hd
 exact⟨[(.bool (af.1==0))],f.g Z,f.d,_,[ib b0 72 [am,(iv af.2.2.1),(iv af.2.2.2)]],ak,m,_,Z,Z,an⟩
theorem Wk.e {x0 x1 x2:Int}(m:Mem W G w (H)){y:Bool}(hd:D.e x0 x1 x2=some y):
  Calls prog 36 #[(iv x0),(iv x1),(iv x2)] w (Res W G H (λ_ Ho v=>Ho=[]∧v=(.bool y))):=by
 refine Aw (args:=[(iv x0),(iv x1),(iv x2)]) (N:=15) [.tmp 6] func36 Z Z (lb Z) Z λa f=> ?_
 unfold D.e at hd
 refine Ae ?_
 refine Ac f Z λa f=>AG ?_
 refine Ab f Z λa f=>Ab f Z λa f=>Ak f Z Z b_geq λa f=>Ab f Z λa f=> ?_
 refine Be 4 (λa w=>∃aa,GLe G aa∧Mem W aa w (H)∧Fr a 15 [(0,(iv x0)),(1,(iv x1)),(2,(iv x2)),(7,(iv x0)),(8,(iv x1)),(9,(.bool (decide (x1≤x0)))),(10,(.bool (decide (x1≤x0)))),(14,(.bool ((decide (x1≤x0))&&(decide (x0≤x2)))))]) ?_ ?_
 ·rcases Bool.eq_false_or_eq_true (decide (x1≤x0)) with ab|ab
  ·refine Ar f ab ?_
   refine Ab f Z λa f=>Ar f ab ?_
   refine Ab f Z λa f=>Ar f ab ?_
   refine Ak f Z Z Ch λa f=>l_o f (AK (f.e Z) ab (f.e Z)) λa f=> ?_
   exact⟨_,gr,m,f.weak ⟨Z,Z,Z,Z,Z,Z,Z,by rw[ab];rfl,trivial⟩⟩
  ·refine As f ab λa f=> ?_
   refine As f ab λa f=>As f ab λa f=>l_o f (AL (f.e Z) ab (f.e Z)) λa f=> ?_
   exact⟨_,gr,m,f.weak ⟨Z,Z,Z,Z,Z,Z,Z,by rw[ab];rfl,trivial⟩⟩
 ·rintro a w ⟨aa,ac,m,f⟩
  refine Ac f Z λa f=>Aa ?_
  refine Am ?_
  obtain rfl:=sj hd
  exact⟨[(.bool ((decide (x1≤x0))&&(decide (x0≤x2))))],f.g Z,f.d,_,[],ac,m,Z,Z⟩
theorem Wk.n {x0:Int}(m:Mem W G w (H)){y:(LL)}(hd:D.n x0=some y):
  Calls prog 66 #[(iv x0)] w (Res W G H (λG' Ho v=>∃r0:Value,∃i0:Itm,Ho=[i0]∧v=(.agg #[r0])∧Ow R1 29 G' i0 r0 y)):=by
 refine Aw (args:=[(iv x0)]) (N:=18) [.cell 2 26] func66 Z Z (lb Z) Z λa f=> ?_
 unfold D.n at hd
 refine Ae ?_
 refine AH (cs:=[sn]) zeroValue26 m f Z Z λaa w a m f=>AG ?_
 have ab:∀w,(Instr.build 26 #[]).run prog w= .ok (.agg #[sn]) w:=by intro w;simp[Instr.build,Instr.fill,A8,A6,AT,AZ,AP,A9]
 refine Bl f Z Z ab λa f=>AH (cs:=[sn]) zeroValue26 m f Z Z λac w a m f=>Ai 0 0 (ds:=[sn]) m sizeOf26 f Z Z Z (Ah Z An) Z (lb Z) Z λw m=>Aa (Ag (Ae ?_))
 refine Ac f Z λa f=>Aa ?_
 obtain⟨ad,m,ae⟩:=Ow.nil R1 29 m
 have⟨af,ag,hd⟩:=bind_some hd
 refine AR (λa w=>∃ah:LL,ah=af∧∃(ai:GH) (aj:Value) (ak:Itm),GLe G ai∧Fr a 18 [(2,(pb aa)),(3,(pb ac))]∧Mem W ai w (ib aa 26 [sn]::ib ac 26 [aj]::ak::H)∧Ow R1 29 ai ak aj ah) ?_ ?_
 ·refine Ap ?_
  have m:=m.fr 1
  have m:=m.fr 2
  refine AQ (λal a w=>∃am:Int,∃an:LL,(am,an)=al∧∃(ao:GH) (ap:Value) (aq:Itm),GLe G ao∧Fr a 18 [(0,(iv x0)),(2,(pb aa)),(3,(pb ac)),(4,(iv am))]∧Mem W ao w (ib aa 26 [sn]::ib ac 26 [ap]::aq::H)∧Ow R1 29 ao aq ap an) ag ⟨_,_,Z,_,sn,ad,gr,f.k Z,m,ae⟩ ?_
  clear ag f m
  rintro al ar au av a w ⟨am,an,rfl,ao,ap,aq,aw,f,m,ax⟩
  refine Ag (Ae ?_)
  refine Ab f Z λa f=>Ab f Z λa f=>Ak f Z Z AV λa f=>Aa ?_
  rcases Af au with⟨ay,au⟩|⟨ay,au⟩
  ·refine Al f Z ay ?_
   refine Ao ?_
   refine Ag (Ap (Aq ?_))
   refine Bh underlying26 Z sizeOf24 f Z λa f=>AE 1 0 m Bk f Z Z Z Z λa f=>AU (R:=R0) (xs:=([]:LI)) (RI.one _) m T29 f Z Z Z (by decide) (All2.nil _) λaz aA w a m aB f=> ?_
   obtain⟨aC,aD,m,aE⟩:=Ow.stamp (RI.mono _) aB m
   have ax:=Ow.mono (RSl.mono (RI.mono _)) aD ax
   refine AU (R:=R1) (xs:=([([]:LI)]:LL)) (RSl.one _) m T24 f Z Z Z (by decide) (All2.cons aE (All2.nil _)) λaF aG w a m aH f=> ?_
   have⟨aI,aJ,au⟩:=bind_some au
   refine AX (RSl.one _) 3 m ax Z T24 Z (by decide) f Z Z Z (Ow.src (j:=0) aH m Z) aJ λaK aL w a m aM f=>Bh underlying26 Z sizeOf24 f Z λa f=>Ai 2 0 (ds:=[aL]) m sizeOf24 f Z Z (Ow.cells 3 m aM Z) (Ah (Ow.one1 3 m aM Z) An) Z (lb Z) Z λw m=>Aa (Aq ?_)
   refine Ab f Z λa f=>Ak f Z Z AD λa f=>Ac f Z λa f=>Aa ?_
   have m:=m.fr 3
   have m:=m.fr 3
   have m:Mem W aC w (ib aa 26 [sn]::ib ac 26 [aL]::aK::aF::H):=m.fr 3
   have m:=m.eraseAt 3
   obtain rfl:=sj au
   exact⟨_,Z,_,_,Z,_,aL,aK,(gt aw aD),f.k Z,m,aM⟩
  ·refine Aj f Z ay ?_
   refine AO Z ?_
   obtain rfl:=sj au
   obtain rfl:=av _ rfl
   exact⟨_,Z,_,ap,aq,aw,f.k Z,m,ax⟩
 ·rintro a w ⟨ah,rfl,ai,aj,ak,aN,f,m,aO⟩
  refine Ae ?_
  refine Au 1 0 (ds:=[aj]) m AA f Z Z Z Z Z λa f=>Ai 0 0 (ds:=[aj]) m sizeOf26 f Z Z Z (Ah (Ow.one1 2 m aO Z) An) Z (lb Z) Z λw m=>Aa ?_
  refine Am ?_
  have aP:=A2 (P:=prog) 0 m AA f (s:=2) rfl rfl rfl
  have m:=m.fr 2
  have m:=m.eraseAt 2
  have m:=m.eraseAt 1
  obtain rfl:=sj hd
  exact⟨[(.agg #[aj])],⟨aP,trivial⟩,f.d,_,[ak],aN,m,_,_,Z,Z,aO⟩
theorem Wk.c {v0:Value}{x0:LI}(m:Mem W G w (H))(h0:R1 G v0 x0){y:(LI)}(hd:D.c x0=some y):
  Calls prog 30 #[v0] w (Res W G H (λG' Ho v=>∃r0:Value,∃i0:Itm,Ho=[i0]∧r0=v∧Ow R0 2 G' i0 r0 y)):=by
 refine Aw (args:=[v0]) (N:=6) [.tmp 2] func30 Z Z (lb Z) Z λa f=> ?_
 unfold D.c at hd
 refine Ae ?_
 refine Ac f Z λa f=>AG ?_
 refine AU (R:=R0) (xs:=([]:LI)) (RI.one _) m T29 f Z Z Z (by decide) (All2.nil _) λaa ab w a m ac f=>Ab f Z λa f=> ?_
 have⟨ad,ae,hd⟩:=bind_some hd
 refine AX (RI.one _) 0 m ac Z T29 Z (by decide) f Z Z Z (h0.src m) ae λaf ag w a m ah f=>Ac f Z λa f=>Aa ?_
 refine Am ?_
 obtain rfl:=sj hd
 exact⟨[ag],f.g Z,f.d,_,[af],gr,m,_,_,Z,Z,ah⟩
theorem Wk.r {v0:Value}{x0:LI}{x1:Int}(m:Mem W G w (H))(h0:R1 G v0 x0){y:(LI)}(hd:D.r x0 x1=some y):
  Calls prog 89 #[v0,(iv x1)] w (Res W G H (λG' Ho v=>∃r0:Value,Ho=[]∧r0=v∧R1 G' r0 y)):=by
 refine Aw (args:=[v0,(iv x1)]) (N:=46) [.tmp 4] func89 Z Z (lb Z) Z λa f=> ?_
 unfold D.r at hd
 refine Ae ?_
 refine Ac f Z λa f=>AG ?_
 refine Ac f Z λa f=>Aa (Ag ?_)
 have⟨aa,ab,hd⟩:=bind_some hd
 refine AR (λa w=>∃ac:Int,ac=aa∧∃(ad:GH),GLe G ad∧Fr a 46 [(0,v0),(1,(iv x1)),(5,(iv ac))]∧Mem W ad w (H)) ?_ ?_
 ·refine Ap ?_
  refine AQ (λae a w=>∃af:Int,af=ae∧∃(ag:GH),GLe G ag∧Fr a 46 [(0,v0),(1,(iv x1)),(5,(iv af))]∧Mem W ag w (H)) ab ⟨_,Z,_,gr,f.k Z,m⟩ ?_
  clear ab f m
  rintro ae ah ai aj a w ⟨af,rfl,ag,ak,f,m⟩
  have h0:=rd1 ak h0
  refine Ag (Ae ?_)
  refine Ab f Z λa f=>Ab f Z λa f=>Bb underlying29 f Z Z h0 λa f=>Ak f Z Z AV λa f=>Ab f Z λa f=> ?_
  have⟨al,am,ai⟩:=bind_some ai
  refine Be 7 (λa w=>∃an,GLe ag an∧Mem W an w (H)∧Fr a 46 [(0,v0),(1,(iv x1)),(5,(iv af)),(7,(iv af)),(8,v0),(9,(iv (x0.length:Int))),(10,(.bool (decide (af<(x0.length:Int))))),(11,(.bool (decide (af<(x0.length:Int))))),(18,(.bool al))]) ?_ ?_
  ·rcases Af am with⟨ao,am⟩|⟨ao,am⟩
   ·refine Ar f ao ?_
    refine Ab f Z λa f=>Ar f ao ?_
    refine Ab f Z λa f=>Ar f ao ?_
    have⟨ap,aq,am⟩:=bind_some am
    refine Bo T29 f Z Z Z h0 aq λar au a av aw f=> ?_
    subst aw
    refine Ar f ao ?_
    refine AN m Pl2 f Z Z av λa f=>Ar f ao ?_
    refine Ab f Z λa f=>Ar f ao ?_
    refine Ak f Z Z AV λa f=>l_o f (AK (f.e Z) ao (f.e Z)) λa f=> ?_
    obtain rfl:=sj am
    exact⟨_,gr,m,f.k Z⟩
   ·refine As f ao λa f=> ?_
    refine As f ao λa f=>As f ao λa f=>As f ao λa f=>As f ao λa f=>As f ao λa f=>l_o f (AL (f.e Z) ao (f.e Z)) λa f=> ?_
    obtain rfl:=sj am
    exact⟨_,gr,m,f.k Z⟩
  ·rintro a w ⟨an,ax,m,f⟩
   refine Aa ?_
   rcases Af ai with⟨ay,ai⟩|⟨ay,ai⟩
   ·refine Al f Z ay ?_
    refine Ao ?_
    refine Ap (Aq ?_)
    refine Ab f Z λa f=>Ak f Z Z AD λa f=>Ac f Z λa f=>Aa ?_
    obtain rfl:=sj ai
    exact⟨_,Z,_,Z,_,(gt ak ax),f.k Z,m⟩
   ·refine Aj f Z ay ?_
    refine AO Z ?_
    obtain rfl:=sj ai
    obtain rfl:=aj _ rfl
    exact⟨_,Z,_,(gt ak ax),f.k Z,m⟩
 ·rintro a w ⟨ac,rfl,ad,az,f,m⟩
  have h0:=rd1 az h0
  refine Ag (Ae ?_)
  refine Ab f Z λa f=>Ab f Z λa f=>Bb underlying29 f Z Z h0 λa f=>Ak f Z Z AV λa f=>Ab f Z λa f=> ?_
  have⟨aA,aB,hd⟩:=bind_some hd
  refine Be 7 (λa w=>∃aC,GLe ad aC∧Mem W aC w (H)∧Fr a 46 [(0,v0),(1,(iv x1)),(5,(iv ac)),(21,(iv ac)),(22,v0),(23,(iv (x0.length:Int))),(24,(.bool (decide (ac<(x0.length:Int))))),(25,(.bool (decide (ac<(x0.length:Int))))),(32,(.bool aA))]) ?_ ?_
  ·rcases Af aB with⟨aD,aB⟩|⟨aD,aB⟩
   ·refine Ar f aD ?_
    refine Ab f Z λa f=>Ar f aD ?_
    refine Ab f Z λa f=>Ar f aD ?_
    have⟨aE,aF,aB⟩:=bind_some aB
    refine Bo T29 f Z Z Z h0 aF λaG aH a aI aJ f=> ?_
    subst aJ
    refine Ar f aD ?_
    refine AN m Pl2 f Z Z aI λa f=>Ar f aD ?_
    refine Ab f Z λa f=>Ar f aD ?_
    refine Ak f Z Z Bj λa f=>l_o f (AK (f.e Z) aD (f.e Z)) λa f=> ?_
    obtain rfl:=sj aB
    exact⟨_,gr,m,f.k Z⟩
   ·refine As f aD λa f=> ?_
    refine As f aD λa f=>As f aD λa f=>As f aD λa f=>As f aD λa f=>As f aD λa f=>l_o f (AL (f.e Z) aD (f.e Z)) λa f=> ?_
    obtain rfl:=sj aB
    exact⟨_,gr,m,f.k Z⟩
  ·rintro a w ⟨aC,aK,m,f⟩
   have h0:=rd1 aK h0
   refine Aa ?_
   rcases Af hd with⟨aL,hd⟩|⟨aL,hd⟩
   ·refine Al f Z aL ?_
    refine Ae ?_
    refine Ab f Z λa f=>Ac f Z λa f=>Aa ?_
    refine Am ?_
    obtain rfl:=sj hd
    exact⟨[v0],f.g Z,f.d,_,[],(gt az aK),m,_,Z,Z,h0⟩
   ·refine Aj f Z aL ?_
    refine Ao ?_
    refine Ae ?_
    refine Ab f Z λa f=>Ab f Z λa f=> ?_
    have⟨aM,aN,hd⟩:=bind_some hd
    refine Ea T29 f Z Z h0 (.inl ⟨Z,Z⟩) (.inr ⟨_,_,Z,Z⟩) aN λaO a aP f=> ?_
    have⟨aQ,aR,hd⟩:=bind_some hd
    refine Az f Z call30 (Wk.c m aP aR) λaS aT aU w aV m aW a f=> ?_
    obtain⟨aX,aY,rfl,rfl,aZ⟩:=aW
    have h0:=rd1 aV h0
    refine Ab f Z λa f=>AU (R:=R0) (xs:=([x1]:LI)) (RI.one _) m T29 f Z Z Z (by decide) (All2.cons Z (All2.nil _)) λa0 a1 w a m a2 f=> ?_
    have⟨a3,a4,hd⟩:=bind_some hd
    refine AX (RI.one _) 1 m aZ Z T29 Z (by decide) f Z Z Z (Ow.src (j:=0) a2 m Z) a4 λa5 a6 w a m a7 f=>Ac f Z λa f=>AG ?_
    refine Ab f Z λa f=>Ab f Z λa f=>Ab f Z λa f=> ?_
    have⟨a8,a9,hd⟩:=bind_some hd
    refine Ea T29 f Z Z h0 (.inr ⟨_,_,Z,Z⟩) (.inl ⟨Z,Z⟩) a9 λba a bb f=> ?_
    have⟨bc,bd,hd⟩:=bind_some hd
    refine AX (RI.one _) 1 m a7 Z T29 Z (by decide) f Z Z Z (bb.src m) bd λbe bf w a m bg f=>Ac f Z λa f=>Aa ?_
    refine Am ?_
    have m:=m.fr 1
    obtain⟨bh,bi,m,bj⟩:=Ow.stamp (RI.mono _) bg m
    have m:Mem W bh w H:=Mem.drop (H':=[a0]) m
    obtain rfl:=sj hd
    exact⟨[bf],f.g Z,f.d,_,[],(gt az (gt aK (gt aV bi))),m,_,Z,Z,bj⟩
theorem Wk.j {aa:Value}{ab:Itm}{ac:LL}{x1 x2:Int}(m:Mem W G w (ab::H))(ad:Ow R1 29 G ab aa ac){y:(LL)}(hd:D.j ac x1 x2=some y):
  Calls prog 67 #[(.agg #[aa]),(iv x1),(iv x2)] w (Res W G H (λG' Ho v=>∃i0:Itm,Ho=[i0]∧v=(.agg #[aa])∧Ow R1 29 G' i0 aa y)):=by
 refine Aw (args:=[(.agg #[aa]),(iv x1),(iv x2)]) (N:=30) [.cell 6 26] func67 Z Z (lb Z) Z λa f=> ?_
 unfold D.j at hd
 refine Ae ?_
 refine Bf (cs:=[aa]) m f Z Z Z λae w a m f=>AH (cs:=[sn]) zeroValue26 m f Z Z λaf w a m f=>Aa (Ag ?_)
 refine Bc 11 AW (by kernel_rfl) m ?_
 refine BB 0 11 underlying26 Z sizeOf24 Z f Z λa f=>Bd 1 11 1 Bk Z Z Z f Z λa f=>Ay 2 11 Z f Z λa f=>BB 3 11 underlying26 Z sizeOf24 Z f Z λa f=>Bd 4 11 1 Bk Z Z Z f Z λa f=>Ay 5 11 Z f Z λa f=> ?_
 have⟨ag,ah,hd⟩:=bind_some hd
 refine Ck 6 11 2 m ad T24 ah Z f Z Z λai a aj f=>q_ol 7 11 2 ad By aj ah Z f Z λak a al f=>Ay 8 11 Z f Z λa f=>A3 9 Z λam w an m ao ao=> ?_
 have al:=rd1 an al
 have ad:=Ow.mono (RSl.mono (RI.mono _)) an ad
 have⟨ap,aq,hd⟩:=bind_some hd
 refine Az f Z call89 (Wk.r m al aq) λar au av w aw m ax a f=> ?_
 obtain⟨ay,rfl,rfl,az⟩:=ax
 have ad:=Ow.mono (RSl.mono (RI.mono _)) aw ad
 refine Aa ?_
 refine ao au [] _ _ aw m ?_
 have⟨aA,aB,hd⟩:=bind_some hd
 refine Ck 10 11 2 m ad T24 aB Z f Z Z λaC a aD f=>A1 λaE w aF m=> ?_
 have az:=rd1 aF az
 have ad:=Ow.mono (RSl.mono (RI.mono _)) aF ad
 refine BK 2 m ad Z sizeOf29 f Z Z aD aB az.cells az.one1 az λaG w m aH=>Aa (Ag ?_)
 refine Bc 11 AW (by kernel_rfl) m ?_
 refine BB 0 11 underlying26 Z sizeOf24 Z f Z λa f=>Bd 1 11 1 Bk Z Z Z f Z λa f=>Ay 2 11 Z f Z λa f=>BB 3 11 underlying26 Z sizeOf24 Z f Z λa f=>Bd 4 11 1 Bk Z Z Z f Z λa f=>Ay 5 11 Z f Z λa f=> ?_
 have⟨aI,aJ,hd⟩:=bind_some hd
 refine Ck 6 11 2 m aH T24 aJ Z f Z Z λaK a aL f=>q_ol 7 11 2 aH By aL aJ Z f Z λaM a aN f=>Ay 8 11 Z f Z λa f=>A3 9 Z λaO w aP m aQ aQ=> ?_
 have aN:=rd1 aP aN
 have aH:=Ow.mono (RSl.mono (RI.mono _)) aP aH
 have⟨aR,aS,hd⟩:=bind_some hd
 refine Az f Z call89 (Wk.r m aN aS) λaT aU aV w aW m aX a f=> ?_
 obtain⟨aY,rfl,rfl,aZ⟩:=aX
 have aH:=Ow.mono (RSl.mono (RI.mono _)) aW aH
 refine Aa ?_
 refine aQ aU [] _ _ aW m ?_
 have⟨a0,a1,hd⟩:=bind_some hd
 refine Ck 10 11 2 m aH T24 a1 Z f Z Z λa2 a a3 f=>A1 λa4 w a5 m=> ?_
 have aZ:=rd1 a5 aZ
 have aH:=Ow.mono (RSl.mono (RI.mono _)) a5 aH
 refine BK 2 m aH Z sizeOf29 f Z Z a3 a1 aZ.cells aZ.one1 aZ λa6 w m a7=>AG ?_
 refine Au 1 0 (ds:=[aa]) m AA f Z Z Z Z Z λa f=>Ai 0 0 (ds:=[aa]) m sizeOf26 f Z Z Z (Ah (Ow.one1 2 m a7 Z) An) Z (lb Z) Z λw m=>Aa ?_
 refine Am ?_
 have a8:=A2 (P:=prog) 0 m AA f (s:=6) rfl rfl rfl
 have m:=m.fr 2
 have m:=m.eraseAt 2
 have m:=m.eraseAt 1
 obtain rfl:=sj hd
 exact⟨[(.agg #[aa])],⟨a8,trivial⟩,f.d,_,[a6],(gt an (gt aw (gt aF (gt aP (gt aW a5))))),m,_,Z,Z,a7⟩
theorem Wk.C0 {b0:Nat}{aa:Value}{ab:LI}{ac ad:Int}(m:Mem W G w (ib b0 72 [aa,(iv ac),(iv ad)]::H))(ae:RSl (RI .u8) G aa ab){y:Int×(LI)×Int×Int}(hd:D.C0 ab ac ad=some y):
  Calls prog 88 #[(pb b0)] w (Res W G H (λG' Ho v=>∃r0:Value,Ho=[ib b0 72 [r0,(iv y.2.2.1),(iv y.2.2.2)]]∧v=(iv y.1)∧RSl (RI .u8) G' r0 y.2.1)):=by
 refine Aw (args:=[(pb b0)]) (N:=8) [.tmp 2] func88 Z Z (lb Z) Z λa f=> ?_
 unfold D.C0 at hd
 refine Ae ?_
 refine Ac f Z λa f=>AG ?_
 refine AU (R:=R0) (xs:=([(-1),0,1,2147483648,(-2147483648),1099511627776,4611686018427387904,(-4611686018427387904),9223372036854775807,(-9223372036854775808)]:LI)) (RI.one _) m T29 f Z Z Z (by decide) (All2.cons Z (All2.cons Z (All2.cons Z (All2.cons Z (All2.cons Z (All2.cons Z (All2.cons Z (All2.cons Z (All2.cons Z (All2.cons Z (All2.nil _))))))))))) λaf ag w a m ah f=>Ab f Z λa f=> ?_
 have m:=m.fr 1
 have⟨ai,aj,hd⟩:=bind_some hd
 refine Az f Z call17 (Wk.a m ae aj) λak al am w an m ao a f=> ?_
 obtain⟨ap,rfl,rfl,aq⟩:=ao
 have ah:=od1 an ah
 have⟨ar,au,hd⟩:=bind_some hd
 refine BH 1 m ah Z T29 f Z Z Z au λav a aw f=>BF 1 m ah Z Pl2 f Z Z aw au λax a ay f=> ?_
 subst ay
 refine Ac f Z λa f=>Aa ?_
 refine Am ?_
 have m:=m.eraseAt 1
 obtain rfl:=sj hd
 exact⟨[(iv ar)],f.g Z,f.d,_,[ib b0 72 [ap,(iv ai.2.2.1),(iv ai.2.2.2)]],an,m,_,Z,Z,aq⟩
theorem Wk.O {x0 x1:Int}(m:Mem W G w (H)){y:Int}(hd:D.O x0 x1=some y):
  Calls prog 70 #[(iv x0),(iv x1)] w (Res W G H (λ_ Ho v=>Ho=[]∧v=(iv y))):=by
 refine Aw (args:=[(iv x0),(iv x1)]) (N:=10) [.tmp 4] func70 Z Z (lb Z) Z λa f=> ?_
 unfold D.O at hd
 refine Ae ?_
 refine Ac f Z λa f=>Aa (Ag (Ae ?_))
 refine Ab f Z λa f=>Ab f Z λa f=>Ak f Z Z AV λa f=>Aa ?_
 rcases Af hd with⟨aa,hd⟩|⟨aa,hd⟩
 ·refine Al f Z aa ?_
  refine Ae ?_
  refine Ab f Z λa f=>Ac f Z λa f=>Aa ?_
  refine Am ?_
  obtain rfl:=sj hd
  exact⟨[(iv x0)],f.g Z,f.d,_,[],gr,m,Z,Z⟩
 ·refine Aj f Z aa ?_
  refine Ao ?_
  refine Ae ?_
  refine Ab f Z λa f=>Ac f Z λa f=>Aa ?_
  refine Am ?_
  obtain rfl:=sj hd
  exact⟨[(iv x1)],f.g Z,f.d,_,[],gr,m,Z,Z⟩
theorem Wk.c0 {b0:Nat}{aa:Value}{ab:LI}{ac ad x1:Int}(m:Mem W G w (ib b0 72 [aa,(iv ac),(iv ad)]::H))(ae:RSl (RI .u8) G aa ab){y:Int×(LI)×Int×Int}(hd:D.c0 ab ac ad x1=some y):
  Calls prog 65 #[(pb b0),(iv x1)] w (Res W G H (λG' Ho v=>∃r0:Value,Ho=[ib b0 72 [r0,(iv y.2.2.1),(iv y.2.2.2)]]∧v=(iv y.1)∧RSl (RI .u8) G' r0 y.2.1)):=by
 refine Aw (args:=[(pb b0),(iv x1)]) (N:=28) [.tmp 4] func65 Z Z (lb Z) Z λa f=> ?_
 unfold D.c0 at hd
 refine Ae ?_
 refine Ac f Z λa f=>Aa (Ag (Ae ?_))
 refine Ab f Z λa f=> ?_
 have⟨af,ag,hd⟩:=bind_some hd
 refine Az f Z call15 (Wk.l m ae ag) λah ai aj w ak m al a f=> ?_
 obtain⟨am,rfl,rfl,an⟩:=al
 refine Aa ?_
 rcases Af hd with⟨ao,hd⟩|⟨ao,hd⟩
 ·refine Al f Z ao ?_
  refine Ae ?_
  refine Ab f Z λa f=>Ab f Z λa f=>Ak f Z Z AD λa f=>Ab f Z λa f=> ?_
  have⟨ap,aq,hd⟩:=bind_some hd
  refine Az f Z call88 (Wk.C0 m an aq) λar au av w aw m ax a f=> ?_
  obtain⟨ay,rfl,rfl,az⟩:=ax
  refine AU (R:=R0) (xs:=([(-1),x1,(i64.wrap (x1+1)),ap.1]:LI)) (RI.one _) m T29 f Z Z Z (by decide) (All2.cons Z (All2.cons Z (All2.cons Z (All2.cons Z (All2.nil _))))) λaA aB w a m aC f=>Ab f Z λa f=> ?_
  have m:=m.fr 1
  have⟨aD,aE,hd⟩:=bind_some hd
  refine Az f Z call17 (Wk.a m az aE) λaF aG aH w aI m aJ a f=> ?_
  obtain⟨aK,rfl,rfl,aL⟩:=aJ
  have aC:=od1 aI aC
  have⟨aM,aN,hd⟩:=bind_some hd
  refine BH 1 m aC Z T29 f Z Z Z aN λaO a aP f=>BF 1 m aC Z Pl2 f Z Z aP aN λaQ a aR f=> ?_
  subst aR
  refine Ac f Z λa f=>Aa ?_
  refine Am ?_
  have m:=m.eraseAt 1
  obtain rfl:=sj hd
  exact⟨[(iv aM)],f.g Z,f.d,_,[ib b0 72 [aK,(iv aD.2.2.1),(iv aD.2.2.2)]],(gt ak (gt aw aI)),m,_,Z,Z,aL⟩
 ·refine Aj f Z ao ?_
  refine Ao ?_
  refine Ag (Ae ?_)
  refine Ab f Z λa f=> ?_
  have⟨aS,aT,hd⟩:=bind_some hd
  refine Az f Z call15 (Wk.l m an aT) λaU aV aW w aX m aY a f=> ?_
  obtain⟨aZ,rfl,rfl,a0⟩:=aY
  refine Aa ?_
  rcases Af hd with⟨a1,hd⟩|⟨a1,hd⟩
  ·refine Al f Z a1 ?_
   refine Ae ?_
   refine Ab f Z λa f=>Ab f Z λa f=> ?_
   have⟨a2,a3,hd⟩:=bind_some hd
   refine A4 f Z call70 (Wk.O m a3) λa4 w a5 m a f=> ?_
   have a0:=rd1 a5 a0
   refine Ak f Z Z AD λa f=> ?_
   have⟨a6,a7,hd⟩:=bind_some hd
   refine Az f Z call17 (Wk.a m a0 a7) λa8 a9 ba w bb m bc a f=> ?_
   obtain⟨bd,rfl,rfl,be⟩:=bc
   refine Ac f Z λa f=>Aa ?_
   refine Am ?_
   obtain rfl:=sj hd
   exact⟨[(iv a6.1)],f.g Z,f.d,_,[ib b0 72 [bd,(iv a6.2.2.1),(iv a6.2.2.2)]],(gt ak (gt aX (gt a5 bb))),m,_,Z,Z,be⟩
  ·refine Aj f Z a1 ?_
   refine Ao ?_
   refine Ae ?_
   refine Ab f Z λa f=>Ab f Z λa f=>Ak f Z Z AD λa f=> ?_
   have⟨bf,bg,hd⟩:=bind_some hd
   refine Az f Z call17 (Wk.a m a0 bg) λbh bi bj w bk m bl a f=> ?_
   obtain⟨bm,rfl,rfl,bn⟩:=bl
   refine Ac f Z λa f=>Aa ?_
   refine Am ?_
   obtain rfl:=sj hd
   exact⟨[(iv bf.1)],f.g Z,f.d,_,[ib b0 72 [bm,(iv bf.2.2.1),(iv bf.2.2.2)]],(gt ak (gt aX bk)),m,_,Z,Z,bn⟩
theorem Wk.A0 {v0:Value}{it0:Itm}{x0:LI}{x1:Int}(m:Mem W G w (it0::H))(o0:Ow R0 2 G it0 v0 x0){y:(LI)}(hd:D.A0 x0 x1=some y):
  Calls prog 89 #[v0,(iv x1)] w (Res W G H (λG' Ho v=>∃r0:Value,∃i0:Itm,Ho=[i0]∧r0=v∧Ow R0 2 G' i0 r0 y)):=by
 refine Aw (args:=[v0,(iv x1)]) (N:=46) [.tmp 4] func89 Z Z (lb Z) Z λa f=> ?_
 unfold D.A0 at hd
 refine Ae ?_
 refine Ac f Z λa f=>AG ?_
 refine Ac f Z λa f=>Aa (Ag ?_)
 have⟨aa,ab,hd⟩:=bind_some hd
 refine AR (λa w=>∃ac:Int,ac=aa∧∃(ad:GH),GLe G ad∧Fr a 46 [(0,v0),(1,(iv x1)),(5,(iv ac))]∧Mem W ad w (it0::H)) ?_ ?_
 ·refine Ap ?_
  refine AQ (λae a w=>∃af:Int,af=ae∧∃(ag:GH),GLe G ag∧Fr a 46 [(0,v0),(1,(iv x1)),(5,(iv af))]∧Mem W ag w (it0::H)) ab ⟨_,Z,_,gr,f.k Z,m⟩ ?_
  clear ab f m
  rintro ae ah ai aj a w ⟨af,rfl,ag,ak,f,m⟩
  have o0:=od1 ak o0
  refine Ag (Ae ?_)
  refine Ab f Z λa f=>Ab f Z λa f=>Bw 0 m o0 Z underlying29 f Z Z λa f=>Ak f Z Z AV λa f=>Ab f Z λa f=> ?_
  have⟨al,am,ai⟩:=bind_some ai
  refine Be 7 (λa w=>∃an,GLe ag an∧Mem W an w (it0::H)∧Fr a 46 [(0,v0),(1,(iv x1)),(5,(iv af)),(7,(iv af)),(8,v0),(9,(iv (x0.length:Int))),(10,(.bool (decide (af<(x0.length:Int))))),(11,(.bool (decide (af<(x0.length:Int))))),(18,(.bool al))]) ?_ ?_
  ·rcases Af am with⟨ao,am⟩|⟨ao,am⟩
   ·refine Ar f ao ?_
    refine Ab f Z λa f=>Ar f ao ?_
    refine Ab f Z λa f=>Ar f ao ?_
    have⟨ap,aq,am⟩:=bind_some am
    refine BH 0 m o0 Z T29 f Z Z Z aq λar a au f=>Ar f ao ?_
    refine BF 0 m o0 Z Pl2 f Z Z au aq λav a aw f=> ?_
    subst aw
    refine Ar f ao ?_
    refine Ab f Z λa f=>Ar f ao ?_
    refine Ak f Z Z AV λa f=>l_o f (AK (f.e Z) ao (f.e Z)) λa f=> ?_
    obtain rfl:=sj am
    exact⟨_,gr,m,f.k Z⟩
   ·refine As f ao λa f=> ?_
    refine As f ao λa f=>As f ao λa f=>As f ao λa f=>As f ao λa f=>As f ao λa f=>l_o f (AL (f.e Z) ao (f.e Z)) λa f=> ?_
    obtain rfl:=sj am
    exact⟨_,gr,m,f.k Z⟩
  ·rintro a w ⟨an,ax,m,f⟩
   refine Aa ?_
   rcases Af ai with⟨ay,ai⟩|⟨ay,ai⟩
   ·refine Al f Z ay ?_
    refine Ao ?_
    refine Ap (Aq ?_)
    refine Ab f Z λa f=>Ak f Z Z AD λa f=>Ac f Z λa f=>Aa ?_
    obtain rfl:=sj ai
    exact⟨_,Z,_,Z,_,(gt ak ax),f.k Z,m⟩
   ·refine Aj f Z ay ?_
    refine AO Z ?_
    obtain rfl:=sj ai
    obtain rfl:=aj _ rfl
    exact⟨_,Z,_,(gt ak ax),f.k Z,m⟩
 ·rintro a w ⟨ac,rfl,ad,az,f,m⟩
  have o0:=od1 az o0
  refine Ag (Ae ?_)
  refine Ab f Z λa f=>Ab f Z λa f=>Bw 0 m o0 Z underlying29 f Z Z λa f=>Ak f Z Z AV λa f=>Ab f Z λa f=> ?_
  have⟨aA,aB,hd⟩:=bind_some hd
  refine Be 7 (λa w=>∃aC,GLe ad aC∧Mem W aC w (it0::H)∧Fr a 46 [(0,v0),(1,(iv x1)),(5,(iv ac)),(21,(iv ac)),(22,v0),(23,(iv (x0.length:Int))),(24,(.bool (decide (ac<(x0.length:Int))))),(25,(.bool (decide (ac<(x0.length:Int))))),(32,(.bool aA))]) ?_ ?_
  ·rcases Af aB with⟨aD,aB⟩|⟨aD,aB⟩
   ·refine Ar f aD ?_
    refine Ab f Z λa f=>Ar f aD ?_
    refine Ab f Z λa f=>Ar f aD ?_
    have⟨aE,aF,aB⟩:=bind_some aB
    refine BH 0 m o0 Z T29 f Z Z Z aF λaG a aH f=>Ar f aD ?_
    refine BF 0 m o0 Z Pl2 f Z Z aH aF λaI a aJ f=> ?_
    subst aJ
    refine Ar f aD ?_
    refine Ab f Z λa f=>Ar f aD ?_
    refine Ak f Z Z Bj λa f=>l_o f (AK (f.e Z) aD (f.e Z)) λa f=> ?_
    obtain rfl:=sj aB
    exact⟨_,gr,m,f.k Z⟩
   ·refine As f aD λa f=> ?_
    refine As f aD λa f=>As f aD λa f=>As f aD λa f=>As f aD λa f=>As f aD λa f=>l_o f (AL (f.e Z) aD (f.e Z)) λa f=> ?_
    obtain rfl:=sj aB
    exact⟨_,gr,m,f.k Z⟩
  ·rintro a w ⟨aC,aK,m,f⟩
   have o0:=od1 aK o0
   refine Aa ?_
   rcases Af hd with⟨aL,hd⟩|⟨aL,hd⟩
   ·refine Al f Z aL ?_
    refine Ae ?_
    refine Ab f Z λa f=>Ac f Z λa f=>Aa ?_
    refine Am ?_
    obtain rfl:=sj hd
    exact⟨[v0],f.g Z,f.d,_,[it0],(gt az aK),m,_,_,Z,Z,o0⟩
   ·refine Aj f Z aL ?_
    refine Ao ?_
    refine Ae ?_
    refine Ab f Z λa f=>Ab f Z λa f=> ?_
    obtain⟨aM,aN,m,aO⟩:=Ow.stamp (RI.mono _) o0 m
    have⟨aP,aQ,hd⟩:=bind_some hd
    refine Ea T29 f Z Z aO (.inl ⟨Z,Z⟩) (.inr ⟨_,_,Z,Z⟩) aQ λaR a aS f=> ?_
    have⟨aT,aU,hd⟩:=bind_some hd
    refine Az f Z call30 (Wk.c m aS aU) λaV aW aX w aY m aZ a f=> ?_
    obtain⟨a0,a1,rfl,rfl,a2⟩:=aZ
    have aO:=rd1 aY aO
    refine Ab f Z λa f=>AU (R:=R0) (xs:=([x1]:LI)) (RI.one _) m T29 f Z Z Z (by decide) (All2.cons Z (All2.nil _)) λa3 a4 w a m a5 f=> ?_
    have⟨a6,a7,hd⟩:=bind_some hd
    refine AX (RI.one _) 1 m a2 Z T29 Z (by decide) f Z Z Z (Ow.src (j:=0) a5 m Z) a7 λa8 a9 w a m ba f=>Ac f Z λa f=>AG ?_
    refine Ab f Z λa f=>Ab f Z λa f=>Ab f Z λa f=> ?_
    have⟨bb,bc,hd⟩:=bind_some hd
    refine Ea T29 f Z Z aO (.inr ⟨_,_,Z,Z⟩) (.inl ⟨Z,Z⟩) bc λbd a be f=> ?_
    have⟨bf,bg,hd⟩:=bind_some hd
    refine AX (RI.one _) 1 m ba Z T29 Z (by decide) f Z Z Z (be.src m) bg λbh bi w a m bj f=>Ac f Z λa f=>Aa ?_
    refine Am ?_
    have m:=m.fr 1
    have m:=m.eraseAt 1
    obtain rfl:=sj hd
    exact⟨[bi],f.g Z,f.d,_,[bh],(gt az (gt aK (gt aN aY))),m,_,_,Z,Z,bj⟩
theorem Wk.K {x0:Int}(m:Mem W G w (H)){y:(LL)}(hd:D.K x0=some y):
  Calls prog 66 #[(iv x0)] w (Res W G H (λG' Ho v=>∃r0:Value,∃i0:Itm,Ho=[i0]∧v=(.agg #[r0])∧Ow2 R0 29 2 G' i0 r0 y)):=by
 refine Aw (args:=[(iv x0)]) (N:=18) [.cell 2 26] func66 Z Z (lb Z) Z λa f=> ?_
 unfold D.K at hd
 refine Ae ?_
 refine AH (cs:=[sn]) zeroValue26 m f Z Z λaa w a m f=>AG ?_
 have ab:∀w,(Instr.build 26 #[]).run prog w= .ok (.agg #[sn]) w:=by intro w;simp[Instr.build,Instr.fill,A8,A6,AT,AZ,AP,A9]
 refine Bl f Z Z ab λa f=>AH (cs:=[sn]) zeroValue26 m f Z Z λac w a m f=>Ai 0 0 (ds:=[sn]) m sizeOf26 f Z Z Z (Ah Z An) Z (lb Z) Z λw m=>Aa (Ag (Ae ?_))
 refine Ac f Z λa f=>Aa ?_
 obtain⟨ad,m,ae⟩:=Ow2.nil R0 29 2 m
 have⟨af,ag,hd⟩:=bind_some hd
 refine AR (λa w=>∃ah:LL,ah=af∧∃(ai:GH) (aj:Value) (ak:Itm),GLe G ai∧Fr a 18 [(2,(pb aa)),(3,(pb ac))]∧Mem W ai w (ib aa 26 [sn]::ib ac 26 [aj]::ak::H)∧Ow2 R0 29 2 ai ak aj ah) ?_ ?_
 ·refine Ap ?_
  have m:=m.fr 1
  have m:=m.fr 2
  refine AQ (λal a w=>∃am:Int,∃an:LL,(am,an)=al∧∃(ao:GH) (ap:Value) (aq:Itm),GLe G ao∧Fr a 18 [(0,(iv x0)),(2,(pb aa)),(3,(pb ac)),(4,(iv am))]∧Mem W ao w (ib aa 26 [sn]::ib ac 26 [ap]::aq::H)∧Ow2 R0 29 2 ao aq ap an) ag ⟨_,_,Z,_,sn,ad,gr,f.k Z,m,ae⟩ ?_
  clear ag f m
  rintro al ar au av a w ⟨am,an,rfl,ao,ap,aq,aw,f,m,ax⟩
  refine Ag (Ae ?_)
  refine Ab f Z λa f=>Ab f Z λa f=>Ak f Z Z AV λa f=>Aa ?_
  rcases Af au with⟨ay,au⟩|⟨ay,au⟩
  ·refine Al f Z ay ?_
   refine Ao ?_
   refine Ag (Ap (Aq ?_))
   refine Bh underlying26 Z sizeOf24 f Z λa f=>AE 1 0 m Bk f Z Z Z Z λa f=>AU (R:=R0) (xs:=([]:LI)) (RI.one _) m T29 f Z Z Z (by decide) (All2.nil _) λaz aA w a m aB f=>AU (R:=RawS) (xs:=[aA]) RawS.one m T24 f Z Z Z (by decide) (All2.cons ⟨Z,Ow.one1 0 m aB Z,Ow.cells 0 m aB Z⟩ (All2.nil _)) λaC aD w a m aE f=> ?_
   have m:=m.fr 1
   have m:Mem W ao w (aq::az::aC::ib aa 26 [sn]::ib ac 26 [ap]::H):=m.fr 4
   have⟨aF,aG,au⟩:=bind_some au
   refine l_append2 m ax aB aE T24 Z (by decide) f Z Z Z aG λaH aI w a m aJ f=>Bh underlying26 Z sizeOf24 f Z λa f=>Ai 2 0 (ds:=[aI]) m sizeOf24 f Z Z (Ow2.cells 0 m aJ Z) (Ah (Ow2.one1 0 m aJ Z) An) Z (lb Z) Z λw m=>Aa (Aq ?_)
   refine Ab f Z λa f=>Ak f Z Z AD λa f=>Ac f Z λa f=>Aa ?_
   have m:=m.fr 2
   have m:=m.fr 2
   obtain rfl:=sj au
   exact⟨_,Z,_,_,Z,_,aI,aH,aw,f.k Z,m,aJ⟩
  ·refine Aj f Z ay ?_
   refine AO Z ?_
   obtain rfl:=sj au
   obtain rfl:=av _ rfl
   exact⟨_,Z,_,ap,aq,aw,f.k Z,m,ax⟩
 ·rintro a w ⟨ah,rfl,ai,aj,ak,aK,f,m,aL⟩
  refine Ae ?_
  refine Au 1 0 (ds:=[aj]) m AA f Z Z Z Z Z λa f=>Ai 0 0 (ds:=[aj]) m sizeOf26 f Z Z Z (Ah (Ow2.one1 2 m aL Z) An) Z (lb Z) Z λw m=>Aa ?_
  refine Am ?_
  have aM:=A2 (P:=prog) 0 m AA f (s:=2) rfl rfl rfl
  have m:=m.fr 2
  have m:=m.eraseAt 2
  have m:=m.eraseAt 1
  obtain rfl:=sj hd
  exact⟨[(.agg #[aj])],⟨aM,trivial⟩,f.d,_,[ak],aK,m,_,_,Z,Z,aL⟩
theorem Wk.V {aa:Value}{ab:Itm}{ac:LL}{x1 x2:Int}(m:Mem W G w (ab::H))(ad:Ow2 R0 29 2 G ab aa ac){y:(LL)}(hd:D.V ac x1 x2=some y):
  Calls prog 67 #[(.agg #[aa]),(iv x1),(iv x2)] w (Res W G H (λG' Ho v=>∃i0:Itm,Ho=[i0]∧v=(.agg #[aa])∧Ow2 R0 29 2 G' i0 aa y)):=by
 refine Aw (args:=[(.agg #[aa]),(iv x1),(iv x2)]) (N:=30) [.cell 6 26] func67 Z Z (lb Z) Z λa f=> ?_
 unfold D.V at hd
 refine Ae ?_
 refine Bf (cs:=[aa]) m f Z Z Z λae w a m f=>AH (cs:=[sn]) zeroValue26 m f Z Z λaf w a m f=>Aa (Ag ?_)
 have m:=m.fr 2
 refine Dd [ab] (ib af 26 [sn]::ib ae 26 [aa]::H) 10 AW (by kernel_rfl) m ?_
 refine BB 0 10 underlying26 Z sizeOf24 Z f Z λa f=>Bd 1 10 1 Bk Z Z Z f Z λa f=>Ay 2 10 Z f Z λa f=>BB 3 10 underlying26 Z sizeOf24 Z f Z λa f=>Bd 4 10 1 Bk Z Z Z f Z λa f=>Ay 5 10 Z f Z λa f=>Ay 8 10 Z f Z λa f=>A3 6 Z λag w ah m ai ai=> ?_
 have ad:=od2 ah ad
 have⟨aj,ak,hd⟩:=bind_some hd
 refine Cm 0 m ad Z T24 f Z Z Z ak λal a am f=>Aa ?_
 refine ai ag [ab] _ _ gr m ?_
 refine A3 7 Z λan w ao m ap ap=> ?_
 have ad:=od2 ao ad
 refine BX 0 m ad Z By f Z Z am ak λaq a ar f=>Aa ?_
 refine ap an [ab] _ _ gr m ?_
 refine A3 9 Z λau w av m aw aw=> ?_
 have ad:=od2 av ad
 obtain⟨ax,ay,m,az,aA⟩:=Ow2.out ad m ak ar
 have m:=m.fr 1
 have⟨aB,aC,hd⟩:=bind_some hd
 refine Az f Z call89 (Wk.A0 m aA aC) λaD aE aF w aG m aH a f=> ?_
 obtain⟨aI,aJ,rfl,rfl,aK⟩:=aH
 have az:=OwH.mono (RI.mono _) aG az
 refine Aa ?_
 refine aw aE [aJ,ax] _ _ aG m ?_
 refine A1 λaL w aM m=> ?_
 have aK:=od1 aM aK
 have az:=OwH.mono (RI.mono _) aM az
 have⟨aN,aO,hd⟩:=bind_some hd
 refine Cc 1 m az Z T24 f Z Z Z aO λaP a aQ f=> ?_
 have m:=m.fr 1
 refine BV m az aK sizeOf29 f Z Z aQ λaR w m aS=>Aa (Ag ?_)
 refine Dd [aR] (ib af 26 [sn]::ib ae 26 [aa]::H) 10 AW (by kernel_rfl) m ?_
 refine BB 0 10 underlying26 Z sizeOf24 Z f Z λa f=>Bd 1 10 1 Bk Z Z Z f Z λa f=>Ay 2 10 Z f Z λa f=>BB 3 10 underlying26 Z sizeOf24 Z f Z λa f=>Bd 4 10 1 Bk Z Z Z f Z λa f=>Ay 5 10 Z f Z λa f=>Ay 8 10 Z f Z λa f=>A3 6 Z λaT w aU m aV aV=> ?_
 have aS:=od2 aU aS
 have⟨aW,aX,hd⟩:=bind_some hd
 refine Cm 0 m aS Z T24 f Z Z Z aX λaY a aZ f=>Aa ?_
 refine aV aT [aR] _ _ gr m ?_
 refine A3 7 Z λa0 w a1 m a2 a2=> ?_
 have aS:=od2 a1 aS
 refine BX 0 m aS Z By f Z Z aZ aX λa3 a a4 f=>Aa ?_
 refine a2 a0 [aR] _ _ gr m ?_
 refine A3 9 Z λa5 w a6 m a7 a7=> ?_
 have aS:=od2 a6 aS
 obtain⟨a8,a9,m,ba,bb⟩:=Ow2.out aS m aX a4
 have m:=m.fr 1
 have⟨bc,bd,hd⟩:=bind_some hd
 refine Az f Z call89 (Wk.A0 m bb bd) λbe bf bg w bh m bi a f=> ?_
 obtain⟨bj,bk,rfl,rfl,bl⟩:=bi
 have ba:=OwH.mono (RI.mono _) bh ba
 refine Aa ?_
 refine a7 bf [bk,a8] _ _ bh m ?_
 refine A1 λbm w bn m=> ?_
 have bl:=od1 bn bl
 have ba:=OwH.mono (RI.mono _) bn ba
 have⟨bo,bp,hd⟩:=bind_some hd
 refine Cc 1 m ba Z T24 f Z Z Z bp λbq a br f=> ?_
 have m:=m.fr 1
 refine BV m ba bl sizeOf29 f Z Z br λbs w m bt=>AG ?_
 refine Au 2 0 (ds:=[aa]) m AA f Z Z Z Z Z λa f=>Ai 1 0 (ds:=[aa]) m sizeOf26 f Z Z Z (Ah (Ow2.one1 0 m bt Z) An) Z (lb Z) Z λw m=>Aa ?_
 refine Am ?_
 have bu:=A2 (P:=prog) 1 m AA f (s:=6) rfl rfl rfl
 have m:=m.eraseAt 2
 have m:=m.eraseAt 1
 obtain rfl:=sj hd
 exact⟨[(.agg #[aa])],⟨bu,trivial⟩,f.d,_,[bs],(gt ah (gt ao (gt av (gt aG (gt aM (gt aU (gt a1 (gt a6 (gt bh bn))))))))),m,_,Z,Z,bt⟩
theorem Wk.X0 {x0:Int}(m:Mem W G w (H)){y:(LL)×Bool}(hd:D.X0 x0=some y):
  Calls prog 96 #[(iv x0)] w (Res W G H (λG' Ho v=>∃r0:Value,∃i0:Itm,Ho=[i0]∧v= .tuple #[(.agg #[r0]),(.bool y.2)]∧Ow2 R0 29 2 G' i0 r0 y.1)):=by
 refine Aw (args:=[(iv x0)]) (N:=10) [.cell 2 26,.tmp 3] func96 Z Z (lb Z) Z λa f=> ?_
 unfold D.X0 at hd
 refine Ae ?_
 refine AH (cs:=[sn]) zeroValue26 m f Z Z λaa w a m f=>Ac f Z λa f=>Aa (Ag (Ae ?_))
 refine Ab f Z λa f=> ?_
 have⟨ab,ac,hd⟩:=bind_some hd
 refine A4 f Z call36 (Wk.e m ac) λad w ae m a f=>l_o f (Bp (f.e Z)) λa f=>Aa ?_
 rcases Af hd with⟨af,hd⟩|⟨af,hd⟩
 ·refine Al f Z af ?_
  refine Ae ?_
  have ag:∀w,(Instr.build 26 #[]).run prog w= .ok (.agg #[sn]) w:=by intro w;simp[Instr.build,Instr.fill,A8,A6,AT,AZ,AP,A9]
  refine Bl f Z Z ag λa f=>Ai 0 0 (ds:=[sn]) m sizeOf26 f Z Z Z (Ah Z An) Z (lb Z) Z λw m=>Ac f Z λa f=>Aa ?_
  refine Am ?_
  obtain⟨ah,m,ai⟩:=Ow2.nil R0 29 2 m
  have aj:=A2 (P:=prog) 1 m AA f (s:=2) rfl rfl rfl
  have m:=m.eraseAt 1
  obtain rfl:=sj hd
  exact⟨[(.agg #[sn]),(.bool false)],⟨aj,f.get _ _ Z,trivial⟩,f.d,_,[ah],ae,m,_,_,Z,Z,ai⟩
 ·refine Aj f Z af ?_
  refine Ao ?_
  refine Ae ?_
  refine Ab f Z λa f=> ?_
  have⟨ak,al,hd⟩:=bind_some hd
  refine Az f Z call66 (Wk.K m al) λam an ao w ap m aq a f=> ?_
  obtain⟨ar,au,rfl,rfl,av⟩:=aq
  refine Ai 1 0 (ds:=[ar]) m sizeOf26 f Z Z Z (Ah (Ow2.one1 0 m av Z) An) Z (lb Z) Z λw m=>Ac f Z λa f=>Aa ?_
  refine Am ?_
  have aw:=A2 (P:=prog) 1 m AA f (s:=2) rfl rfl rfl
  have m:=m.eraseAt 1
  obtain rfl:=sj hd
  exact⟨[(.agg #[ar]),(.bool true)],⟨aw,f.get _ _ Z,trivial⟩,f.d,_,[au],(gt ae ap),m,_,_,Z,Z,av⟩
theorem Wk.f0 {x0:Int}(m:Mem W G w (H)){y:(LL)×Bool}(hd:D.f0 x0=some y):
  Calls prog 86 #[(iv x0)] w (Res W G H (λG' Ho v=>∃r0:Value,∃i0:Itm,Ho=[i0]∧v= .tuple #[(.agg #[r0]),(.bool y.2)]∧Ow2 R0 29 2 G' i0 r0 y.1)):=by
 refine Aw (args:=[(iv x0)]) (N:=27) [.cell 2 26,.tmp 3] func86 Z Z (lb Z) Z λa f=> ?_
 unfold D.f0 at hd
 refine Ae ?_
 refine AH (cs:=[sn]) zeroValue26 m f Z Z λaa w a m f=>Ac f Z λa f=>AG ?_
 refine Ab f Z λa f=> ?_
 have⟨ab,ac,hd⟩:=bind_some hd
 refine Az f Z call96 (Wk.X0 m ac) λad ae af w ag m ah a f=> ?_
 obtain⟨ai,aj,rfl,rfl,ak⟩:=ah
 refine Ab f Z λa f=>l_o f (AB (f.e Z) Z) λa f=>l_o f (AB (f.e Z) Z) λa f=>AH (cs:=[sn]) zeroValue26 m f Z Z λal w a m f=>Ai 0 0 (ds:=[ai]) m sizeOf26 f Z Z Z (Ah (Ow2.one1 1 m ak Z) An) Z (lb Z) Z λw m=>Ac f Z λa f=>Aa (Ag (Ae ?_))
 refine Ac f Z λa f=>Aa ?_
 have⟨am,an,hd⟩:=bind_some hd
 refine AR (λa w=>∃ao:LL,ao=am∧∃(ap:GH) (aq:Itm),GLe ae ap∧Fr a 27 [(2,(pb aa)),(4,(pb al)),(5,(.bool ab.2))]∧Mem W ap w (ib aa 26 [sn]::ib al 26 [ai]::aq::H)∧Ow2 R0 29 2 ap aq ai ao) ?_ ?_
 ·refine Ap ?_
  have m:=m.fr 2
  refine AQ (λar a w=>∃au:Int,∃av:LL,(au,av)=ar∧∃(aw:GH) (ax:Itm),GLe ae aw∧Fr a 27 [(0,(iv x0)),(2,(pb aa)),(4,(pb al)),(5,(.bool ab.2)),(6,(iv au))]∧Mem W aw w (ib aa 26 [sn]::ib al 26 [ai]::ax::H)∧Ow2 R0 29 2 aw ax ai av) an ⟨_,_,Z,_,aj,gr,f.k Z,m,ak⟩ ?_
  clear an f m
  rintro ar ay az aA a w ⟨au,av,rfl,aw,ax,aB,f,m,aC⟩
  refine Ag (Ae ?_)
  refine Ab f Z λa f=>Ab f Z λa f=>Ak f Z Z AV λa f=>Ab f Z λa f=> ?_
  refine Be 2 (λa w=>∃aD,GLe aw aD∧Mem W aD w (ib aa 26 [sn]::ib al 26 [ai]::ax::H)∧Fr a 27 [(0,(iv x0)),(2,(pb aa)),(4,(pb al)),(5,(.bool ab.2)),(6,(iv au)),(12,(iv au)),(13,(iv x0)),(14,(.bool (decide (au<x0)))),(15,(.bool (decide (au<x0)))),(17,(.bool ((decide (au<x0))&&ab.2)))]) ?_ ?_
  ·rcases Bool.eq_false_or_eq_true (decide (au<x0)) with aE|aE
   ·refine Ar f aE ?_
    refine Ab f Z λa f=>l_o f (AK (f.e Z) aE (f.e Z)) λa f=> ?_
    exact⟨_,gr,m,f.weak ⟨Z,Z,Z,Z,Z,Z,Z,Z,Z,by rw[aE];rfl,trivial⟩⟩
   ·refine As f aE λa f=> ?_
    refine l_o f (AL (f.e Z) aE (f.e Z)) λa f=> ?_
    exact⟨_,gr,m,f.weak ⟨Z,Z,Z,Z,Z,Z,Z,Z,Z,by rw[aE];rfl,trivial⟩⟩
  ·rintro a w ⟨aD,aF,m,f⟩
   have aC:=od2 aF aC
   refine Aa ?_
   rcases Af az with⟨aG,az⟩|⟨aG,az⟩
   ·refine Al f Z aG ?_
    refine Ao ?_
    refine Ag (Ap (Aq ?_))
    refine Au 1 0 (ds:=[ai]) m AA f Z Z Z Z Z λa f=>Ab f Z λa f=>Ak f Z Z BO λa f=>Ab f Z λa f=> ?_
    have m:=m.fr 2
    have⟨aH,aI,az⟩:=bind_some az
    refine Az f Z call67 (Wk.V m aC aI) λaJ aK aL w aM m aN a f=> ?_
    obtain⟨aO,rfl,rfl,aP⟩:=aN
    refine Ai 2 0 (ds:=[ai]) m sizeOf26 f Z Z Z (Ah (Ow2.one1 0 m aP Z) An) Z (lb Z) Z λw m=>Aa (Aq ?_)
    refine Ab f Z λa f=>Ak f Z Z AD λa f=>Ac f Z λa f=>Aa ?_
    have m:=m.fr 2
    have m:=m.fr 2
    obtain rfl:=sj az
    exact⟨_,Z,_,_,Z,_,aO,(gt aB (gt aF aM)),f.k Z,m,aP⟩
   ·refine Aj f Z aG ?_
    refine AO Z ?_
    obtain rfl:=sj az
    obtain rfl:=aA _ rfl
    exact⟨_,Z,_,ax,(gt aB aF),f.k Z,m,aC⟩
 ·rintro a w ⟨ao,rfl,ap,aq,aQ,f,m,aR⟩
  refine Ae ?_
  refine Au 1 0 (ds:=[ai]) m AA f Z Z Z Z Z λa f=>Ab f Z λa f=>Ai 0 0 (ds:=[ai]) m sizeOf26 f Z Z Z (Ah (Ow2.one1 2 m aR Z) An) Z (lb Z) Z λw m=>Ac f Z λa f=>Aa ?_
  refine Am ?_
  have aS:=A2 (P:=prog) 0 m AA f (s:=2) rfl rfl rfl
  have m:=m.fr 2
  have m:=m.eraseAt 2
  have m:=m.eraseAt 1
  obtain rfl:=sj hd
  exact⟨[(.agg #[ai]),(.bool ab.2)],⟨aS,f.get _ _ Z,trivial⟩,f.d,_,[aq],(gt ag aQ),m,_,_,Z,Z,aR⟩
theorem Wk.a1 {x0:Int}(m:Mem W G w (H)){y:(LL)×Bool}(hd:D.a1 x0=some y):
  Calls prog 85 #[(iv x0)] w (Res W G H (λG' Ho v=>∃r0:Value,∃i0:Itm,Ho=[i0]∧v= .tuple #[(.agg #[r0]),(.bool y.2)]∧Ow2 R0 29 2 G' i0 r0 y.1)):=by
 refine Aw (args:=[(iv x0)]) (N:=22) [.cell 2 26,.tmp 3] func85 Z Z (lb Z) Z λa f=> ?_
 unfold D.a1 at hd
 refine Ae ?_
 refine AH (cs:=[sn]) zeroValue26 m f Z Z λaa w a m f=>Ac f Z λa f=>AG ?_
 refine Ab f Z λa f=> ?_
 have⟨ab,ac,hd⟩:=bind_some hd
 refine Az f Z call86 (Wk.f0 m ac) λad ae af w ag m ah a f=> ?_
 obtain⟨ai,aj,rfl,rfl,ak⟩:=ah
 refine Ab f Z λa f=>l_o f (AB (f.e Z) Z) λa f=>l_o f (AB (f.e Z) Z) λa f=>AH (cs:=[sn]) zeroValue26 m f Z Z λal w a m f=>Ai 0 0 (ds:=[ai]) m sizeOf26 f Z Z Z (Ah (Ow2.one1 1 m ak Z) An) Z (lb Z) Z λw m=>Ac f Z λa f=>Aa (Ag (Ae ?_))
 refine Ab f Z λa f=>l_o f (Bp (f.e Z)) λa f=>Ab f Z λa f=> ?_
 refine Be 3 (λa w=>∃am,GLe ae am∧Mem W am w (ib al 26 [ai]::aj::ib aa 26 [sn]::H)∧Fr a 22 [(0,(iv x0)),(2,(pb aa)),(4,(pb al)),(5,(.bool ab.2)),(11,(.bool ab.2)),(12,(.bool (!ab.2))),(13,(.bool (!ab.2))),(16,(.bool ((!ab.2)||(decide (x0<3)))))]) ?_ ?_
 ·rcases Bool.eq_false_or_eq_true (!ab.2) with an|an
  ·refine As f an λa f=> ?_
   refine As f an λa f=>l_o f (AK (f.e Z) an (f.e Z)) λa f=> ?_
   exact⟨_,gr,m,f.weak ⟨Z,Z,Z,Z,Z,Z,Z,by rw[an];rfl,trivial⟩⟩
  ·refine Ar f an ?_
   refine Ab f Z λa f=>Ar f an ?_
   refine Ak f Z Z AV λa f=>l_o f (AL (f.e Z) an (f.e Z)) λa f=> ?_
   exact⟨_,gr,m,f.weak ⟨Z,Z,Z,Z,Z,Z,Z,by rw[an];rfl,trivial⟩⟩
 ·rintro a w ⟨am,ao,m,f⟩
  have ak:=od2 ao ak
  refine Aa ?_
  rcases Af hd with⟨ap,hd⟩|⟨ap,hd⟩
  ·refine Al f Z ap ?_
   refine Ae ?_
   have aq:∀w,(Instr.build 26 #[]).run prog w= .ok (.agg #[sn]) w:=by intro w;simp[Instr.build,Instr.fill,A8,A6,AT,AZ,AP,A9]
   refine Bl f Z Z aq λa f=>Ai 2 0 (ds:=[sn]) m sizeOf26 f Z Z Z (Ah Z An) Z (lb Z) Z λw m=>Ac f Z λa f=>Aa ?_
   refine Am ?_
   obtain⟨ar,m,au⟩:=Ow2.nil R0 29 2 m
   have av:=A2 (P:=prog) 3 m AA f (s:=2) rfl rfl rfl
   have m:=m.fr 2
   have m:=m.fr 1
   have m:Mem W am w (ar::aj::ib al 26 [ai]::H):=m.eraseAt 3
   have m:=m.eraseAt 2
   have m:=m.eraseAt 1
   obtain rfl:=sj hd
   exact⟨[(.agg #[sn]),(.bool false)],⟨av,f.get _ _ Z,trivial⟩,f.d,_,[ar],(gt ag ao),m,_,_,Z,Z,au⟩
  ·refine Aj f Z ap ?_
   refine Ao ?_
   refine Ae ?_
   refine Au 0 0 (ds:=[ai]) m AA f Z Z Z Z Z λa f=>Ab f Z λa f=>Ak f Z Z BO λa f=> ?_
   have m:=m.fr 1
   have⟨aw,ax,hd⟩:=bind_some hd
   refine Az f Z call67 (Wk.V m ak ax) λay az aA w aB m aC a f=> ?_
   obtain⟨aD,rfl,rfl,aE⟩:=aC
   refine Ai 2 0 (ds:=[ai]) m sizeOf26 f Z Z Z (Ah (Ow2.one1 0 m aE Z) An) Z (lb Z) Z λw m=>Ac f Z λa f=>Aa ?_
   refine Am ?_
   have aF:=A2 (P:=prog) 2 m AA f (s:=2) rfl rfl rfl
   have m:=m.eraseAt 2
   have m:=m.eraseAt 1
   obtain rfl:=sj hd
   exact⟨[(.agg #[ai]),(.bool true)],⟨aF,f.get _ _ Z,trivial⟩,f.d,_,[aD],(gt ag (gt ao aB)),m,_,_,Z,Z,aE⟩
theorem Wk.V0 {b0:Nat}{aa:Value}{ab:LI}{ac ad x1:Int}(m:Mem W G w (ib b0 72 [aa,(iv ac),(iv ad)]::H))(ae:RSl (RI .u8) G aa ab){y:(LL)×(LI)×Int×Int}(hd:D.V0 ab ac ad x1=some y):
  Calls prog 87 #[(pb b0),(iv x1)] w (Res W G H (λG' Ho v=>∃r0:Value,∃i0:Itm,∃r2:Value,Ho=[i0,ib b0 72 [r2,(iv y.2.2.1),(iv y.2.2.2)]]∧v=(.agg #[r0])∧Ow2 R0 29 2 G' i0 r0 y.1∧RSl (RI .u8) G' r2 y.2.1)):=by
 refine Aw (args:=[(pb b0),(iv x1)]) (N:=33) [.cell 4 26] func87 Z Z (lb Z) Z λa f=> ?_
 unfold D.V0 at hd
 refine Ae ?_
 refine AH (cs:=[sn]) zeroValue26 m f Z Z λaf w a m f=>AG ?_
 refine Ab f Z λa f=> ?_
 have⟨ag,ah,hd⟩:=bind_some hd
 refine Az f Z call66 (Wk.K m ah) λai aj ak w al m am a f=> ?_
 obtain⟨an,ao,rfl,rfl,ap⟩:=am
 have ae:=rd1 al ae
 refine AH (cs:=[sn]) zeroValue26 m f Z Z λaq w a m f=>Ai 0 0 (ds:=[an]) m sizeOf26 f Z Z Z (Ah (Ow2.one1 1 m ap Z) An) Z (lb Z) Z λw m=>AG ?_
 refine Ab f Z λa f=> ?_
 have m:Mem W aj w (ib b0 72 [aa,(iv ac),(iv ad)]::ib aq 26 [an]::ao::ib af 26 [sn]::H):=m.fr 3
 have⟨ar,au,hd⟩:=bind_some hd
 refine Az f Z call17 (Wk.a m ae au) λav aw ax w ay m az a f=> ?_
 obtain⟨aA,rfl,rfl,aB⟩:=az
 have ap:=od2 ay ap
 refine Ak f Z Z AD λa f=>Ac f Z λa f=>Aa (Ag (Ae ?_))
 refine Ac f Z λa f=>Aa ?_
 have⟨aC,aD,hd⟩:=bind_some hd
 refine AR (λa w=>∃aE:LL,∃aF:LI,∃aG:Int,∃aH:Int,(aE,aF,aG,aH)=aC∧∃(aI:GH) (aJ:Itm) (aK:Value),GLe aw aI∧Fr a 33 [(4,(pb af)),(5,(pb aq))]∧Mem W aI w (ib af 26 [sn]::ib aq 26 [an]::ib b0 72 [aK,(iv aG),(iv aH)]::aJ::H)∧Ow2 R0 29 2 aI aJ an aE∧RSl (RI .u8) aI aK aF) ?_ ?_
 ·refine Ap ?_
  have m:=m.fr 3
  have m:Mem W aw w (ib b0 72 [aA,(iv ar.2.2.1),(iv ar.2.2.2)]::ib af 26 [sn]::ib aq 26 [an]::ao::H):=m.fr 1
  refine AQ (λaL a w=>∃aM:Int,∃aN:LI,∃aO:Int,∃aP:Int,∃aQ:LL,(aM,aN,aO,aP,aQ)=aL∧∃(aR:GH) (aS:Value) (aT:Itm),GLe aw aR∧Fr a 33 [(0,(pb b0)),(1,(iv x1)),(4,(pb af)),(5,(pb aq)),(6,(iv (i64.wrap (1+ar.1)))),(7,(iv aM))]∧Mem W aR w (ib b0 72 [aS,(iv aO),(iv aP)]::ib af 26 [sn]::ib aq 26 [an]::aT::H)∧RSl (RI .u8) aR aS aN∧Ow2 R0 29 2 aR aT an aQ) aD ⟨_,_,_,_,_,Z,_,aA,ao,gr,f.k Z,m,aB,ap⟩ ?_
  clear aD f m
  rintro aL aU aV aW a w ⟨aM,aN,aO,aP,aQ,rfl,aR,aS,aT,aX,f,m,aY,aZ⟩
  refine Ag (Ae ?_)
  refine Ab f Z λa f=>Ab f Z λa f=>Ak f Z Z AV λa f=>Aa ?_
  rcases Af aV with⟨a0,aV⟩|⟨a0,aV⟩
  ·refine Al f Z a0 ?_
   refine Ao ?_
   refine Ag (Ap (Ae ?_))
   refine Ac f Z λa f=>Aa ?_
   have⟨a1,a2,aV⟩:=bind_some aV
   refine AR (λa w=>∃a3:LI,∃a4:Int,∃a5:Int,∃a6:LL,(a3,a4,a5,a6)=a1∧∃(a7:GH) (a8:Value) (a9:Itm),GLe aR a7∧Fr a 33 [(0,(pb b0)),(1,(iv x1)),(4,(pb af)),(5,(pb aq)),(6,(iv (i64.wrap (1+ar.1)))),(7,(iv aM))]∧Mem W a7 w (ib b0 72 [a8,(iv a4),(iv a5)]::ib af 26 [sn]::ib aq 26 [an]::a9::H)∧RSl (RI .u8) a7 a8 a3∧Ow2 R0 29 2 a7 a9 an a6) ?_ ?_
   ·refine Ap ?_
    refine AQ (λba a w=>∃bb:Int,∃bc:LI,∃bd:Int,∃be:Int,∃bf:LL,(bb,bc,bd,be,bf)=ba∧∃(bg:GH) (bh:Value) (bi:Itm),GLe aR bg∧Fr a 33 [(0,(pb b0)),(1,(iv x1)),(4,(pb af)),(5,(pb aq)),(6,(iv (i64.wrap (1+ar.1)))),(7,(iv aM)),(8,(iv bb))]∧Mem W bg w (ib b0 72 [bh,(iv bd),(iv be)]::ib af 26 [sn]::ib aq 26 [an]::bi::H)∧RSl (RI .u8) bg bh bc∧Ow2 R0 29 2 bg bi an bf) a2 ⟨_,_,_,_,_,Z,_,aS,aT,gr,f.k Z,m,aY,aZ⟩ ?_
    clear a2 f m
    rintro ba bj bk bl a w ⟨bb,bc,bd,be,bf,rfl,bg,bh,bi,bm,f,m,bn,bo⟩
    refine Ag (Ae ?_)
    refine Ab f Z λa f=>Ab f Z λa f=>Ak f Z Z AV λa f=>Aa ?_
    rcases Af bk with⟨bp,bk⟩|⟨bp,bk⟩
    ·refine Al f Z bp ?_
     refine Ao ?_
     refine Ag (Ap (Ae ?_))
     refine Ab f Z λa f=> ?_
     have⟨bq,br,bk⟩:=bind_some bk
     refine Az f Z call17 (Wk.a m bn br) λbs bt bu w bv m bw a f=> ?_
     obtain⟨bx,rfl,rfl,bz⟩:=bw
     have bo:=od2 bv bo
     refine Ab f Z λa f=>Ak f Z Z AV λa f=>Aa ?_
     rcases Af bk with⟨bA,bk⟩|⟨bA,bk⟩
     ·refine Al f Z bA ?_
      refine Aq ?_
      refine Au 2 0 (ds:=[an]) m AA f Z Z Z Z Z λa f=>Ab f Z λa f=>Ab f Z λa f=> ?_
      have m:Mem W bt w (bi::ib b0 72 [bx,(iv bq.2.2.1),(iv bq.2.2.2)]::ib af 26 [sn]::ib aq 26 [an]::H):=m.fr 3
      have⟨bB,bC,bk⟩:=bind_some bk
      refine Az f Z call67 (Wk.V m bo bC) λbD bE bF w bG m bH a f=> ?_
      obtain⟨bI,rfl,rfl,bJ⟩:=bH
      have bz:=rd1 bG bz
      refine Ai 3 0 (ds:=[an]) m sizeOf26 f Z Z Z (Ah (Ow2.one1 0 m bJ Z) An) Z (lb Z) Z λw m=>Aa (Aq ?_)
      refine Ab f Z λa f=>Ak f Z Z AD λa f=>Ac f Z λa f=>Aa ?_
      have m:=m.fr 3
      have m:=m.fr 3
      have m:Mem W bE w (ib b0 72 [bx,(iv bq.2.2.1),(iv bq.2.2.2)]::ib af 26 [sn]::ib aq 26 [an]::bI::H):=m.fr 3
      obtain rfl:=sj bk
      exact⟨_,Z,_,_,_,_,_,Z,_,bx,bI,(gt bm (gt bv bG)),f.k Z,m,bz,bJ⟩
     ·refine Aj f Z bA ?_
      refine Ao ?_
      refine Aq ?_
      refine Ab f Z λa f=>Ak f Z Z AD λa f=>Ac f Z λa f=>Aa ?_
      obtain rfl:=sj bk
      exact⟨_,Z,_,_,_,_,_,Z,_,bx,bi,(gt bm bv),f.k Z,m,bz,bo⟩
    ·refine Aj f Z bp ?_
     refine AO Z ?_
     obtain rfl:=sj bk
     obtain rfl:=bl _ rfl
     exact⟨_,_,_,_,Z,_,bh,bi,bm,f.k Z,m,bn,bo⟩
   ·rintro a w ⟨a3,a4,a5,a6,rfl,a7,a8,a9,bK,f,m,bL,bM⟩
    refine Aq ?_
    refine Ab f Z λa f=>Ak f Z Z AD λa f=>Ac f Z λa f=>Aa ?_
    obtain rfl:=sj aV
    exact⟨_,Z,_,_,_,_,_,Z,_,a8,a9,(gt aX bK),f.k Z,m,bL,bM⟩
  ·refine Aj f Z a0 ?_
   refine AO Z ?_
   have m:=m.fr 2
   have m:Mem W aR w (ib af 26 [sn]::ib aq 26 [an]::ib b0 72 [aS,(iv aO),(iv aP)]::aT::H):=m.fr 2
   obtain rfl:=sj aV
   obtain rfl:=aW _ rfl
   exact⟨_,_,_,_,Z,_,aT,aS,aX,f.k Z,m,aZ,aY⟩
 ·rintro a w ⟨aE,aF,aG,aH,rfl,aI,aJ,aK,bN,f,m,bO,bP⟩
  refine Ae ?_
  refine Au 1 0 (ds:=[an]) m AA f Z Z Z Z Z λa f=>Ai 0 0 (ds:=[an]) m sizeOf26 f Z Z Z (Ah (Ow2.one1 3 m bO Z) An) Z (lb Z) Z λw m=>Aa ?_
  refine Am ?_
  have bQ:=A2 (P:=prog) 0 m AA f (s:=4) rfl rfl rfl
  have m:=m.fr 2
  have m:=m.fr 3
  have m:Mem W aI w (aJ::ib b0 72 [aK,(iv aG),(iv aH)]::ib af 26 [an]::H):=m.eraseAt 3
  have m:=m.eraseAt 2
  obtain rfl:=sj hd
  exact⟨[(.agg #[an])],⟨bQ,trivial⟩,f.d,_,[aJ,ib b0 72 [aK,(iv aG),(iv aH)]],(gt al (gt ay bN)),m,_,_,_,Z,Z,bO,bP⟩
theorem Wk.Y0 {b0:Nat}{aa:Value}{ab:LI}{ac ad:Int}(m:Mem W G w (ib b0 72 [aa,(iv ac),(iv ad)]::H))(ae:RSl (RI .u8) G aa ab){y:(LL)×(LI)×Int×Int}(hd:D.Y0 ab ac ad=some y):
  Calls prog 64 #[(pb b0)] w (Res W G H (λG' Ho v=>∃r0:Value,∃i0:Itm,∃r2:Value,Ho=[i0,ib b0 72 [r2,(iv y.2.2.1),(iv y.2.2.2)]]∧v=(.agg #[r0])∧Ow2 R0 29 2 G' i0 r0 y.1∧RSl (RI .u8) G' r2 y.2.1)):=by
 refine Aw (args:=[(pb b0)]) (N:=34) [.cell 2 26] func64 Z Z (lb Z) Z λa f=> ?_
 unfold D.Y0 at hd
 refine Ae ?_
 refine AH (cs:=[sn]) zeroValue26 m f Z Z λaf w a m f=>Aa (Ag (Ae ?_))
 refine Ab f Z λa f=> ?_
 have m:Mem W G w (ib b0 72 [aa,(iv ac),(iv ad)]::ib af 26 [sn]::H):=m.fr 1
 have⟨ag,ah,hd⟩:=bind_some hd
 refine Az f Z call17 (Wk.a m ae ah) λai aj ak w al m am a f=> ?_
 obtain⟨an,rfl,rfl,ao⟩:=am
 refine Aa (Ap (Ae ?_))
 refine Ak f Z Z Bj λa f=>Ac f Z λa f=>Aa ?_
 rcases Af hd with⟨ap,hd⟩|⟨ap,hd⟩
 ·refine Al f Z ap ?_
  refine Ae ?_
  refine Ab f Z λa f=> ?_
  have⟨aq,ar,hd⟩:=bind_some hd
  refine Az f Z call17 (Wk.a m ao ar) λau av aw w ax m ay a f=> ?_
  obtain⟨az,rfl,rfl,aA⟩:=ay
  refine Ak f Z Z AD λa f=> ?_
  have⟨aB,aC,hd⟩:=bind_some hd
  refine Az f Z call85 (Wk.a1 m aC) λaD aE aF w aG m aH a f=> ?_
  obtain⟨aI,aJ,rfl,rfl,aK⟩:=aH
  have aA:=rd1 aG aA
  refine Ab f Z λa f=>l_o f (AB (f.e Z) Z) λa f=>l_o f (AB (f.e Z) Z) λa f=>AH (cs:=[sn]) zeroValue26 m f Z Z λaL w a m f=>Ai 0 0 (ds:=[aI]) m sizeOf26 f Z Z Z (Ah (Ow2.one1 1 m aK Z) An) Z (lb Z) Z λw m=>Ac f Z λa f=>AG ?_
  refine Au 0 0 (ds:=[aI]) m AA f Z Z Z Z Z λa f=>Ai 3 0 (ds:=[aI]) m sizeOf26 f Z Z Z (Ah (Ow2.one1 1 m aK Z) An) Z (lb Z) Z λw m=>Aa ?_
  refine Am ?_
  have aM:=A2 (P:=prog) 3 m AA f (s:=2) rfl rfl rfl
  have m:=m.fr 2
  have m:=m.fr 2
  have m:Mem W aE w (aJ::ib b0 72 [az,(iv aq.2.2.1),(iv aq.2.2.2)]::ib aL 26 [aI]::H):=m.eraseAt 3
  have m:=m.eraseAt 2
  obtain rfl:=sj hd
  exact⟨[(.agg #[aI])],⟨aM,trivial⟩,f.d,_,[aJ,ib b0 72 [az,(iv aq.2.2.1),(iv aq.2.2.2)]],(gt al (gt ax aG)),m,_,_,_,Z,Z,aK,aA⟩
 ·refine Aj f Z ap ?_
  refine Ae ?_
  refine Ak f Z Z Bj λa f=>Ac f Z λa f=>Aa ?_
  rcases Af hd with⟨aN,hd⟩|⟨aN,hd⟩
  ·refine Al f Z aN ?_
   refine Ae ?_
   refine Ab f Z λa f=> ?_
   have⟨aO,aP,hd⟩:=bind_some hd
   refine Az f Z call17 (Wk.a m ao aP) λaQ aR aS w aT m aU a f=> ?_
   obtain⟨aV,rfl,rfl,aW⟩:=aU
   refine Ak f Z Z AD λa f=> ?_
   have⟨aX,aY,hd⟩:=bind_some hd
   refine Az f Z call86 (Wk.f0 m aY) λaZ a0 a1 w a2 m a3 a f=> ?_
   obtain⟨a4,a5,rfl,rfl,a6⟩:=a3
   have aW:=rd1 a2 aW
   refine Ab f Z λa f=>l_o f (AB (f.e Z) Z) λa f=>l_o f (AB (f.e Z) Z) λa f=>AH (cs:=[sn]) zeroValue26 m f Z Z λa7 w a m f=>Ai 0 0 (ds:=[a4]) m sizeOf26 f Z Z Z (Ah (Ow2.one1 1 m a6 Z) An) Z (lb Z) Z λw m=>Ac f Z λa f=>AG ?_
   refine Au 0 0 (ds:=[a4]) m AA f Z Z Z Z Z λa f=>Ai 3 0 (ds:=[a4]) m sizeOf26 f Z Z Z (Ah (Ow2.one1 1 m a6 Z) An) Z (lb Z) Z λw m=>Aa ?_
   refine Am ?_
   have a8:=A2 (P:=prog) 3 m AA f (s:=2) rfl rfl rfl
   have m:=m.fr 2
   have m:=m.fr 2
   have m:Mem W a0 w (a5::ib b0 72 [aV,(iv aO.2.2.1),(iv aO.2.2.2)]::ib a7 26 [a4]::H):=m.eraseAt 3
   have m:=m.eraseAt 2
   obtain rfl:=sj hd
   exact⟨[(.agg #[a4])],⟨a8,trivial⟩,f.d,_,[a5,ib b0 72 [aV,(iv aO.2.2.1),(iv aO.2.2.2)]],(gt al (gt aT a2)),m,_,_,_,Z,Z,a6,aW⟩
  ·refine Aj f Z aN ?_
   refine Ao ?_
   refine Ae ?_
   refine Ab f Z λa f=>Ab f Z λa f=> ?_
   have⟨a9,ba,hd⟩:=bind_some hd
   refine Az f Z call17 (Wk.a m ao ba) λbb bc bd w be m bf a f=> ?_
   obtain⟨bg,rfl,rfl,bh⟩:=bf
   refine Ak f Z Z AD λa f=> ?_
   have⟨bi,bj,hd⟩:=bind_some hd
   refine Az f Z call87 (Wk.V0 m bh bj) λbk bl bm w bn m bo a f=> ?_
   obtain⟨bp,bq,br,rfl,rfl,bs,bt⟩:=bo
   refine Ai 2 0 (ds:=[bp]) m sizeOf26 f Z Z Z (Ah (Ow2.one1 0 m bs Z) An) Z (lb Z) Z λw m=>Aa ?_
   refine Am ?_
   have bu:=A2 (P:=prog) 2 m AA f (s:=2) rfl rfl rfl
   have m:=m.eraseAt 2
   obtain rfl:=sj hd
   exact⟨[(.agg #[bp])],⟨bu,trivial⟩,f.d,_,[bq,ib b0 72 [br,(iv bi.2.2.1),(iv bi.2.2.2)]],(gt al (gt be bn)),m,_,_,_,Z,Z,bs,bt⟩
theorem Wk.D0 {b0:Nat}{aa:Value}{ab:LI}{ac ad:Int}(m:Mem W G w (ib b0 72 [aa,(iv ac),(iv ad)]::H))(ae:RSl (RI .u8) G aa ab){y:(LL)×(LI)×Int×Int}(hd:D.D0 ab ac ad=some y):
  Calls prog 39 #[(pb b0)] w (Res W G H (λG' Ho v=>∃r0:Value,∃i0:Itm,∃r2:Value,Ho=[i0,ib b0 72 [r2,(iv y.2.2.1),(iv y.2.2.2)]]∧v=(.agg #[r0])∧Ow2 R0 29 2 G' i0 r0 y.1∧RSl (RI .u8) G' r2 y.2.1)):=by
 refine Aw (args:=[(pb b0)]) (N:=56) [.cell 2 26] func39 Z Z (lb Z) Z λa f=> ?_
 unfold D.D0 at hd
 refine Ae ?_
 refine AH (cs:=[sn]) zeroValue26 m f Z Z λaf w a m f=>AG ?_
 refine Ab f Z λa f=> ?_
 have m:Mem W G w (ib b0 72 [aa,(iv ac),(iv ad)]::ib af 26 [sn]::H):=m.fr 1
 have⟨ag,ah,hd⟩:=bind_some hd
 refine Az f Z call64 (Wk.Y0 m ae ah) λai aj ak w al m am a f=> ?_
 obtain⟨an,ao,ap,rfl,rfl,aq,ar⟩:=am
 refine AH (cs:=[sn]) zeroValue26 m f Z Z λau w a m f=>Ai 0 0 (ds:=[an]) m sizeOf26 f Z Z Z (Ah (Ow2.one1 1 m aq Z) An) Z (lb Z) Z λw m=>Aa (Ag (Ae ?_))
 refine Ab f Z λa f=> ?_
 have m:Mem W aj w (ib b0 72 [ap,(iv ag.2.2.1),(iv ag.2.2.2)]::ib au 26 [an]::ao::ib af 26 [sn]::H):=m.fr 2
 have⟨av,aw,hd⟩:=bind_some hd
 refine Az f Z call15 (Wk.l m ar aw) λax ay az w aA m aB a f=> ?_
 obtain⟨aC,rfl,rfl,aD⟩:=aB
 have aq:=od2 aA aq
 refine Aa ?_
 rcases Af hd with⟨aE,hd⟩|⟨aE,hd⟩
 ·refine Al f Z aE ?_
  refine Ae ?_
  refine Ab f Z λa f=>Bh underlying26 Z sizeOf24 f Z λa f=>AE 1 0 m Bk f Z Z Z Z λa f=>l_own2_len 2 m aq Z underlying24 f Z Z λa f=> ?_
  have⟨aF,aG,hd⟩:=bind_some hd
  refine Az f Z call17 (Wk.a m aD aG) λaH aI aJ w aK m aL a f=> ?_
  obtain⟨aM,rfl,rfl,aN⟩:=aL
  have aq:=od2 aK aq
  refine Ac f Z λa f=>AG ?_
  refine Ab f Z λa f=> ?_
  have⟨aO,aP,hd⟩:=bind_some hd
  refine Az f Z call17 (Wk.a m aN aP) λaQ aR aS w aT m aU a f=> ?_
  obtain⟨aV,rfl,rfl,aW⟩:=aU
  have aq:=od2 aT aq
  refine Aa (Ap (Ae ?_))
  refine Ak f Z Z Bj λa f=>Ac f Z λa f=>Aa ?_
  rcases Af hd with⟨aX,hd⟩|⟨aX,hd⟩
  ·refine Al f Z aX ?_
   have⟨aY,aZ,hd⟩:=bind_some hd
   refine AR (λa w=>∃a0:LL,∃a1:LI,∃a2:Int,∃a3:Int,(a0,a1,a2,a3)=aY∧∃(a4:GH) (a5:Itm) (a6:Value),GLe aR a4∧Fr a 56 [(2,(pb af)),(3,(pb au))]∧Mem W a4 w (ib af 26 [sn]::ib au 26 [an]::ib b0 72 [a6,(iv a2),(iv a3)]::a5::H)∧Ow2 R0 29 2 a4 a5 an a0∧RSl (RI .u8) a4 a6 a1) ?_ ?_
   ·have m:Mem W aR w (ao::ib b0 72 [aV,(iv aO.2.2.1),(iv aO.2.2.2)]::ib au 26 [an]::ib af 26 [sn]::H):=m.fr 2
    refine Dd [ao,ib b0 72 [aV,(iv aO.2.2.1),(iv aO.2.2.2)]] (ib au 26 [an]::ib af 26 [sn]::H) 12 AW (by kernel_rfl) m ?_
    refine BB 0 12 underlying26 Z sizeOf24 Z f Z λa f=>Bd 1 12 0 Bk Z Z Z f Z λa f=>Ay 2 12 Z f Z λa f=>BB 3 12 underlying26 Z sizeOf24 Z f Z λa f=>Bd 4 12 0 Bk Z Z Z f Z λa f=>Ay 5 12 Z f Z λa f=>Ay 8 12 Z f Z λa f=>Cf (i:=6) (j:=9) (l1:= #[true,true,true,true,true,true,true,false,true,false,false,false,false,false]) (l2:= #[true,true,true,true,true,true,false,false,true,true,false,false,false,false]) Z Z (by kernel_rfl) Z Z ?_ ?_
    ·intro a7 w a8 m a9 a9
     have aq:=od2 a8 aq
     have aW:=rd1 a8 aW
     have⟨ba,bb,aZ⟩:=bind_some aZ
     refine Cm 0 m aq Z T24 f Z Z Z bb λbc a bd f=>Aa ?_
     refine a9 a7 [ao,ib b0 72 [aV,(iv aO.2.2.1),(iv aO.2.2.2)]] _ _ gr m ?_
     refine Cf (i:=7) (j:=9) (l1:= #[true,true,true,true,true,true,true,true,true,false,false,false,false,false]) (l2:= #[true,true,true,true,true,true,true,false,true,true,false,false,false,false]) Z Z (by kernel_rfl) Z Z ?_ ?_
     ·intro be w bf m bg bg
      have aq:=od2 bf aq
      have aW:=rd1 bf aW
      refine BX 0 m aq Z By f Z Z bd bb λbh a bi f=>Aa ?_
      refine bg be [ao,ib b0 72 [aV,(iv aO.2.2.1),(iv aO.2.2.2)]] _ _ gr m ?_
      refine A3 9 Z λbj w bk m bl bl=> ?_
      have aq:=od2 bk aq
      have aW:=rd1 bk aW
      have m:Mem W bj w (ib b0 72 [aV,(iv aO.2.2.1),(iv aO.2.2.2)]::ao::ib au 26 [an]::ib af 26 [sn]::H):=m.fr 1
      have⟨bm,bn,aZ⟩:=bind_some aZ
      refine Az f Z call65 (Wk.c0 m aW bn) λbo bp bq w br m bs a f=> ?_
      obtain⟨bt,rfl,rfl,bu⟩:=bs
      have aq:=od2 br aq
      refine Aa ?_
      refine bl bp [ib b0 72 [bt,(iv bm.2.2.1),(iv bm.2.2.2)],ao] _ _ br m ?_
      refine A3 10 Z λbv w bw m bx bx=> ?_
      have bu:=rd1 bw bu
      have aq:=od2 bw aq
      refine AU (R:=R0) (xs:=([bm.1]:LI)) (RI.one _) m T29 f Z Z Z (by decide) (All2.cons Z (All2.nil _)) λbz bA w a m bB f=>Aa ?_
      refine bx bv [bz,ib b0 72 [bt,(iv bm.2.2.1),(iv bm.2.2.2)],ao] _ _ gr m ?_
      refine A3 11 Z λbC w bD m bE bE=> ?_
      have bB:=od1 bD bB
      have bu:=rd1 bD bu
      have aq:=od2 bD aq
      have m:Mem W bC w (ao::bz::ib b0 72 [bt,(iv bm.2.2.1),(iv bm.2.2.2)]::ib au 26 [an]::ib af 26 [sn]::H):=m.fr 2
      obtain⟨bF,bG,m,bH,bI⟩:=Ow2.out aq m bb bi
      have⟨bJ,bK,aZ⟩:=bind_some aZ
      refine AX (RI.one _) 1 m bI Z T29 Z (by decide) f Z Z Z (Ow.src (j:=2) bB m Z) bK λbL bM w a m bN f=>Aa ?_
      refine bE bC [bF,bL,bz,ib b0 72 [bt,(iv bm.2.2.1),(iv bm.2.2.2)]] _ _ gr m ?_
      refine A1 λbO w bP m=> ?_
      have bH:=OwH.mono (RI.mono _) bP bH
      have bN:=od1 bP bN
      have bu:=rd1 bP bu
      have⟨bQ,bR,aZ⟩:=bind_some aZ
      refine Cc 0 m bH Z T24 f Z Z Z bR λbS a bT f=>BV m bH bN sizeOf29 f Z Z bT λbU w m bV=>Aa ?_
      have m:=m.fr 2
      have m:=m.fr 3
      have m:Mem W bO w (ib af 26 [sn]::ib au 26 [an]::ib b0 72 [bt,(iv bm.2.2.1),(iv bm.2.2.2)]::bU::bz::H):=m.fr 4
      have m:Mem W bO w (ib af 26 [sn]::ib au 26 [an]::ib b0 72 [bt,(iv bm.2.2.1),(iv bm.2.2.2)]::bU::H):=m.eraseAt 4
      obtain rfl:=sj aZ
      exact⟨_,_,_,_,Z,_,bU,bt,(gt a8 (gt bf (gt bk (gt br (gt bw (gt bD bP)))))),f.k Z,m,bV,bu⟩
     ·intro bj w bk m bl bl
      have⟨bm,bn,aZ⟩:=bind_some aZ
      have⟨bJ,bK,aZ⟩:=bind_some aZ
      have⟨bQ,bR,aZ⟩:=bind_some aZ
      have aq:=od2 bk aq
      have aW:=rd1 bk aW
      have m:Mem W bj w (ib b0 72 [aV,(iv aO.2.2.1),(iv aO.2.2.2)]::ao::ib au 26 [an]::ib af 26 [sn]::H):=m.fr 1
      refine Az f Z call65 (Wk.c0 m aW bn) λbo bp bq w br m bs a f=> ?_
      obtain⟨bt,rfl,rfl,bu⟩:=bs
      have aq:=od2 br aq
      refine Aa ?_
      refine bl bp [ib b0 72 [bt,(iv bm.2.2.1),(iv bm.2.2.2)],ao] _ _ br m ?_
      refine Cf (i:=7) (j:=10) (l1:= #[true,true,true,true,true,true,true,true,true,true,false,false,false,false]) (l2:= #[true,true,true,true,true,true,true,false,true,true,true,false,false,false]) Z Z (by kernel_rfl) Z Z ?_ ?_
      ·intro be w bf m bg bg
       have bu:=rd1 bf bu
       have aq:=od2 bf aq
       refine BX 1 m aq Z By f Z Z bd bb λbh a bi f=>Aa ?_
       refine bg be [ib b0 72 [bt,(iv bm.2.2.1),(iv bm.2.2.2)],ao] _ _ gr m ?_
       refine A3 10 Z λbv w bw m bx bx=> ?_
       have bu:=rd1 bw bu
       have aq:=od2 bw aq
       refine AU (R:=R0) (xs:=([bm.1]:LI)) (RI.one _) m T29 f Z Z Z (by decide) (All2.cons Z (All2.nil _)) λbz bA w a m bB f=>Aa ?_
       refine bx bv [bz,ib b0 72 [bt,(iv bm.2.2.1),(iv bm.2.2.2)],ao] _ _ gr m ?_
       refine A3 11 Z λbC w bD m bE bE=> ?_
       have bB:=od1 bD bB
       have bu:=rd1 bD bu
       have aq:=od2 bD aq
       have m:Mem W bC w (ao::bz::ib b0 72 [bt,(iv bm.2.2.1),(iv bm.2.2.2)]::ib au 26 [an]::ib af 26 [sn]::H):=m.fr 2
       obtain⟨bF,bG,m,bH,bI⟩:=Ow2.out aq m bb bi
       refine AX (RI.one _) 1 m bI Z T29 Z (by decide) f Z Z Z (Ow.src (j:=2) bB m Z) bK λbL bM w a m bN f=>Aa ?_
       refine bE bC [bF,bL,bz,ib b0 72 [bt,(iv bm.2.2.1),(iv bm.2.2.2)]] _ _ gr m ?_
       refine A1 λbO w bP m=> ?_
       have bH:=OwH.mono (RI.mono _) bP bH
       have bN:=od1 bP bN
       have bu:=rd1 bP bu
       refine Cc 0 m bH Z T24 f Z Z Z bR λbS a bT f=>BV m bH bN sizeOf29 f Z Z bT λbU w m bV=>Aa ?_
       have m:=m.fr 2
       have m:=m.fr 3
       have m:Mem W bO w (ib af 26 [sn]::ib au 26 [an]::ib b0 72 [bt,(iv bm.2.2.1),(iv bm.2.2.2)]::bU::bz::H):=m.fr 4
       have m:Mem W bO w (ib af 26 [sn]::ib au 26 [an]::ib b0 72 [bt,(iv bm.2.2.1),(iv bm.2.2.2)]::bU::H):=m.eraseAt 4
       obtain rfl:=sj aZ
       exact⟨_,_,_,_,Z,_,bU,bt,(gt a8 (gt bk (gt br (gt bf (gt bw (gt bD bP)))))),f.k Z,m,bV,bu⟩
      ·intro bv w bw m bx bx
       have bu:=rd1 bw bu
       have aq:=od2 bw aq
       refine AU (R:=R0) (xs:=([bm.1]:LI)) (RI.one _) m T29 f Z Z Z (by decide) (All2.cons Z (All2.nil _)) λbz bA w a m bB f=>Aa ?_
       refine bx bv [bz,ib b0 72 [bt,(iv bm.2.2.1),(iv bm.2.2.2)],ao] _ _ gr m ?_
       refine A3 7 Z λbe w bf m bg bg=> ?_
       have bB:=od1 bf bB
       have bu:=rd1 bf bu
       have aq:=od2 bf aq
       refine BX 2 m aq Z By f Z Z bd bb λbh a bi f=>Aa ?_
       refine bg be [bz,ib b0 72 [bt,(iv bm.2.2.1),(iv bm.2.2.2)],ao] _ _ gr m ?_
       refine A3 11 Z λbC w bD m bE bE=> ?_
       have bB:=od1 bD bB
       have bu:=rd1 bD bu
       have aq:=od2 bD aq
       have m:Mem W bC w (ao::bz::ib b0 72 [bt,(iv bm.2.2.1),(iv bm.2.2.2)]::ib au 26 [an]::ib af 26 [sn]::H):=m.fr 2
       obtain⟨bF,bG,m,bH,bI⟩:=Ow2.out aq m bb bi
       refine AX (RI.one _) 1 m bI Z T29 Z (by decide) f Z Z Z (Ow.src (j:=2) bB m Z) bK λbL bM w a m bN f=>Aa ?_
       refine bE bC [bF,bL,bz,ib b0 72 [bt,(iv bm.2.2.1),(iv bm.2.2.2)]] _ _ gr m ?_
       refine A1 λbO w bP m=> ?_
       have bH:=OwH.mono (RI.mono _) bP bH
       have bN:=od1 bP bN
       have bu:=rd1 bP bu
       refine Cc 0 m bH Z T24 f Z Z Z bR λbS a bT f=>BV m bH bN sizeOf29 f Z Z bT λbU w m bV=>Aa ?_
       have m:=m.fr 2
       have m:=m.fr 3
       have m:Mem W bO w (ib af 26 [sn]::ib au 26 [an]::ib b0 72 [bt,(iv bm.2.2.1),(iv bm.2.2.2)]::bU::bz::H):=m.fr 4
       have m:Mem W bO w (ib af 26 [sn]::ib au 26 [an]::ib b0 72 [bt,(iv bm.2.2.1),(iv bm.2.2.2)]::bU::H):=m.eraseAt 4
       obtain rfl:=sj aZ
       exact⟨_,_,_,_,Z,_,bU,bt,(gt a8 (gt bk (gt br (gt bw (gt bf (gt bD bP)))))),f.k Z,m,bV,bu⟩
    ·intro bj w bk m bl bl
     have⟨ba,bb,aZ⟩:=bind_some aZ
     have⟨bm,bn,aZ⟩:=bind_some aZ
     have⟨bJ,bK,aZ⟩:=bind_some aZ
     have⟨bQ,bR,aZ⟩:=bind_some aZ
     have aq:=od2 bk aq
     have aW:=rd1 bk aW
     have m:Mem W bj w (ib b0 72 [aV,(iv aO.2.2.1),(iv aO.2.2.2)]::ao::ib au 26 [an]::ib af 26 [sn]::H):=m.fr 1
     refine Az f Z call65 (Wk.c0 m aW bn) λbo bp bq w br m bs a f=> ?_
     obtain⟨bt,rfl,rfl,bu⟩:=bs
     have aq:=od2 br aq
     refine Aa ?_
     refine bl bp [ib b0 72 [bt,(iv bm.2.2.1),(iv bm.2.2.2)],ao] _ _ br m ?_
     refine Cf (i:=6) (j:=10) (l1:= #[true,true,true,true,true,true,true,false,true,true,false,false,false,false]) (l2:= #[true,true,true,true,true,true,false,false,true,true,true,false,false,false]) Z Z (by kernel_rfl) Z Z ?_ ?_
     ·intro a7 w a8 m a9 a9
      have bu:=rd1 a8 bu
      have aq:=od2 a8 aq
      refine Cm 1 m aq Z T24 f Z Z Z bb λbc a bd f=>Aa ?_
      refine a9 a7 [ib b0 72 [bt,(iv bm.2.2.1),(iv bm.2.2.2)],ao] _ _ gr m ?_
      refine Cf (i:=7) (j:=10) (l1:= #[true,true,true,true,true,true,true,true,true,true,false,false,false,false]) (l2:= #[true,true,true,true,true,true,true,false,true,true,true,false,false,false]) Z Z (by kernel_rfl) Z Z ?_ ?_
      ·intro be w bf m bg bg
       have bu:=rd1 bf bu
       have aq:=od2 bf aq
       refine BX 1 m aq Z By f Z Z bd bb λbh a bi f=>Aa ?_
       refine bg be [ib b0 72 [bt,(iv bm.2.2.1),(iv bm.2.2.2)],ao] _ _ gr m ?_
       refine A3 10 Z λbv w bw m bx bx=> ?_
       have bu:=rd1 bw bu
       have aq:=od2 bw aq
       refine AU (R:=R0) (xs:=([bm.1]:LI)) (RI.one _) m T29 f Z Z Z (by decide) (All2.cons Z (All2.nil _)) λbz bA w a m bB f=>Aa ?_
       refine bx bv [bz,ib b0 72 [bt,(iv bm.2.2.1),(iv bm.2.2.2)],ao] _ _ gr m ?_
       refine A3 11 Z λbC w bD m bE bE=> ?_
       have bB:=od1 bD bB
       have bu:=rd1 bD bu
       have aq:=od2 bD aq
       have m:Mem W bC w (ao::bz::ib b0 72 [bt,(iv bm.2.2.1),(iv bm.2.2.2)]::ib au 26 [an]::ib af 26 [sn]::H):=m.fr 2
       obtain⟨bF,bG,m,bH,bI⟩:=Ow2.out aq m bb bi
       refine AX (RI.one _) 1 m bI Z T29 Z (by decide) f Z Z Z (Ow.src (j:=2) bB m Z) bK λbL bM w a m bN f=>Aa ?_
       refine bE bC [bF,bL,bz,ib b0 72 [bt,(iv bm.2.2.1),(iv bm.2.2.2)]] _ _ gr m ?_
       refine A1 λbO w bP m=> ?_
       have bH:=OwH.mono (RI.mono _) bP bH
       have bN:=od1 bP bN
       have bu:=rd1 bP bu
       refine Cc 0 m bH Z T24 f Z Z Z bR λbS a bT f=>BV m bH bN sizeOf29 f Z Z bT λbU w m bV=>Aa ?_
       have m:=m.fr 2
       have m:=m.fr 3
       have m:Mem W bO w (ib af 26 [sn]::ib au 26 [an]::ib b0 72 [bt,(iv bm.2.2.1),(iv bm.2.2.2)]::bU::bz::H):=m.fr 4
       have m:Mem W bO w (ib af 26 [sn]::ib au 26 [an]::ib b0 72 [bt,(iv bm.2.2.1),(iv bm.2.2.2)]::bU::H):=m.eraseAt 4
       obtain rfl:=sj aZ
       exact⟨_,_,_,_,Z,_,bU,bt,(gt bk (gt br (gt a8 (gt bf (gt bw (gt bD bP)))))),f.k Z,m,bV,bu⟩
      ·intro bv w bw m bx bx
       have bu:=rd1 bw bu
       have aq:=od2 bw aq
       refine AU (R:=R0) (xs:=([bm.1]:LI)) (RI.one _) m T29 f Z Z Z (by decide) (All2.cons Z (All2.nil _)) λbz bA w a m bB f=>Aa ?_
       refine bx bv [bz,ib b0 72 [bt,(iv bm.2.2.1),(iv bm.2.2.2)],ao] _ _ gr m ?_
       refine A3 7 Z λbe w bf m bg bg=> ?_
       have bB:=od1 bf bB
       have bu:=rd1 bf bu
       have aq:=od2 bf aq
       refine BX 2 m aq Z By f Z Z bd bb λbh a bi f=>Aa ?_
       refine bg be [bz,ib b0 72 [bt,(iv bm.2.2.1),(iv bm.2.2.2)],ao] _ _ gr m ?_
       refine A3 11 Z λbC w bD m bE bE=> ?_
       have bB:=od1 bD bB
       have bu:=rd1 bD bu
       have aq:=od2 bD aq
       have m:Mem W bC w (ao::bz::ib b0 72 [bt,(iv bm.2.2.1),(iv bm.2.2.2)]::ib au 26 [an]::ib af 26 [sn]::H):=m.fr 2
       obtain⟨bF,bG,m,bH,bI⟩:=Ow2.out aq m bb bi
       refine AX (RI.one _) 1 m bI Z T29 Z (by decide) f Z Z Z (Ow.src (j:=2) bB m Z) bK λbL bM w a m bN f=>Aa ?_
       refine bE bC [bF,bL,bz,ib b0 72 [bt,(iv bm.2.2.1),(iv bm.2.2.2)]] _ _ gr m ?_
       refine A1 λbO w bP m=> ?_
       have bH:=OwH.mono (RI.mono _) bP bH
       have bN:=od1 bP bN
       have bu:=rd1 bP bu
       refine Cc 0 m bH Z T24 f Z Z Z bR λbS a bT f=>BV m bH bN sizeOf29 f Z Z bT λbU w m bV=>Aa ?_
       have m:=m.fr 2
       have m:=m.fr 3
       have m:Mem W bO w (ib af 26 [sn]::ib au 26 [an]::ib b0 72 [bt,(iv bm.2.2.1),(iv bm.2.2.2)]::bU::bz::H):=m.fr 4
       have m:Mem W bO w (ib af 26 [sn]::ib au 26 [an]::ib b0 72 [bt,(iv bm.2.2.1),(iv bm.2.2.2)]::bU::H):=m.eraseAt 4
       obtain rfl:=sj aZ
       exact⟨_,_,_,_,Z,_,bU,bt,(gt bk (gt br (gt a8 (gt bw (gt bf (gt bD bP)))))),f.k Z,m,bV,bu⟩
     ·intro bv w bw m bx bx
      have bu:=rd1 bw bu
      have aq:=od2 bw aq
      refine AU (R:=R0) (xs:=([bm.1]:LI)) (RI.one _) m T29 f Z Z Z (by decide) (All2.cons Z (All2.nil _)) λbz bA w a m bB f=>Aa ?_
      refine bx bv [bz,ib b0 72 [bt,(iv bm.2.2.1),(iv bm.2.2.2)],ao] _ _ gr m ?_
      refine A3 6 Z λa7 w a8 m a9 a9=> ?_
      have bB:=od1 a8 bB
      have bu:=rd1 a8 bu
      have aq:=od2 a8 aq
      refine Cm 2 m aq Z T24 f Z Z Z bb λbc a bd f=>Aa ?_
      refine a9 a7 [bz,ib b0 72 [bt,(iv bm.2.2.1),(iv bm.2.2.2)],ao] _ _ gr m ?_
      refine A3 7 Z λbe w bf m bg bg=> ?_
      have bB:=od1 bf bB
      have bu:=rd1 bf bu
      have aq:=od2 bf aq
      refine BX 2 m aq Z By f Z Z bd bb λbh a bi f=>Aa ?_
      refine bg be [bz,ib b0 72 [bt,(iv bm.2.2.1),(iv bm.2.2.2)],ao] _ _ gr m ?_
      refine A3 11 Z λbC w bD m bE bE=> ?_
      have bB:=od1 bD bB
      have bu:=rd1 bD bu
      have aq:=od2 bD aq
      have m:Mem W bC w (ao::bz::ib b0 72 [bt,(iv bm.2.2.1),(iv bm.2.2.2)]::ib au 26 [an]::ib af 26 [sn]::H):=m.fr 2
      obtain⟨bF,bG,m,bH,bI⟩:=Ow2.out aq m bb bi
      refine AX (RI.one _) 1 m bI Z T29 Z (by decide) f Z Z Z (Ow.src (j:=2) bB m Z) bK λbL bM w a m bN f=>Aa ?_
      refine bE bC [bF,bL,bz,ib b0 72 [bt,(iv bm.2.2.1),(iv bm.2.2.2)]] _ _ gr m ?_
      refine A1 λbO w bP m=> ?_
      have bH:=OwH.mono (RI.mono _) bP bH
      have bN:=od1 bP bN
      have bu:=rd1 bP bu
      refine Cc 0 m bH Z T24 f Z Z Z bR λbS a bT f=>BV m bH bN sizeOf29 f Z Z bT λbU w m bV=>Aa ?_
      have m:=m.fr 2
      have m:=m.fr 3
      have m:Mem W bO w (ib af 26 [sn]::ib au 26 [an]::ib b0 72 [bt,(iv bm.2.2.1),(iv bm.2.2.2)]::bU::bz::H):=m.fr 4
      have m:Mem W bO w (ib af 26 [sn]::ib au 26 [an]::ib b0 72 [bt,(iv bm.2.2.1),(iv bm.2.2.2)]::bU::H):=m.eraseAt 4
      obtain rfl:=sj aZ
      exact⟨_,_,_,_,Z,_,bU,bt,(gt bk (gt br (gt bw (gt a8 (gt bf (gt bD bP)))))),f.k Z,m,bV,bu⟩
   ·rintro a w ⟨a0,a1,a2,a3,rfl,a4,a5,a6,bW,f,m,bX,bY⟩
    refine Ae ?_
    refine Au 1 0 (ds:=[an]) m AA f Z Z Z Z Z λa f=>Ai 0 0 (ds:=[an]) m sizeOf26 f Z Z Z (Ah (Ow2.one1 3 m bX Z) An) Z (lb Z) Z λw m=>Aa ?_
    refine Am ?_
    have bZ:=A2 (P:=prog) 0 m AA f (s:=2) rfl rfl rfl
    have m:=m.fr 2
    have m:=m.fr 3
    have m:Mem W a4 w (a5::ib b0 72 [a6,(iv a2),(iv a3)]::ib af 26 [an]::H):=m.eraseAt 3
    have m:=m.eraseAt 2
    obtain rfl:=sj hd
    exact⟨[(.agg #[an])],⟨bZ,trivial⟩,f.d,_,[a5,ib b0 72 [a6,(iv a2),(iv a3)]],(gt al (gt aA (gt aK (gt aT bW)))),m,_,_,_,Z,Z,bX,bY⟩
  ·refine Aj f Z aX ?_
   refine Ae ?_
   refine Ak f Z Z Bj λa f=>Ac f Z λa f=>Aa ?_
   rcases Af hd with⟨b1,hd⟩|⟨b1,hd⟩
   ·refine Al f Z b1 ?_
    refine Aq ?_
    refine Bh underlying26 Z sizeOf24 f Z λa f=>AE 1 0 m Bk f Z Z Z Z λa f=>Ab f Z λa f=>Ab f Z λa f=>AU (R:=R0) (xs:=([aF.1]:LI)) (RI.one _) m T29 f Z Z Z (by decide) (All2.cons Z (All2.nil _)) λb2 b3 w a m b4 f=> ?_
    have⟨b5,b6,hd⟩:=bind_some hd
    refine Cm 3 m aq Z T24 f Z Z Z b6 λb7 a b8 f=> ?_
    have m:Mem W aR w (ao::b2::ib b0 72 [aV,(iv aO.2.2.1),(iv aO.2.2.2)]::ib au 26 [an]::ib af 26 [sn]::H):=m.fr 3
    refine DW m aq b4 sizeOf29 f Z Z b8 b6 λb9 w m ca=>AG ?_
    refine Au 2 0 (ds:=[an]) m AA f Z Z Z Z Z λa f=>Ai 3 0 (ds:=[an]) m sizeOf26 f Z Z Z (Ah (Ow2.one1 0 m ca Z) An) Z (lb Z) Z λw m=>Aa ?_
    refine Am ?_
    have cb:=A2 (P:=prog) 3 m AA f (s:=2) rfl rfl rfl
    have m:=m.eraseAt 3
    have m:Mem W aR w (b9::ib b0 72 [aV,(iv aO.2.2.1),(iv aO.2.2.2)]::H):=m.eraseAt 2
    obtain rfl:=sj hd
    exact⟨[(.agg #[an])],⟨cb,trivial⟩,f.d,_,[b9,ib b0 72 [aV,(iv aO.2.2.1),(iv aO.2.2.2)]],(gt al (gt aA (gt aK aT))),m,_,_,_,Z,Z,ca,aW⟩
   ·refine Aj f Z b1 ?_
    refine Ae ?_
    refine Ak f Z Z Bj λa f=>Ac f Z λa f=>Aa ?_
    rcases Af hd with⟨cc,hd⟩|⟨cc,hd⟩
    ·refine Al f Z cc ?_
     refine Aq ?_
     refine Ab f Z λa f=> ?_
     have⟨cd,ce,hd⟩:=bind_some hd
     refine Az f Z call17 (Wk.a m aW ce) λcf cg ch w ci m cj a f=> ?_
     obtain⟨ck,rfl,rfl,cl⟩:=cj
     refine Ak f Z Z AD λa f=> ?_
     have⟨cm,cn,hd⟩:=bind_some hd
     refine Az f Z call66 (Wk.K m cn) λco cp cq w cr m ct a f=> ?_
     obtain⟨cu,cv,rfl,rfl,cw⟩:=ct
     have cl:=rd1 cr cl
     refine Ai 2 0 (ds:=[cu]) m sizeOf26 f Z Z Z (Ah (Ow2.one1 0 m cw Z) An) Z (lb Z) Z λw m=>AG ?_
     refine Au 2 0 (ds:=[cu]) m AA f Z Z Z Z Z λa f=>Ai 4 0 (ds:=[cu]) m sizeOf26 f Z Z Z (Ah (Ow2.one1 0 m cw Z) An) Z (lb Z) Z λw m=>Aa ?_
     refine Am ?_
     have cx:=A2 (P:=prog) 4 m AA f (s:=2) rfl rfl rfl
     have m:=m.fr 3
     have m:=m.fr 2
     have m:Mem W cp w (cv::ib b0 72 [ck,(iv cd.2.2.1),(iv cd.2.2.2)]::ao::ib au 26 [cu]::ib af 26 [cu]::H):=m.fr 2
     have m:=m.eraseAt 4
     have m:=m.eraseAt 3
     have m:Mem W cp w (cv::ib b0 72 [ck,(iv cd.2.2.1),(iv cd.2.2.2)]::H):=m.eraseAt 2
     obtain rfl:=sj hd
     exact⟨[(.agg #[cu])],⟨cx,trivial⟩,f.d,_,[cv,ib b0 72 [ck,(iv cd.2.2.1),(iv cd.2.2.2)]],(gt al (gt aA (gt aK (gt aT (gt ci cr))))),m,_,_,_,Z,Z,cw,cl⟩
    ·refine Aj f Z cc ?_
     refine Ae ?_
     refine Ak f Z Z Bj λa f=>Ac f Z λa f=>Aa ?_
     rcases Af hd with⟨cy,hd⟩|⟨cy,hd⟩
     ·refine Al f Z cy ?_
      refine Aq ?_
      have cz:∀w,(Instr.build 26 #[]).run prog w= .ok (.agg #[sn]) w:=by intro w;simp[Instr.build,Instr.fill,A8,A6,AT,AZ,AP,A9]
      refine Bl f Z Z cz λa f=>Ai 1 0 (ds:=[sn]) m sizeOf26 f Z Z Z (Ah Z An) Z (lb Z) Z λw m=>AG ?_
      refine Au 1 0 (ds:=[sn]) m AA f Z Z Z Z Z λa f=>Ai 3 0 (ds:=[sn]) m sizeOf26 f Z Z Z (Ah Z An) Z (lb Z) Z λw m=>Aa ?_
      refine Am ?_
      obtain⟨cA,m,cB⟩:=Ow2.nil R0 29 2 m
      have cC:=A2 (P:=prog) 4 m AA f (s:=2) rfl rfl rfl
      have m:=m.eraseAt 4
      have m:=m.eraseAt 3
      have m:Mem W aR w (cA::ib b0 72 [aV,(iv aO.2.2.1),(iv aO.2.2.2)]::H):=m.eraseAt 2
      obtain rfl:=sj hd
      exact⟨[(.agg #[sn])],⟨cC,trivial⟩,f.d,_,[cA,ib b0 72 [aV,(iv aO.2.2.1),(iv aO.2.2.2)]],(gt al (gt aA (gt aK aT))),m,_,_,_,Z,Z,cB,aW⟩
     ·refine Aj f Z cy ?_
      refine Ae ?_
      refine Ak f Z Z Bj λa f=>Ac f Z λa f=>Aa ?_
      rcases Af hd with⟨cD,hd⟩|⟨cD,hd⟩
      ·refine Al f Z cD ?_
       refine Aq ?_
       refine Bh underlying26 Z sizeOf24 f Z λa f=>AE 1 0 m Bk f Z Z Z Z λa f=>Ab f Z λa f=>AU (R:=R0) (xs:=([]:LI)) (RI.one _) m T29 f Z Z Z (by decide) (All2.nil _) λcE cF w a m cG f=> ?_
       have⟨cH,cI,hd⟩:=bind_some hd
       refine Cm 3 m aq Z T24 f Z Z Z cI λcJ a cK f=> ?_
       have m:Mem W aR w (ao::cE::ib b0 72 [aV,(iv aO.2.2.1),(iv aO.2.2.2)]::ib au 26 [an]::ib af 26 [sn]::H):=m.fr 3
       refine DW m aq cG sizeOf29 f Z Z cK cI λcL w m cM=>AG ?_
       refine Au 2 0 (ds:=[an]) m AA f Z Z Z Z Z λa f=>Ai 3 0 (ds:=[an]) m sizeOf26 f Z Z Z (Ah (Ow2.one1 0 m cM Z) An) Z (lb Z) Z λw m=>Aa ?_
       refine Am ?_
       have cN:=A2 (P:=prog) 3 m AA f (s:=2) rfl rfl rfl
       have m:=m.eraseAt 3
       have m:Mem W aR w (cL::ib b0 72 [aV,(iv aO.2.2.1),(iv aO.2.2.2)]::H):=m.eraseAt 2
       obtain rfl:=sj hd
       exact⟨[(.agg #[an])],⟨cN,trivial⟩,f.d,_,[cL,ib b0 72 [aV,(iv aO.2.2.1),(iv aO.2.2.2)]],(gt al (gt aA (gt aK aT))),m,_,_,_,Z,Z,cM,aW⟩
      ·refine Aj f Z cD ?_
       refine Ao ?_
       refine Ae ?_
       refine Au 1 0 (ds:=[an]) m AA f Z Z Z Z Z λa f=>Ai 3 0 (ds:=[an]) m sizeOf26 f Z Z Z (Ah (Ow2.one1 2 m aq Z) An) Z (lb Z) Z λw m=>Aa ?_
       refine Am ?_
       have cO:=A2 (P:=prog) 3 m AA f (s:=2) rfl rfl rfl
       have m:=m.fr 2
       have m:=m.eraseAt 3
       have m:Mem W aR w (ao::ib b0 72 [aV,(iv aO.2.2.1),(iv aO.2.2.2)]::H):=m.eraseAt 2
       obtain rfl:=sj hd
       exact⟨[(.agg #[an])],⟨cO,trivial⟩,f.d,_,[ao,ib b0 72 [aV,(iv aO.2.2.1),(iv aO.2.2.2)]],(gt al (gt aA (gt aK aT))),m,_,_,_,Z,Z,aq,aW⟩
 ·refine Aj f Z aE ?_
  refine Ao ?_
  refine Ae ?_
  refine Au 1 0 (ds:=[an]) m AA f Z Z Z Z Z λa f=>Ai 3 0 (ds:=[an]) m sizeOf26 f Z Z Z (Ah (Ow2.one1 2 m aq Z) An) Z (lb Z) Z λw m=>Aa ?_
  refine Am ?_
  have cP:=A2 (P:=prog) 3 m AA f (s:=2) rfl rfl rfl
  have m:=m.fr 2
  have m:=m.eraseAt 3
  have m:=m.eraseAt 2
  obtain rfl:=sj hd
  exact⟨[(.agg #[an])],⟨cP,trivial⟩,f.d,_,[ao,ib b0 72 [aC,(iv av.2.2.1),(iv av.2.2.2)]],(gt al aA),m,_,_,_,Z,Z,aq,aD⟩
theorem Wk.q {x0:Int}(m:Mem W G w (H)){y:Int×Int}(hd:D.q x0=some y):
  Calls prog 22 #[(iv x0)] w (Res W G H (λ_ Ho v=>Ho=[]∧v= .tuple #[(iv y.1),(iv y.2)])):=by
 refine Aw (args:=[(iv x0)]) (N:=13) [.tmp 2,.tmp 3] func22 Z Z (lb Z) Z λa f=> ?_
 unfold D.q at hd
 refine Ae ?_
 refine Ac f Z λa f=>Ac f Z λa f=>Aa (Ag (Ae ?_))
 refine Ab f Z λa f=>Aa (Ap (Ae ?_))
 refine Ak f Z Z Bj λa f=>Ac f Z λa f=>Aa ?_
 rcases Af hd with⟨aa,hd⟩|⟨aa,hd⟩
 ·refine Al f Z aa ?_
  refine Ae ?_
  refine Ac f Z λa f=>Ac f Z λa f=>Aa ?_
  refine Am ?_
  obtain rfl:=sj hd
  exact⟨[(iv 5),(iv 0)],⟨f.get _ _ Z,f.get _ _ Z,trivial⟩,f.d,_,[],gr,m,Z,Z⟩
 ·refine Aj f Z aa ?_
  refine Ae ?_
  refine Ak f Z Z Bj λa f=>Ac f Z λa f=>Aa ?_
  rcases Af hd with⟨ab,hd⟩|⟨ab,hd⟩
  ·refine Al f Z ab ?_
   refine Ae ?_
   refine Ac f Z λa f=>Ac f Z λa f=>Aa ?_
   refine Am ?_
   obtain rfl:=sj hd
   exact⟨[(iv 3),(iv 3)],⟨f.get _ _ Z,f.get _ _ Z,trivial⟩,f.d,_,[],gr,m,Z,Z⟩
  ·refine Aj f Z ab ?_
   refine Ae ?_
   refine Ak f Z Z Bj λa f=>Ac f Z λa f=>Aa ?_
   rcases Af hd with⟨ac,hd⟩|⟨ac,hd⟩
   ·refine Al f Z ac ?_
    refine Ae ?_
    refine Ac f Z λa f=>Ac f Z λa f=>Aa ?_
    refine Am ?_
    obtain rfl:=sj hd
    exact⟨[(iv 4),(iv 0)],⟨f.get _ _ Z,f.get _ _ Z,trivial⟩,f.d,_,[],gr,m,Z,Z⟩
   ·refine Aj f Z ac ?_
    refine Ae ?_
    refine Ak f Z Z Bj λa f=>Ac f Z λa f=>Aa ?_
    rcases Af hd with⟨ad,hd⟩|⟨ad,hd⟩
    ·refine Al f Z ad ?_
     refine Ae ?_
     refine Ac f Z λa f=>Ac f Z λa f=>Aa ?_
     refine Am ?_
     obtain rfl:=sj hd
     exact⟨[(iv 2),(iv 3)],⟨f.get _ _ Z,f.get _ _ Z,trivial⟩,f.d,_,[],gr,m,Z,Z⟩
    ·refine Aj f Z ad ?_
     refine Ao ?_
     refine Ae ?_
     refine Ac f Z λa f=>Ac f Z λa f=>Aa ?_
     refine Am ?_
     obtain rfl:=sj hd
     exact⟨[(iv 0),(iv 0)],⟨f.get _ _ Z,f.get _ _ Z,trivial⟩,f.d,_,[],gr,m,Z,Z⟩
theorem Wk.E {x0:Int}(m:Mem W G w (H)){y:(LL)}(hd:D.E x0=some y):
  Calls prog 24 #[(iv x0)] w (Res W G H (λG' Ho v=>∃r0:Value,∃i0:Itm,Ho=[i0]∧r0=v∧Ow R1 61 G' i0 r0 y)):=by
 refine Aw (args:=[(iv x0)]) (N:=49) [.tmp 2] func24 Z Z (lb Z) Z λa f=> ?_
 unfold D.E at hd
 refine Ae ?_
 refine Ac f Z λa f=>AG ?_
 refine Ab f Z λa f=> ?_
 have⟨aa,ab,hd⟩:=bind_some hd
 refine A4 f Z call22 (Wk.q m ab) λac w ad m a f=>Ab f Z λa f=>l_o f (AB (f.e Z) Z) λa f=>l_o f (AB (f.e Z) Z) λa f=>Ac f Z λa f=>Ac f Z λa f=>AG ?_
 refine AU (R:=R1) (xs:=([]:LL)) (RSl.one _) m T51 f Z Z Z (by decide) (All2.nil _) λae af w a m ag f=>Ac f Z λa f=>Aa (Ag (Ae ?_))
 refine Ac f Z λa f=>Aa ?_
 have⟨ah,ai,hd⟩:=bind_some hd
 refine AR (λa w=>∃aj:LL,aj=ah∧∃(ak:GH) (al:Value) (am:Itm),GLe ac ak∧Fr a 49 [(5,al)]∧Mem W ak w (am::H)∧Ow R1 61 ak am al aj) ?_ ?_
 ·refine Ap ?_
  refine AQ (λan a w=>∃ao:LL,∃ap:Int,(ao,ap)=an∧∃(aq:GH) (ar:Value) (au:Itm),GLe ac aq∧Fr a 49 [(3,(iv aa.1)),(4,(iv aa.2)),(5,ar),(6,(iv ap))]∧Mem W aq w (au::H)∧Ow R1 61 aq au ar ao) ai ⟨_,_,Z,_,af,ae,gr,f.k Z,m,ag⟩ ?_
  clear ai f m
  rintro an av aw ax a w ⟨ao,ap,rfl,aq,ar,au,ay,f,m,az⟩
  refine Ag (Ae ?_)
  refine Ab f Z λa f=>Ab f Z λa f=>Ak f Z Z AV λa f=>Aa ?_
  rcases Af aw with⟨aA,aw⟩|⟨aA,aw⟩
  ·refine Al f Z aA ?_
   refine Ao ?_
   refine Ag (Ap (Ag (Ae ?_)))
   refine Ab f Z λa f=>Ak f Z Z Bj λa f=>Aa ?_
   have⟨aB,aC,aw⟩:=bind_some aw
   refine AR (λa w=>∃aD:LL,aD=aB∧∃(aE:GH) (aF:Value) (aG:Itm),GLe aq aE∧Fr a 49 [(3,(iv aa.1)),(4,(iv aa.2)),(5,aF),(6,(iv ap))]∧Mem W aE w (aG::H)∧Ow R1 61 aE aG aF aD) ?_ ?_
   ·rcases Af aC with⟨aH,aC⟩|⟨aH,aC⟩
    ·refine Al f Z aH ?_
     refine Ae ?_
     refine Ab f Z λa f=>Ak f Z Z AD λa f=>Ac f Z λa f=>Aa ?_
     have⟨aI,aJ,aC⟩:=bind_some aC
     refine AR (λa w=>∃aK:LL,aK=aI∧∃(aL:GH) (aM:Value) (aN:Itm),GLe aq aL∧Fr a 49 [(3,(iv aa.1)),(4,(iv aa.2)),(5,aM),(6,(iv ap))]∧Mem W aL w (aN::H)∧Ow R1 61 aL aN aM aK) ?_ ?_
     ·refine Ap ?_
      refine AQ (λaO a w=>∃aP:LL,∃aQ:Int,(aP,aQ)=aO∧∃(aR:GH) (aS:Value) (aT:Itm),GLe aq aR∧Fr a 49 [(3,(iv aa.1)),(4,(iv aa.2)),(5,aS),(6,(iv ap)),(7,(iv aQ))]∧Mem W aR w (aT::H)∧Ow R1 61 aR aT aS aP) aJ ⟨_,_,Z,_,ar,au,gr,f.k Z,m,az⟩ ?_
      clear aJ f m
      rintro aO aU aV aW a w ⟨aP,aQ,rfl,aR,aS,aT,aX,f,m,aY⟩
      refine Ag (Ae ?_)
      refine Ab f Z λa f=>Ab f Z λa f=>Ak f Z Z AV λa f=>Aa ?_
      rcases Af aV with⟨aZ,aV⟩|⟨aZ,aV⟩
      ·refine Al f Z aZ ?_
       refine Ao ?_
       refine Ag (Ap (Aq ?_))
       refine Ab f Z λa f=>Ab f Z λa f=>Ab f Z λa f=>AU (R:=R0) (xs:=([ap,aQ]:LI)) (RI.one _) m T61 f Z Z Z (by decide) (All2.cons Z (All2.cons Z (All2.nil _))) λa0 a1 w a m a2 f=> ?_
       obtain⟨a3,a4,m,a5⟩:=Ow.stamp (RI.mono _) a2 m
       have aY:=Ow.mono (RSl.mono (RI.mono _)) a4 aY
       refine AU (R:=R1) (xs:=([([ap,aQ]:LI)]:LL)) (RSl.one _) m T51 f Z Z Z (by decide) (All2.cons a5 (All2.nil _)) λa6 a7 w a m a8 f=> ?_
       have⟨a9,ba,aV⟩:=bind_some aV
       refine AX (RSl.one _) 1 m aY Z T51 Z (by decide) f Z Z Z (Ow.src (j:=0) a8 m Z) ba λbb bc w a m bd f=>Ac f Z λa f=>Aa (Aq ?_)
       refine Ab f Z λa f=>Ak f Z Z AD λa f=>Ac f Z λa f=>Aa ?_
       have m:=m.fr 1
       have m:=m.eraseAt 1
       obtain rfl:=sj aV
       exact⟨_,Z,_,_,Z,_,bc,bb,(gt aX a4),f.k Z,m,bd⟩
      ·refine Aj f Z aZ ?_
       refine AO Z ?_
       obtain rfl:=sj aV
       obtain rfl:=aW _ rfl
       exact⟨_,Z,_,aS,aT,aX,f.k Z,m,aY⟩
     ·rintro a w ⟨aK,rfl,aL,aM,aN,be,f,m,bf⟩
      obtain rfl:=sj aC
      exact⟨_,Z,_,aM,aN,be,f.k Z,m,bf⟩
    ·refine Aj f Z aH ?_
     refine Ao ?_
     obtain rfl:=sj aC
     exact⟨_,Z,_,ar,au,gr,f.k Z,m,az⟩
   ·rintro a w ⟨aD,rfl,aE,aF,aG,bg,f,m,bh⟩
    refine Ae ?_
    refine Ac f Z λa f=>Aa ?_
    have⟨bi,bj,aw⟩:=bind_some aw
    refine AR (λa w=>∃bk:LL,bk=bi∧∃(bl:GH) (bm:Value) (bn:Itm),GLe aE bl∧Fr a 49 [(3,(iv aa.1)),(4,(iv aa.2)),(5,bm),(6,(iv ap))]∧Mem W bl w (bn::H)∧Ow R1 61 bl bn bm bk) ?_ ?_
    ·refine Ap ?_
     refine AQ (λbo a w=>∃bp:LL,∃bq:Int,(bp,bq)=bo∧∃(br:GH) (bs:Value) (bt:Itm),GLe aE br∧Fr a 49 [(3,(iv aa.1)),(4,(iv aa.2)),(5,bs),(6,(iv ap)),(8,(iv bq))]∧Mem W br w (bt::H)∧Ow R1 61 br bt bs bp) bj ⟨_,_,Z,_,aF,aG,gr,f.k Z,m,bh⟩ ?_
     clear bj f m
     rintro bo bu bv bw a w ⟨bp,bq,rfl,br,bs,bt,bx,f,m,bz⟩
     refine Ag (Ae ?_)
     refine Ab f Z λa f=>Ab f Z λa f=>Ak f Z Z AV λa f=>Aa ?_
     rcases Af bv with⟨bA,bv⟩|⟨bA,bv⟩
     ·refine Al f Z bA ?_
      refine Ao ?_
      refine Ag (Ap (Aq ?_))
      refine Ab f Z λa f=>Ab f Z λa f=>Ab f Z λa f=>Ab f Z λa f=>Ak f Z Z AD λa f=>AU (R:=R0) (xs:=([ap,(i64.wrap (aa.1+bq))]:LI)) (RI.one _) m T61 f Z Z Z (by decide) (All2.cons Z (All2.cons Z (All2.nil _))) λbB bC w a m bD f=> ?_
      obtain⟨bE,bF,m,bG⟩:=Ow.stamp (RI.mono _) bD m
      have bz:=Ow.mono (RSl.mono (RI.mono _)) bF bz
      refine AU (R:=R1) (xs:=([([ap,(i64.wrap (aa.1+bq))]:LI)]:LL)) (RSl.one _) m T51 f Z Z Z (by decide) (All2.cons bG (All2.nil _)) λbH bI w a m bJ f=> ?_
      have⟨bK,bL,bv⟩:=bind_some bv
      refine AX (RSl.one _) 1 m bz Z T51 Z (by decide) f Z Z Z (Ow.src (j:=0) bJ m Z) bL λbM bN w a m bO f=>Ac f Z λa f=>Aa (Aq ?_)
      refine Ab f Z λa f=>Ak f Z Z AD λa f=>Ac f Z λa f=>Aa ?_
      have m:=m.fr 1
      have m:=m.eraseAt 1
      obtain rfl:=sj bv
      exact⟨_,Z,_,_,Z,_,bN,bM,(gt bx bF),f.k Z,m,bO⟩
     ·refine Aj f Z bA ?_
      refine AO Z ?_
      obtain rfl:=sj bv
      obtain rfl:=bw _ rfl
      exact⟨_,Z,_,bs,bt,bx,f.k Z,m,bz⟩
    ·rintro a w ⟨bk,rfl,bl,bm,bn,bP,f,m,bQ⟩
     refine Aq ?_
     refine Ab f Z λa f=>Ak f Z Z AD λa f=>Ac f Z λa f=>Aa ?_
     obtain rfl:=sj aw
     exact⟨_,Z,_,_,Z,_,bm,bn,(gt ay (gt bg bP)),f.k Z,m,bQ⟩
  ·refine Aj f Z aA ?_
   refine AO Z ?_
   obtain rfl:=sj aw
   obtain rfl:=ax _ rfl
   exact⟨_,Z,_,ar,au,ay,f.k Z,m,az⟩
 ·rintro a w ⟨aj,rfl,ak,al,am,bR,f,m,bS⟩
  refine Ae ?_
  refine Ab f Z λa f=>Ac f Z λa f=>Aa ?_
  refine Am ?_
  obtain rfl:=sj hd
  exact⟨[al],f.g Z,f.d,_,[am],(gt ad bR),m,_,_,Z,Z,bS⟩
theorem Wk.J0 {x0:Int}(m:Mem W G w (H)){y:(LL)}(hd:D.J0 x0=some y):
  Calls prog 40 #[(iv x0)] w (Res W G H (λG' Ho v=>∃r0:Value,∃i0:Itm,Ho=[i0]∧v=(.agg #[r0])∧Ow R1 29 G' i0 r0 y)):=by
 refine Aw (args:=[(iv x0)]) (N:=43) [.cell 2 26] func40 Z Z (lb Z) Z λa f=> ?_
 unfold D.J0 at hd
 refine Ae ?_
 refine AH (cs:=[sn]) zeroValue26 m f Z Z λaa w a m f=>AG ?_
 refine Ab f Z λa f=> ?_
 have⟨ab,ac,hd⟩:=bind_some hd
 refine A4 f Z call22 (Wk.q m ac) λad w ae m a f=>Ab f Z λa f=>l_o f (AB (f.e Z) Z) λa f=>l_o f (AB (f.e Z) Z) λa f=>Ac f Z λa f=>Ac f Z λa f=>Aa (Ag (Ae ?_))
 refine Ab f Z λa f=>Ak f Z Z Bj λa f=>Aa ?_
 rcases Af hd with⟨af,hd⟩|⟨af,hd⟩
 ·refine Al f Z af ?_
  refine Ae ?_
  have ag:∀w,(Instr.build 26 #[]).run prog w= .ok (.agg #[sn]) w:=by intro w;simp[Instr.build,Instr.fill,A8,A6,AT,AZ,AP,A9]
  refine Bl f Z Z ag λa f=>Ai 0 0 (ds:=[sn]) m sizeOf26 f Z Z Z (Ah Z An) Z (lb Z) Z λw m=>Aa ?_
  refine Am ?_
  obtain⟨ah,m,ai⟩:=Ow.nil R1 29 m
  have aj:=A2 (P:=prog) 1 m AA f (s:=2) rfl rfl rfl
  have m:=m.eraseAt 1
  obtain rfl:=sj hd
  exact⟨[(.agg #[sn])],⟨aj,trivial⟩,f.d,_,[ah],ae,m,_,_,Z,Z,ai⟩
 ·refine Aj f Z af ?_
  refine Ao ?_
  refine Ae ?_
  refine Ab f Z λa f=>Ab f Z λa f=>Ak f Z Z AD λa f=> ?_
  have⟨ak,al,hd⟩:=bind_some hd
  refine Az f Z call66 (Wk.n m al) λam an ao w ap m aq a f=> ?_
  obtain⟨ar,au,rfl,rfl,av⟩:=aq
  refine AH (cs:=[sn]) zeroValue26 m f Z Z λaw w a m f=>Ai 0 0 (ds:=[ar]) m sizeOf26 f Z Z Z (Ah (Ow.one1 1 m av Z) An) Z (lb Z) Z λw m=>AG ?_
  refine Ab f Z λa f=> ?_
  have⟨ax,ay,hd⟩:=bind_some hd
  refine Az f Z call24 (Wk.E m ay) λaz aA aB w aC m aD a f=> ?_
  obtain⟨aE,aF,rfl,rfl,aG⟩:=aD
  have av:=Ow.mono (RSl.mono (RI.mono _)) aC av
  refine Ac f Z λa f=>Aa (Ag (Ae ?_))
  refine Ac f Z λa f=>Aa ?_
  have⟨aH,aI,hd⟩:=bind_some hd
  refine AR (λa w=>∃aJ:LL,aJ=aH∧∃(aK:GH) (aL:Itm),GLe aA aK∧Fr a 43 [(2,(pb aa)),(5,(pb aw))]∧Mem W aK w (ib aa 26 [sn]::ib aw 26 [ar]::aL::H)∧Ow R1 29 aK aL ar aJ) ?_ ?_
  ·refine Ap ?_
   have m:=m.fr 1
   have m:Mem W aA w (ib aa 26 [sn]::ib aw 26 [ar]::aF::au::H):=m.fr 3
   refine AQ (λaM a w=>∃aN:Int,∃aO:LL,(aN,aO)=aM∧∃(aP:GH) (aQ:Itm),GLe aA aP∧Fr a 43 [(2,(pb aa)),(5,(pb aw)),(6,aE),(7,(iv aN))]∧Mem W aP w (ib aa 26 [sn]::ib aw 26 [ar]::aF::aQ::H)∧Ow R1 29 aP aQ ar aO) aI ⟨_,_,Z,_,au,gr,f.k Z,m,av⟩ ?_
   clear aI f m
   rintro aM aR aS aT a w ⟨aN,aO,rfl,aP,aQ,aU,f,m,aV⟩
   have aG:=Ow.mono (RSl.mono (RI.mono _)) aU aG
   refine Ag (Ae ?_)
   refine Ab f Z λa f=>Ab f Z λa f=>Bw 2 m aG Z underlying51 f Z Z λa f=>Ak f Z Z AV λa f=>Aa ?_
   rcases Af aS with⟨aW,aS⟩|⟨aW,aS⟩
   ·refine Al f Z aW ?_
    refine Ao ?_
    refine Ag (Ap ?_)
    refine Bc 13 AW (by kernel_rfl) m ?_
    refine BC (i:=0) (ds:=[ar]) 13 1 AA Z Z Z Z (by kernel_rfl) Z f Z Z Z λa f=>Ay 1 13 Z f Z λa f=>Ay 2 13 Z f Z λa f=> ?_
    have⟨aX,aY,aS⟩:=bind_some aS
    refine Ck 3 13 2 m aG T51 aY Z f Z Z λaZ a a0 f=>q_ol 4 13 2 aG CU a0 aY Z f Z λa1 a a2 f=> ?_
    have⟨a3,a4,aS⟩:=bind_some aS
    refine Bs 5 13 T61 a2 a4 Z f Z Z λa5 a6 a a7 a8 f=> ?_
    subst a8
    refine Bq 6 13 Pl3 a7 Z f Z λa f=>Ay 7 13 Z f Z λa f=>Ay 8 13 Z f Z λa f=> ?_
    have⟨a9,ba,aS⟩:=bind_some aS
    refine Ck 9 13 2 m aG T51 ba Z f Z Z λbb a bc f=>q_ol 10 13 2 aG CU bc ba Z f Z λbd a be f=> ?_
    have⟨bf,bg,aS⟩:=bind_some aS
    refine Bs 11 13 T61 be bg Z f Z Z λbh bi a bj bk f=> ?_
    subst bk
    refine Bq 12 13 Pl3 bj Z f Z λa f=>A1 λbl w bm m=> ?_
    have aV:=Ow.mono (RSl.mono (RI.mono _)) bm aV
    have m:Mem W bl w (aQ::ib aa 26 [sn]::ib aw 26 [ar]::aF::H):=m.fr 3
    have⟨bn,bo,aS⟩:=bind_some aS
    refine Az f Z call67 (Wk.j m aV bo) λbp bq br w bs m bt a f=> ?_
    obtain⟨bu,rfl,rfl,bv⟩:=bt
    refine Ai 2 0 (ds:=[ar]) m sizeOf26 f Z Z Z (Ah (Ow.one1 0 m bv Z) An) Z (lb Z) Z λw m=>Aa (Aq ?_)
    refine Ab f Z λa f=>Ak f Z Z AD λa f=>Ac f Z λa f=>Aa ?_
    have m:=m.fr 3
    have m:=m.fr 3
    have m:Mem W bq w (ib aa 26 [sn]::ib aw 26 [ar]::aF::bu::H):=m.fr 3
    obtain rfl:=sj aS
    exact⟨_,Z,_,_,Z,_,bu,(gt aU (gt bm bs)),f.k Z,m,bv⟩
   ·refine Aj f Z aW ?_
    refine AO Z ?_
    have m:=m.fr 3
    have m:=m.fr 2
    have m:Mem W aP w (ib aa 26 [sn]::ib aw 26 [ar]::aQ::aF::H):=m.fr 2
    have m:=m.eraseAt 3
    obtain rfl:=sj aS
    obtain rfl:=aT _ rfl
    exact⟨_,Z,_,aQ,aU,f.k Z,m,aV⟩
  ·rintro a w ⟨aJ,rfl,aK,aL,bw,f,m,bx⟩
   refine Ae ?_
   refine Au 1 0 (ds:=[ar]) m AA f Z Z Z Z Z λa f=>Ai 0 0 (ds:=[ar]) m sizeOf26 f Z Z Z (Ah (Ow.one1 2 m bx Z) An) Z (lb Z) Z λw m=>Aa ?_
   refine Am ?_
   have bz:=A2 (P:=prog) 0 m AA f (s:=2) rfl rfl rfl
   have m:=m.fr 2
   have m:=m.eraseAt 2
   have m:=m.eraseAt 1
   obtain rfl:=sj hd
   exact⟨[(.agg #[ar])],⟨bz,trivial⟩,f.d,_,[aL],(gt ae (gt ap (gt aC bw))),m,_,_,Z,Z,bx⟩
end Go.Proofs.YtaddadondmaeaaaDoor

set_option maxRecDepth 100000
namespace Go.Proofs.YtaddadondmaeaaaDoor
open Go Go.Sx
open Go.Proofs.Tryd Go.Proofs.YtaddadondmaeaaaDoor.Tryd IntKind
variable {W w : World} {G : GH} {H : List Itm}
theorem Wk.b {aa:Value}{ab:LL}(m:Mem W G w (H))(ac:R2 G aa ab){y:Int}(hd:D.b ab=some y):
  Calls prog 26 #[(.agg #[aa])] w (Res W G H (λ_ Ho v=>Ho=[]∧v=(iv y))):=by
 refine Aw (args:=[(.agg #[aa])]) (N:=6) [.tmp 2] func26 Z Z (lb Z) Z λa f=> ?_
 unfold D.b at hd
 refine Ae ?_
 refine Bf (cs:=[aa]) m f Z Z Z λad w a m f=>Ac f Z λa f=>AG ?_
 refine Bh underlying26 Z sizeOf24 f Z λa f=>AE 0 0 m Bk f Z Z Z Z λa f=>Bb underlying24 f Z Z ac λa f=>Ac f Z λa f=>Aa ?_
 refine Am ?_
 have m:Mem W G w H:=Mem.drop (H':=[ib ad 26 [aa]]) m
 obtain rfl:=sj hd
 exact⟨[(iv (ab.length:Int))],f.g Z,f.d,_,[],gr,m,Z,Z⟩
theorem Wk.M {aa:Value}{ab:LL}(m:Mem W G w (H))(ac:R2 G aa ab){y:(LL)}(hd:D.M ab=some y):
  Calls prog 38 #[(.agg #[aa])] w (Res W G H (λG' Ho v=>∃r0:Value,∃i0:Itm,Ho=[i0]∧r0=v∧Ow R1 29 G' i0 r0 y)):=by
 refine Aw (args:=[(.agg #[aa])]) (N:=47) [.tmp 2] func38 Z Z (lb Z) Z λa f=> ?_
 unfold D.M at hd
 refine Ae ?_
 refine Bf (cs:=[aa]) m f Z Z Z λad w a m f=>Ac f Z λa f=>AG ?_
 refine AU (R:=R1) (xs:=([]:LL)) (RSl.one _) m T24 f Z Z Z (by decide) (All2.nil _) λae af w a m ag f=>Ac f Z λa f=>Aa (Ag (Ae ?_))
 refine Ac f Z λa f=>Aa ?_
 have⟨ah,ai,hd⟩:=bind_some hd
 refine AR (λa w=>∃aj:LL,aj=ah∧∃(ak:GH) (al:Value) (am:Itm),GLe G ak∧Fr a 47 [(3,al)]∧Mem W ak w (am::H)∧Ow R1 29 ak am al aj) ?_ ?_
 ·refine Ap ?_
  have m:=m.fr 1
  refine AQ (λan a w=>∃ao:LL,∃ap:Int,(ao,ap)=an∧∃(aq:GH) (ar:Value) (au:Itm),GLe G aq∧Fr a 47 [(1,(pb ad)),(3,ar),(4,(iv ap))]∧Mem W aq w (ib ad 26 [aa]::au::H)∧Ow R1 29 aq au ar ao) ai ⟨_,_,Z,_,af,ae,gr,f.k Z,m,ag⟩ ?_
  clear ai f m
  rintro an av aw ax a w ⟨ao,ap,rfl,aq,ar,au,ay,f,m,az⟩
  have ac:=rd2 ay ac
  refine Ag (Ae ?_)
  refine Ab f Z λa f=>Au 0 0 (ds:=[aa]) m AA f Z Z Z Z Z λa f=> ?_
  have⟨aA,aB,aw⟩:=bind_some aw
  refine A4 f Z call26 (Wk.b m ac aB) λaC w aD m a f=> ?_
  have ac:=rd2 aD ac
  have az:=Ow.mono (RSl.mono (RI.mono _)) aD az
  refine Ak f Z Z AV λa f=>Aa ?_
  rcases Af aw with⟨aE,aw⟩|⟨aE,aw⟩
  ·refine Al f Z aE ?_
   refine Ao ?_
   refine Ag (Ap (Ae ?_))
   refine Ac f Z λa f=>Aa ?_
   have⟨aF,aG,aw⟩:=bind_some aw
   refine AR (λa w=>∃aH:LL,aH=aF∧∃(aI:GH) (aJ:Value) (aK:Itm),GLe aC aI∧Fr a 47 [(1,(pb ad)),(3,aJ),(4,(iv ap))]∧Mem W aI w (ib ad 26 [aa]::aK::H)∧Ow R1 29 aI aK aJ aH) ?_ ?_
   ·refine Ap ?_
    refine AQ (λaL a w=>∃aM:LL,∃aN:Int,(aM,aN)=aL∧∃(aO:GH) (aP:Value) (aQ:Itm),GLe aC aO∧Fr a 47 [(1,(pb ad)),(3,aP),(4,(iv ap)),(5,(iv aN))]∧Mem W aO w (ib ad 26 [aa]::aQ::H)∧Ow R1 29 aO aQ aP aM) aG ⟨_,_,Z,_,ar,au,gr,f.k Z,m,az⟩ ?_
    clear aG f m
    rintro aL aR aS aT a w ⟨aM,aN,rfl,aO,aP,aQ,aU,f,m,aV⟩
    have ac:=rd2 aU ac
    refine Ag (Ae ?_)
    refine Ab f Z λa f=>Bh underlying26 Z sizeOf24 f Z λa f=>AE 0 0 m Bk f Z Z Z Z λa f=>Ab f Z λa f=> ?_
    have⟨aW,aX,aS⟩:=bind_some aS
    refine Bo T24 f Z Z Z ac aX λaY aZ a a0 a1 f=>AN m By f Z Z a0 λa f=>Bb underlying29 f Z Z a1 λa f=>Ak f Z Z AV λa f=>Aa ?_
    rcases Af aS with⟨a2,aS⟩|⟨a2,aS⟩
    ·refine Al f Z a2 ?_
     refine Ao ?_
     refine Ag (Ap (Ae ?_))
     refine Bh underlying26 Z sizeOf24 f Z λa f=>AE 0 0 m Bk f Z Z Z Z λa f=>Ab f Z λa f=> ?_
     have⟨a3,a4,aS⟩:=bind_some aS
     refine Bo T24 f Z Z Z ac a4 λa5 a6 a a7 a8 f=>AN m By f Z Z a7 λa f=>Ab f Z λa f=> ?_
     have⟨a9,ba,aS⟩:=bind_some aS
     refine Bo T29 f Z Z Z a8 ba λbb bc a bd be f=> ?_
     subst be
     refine AN m Pl2 f Z Z bd λa f=>Ab f Z λa f=>Ak f Z Z Cu λa f=>Aa ?_
     rcases Af aS with⟨bf,aS⟩|⟨bf,aS⟩
     ·refine Al f Z bf ?_
      refine Aq ?_
      refine Ab f Z λa f=>Ab f Z λa f=>Bh underlying26 Z sizeOf24 f Z λa f=>AE 0 0 m Bk f Z Z Z Z λa f=>Ab f Z λa f=> ?_
      have⟨bg,bh,aS⟩:=bind_some aS
      refine Bo T24 f Z Z Z ac bh λbi bj a bk bl f=>AN m By f Z Z bk λa f=>Ab f Z λa f=> ?_
      have⟨bm,bn,aS⟩:=bind_some aS
      refine Bo T29 f Z Z Z bl bn λbo bp a bq br f=> ?_
      subst br
      refine AN m Pl2 f Z Z bq λa f=>AU (R:=R0) (xs:=([ap,bm]:LI)) (RI.one _) m T29 f Z Z Z (by decide) (All2.cons Z (All2.cons Z (All2.nil _))) λbs bt w a m bu f=> ?_
      obtain⟨bv,bw,m,bx⟩:=Ow.stamp (RI.mono _) bu m
      have aV:=Ow.mono (RSl.mono (RI.mono _)) bw aV
      refine AU (R:=R1) (xs:=([([ap,bm]:LI)]:LL)) (RSl.one _) m T24 f Z Z Z (by decide) (All2.cons bx (All2.nil _)) λbz bA w a m bB f=> ?_
      have⟨bC,bD,aS⟩:=bind_some aS
      refine AX (RSl.one _) 2 m aV Z T24 Z (by decide) f Z Z Z (Ow.src (j:=0) bB m Z) bD λbE bF w a m bG f=>Ac f Z λa f=>Aa (Aq ?_)
      refine Ab f Z λa f=>Ak f Z Z AD λa f=>Ac f Z λa f=>Aa ?_
      have m:=m.fr 2
      have m:=m.fr 2
      have m:=m.eraseAt 2
      obtain rfl:=sj aS
      exact⟨_,Z,_,_,Z,_,bF,bE,(gt aU bw),f.k Z,m,bG⟩
     ·refine Aj f Z bf ?_
      refine Ao ?_
      refine Aq ?_
      refine Ab f Z λa f=>Ak f Z Z AD λa f=>Ac f Z λa f=>Aa ?_
      obtain rfl:=sj aS
      exact⟨_,Z,_,_,Z,_,aP,aQ,aU,f.k Z,m,aV⟩
    ·refine Aj f Z a2 ?_
     refine AO Z ?_
     obtain rfl:=sj aS
     obtain rfl:=aT _ rfl
     exact⟨_,Z,_,aP,aQ,aU,f.k Z,m,aV⟩
   ·rintro a w ⟨aH,rfl,aI,aJ,aK,bH,f,m,bI⟩
    refine Aq ?_
    refine Ab f Z λa f=>Ak f Z Z AD λa f=>Ac f Z λa f=>Aa ?_
    obtain rfl:=sj aw
    exact⟨_,Z,_,_,Z,_,aJ,aK,(gt ay (gt aD bH)),f.k Z,m,bI⟩
  ·refine Aj f Z aE ?_
   refine AO Z ?_
   have m:=m.fr 1
   have m:=m.eraseAt 1
   obtain rfl:=sj aw
   obtain rfl:=ax _ rfl
   exact⟨_,Z,_,ar,au,(gt ay aD),f.k Z,m,az⟩
 ·rintro a w ⟨aj,rfl,ak,al,am,bJ,f,m,bK⟩
  refine Ae ?_
  refine Ab f Z λa f=>Ac f Z λa f=>Aa ?_
  refine Am ?_
  obtain rfl:=sj hd
  exact⟨[al],f.g Z,f.d,_,[am],bJ,m,_,_,Z,Z,bK⟩
theorem Wk.g0 {v0:Value}{x0:LI}{x1:Int}(m:Mem W G w (H))(h0:R1 G v0 x0){y:Bool}(hd:D.g0 x0 x1=some y):
  Calls prog 37 #[v0,(iv x1)] w (Res W G H (λ_ Ho v=>Ho=[]∧v=(.bool y))):=by
 refine Aw (args:=[v0,(iv x1)]) (N:=40) [.tmp 4] func37 Z Z (lb Z) Z λa f=> ?_
 unfold D.g0 at hd
 refine Ae ?_
 refine Ac f Z λa f=>Aa (Ag (Ae ?_))
 refine Ab f Z λa f=>Bb underlying29 f Z Z h0 λa f=>Ab f Z λa f=>Ak f Z Z Cu λa f=>Aa ?_
 rcases Af hd with⟨aa,hd⟩|⟨aa,hd⟩
 ·refine Al f Z aa ?_
  refine Ae ?_
  refine Ac f Z λa f=>Aa ?_
  refine Am ?_
  obtain rfl:=sj hd
  exact⟨[(.bool false)],f.g Z,f.d,_,[],gr,m,Z,Z⟩
 ·refine Aj f Z aa ?_
  refine Ao ?_
  refine Ag (Ae ?_)
  refine Ac f Z λa f=>Aa ?_
  have⟨ab,ac,hd⟩:=bind_some hd
  refine AR (λa w=>∃q_150':Unit,ab= .inl q_150'∧∃(ad:GH),GLe G ad∧Fr a 40 []∧Mem W ad w (H)) ?_ ?_
  ·refine Ap ?_
   refine AQ (λae a w=>∃af:Int,af=ae∧∃(ag:GH),GLe G ag∧Fr a 40 [(0,v0),(1,(iv x1)),(5,(iv af))]∧Mem W ag w (H)) ac ⟨_,Z,_,gr,f.k Z,m⟩ ?_
   clear ac f m
   rintro ae ah ai aj a w ⟨af,rfl,ag,ak,f,m⟩
   have h0:=rd1 ak h0
   refine Ag (Ae ?_)
   refine Ab f Z λa f=>Ab f Z λa f=>Bb underlying29 f Z Z h0 λa f=>Ak f Z Z AV λa f=>Aa ?_
   rcases Af ai with⟨al,ai⟩|⟨al,ai⟩
   ·refine Al f Z al ?_
    refine Ao ?_
    refine Ag (Ap (Ag ?_))
    refine Bc 24 AW (by kernel_rfl) m ?_
    refine Ay 0 24 Z f Z λa f=>Ay 1 24 Z f Z λa f=> ?_
    have⟨am,an,ai⟩:=bind_some ai
    refine Bs 2 24 T29 h0 an Z f Z Z λao ap a aq ar f=> ?_
    subst ar
    refine Bq 3 24 Pl2 aq Z f Z λa f=>Ay 4 24 Z f Z λa f=>q_p 5 24 Z f (λ_=>Bi (f.e Z) (f.e Z) BO) λa f=> ?_
    have⟨au,av,ai⟩:=bind_some ai
    refine BL (i:=6) 24 Z (by kernel_rfl) Z f Z Z Z call36 (λ_ _ w aw m=>Wk.e m av) λa f=>q_p 7 24 Z f (λ_=>Bp (f.e Z)) λa f=>Ay 8 24 Z f Z λa f=> ?_
    have⟨ax,ay,ai⟩:=bind_some ai
    refine B9 (fuel':=0) (listed':= #[true,true,true,true,true,true,true,true,true,true,true,true,true,true,true,true,true,true,true,true,true,true,true,true]) (λa=>Fr a 40 [(0,v0),(1,(iv x1)),(5,(iv af)),(13,(.bool (decide (af<(x0.length:Int))))),(16,v0),(17,(iv af)),(18,ao),(19,(iv am)),(20,(iv x1)),(21,(iv (i64.wrap (x1-1)))),(22,(.bool au)),(23,(.bool (!au))),(24,(.bool (!au))),(39,(.bool ax))]) ?_ ?_
    ·intro a f
     refine A1 λaz w aA m=>Aa ?_
     rcases Af ai with⟨aB,ai⟩|⟨aB,ai⟩
     ·refine Al f Z aB ?_
      refine Ae ?_
      refine Ac f Z λa f=>Aa ?_
      refine Am ?_
      obtain rfl:=sj ai
      obtain rfl:=aj _ rfl
      obtain rfl:=sj hd
      exact⟨[(.bool false)],f.g Z,f.d,_,[],(gt ak aA),m,Z,Z⟩
     ·refine Aj f Z aB ?_
      refine Ao ?_
      refine Aq ?_
      refine Ab f Z λa f=>Ak f Z Z AD λa f=>Ac f Z λa f=>Aa ?_
      obtain rfl:=sj ai
      exact⟨_,Z,_,Z,_,(gt ak aA),f.k Z,m⟩
    ·intro aC
     rcases Af ay with⟨aD,ay⟩|⟨aD,ay⟩
     ·refine AF 9 24 Z f aD λa f=> ?_
      refine AF 10 24 Z f aD λa f=>AF 11 24 Z f aD λa f=>BR 12 24 Z f λa f=>BR 13 24 Z f λa f=>BR 14 24 Z f λa f=>BR 15 24 Z f λa f=>BR 16 24 Z f λa f=>BR 17 24 Z f λa f=>BR 18 24 Z f λa f=>BR 19 24 Z f λa f=>BR 20 24 Z f λa f=>BR 21 24 Z f λa f=>AF 22 24 Z f aD λa f=>q_p 23 24 Z f (λ_=>AK (f.e Z) aD (f.e Z)) λa f=> ?_
      obtain rfl:=sj ay
      exact aC _ (f.k Z)
     ·refine Ay (hw:=wo f aD) 9 24 Z f Z λa f=> ?_
      refine q_p (hw:=wo f aD) 10 24 Z f (λ_=>Bi (f.e Z) (f.e Z) Cu) λa f=>Ay (hw:=wo f aD) 11 24 Z f Z λa f=> ?_
      have⟨aE,aF,ay⟩:=bind_some ay
      refine B9 (fuel':=1) (listed':= #[true,true,true,true,true,true,true,true,true,true,true,true,true,true,true,true,true,true,true,true,true,true,true,false]) (λa=>Fr a 40 [(0,v0),(1,(iv x1)),(5,(iv af)),(13,(.bool (decide (af<(x0.length:Int))))),(16,v0),(17,(iv af)),(18,ao),(19,(iv am)),(20,(iv x1)),(21,(iv (i64.wrap (x1-1)))),(22,(.bool au)),(23,(.bool (!au))),(24,(.bool (!au))),(25,(iv af)),(26,(.bool (decide ((0:Int)<af)))),(27,(.bool (decide ((0:Int)<af)))),(38,(.bool aE))]) ?_ ?_
      ·intro a f
       refine q_p 23 24 Z f (λ_=>AL (f.e Z) aD (f.e Z)) λa f=> ?_
       obtain rfl:=sj ay
       exact aC _ (f.k Z)
      ·intro aG
       rcases Af aF with⟨aH,aF⟩|⟨aH,aF⟩
       ·refine Ay (hw:=wo f aH) 12 24 Z f Z λa f=> ?_
        refine Ay (hw:=wo f aH) 13 24 Z f Z λa f=> ?_
        have⟨aI,aJ,aF⟩:=bind_some aF
        refine Bs (hw:=wo f aH) 14 24 T29 h0 aJ Z f Z Z λaK aL a aM aN f=> ?_
        subst aN
        refine Bq (hw:=wo f aH) 15 24 Pl2 aM Z f Z λa f=>Ay (hw:=wo f aH) 16 24 Z f Z λa f=>Ay (hw:=wo f aH) 17 24 Z f Z λa f=>q_p (hw:=wo f aH) 18 24 Z f (λ_=>Bi (f.e Z) (f.e Z) BO) λa f=> ?_
        have⟨aO,aP,aF⟩:=bind_some aF
        refine Bs (hw:=wo f aH) 19 24 T29 h0 aP Z f Z Z λaQ aR a aS aT f=> ?_
        subst aT
        refine Bq (hw:=wo f aH) 20 24 Pl2 aS Z f Z λa f=>q_p (hw:=wo f aH) 21 24 Z f (λ_=>Bi (f.e Z) (f.e Z) Ch) λa f=>q_p (hw:=wo f aD) 22 24 Z f (λ_=>AK (f.e Z) aH (f.e Z)) λa f=> ?_
        obtain rfl:=sj aF
        exact aG _ (f.k Z)
       ·refine AF 12 24 Z f aH λa f=> ?_
        refine AF 13 24 Z f aH λa f=>AF 14 24 Z f aH λa f=>AF 15 24 Z f aH λa f=>AF 16 24 Z f aH λa f=>AF 17 24 Z f aH λa f=>AF 18 24 Z f aH λa f=>AF 19 24 Z f aH λa f=>AF 20 24 Z f aH λa f=>AF 21 24 Z f aH λa f=>q_p (hw:=wo f aD) 22 24 Z f (λ_=>AL (f.e Z) aH (f.e Z)) λa f=> ?_
        obtain rfl:=sj aF
        exact aG _ (f.k Z)
   ·refine Aj f Z al ?_
    refine AO Z ?_
    obtain rfl:=sj ai
    obtain rfl:=aj _ rfl
    exact⟨_,Z,_,ak,f.weak trivial,m⟩
  ·rintro a w ⟨_,rfl,ad,aU,f,m⟩
   refine Ae ?_
   refine Ac f Z λa f=>Aa ?_
   refine Am ?_
   obtain rfl:=sj hd
   exact⟨[(.bool true)],f.g Z,f.d,_,[],aU,m,Z,Z⟩
theorem Wk.g {v0:Value}{x0:LI}{x1:Int}(m:Mem W G w (H))(h0:R1 G v0 x0){y:Bool}(hd:D.g x0 x1=some y):
  Calls prog 32 #[v0,(iv x1)] w (Res W G H (λ_ Ho v=>Ho=[]∧v=(.bool y))):=by
 refine Aw (args:=[v0,(iv x1)]) (N:=18) [.tmp 4] func32 Z Z (lb Z) Z λa f=> ?_
 unfold D.g at hd
 refine Ae ?_
 refine Ac f Z λa f=>Aa (Ag (Ae ?_))
 refine Ac f Z λa f=>Aa ?_
 have⟨aa,ab,hd⟩:=bind_some hd
 refine AR (λa w=>∃q_19':Unit,aa= .inl q_19'∧∃(ac:GH),GLe G ac∧Fr a 18 []∧Mem W ac w (H)) ?_ ?_
 ·refine Ap ?_
  refine AQ (λad a w=>∃ae:Int,ae=ad∧∃(af:GH),GLe G af∧Fr a 18 [(0,v0),(1,(iv x1)),(5,(iv ae))]∧Mem W af w (H)) ab ⟨_,Z,_,gr,f.k Z,m⟩ ?_
  clear ab f m
  rintro ad ag ah ai a w ⟨ae,rfl,af,aj,f,m⟩
  have h0:=rd1 aj h0
  refine Ag (Ae ?_)
  refine Ab f Z λa f=>Ab f Z λa f=>Bb underlying29 f Z Z h0 λa f=>Ak f Z Z AV λa f=>Aa ?_
  rcases Af ah with⟨ak,ah⟩|⟨ak,ah⟩
  ·refine Al f Z ak ?_
   refine Ao ?_
   refine Ag (Ap (Ae ?_))
   refine Ab f Z λa f=>Ab f Z λa f=> ?_
   have⟨al,am,ah⟩:=bind_some ah
   refine Bo T29 f Z Z Z h0 am λan ao a ap aq f=> ?_
   subst aq
   refine AN m Pl2 f Z Z ap λa f=>Ab f Z λa f=>Ak f Z Z Bj λa f=>Aa ?_
   rcases Af ah with⟨ar,ah⟩|⟨ar,ah⟩
   ·refine Al f Z ar ?_
    refine Ae ?_
    refine Ac f Z λa f=>Aa ?_
    refine Am ?_
    obtain rfl:=sj ah
    obtain rfl:=ai _ rfl
    obtain rfl:=sj hd
    exact⟨[(.bool true)],f.g Z,f.d,_,[],aj,m,Z,Z⟩
   ·refine Aj f Z ar ?_
    refine Ao ?_
    refine Aq ?_
    refine Ab f Z λa f=>Ak f Z Z AD λa f=>Ac f Z λa f=>Aa ?_
    obtain rfl:=sj ah
    exact⟨_,Z,_,Z,_,aj,f.k Z,m⟩
  ·refine Aj f Z ak ?_
   refine AO Z ?_
   obtain rfl:=sj ah
   obtain rfl:=ai _ rfl
   exact⟨_,Z,_,aj,f.weak trivial,m⟩
 ·rintro a w ⟨_,rfl,ac,au,f,m⟩
  refine Ae ?_
  refine Ac f Z λa f=>Aa ?_
  refine Am ?_
  obtain rfl:=sj hd
  exact⟨[(.bool false)],f.g Z,f.d,_,[],au,m,Z,Z⟩
theorem Wk.p {aa:Value}{ab:LL}(m:Mem W G w (H))(ac:R2 G aa ab){y:Bool}(hd:D.p ab=some y):
  Calls prog 10 #[(.agg #[aa])] w (Res W G H (λ_ Ho v=>Ho=[]∧v=(.bool y))):=by
 refine Aw (args:=[(.agg #[aa])]) (N:=64) [.tmp 2] func10 Z Z (lb Z) Z λa f=> ?_
 unfold D.p at hd
 refine Ae ?_
 refine Bf (cs:=[aa]) m f Z Z Z λad w a m f=>Ac f Z λa f=>AG ?_
 refine Au 0 0 (ds:=[aa]) m AA f Z Z Z Z Z λa f=> ?_
 have⟨ae,af,hd⟩:=bind_some hd
 refine A4 f Z call26 (Wk.b m ac af) λag w ah m a f=> ?_
 have ac:=rd2 ah ac
 refine Ac f Z λa f=>Aa (Ag (Ae ?_))
 refine Ab f Z λa f=> ?_
 have⟨ai,aj,hd⟩:=bind_some hd
 refine A4 f Z call36 (Wk.e m aj) λak w al m a f=> ?_
 have ac:=rd2 al ac
 refine l_o f (Bp (f.e Z)) λa f=>Aa ?_
 rcases Af hd with⟨am,hd⟩|⟨am,hd⟩
 ·refine Al f Z am ?_
  refine Ae ?_
  refine Ac f Z λa f=>Aa ?_
  refine Am ?_
  have m:Mem W ak w H:=Mem.drop (H':=[ib ad 26 [aa]]) m
  obtain rfl:=sj hd
  exact⟨[(.bool false)],f.g Z,f.d,_,[],(gt ah al),m,Z,Z⟩
 ·refine Aj f Z am ?_
  refine Ao ?_
  refine Ag (Ae ?_)
  refine Ac f Z λa f=>Aa ?_
  have⟨an,ao,hd⟩:=bind_some hd
  refine AR (λa w=>∃q_138':Unit,an= .inl q_138'∧∃(ap:GH),GLe ak ap∧Fr a 64 [(1,(pb ad)),(3,(iv ae))]∧Mem W ap w (ib ad 26 [aa]::H)) ?_ ?_
  ·refine Ap ?_
   refine AQ (λaq a w=>∃ar:Int,ar=aq∧∃(au:GH),GLe ak au∧Fr a 64 [(1,(pb ad)),(3,(iv ae)),(4,(iv ar))]∧Mem W au w (ib ad 26 [aa]::H)) ao ⟨_,Z,_,gr,f.k Z,m⟩ ?_
   clear ao f m
   rintro aq av aw ax a w ⟨ar,rfl,au,ay,f,m⟩
   have ac:=rd2 ay ac
   refine Ag (Ae ?_)
   refine Ab f Z λa f=>Ab f Z λa f=>Ak f Z Z AV λa f=>Aa ?_
   rcases Af aw with⟨az,aw⟩|⟨az,aw⟩
   ·refine Al f Z az ?_
    refine Ao ?_
    refine Ag (Ap (Ae ?_))
    refine Bh underlying26 Z sizeOf24 f Z λa f=>AE 0 0 m Bk f Z Z Z Z λa f=>Ab f Z λa f=> ?_
    have⟨aA,aB,aw⟩:=bind_some aw
    refine Bo T24 f Z Z Z ac aB λaC aD a aE aF f=>AN m By f Z Z aE λa f=>Ab f Z λa f=> ?_
    have⟨aG,aH,aw⟩:=bind_some aw
    refine A4 f Z call37 (Wk.g0 m aF aH) λaI w aJ m a f=> ?_
    have ac:=rd2 aJ ac
    refine l_o f (Bp (f.e Z)) λa f=>Ab f Z λa f=> ?_
    have⟨aK,aL,aw⟩:=bind_some aw
    refine Be 8 (λa w=>∃aM,GLe aI aM∧Mem W aM w (ib ad 26 [aa]::H)∧Fr a 64 [(1,(pb ad)),(3,(iv ae)),(4,(iv ar)),(14,(.bool (decide (ar<ae)))),(17,(pb ad)),(18,aa),(19,(iv ar)),(20,aC),(21,aD),(22,(iv ae)),(23,(.bool aG)),(24,(.bool (!aG))),(25,(.bool (!aG))),(33,(.bool aK))]) ?_ ?_
    ·rcases Af aL with⟨aN,aL⟩|⟨aN,aL⟩
     ·refine As f aN λa f=> ?_
      refine As f aN λa f=>As f aN λa f=>As f aN λa f=>As f aN λa f=>As f aN λa f=>As f aN λa f=>l_o f (AK (f.e Z) aN (f.e Z)) λa f=> ?_
      obtain rfl:=sj aL
      exact⟨_,gr,m,f.k Z⟩
     ·refine Ar f aN ?_
      refine Bh underlying26 Z sizeOf24 f Z λa f=>Ar f aN ?_
      refine AE 0 0 m Bk f Z Z Z Z λa f=>Ar f aN ?_
      refine Ab f Z λa f=>Ar f aN ?_
      have⟨aO,aP,aL⟩:=bind_some aL
      refine Bo T24 f Z Z Z ac aP λaQ aR a aS aT f=>Ar f aN ?_
      refine AN m By f Z Z aS λa f=>Ar f aN ?_
      refine Ab f Z λa f=>Ar f aN ?_
      have⟨aU,aV,aL⟩:=bind_some aL
      refine A4 f Z call32 (Wk.g m aT aV) λaW w aX m a f=>l_o f (AL (f.e Z) aN (f.e Z)) λa f=> ?_
      obtain rfl:=sj aL
      exact⟨_,aX,m,f.k Z⟩
    ·rintro a w ⟨aM,aY,m,f⟩
     refine Aa ?_
     rcases Af aw with⟨aZ,aw⟩|⟨aZ,aw⟩
     ·refine Al f Z aZ ?_
      refine Ae ?_
      refine Ac f Z λa f=>Aa ?_
      refine Am ?_
      have m:Mem W aM w H:=Mem.drop (H':=[ib ad 26 [aa]]) m
      obtain rfl:=sj aw
      obtain rfl:=ax _ rfl
      obtain rfl:=sj hd
      exact⟨[(.bool false)],f.g Z,f.d,_,[],(gt ah (gt al (gt ay (gt aJ aY)))),m,Z,Z⟩
     ·refine Aj f Z aZ ?_
      refine Ao ?_
      refine Aq ?_
      refine Ab f Z λa f=>Ak f Z Z AD λa f=>Ac f Z λa f=>Aa ?_
      obtain rfl:=sj aw
      exact⟨_,Z,_,Z,_,(gt ay (gt aJ aY)),f.k Z,m⟩
   ·refine Aj f Z az ?_
    refine AO Z ?_
    obtain rfl:=sj aw
    obtain rfl:=ax _ rfl
    exact⟨_,Z,_,ay,f.k Z,m⟩
  ·rintro a w ⟨_,rfl,ap,a0,f,m⟩
   have ac:=rd2 a0 ac
   refine Ag (Ae ?_)
   refine Ac f Z λa f=>Aa ?_
   have⟨a1,a2,hd⟩:=bind_some hd
   refine AR (λa w=>∃q_545':Unit,a1= .inl q_545'∧∃(a3:GH),GLe ap a3∧Fr a 64 []∧Mem W a3 w (H)) ?_ ?_
   ·refine Ap ?_
    refine AQ (λa4 a w=>∃a5:Int,a5=a4∧∃(a6:GH),GLe ap a6∧Fr a 64 [(1,(pb ad)),(3,(iv ae)),(5,(iv a5))]∧Mem W a6 w (ib ad 26 [aa]::H)) a2 ⟨_,Z,_,gr,f.k Z,m⟩ ?_
    clear a2 f m
    rintro a4 a7 a8 a9 a w ⟨a5,rfl,a6,ba,f,m⟩
    have ac:=rd2 ba ac
    refine Ag (Ae ?_)
    refine Ab f Z λa f=>Ab f Z λa f=>Ak f Z Z AV λa f=>Aa ?_
    rcases Af a8 with⟨bb,a8⟩|⟨bb,a8⟩
    ·refine Al f Z bb ?_
     refine Ao ?_
     refine Ag (Ap (Ae ?_))
     refine Ac f Z λa f=>Aa ?_
     have⟨bc,bd,a8⟩:=bind_some a8
     refine AR (λa w=>∃q_759':Unit,bc= .inl q_759'∧∃(be:GH),GLe a6 be∧Fr a 64 [(1,(pb ad)),(3,(iv ae)),(5,(iv a5))]∧Mem W be w (ib ad 26 [aa]::H)) ?_ ?_
     ·refine Ap ?_
      refine AQ (λbf a w=>∃bg:Int,bg=bf∧∃(bh:GH),GLe a6 bh∧Fr a 64 [(1,(pb ad)),(3,(iv ae)),(5,(iv a5)),(6,(iv bg))]∧Mem W bh w (ib ad 26 [aa]::H)) bd ⟨_,Z,_,gr,f.k Z,m⟩ ?_
      clear bd f m
      rintro bf bi bj bk a w ⟨bg,rfl,bh,bl,f,m⟩
      have ac:=rd2 bl ac
      refine Ag (Ae ?_)
      refine Ab f Z λa f=>Bh underlying26 Z sizeOf24 f Z λa f=>AE 0 0 m Bk f Z Z Z Z λa f=>Ab f Z λa f=> ?_
      have⟨bm,bn,bj⟩:=bind_some bj
      refine Bo T24 f Z Z Z ac bn λbo bp a bq br f=>AN m By f Z Z bq λa f=>Bb underlying29 f Z Z br λa f=>Ak f Z Z AV λa f=>Aa ?_
      rcases Af bj with⟨bs,bj⟩|⟨bs,bj⟩
      ·refine Al f Z bs ?_
       refine Ao ?_
       refine Ag (Ap (Ag ?_))
       refine Bc 15 AW (by kernel_rfl) m ?_
       refine BB 0 15 underlying26 Z sizeOf24 Z f Z λa f=>Bd 1 15 0 Bk Z Z Z f Z λa f=>BB 2 15 underlying26 Z sizeOf24 Z f Z λa f=>Bd 3 15 0 Bk Z Z Z f Z λa f=>Ay 4 15 Z f Z λa f=> ?_
       have⟨bt,bu,bj⟩:=bind_some bj
       refine Bs 5 15 T24 ac bu Z f Z Z λbv bw a bx bz f=>Bq 6 15 By bx Z f Z λa f=>Ay 7 15 Z f Z λa f=> ?_
       have⟨bA,bB,bj⟩:=bind_some bj
       refine Bs 8 15 T29 bz bB Z f Z Z λbC bD a bE bF f=> ?_
       subst bF
       refine Bq 9 15 Pl2 bE Z f Z λa f=> ?_
       have⟨bG,bH,bj⟩:=bind_some bj
       refine Bs 10 15 T24 ac bH Z f Z Z λbI bJ a bK bL f=>Bq 11 15 By bK Z f Z λa f=>Ay 12 15 Z f Z λa f=> ?_
       have⟨bM,bN,bj⟩:=bind_some bj
       refine BL (i:=13) 15 Z (by kernel_rfl) Z f Z Z Z call32 (λ_ _ w bO m=>Wk.g m (rd1 bO bL) bN) λa f=>q_p 14 15 Z f (λ_=>Bp (f.e Z)) λa f=>A1 λbP w bQ m=>Aa ?_
       rcases Af bj with⟨bR,bj⟩|⟨bR,bj⟩
       ·refine Al f Z bR ?_
        refine Ae ?_
        refine Ac f Z λa f=>Aa ?_
        refine Am ?_
        have m:Mem W bP w H:=Mem.drop (H':=[ib ad 26 [aa]]) m
        obtain rfl:=sj bj
        obtain rfl:=bk _ rfl
        obtain rfl:=sj a8
        obtain rfl:=a9 _ rfl
        obtain rfl:=sj hd
        exact⟨[(.bool false)],f.g Z,f.d,_,[],(gt ah (gt al (gt a0 (gt ba (gt bl bQ))))),m,Z,Z⟩
       ·refine Aj f Z bR ?_
        refine Ao ?_
        refine Aq ?_
        refine Ab f Z λa f=>Ak f Z Z AD λa f=>Ac f Z λa f=>Aa ?_
        obtain rfl:=sj bj
        exact⟨_,Z,_,Z,_,(gt bl bQ),f.k Z,m⟩
      ·refine Aj f Z bs ?_
       refine AO Z ?_
       obtain rfl:=sj bj
       obtain rfl:=bk _ rfl
       exact⟨_,Z,_,bl,f.k Z,m⟩
     ·rintro a w ⟨_,rfl,be,bS,f,m⟩
      refine Aq ?_
      refine Ab f Z λa f=>Ak f Z Z AD λa f=>Ac f Z λa f=>Aa ?_
      obtain rfl:=sj a8
      exact⟨_,Z,_,Z,_,(gt ba bS),f.k Z,m⟩
    ·refine Aj f Z bb ?_
     refine AO Z ?_
     have m:Mem W a6 w H:=Mem.drop (H':=[ib ad 26 [aa]]) m
     obtain rfl:=sj a8
     obtain rfl:=a9 _ rfl
     exact⟨_,Z,_,ba,f.weak trivial,m⟩
   ·rintro a w ⟨_,rfl,a3,bT,f,m⟩
    refine Ae ?_
    refine Ac f Z λa f=>Aa ?_
    refine Am ?_
    obtain rfl:=sj hd
    exact⟨[(.bool true)],f.g Z,f.d,_,[],(gt ah (gt al (gt a0 bT))),m,Z,Z⟩
theorem Wk.m {aa:Value}{ab:LL}{x1:Int}(m:Mem W G w (H))(ac:R2 G aa ab){y:Bool}(hd:D.m ab x1=some y):
  Calls prog 59 #[(.agg #[aa]),(iv x1)] w (Res W G H (λ_ Ho v=>Ho=[]∧v=(.bool y))):=by
 refine Aw (args:=[(.agg #[aa]),(iv x1)]) (N:=10) [.tmp 4] func59 Z Z (lb Z) Z λa f=> ?_
 unfold D.m at hd
 refine Ae ?_
 refine Bf (cs:=[aa]) m f Z Z Z λad w a m f=>Ac f Z λa f=>AG ?_
 refine Ab f Z λa f=>Au 0 0 (ds:=[aa]) m AA f Z Z Z Z Z λa f=> ?_
 have⟨ae,af,hd⟩:=bind_some hd
 refine A4 f Z call26 (Wk.b m ac af) λag w ah m a f=>Ak f Z Z BO λa f=> ?_
 have⟨ai,aj,hd⟩:=bind_some hd
 refine A4 f Z call36 (Wk.e m aj) λak w al m a f=>Ac f Z λa f=>Aa ?_
 refine Am ?_
 have m:Mem W ak w H:=Mem.drop (H':=[ib ad 26 [aa]]) m
 obtain rfl:=sj hd
 exact⟨[(.bool ai)],f.g Z,f.d,_,[],(gt ah al),m,Z,Z⟩
theorem Wk.i {aa:Value}{ab:LL}{x1 x2:Int}(m:Mem W G w (H))(ac:R2 G aa ab){y:Bool}(hd:D.i ab x1 x2=some y):
  Calls prog 61 #[(.agg #[aa]),(iv x1),(iv x2)] w (Res W G H (λ_ Ho v=>Ho=[]∧v=(.bool y))):=by
 refine Aw (args:=[(.agg #[aa]),(iv x1),(iv x2)]) (N:=14) [.tmp 6] func61 Z Z (lb Z) Z λa f=> ?_
 unfold D.i at hd
 refine Ae ?_
 refine Bf (cs:=[aa]) m f Z Z Z λad w a m f=>Ac f Z λa f=>AG ?_
 refine Bh underlying26 Z sizeOf24 f Z λa f=>AE 0 0 m Bk f Z Z Z Z λa f=>Ab f Z λa f=> ?_
 have⟨ae,af,hd⟩:=bind_some hd
 refine Bo T24 f Z Z Z ac af λag ah a ai aj f=>AN m By f Z Z ai λa f=>Ab f Z λa f=> ?_
 have⟨ak,al,hd⟩:=bind_some hd
 refine A4 f Z call32 (Wk.g m aj al) λam w an m a f=>Ac f Z λa f=>Aa ?_
 refine Am ?_
 have m:Mem W am w H:=Mem.drop (H':=[ib ad 26 [aa]]) m
 obtain rfl:=sj hd
 exact⟨[(.bool ak)],f.g Z,f.d,_,[],an,m,Z,Z⟩
theorem Wk.S0 {aa:Value}{ab:LL}{x1 x2:Int}(m:Mem W G w (H))(ac:R2 G aa ab){y:Bool}(hd:D.S0 ab x1 x2=some y):
  Calls prog 68 #[(.agg #[aa]),(iv x1),(iv x2)] w (Res W G H (λ_ Ho v=>Ho=[]∧v=(.bool y))):=by
 refine Aw (args:=[(.agg #[aa]),(iv x1),(iv x2)]) (N:=25) [.tmp 6] func68 Z Z (lb Z) Z λa f=> ?_
 unfold D.S0 at hd
 refine Ae ?_
 refine Bf (cs:=[aa]) m f Z Z Z λad w a m f=>Ac f Z λa f=>AG ?_
 refine Au 0 0 (ds:=[aa]) m AA f Z Z Z Z Z λa f=> ?_
 have⟨ae,af,hd⟩:=bind_some hd
 refine A4 f Z call10 (Wk.p m ac af) λag w ah m a f=> ?_
 have ac:=rd2 ah ac
 refine Ab f Z λa f=> ?_
 have⟨ai,aj,hd⟩:=bind_some hd
 refine Be 4 (λa w=>∃ak,GLe ag ak∧Mem W ak w (ib ad 26 [aa]::H)∧Fr a 25 [(0,(.agg #[aa])),(1,(iv x1)),(2,(iv x2)),(3,(pb ad)),(7,(.agg #[aa])),(8,(.bool ae)),(9,(.bool ae)),(13,(.bool ai))]) ?_ ?_
 ·rcases Af aj with⟨al,aj⟩|⟨al,aj⟩
  ·refine Ar f al ?_
   refine Au 0 0 (ds:=[aa]) m AA f Z Z Z Z Z λa f=>Ar f al ?_
   refine Ab f Z λa f=>Ar f al ?_
   have⟨am,an,aj⟩:=bind_some aj
   refine A4 f Z call59 (Wk.m m ac an) λao w ap m a f=>l_o f (AK (f.e Z) al (f.e Z)) λa f=> ?_
   obtain rfl:=sj aj
   exact⟨_,ap,m,f.k Z⟩
  ·refine As f al λa f=> ?_
   refine As f al λa f=>As f al λa f=>l_o f (AL (f.e Z) al (f.e Z)) λa f=> ?_
   obtain rfl:=sj aj
   exact⟨_,gr,m,f.k Z⟩
 ·rintro a w ⟨ak,aq,m,f⟩
  have ac:=rd2 aq ac
  refine Ab f Z λa f=> ?_
  have⟨ar,au,hd⟩:=bind_some hd
  refine Be 4 (λa w=>∃av,GLe ak av∧Mem W av w (ib ad 26 [aa]::H)∧Fr a 25 [(0,(.agg #[aa])),(1,(iv x1)),(2,(iv x2)),(3,(pb ad)),(7,(.agg #[aa])),(8,(.bool ae)),(9,(.bool ae)),(13,(.bool ai)),(14,(.bool ai)),(18,(.bool ar))]) ?_ ?_
  ·rcases Af au with⟨aw,au⟩|⟨aw,au⟩
   ·refine Ar f aw ?_
    refine Au 0 0 (ds:=[aa]) m AA f Z Z Z Z Z λa f=>Ar f aw ?_
    refine Ab f Z λa f=>Ar f aw ?_
    have⟨ax,ay,au⟩:=bind_some au
    refine A4 f Z call59 (Wk.m m ac ay) λaz w aA m a f=>l_o f (AK (f.e Z) aw (f.e Z)) λa f=> ?_
    obtain rfl:=sj au
    exact⟨_,aA,m,f.k Z⟩
   ·refine As f aw λa f=> ?_
    refine As f aw λa f=>As f aw λa f=>l_o f (AL (f.e Z) aw (f.e Z)) λa f=> ?_
    obtain rfl:=sj au
    exact⟨_,gr,m,f.k Z⟩
  ·rintro a w ⟨av,aB,m,f⟩
   have ac:=rd2 aB ac
   refine Ab f Z λa f=> ?_
   have⟨aC,aD,hd⟩:=bind_some hd
   refine Be 5 (λa w=>∃aE,GLe av aE∧Mem W aE w (ib ad 26 [aa]::H)∧Fr a 25 [(0,(.agg #[aa])),(1,(iv x1)),(2,(iv x2)),(3,(pb ad)),(7,(.agg #[aa])),(8,(.bool ae)),(9,(.bool ae)),(13,(.bool ai)),(14,(.bool ai)),(18,(.bool ar)),(19,(.bool ar)),(24,(.bool aC))]) ?_ ?_
   ·rcases Af aD with⟨aF,aD⟩|⟨aF,aD⟩
    ·refine Ar f aF ?_
     refine Au 0 0 (ds:=[aa]) m AA f Z Z Z Z Z λa f=>Ar f aF ?_
     refine Ab f Z λa f=>Ar f aF ?_
     refine Ab f Z λa f=>Ar f aF ?_
     have⟨aG,aH,aD⟩:=bind_some aD
     refine A4 f Z call61 (Wk.i m ac aH) λaI w aJ m a f=>l_o f (AK (f.e Z) aF (f.e Z)) λa f=> ?_
     obtain rfl:=sj aD
     exact⟨_,aJ,m,f.k Z⟩
    ·refine As f aF λa f=> ?_
     refine As f aF λa f=>As f aF λa f=>As f aF λa f=>l_o f (AL (f.e Z) aF (f.e Z)) λa f=> ?_
     obtain rfl:=sj aD
     exact⟨_,gr,m,f.k Z⟩
   ·rintro a w ⟨aE,aK,m,f⟩
    refine Ac f Z λa f=>Aa ?_
    refine Am ?_
    have m:Mem W aE w H:=Mem.drop (H':=[ib ad 26 [aa]]) m
    obtain rfl:=sj hd
    exact⟨[(.bool aC)],f.g Z,f.d,_,[],(gt ah (gt aq (gt aB aK))),m,Z,Z⟩
theorem Wk.d0 {aa:Value}{ab:LL}{x1 x2:Int}(m:Mem W G w (H))(ac:R2 G aa ab){y:Bool}(hd:D.d0 ab x1 x2=some y):
  Calls prog 72 #[(.agg #[aa]),(iv x1),(iv x2)] w (Res W G H (λ_ Ho v=>Ho=[]∧v=(.bool y))):=by
 refine Aw (args:=[(.agg #[aa]),(iv x1),(iv x2)]) (N:=24) [.tmp 6] func72 Z Z (lb Z) Z λa f=> ?_
 unfold D.d0 at hd
 refine Ae ?_
 refine Bf (cs:=[aa]) m f Z Z Z λad w a m f=>Ac f Z λa f=>AG ?_
 refine Au 0 0 (ds:=[aa]) m AA f Z Z Z Z Z λa f=> ?_
 have⟨ae,af,hd⟩:=bind_some hd
 refine A4 f Z call10 (Wk.p m ac af) λag w ah m a f=> ?_
 have ac:=rd2 ah ac
 refine Ab f Z λa f=> ?_
 have⟨ai,aj,hd⟩:=bind_some hd
 refine Be 4 (λa w=>∃ak,GLe ag ak∧Mem W ak w (ib ad 26 [aa]::H)∧Fr a 24 [(0,(.agg #[aa])),(1,(iv x1)),(2,(iv x2)),(3,(pb ad)),(7,(.agg #[aa])),(8,(.bool ae)),(9,(.bool ae)),(13,(.bool ai))]) ?_ ?_
 ·rcases Af aj with⟨al,aj⟩|⟨al,aj⟩
  ·refine Ar f al ?_
   refine Au 0 0 (ds:=[aa]) m AA f Z Z Z Z Z λa f=>Ar f al ?_
   refine Ab f Z λa f=>Ar f al ?_
   have⟨am,an,aj⟩:=bind_some aj
   refine A4 f Z call59 (Wk.m m ac an) λao w ap m a f=>l_o f (AK (f.e Z) al (f.e Z)) λa f=> ?_
   obtain rfl:=sj aj
   exact⟨_,ap,m,f.k Z⟩
  ·refine As f al λa f=> ?_
   refine As f al λa f=>As f al λa f=>l_o f (AL (f.e Z) al (f.e Z)) λa f=> ?_
   obtain rfl:=sj aj
   exact⟨_,gr,m,f.k Z⟩
 ·rintro a w ⟨ak,aq,m,f⟩
  have ac:=rd2 aq ac
  refine Ab f Z λa f=> ?_
  have⟨ar,au,hd⟩:=bind_some hd
  refine Be 4 (λa w=>∃av,GLe ak av∧Mem W av w (ib ad 26 [aa]::H)∧Fr a 24 [(0,(.agg #[aa])),(1,(iv x1)),(2,(iv x2)),(3,(pb ad)),(7,(.agg #[aa])),(8,(.bool ae)),(9,(.bool ae)),(13,(.bool ai)),(14,(.bool ai)),(18,(.bool ar))]) ?_ ?_
  ·rcases Af au with⟨aw,au⟩|⟨aw,au⟩
   ·refine Ar f aw ?_
    refine Au 0 0 (ds:=[aa]) m AA f Z Z Z Z Z λa f=>Ar f aw ?_
    refine Ab f Z λa f=>Ar f aw ?_
    have⟨ax,ay,au⟩:=bind_some au
    refine A4 f Z call59 (Wk.m m ac ay) λaz w aA m a f=>l_o f (AK (f.e Z) aw (f.e Z)) λa f=> ?_
    obtain rfl:=sj au
    exact⟨_,aA,m,f.k Z⟩
   ·refine As f aw λa f=> ?_
    refine As f aw λa f=>As f aw λa f=>l_o f (AL (f.e Z) aw (f.e Z)) λa f=> ?_
    obtain rfl:=sj au
    exact⟨_,gr,m,f.k Z⟩
  ·rintro a w ⟨av,aB,m,f⟩
   refine Ab f Z λa f=> ?_
   refine Be 4 (λa w=>∃aC,GLe av aC∧Mem W aC w (ib ad 26 [aa]::H)∧Fr a 24 [(0,(.agg #[aa])),(1,(iv x1)),(2,(iv x2)),(3,(pb ad)),(7,(.agg #[aa])),(8,(.bool ae)),(9,(.bool ae)),(13,(.bool ai)),(14,(.bool ai)),(18,(.bool ar)),(19,(.bool ar)),(23,(.bool (ar&&(x1 !=x2))))]) ?_ ?_
   ·rcases Bool.eq_false_or_eq_true ar with aD|aD
    ·refine Ar f aD ?_
     refine Ab f Z λa f=>Ar f aD ?_
     refine Ab f Z λa f=>Ar f aD ?_
     refine Ak f Z Z CF λa f=>l_o f (AK (f.e Z) aD (f.e Z)) λa f=> ?_
     exact⟨_,gr,m,f.weak ⟨Z,Z,Z,Z,Z,Z,Z,Z,Z,Z,Z,by rw[aD];rfl,trivial⟩⟩
    ·refine As f aD λa f=> ?_
     refine As f aD λa f=>As f aD λa f=>l_o f (AL (f.e Z) aD (f.e Z)) λa f=> ?_
     exact⟨_,gr,m,f.weak ⟨Z,Z,Z,Z,Z,Z,Z,Z,Z,Z,Z,by rw[aD];rfl,trivial⟩⟩
   ·rintro a w ⟨aC,aE,m,f⟩
    refine Ac f Z λa f=>Aa ?_
    refine Am ?_
    have m:Mem W aC w H:=Mem.drop (H':=[ib ad 26 [aa]]) m
    obtain rfl:=sj hd
    exact⟨[(.bool (ar&&(x1 !=x2)))],f.g Z,f.d,_,[],(gt ah (gt aq (gt aB aE))),m,Z,Z⟩
theorem Wk.J {aa:Value}{ab:LL}(m:Mem W G w (H))(ac:R2 G aa ab){y:(LL)}(hd:D.J ab=some y):
  Calls prog 73 #[(.agg #[aa])] w (Res W G H (λG' Ho v=>∃r0:Value,∃i0:Itm,Ho=[i0]∧v=(.agg #[r0])∧Ow R1 29 G' i0 r0 y)):=by
 refine Aw (args:=[(.agg #[aa])]) (N:=25) [.cell 2 26] func73 Z Z (lb Z) Z λa f=> ?_
 unfold D.J at hd
 refine Ae ?_
 refine Bf (cs:=[aa]) m f Z Z Z λad w a m f=>AH (cs:=[sn]) zeroValue26 m f Z Z λae w a m f=>AG ?_
 have af:∀w,(Instr.build 26 #[]).run prog w= .ok (.agg #[sn]) w:=by intro w;simp[Instr.build,Instr.fill,A8,A6,AT,AZ,AP,A9]
 refine Bl f Z Z af λa f=>AH (cs:=[sn]) zeroValue26 m f Z Z λag w a m f=>Ai 0 0 (ds:=[sn]) m sizeOf26 f Z Z Z (Ah Z An) Z (lb Z) Z λw m=>Aa (Ag (Ae ?_))
 refine Ac f Z λa f=>Aa ?_
 obtain⟨ah,m,ai⟩:=Ow.nil R1 29 m
 have⟨aj,ak,hd⟩:=bind_some hd
 refine AR (λa w=>∃al:LL,al=aj∧∃(am:GH) (an:Value) (ao:Itm),GLe G am∧Fr a 25 [(2,(pb ae)),(3,(pb ag))]∧Mem W am w (ib ae 26 [sn]::ib ag 26 [an]::ao::H)∧Ow R1 29 am ao an al) ?_ ?_
 ·refine Ap ?_
  have m:=m.fr 1
  have m:=m.fr 2
  have m:Mem W G w (ib ad 26 [aa]::ib ae 26 [sn]::ib ag 26 [sn]::ah::H):=m.fr 3
  refine AQ (λap a w=>∃aq:Int,∃ar:LL,(aq,ar)=ap∧∃(au:GH) (av:Value) (aw:Itm),GLe G au∧Fr a 25 [(1,(pb ad)),(2,(pb ae)),(3,(pb ag)),(4,(iv aq))]∧Mem W au w (ib ad 26 [aa]::ib ae 26 [sn]::ib ag 26 [av]::aw::H)∧Ow R1 29 au aw av ar) ak ⟨_,_,Z,_,sn,ah,gr,f.k Z,m,ai⟩ ?_
  clear ak f m
  rintro ap ax ay az a w ⟨aq,ar,rfl,au,av,aw,aA,f,m,aB⟩
  have ac:=rd2 aA ac
  refine Ag (Ae ?_)
  refine Ab f Z λa f=>Bh underlying26 Z sizeOf24 f Z λa f=>AE 0 0 m Bk f Z Z Z Z λa f=>Bb underlying24 f Z Z ac λa f=>Ak f Z Z AV λa f=>Aa ?_
  rcases Af ay with⟨aC,ay⟩|⟨aC,ay⟩
  ·refine Al f Z aC ?_
   refine Ao ?_
   refine Ag (Ap ?_)
   refine Bc 9 AW (by kernel_rfl) m ?_
   refine BB 0 9 underlying26 Z sizeOf24 Z f Z λa f=>Bd 1 9 2 Bk Z Z Z f Z λa f=>BB 2 9 underlying26 Z sizeOf24 Z f Z λa f=>Bd 3 9 0 Bk Z Z Z f Z λa f=>Ay 4 9 Z f Z λa f=> ?_
   have⟨aD,aE,ay⟩:=bind_some ay
   refine Bs 5 9 T24 ac aE Z f Z Z λaF aG a aH aI f=>Bq 6 9 By aH Z f Z λa f=>A3 7 Z λaJ w aK m aL aL=> ?_
   have aI:=rd1 aK aI
   have aB:=Ow.mono (RSl.mono (RI.mono _)) aK aB
   have⟨aM,aN,ay⟩:=bind_some ay
   refine Az f Z call30 (Wk.c m aI aN) λaO aP aQ w aR m aS a f=> ?_
   obtain⟨aT,aU,rfl,rfl,aV⟩:=aS
   have aB:=Ow.mono (RSl.mono (RI.mono _)) aR aB
   refine Aa ?_
   refine aL aP [aU] _ _ aR m ?_
   refine A3 8 Z λaW w aX m aY aY=> ?_
   have aV:=od1 aX aV
   have aB:=Ow.mono (RSl.mono (RI.mono _)) aX aB
   obtain⟨aZ,a0,m,a1⟩:=Ow.stamp (RI.mono _) aV m
   have aB:=Ow.mono (RSl.mono (RI.mono _)) a0 aB
   refine AU (R:=R1) (xs:=([aM]:LL)) (RSl.one _) m T24 f Z Z Z (by decide) (All2.cons a1 (All2.nil _)) λa2 a3 w a m a4 f=>Aa ?_
   refine aY aZ [a2] _ _ a0 m ?_
   refine A1 λa5 w a6 m=> ?_
   have a4:=Ow.mono (RSl.mono (RI.mono _)) a6 a4
   have aB:=Ow.mono (RSl.mono (RI.mono _)) a6 aB
   have⟨a7,a8,ay⟩:=bind_some ay
   refine AX (RSl.one _) 4 m aB Z T24 Z (by decide) f Z Z Z (Ow.src (j:=0) a4 m Z) a8 λa9 ba w a m bb f=>Bh underlying26 Z sizeOf24 f Z λa f=>Ai 3 0 (ds:=[ba]) m sizeOf24 f Z Z (Ow.cells 4 m bb Z) (Ah (Ow.one1 4 m bb Z) An) Z (lb Z) Z λw m=>Aa (Aq ?_)
   refine Ab f Z λa f=>Ak f Z Z AD λa f=>Ac f Z λa f=>Aa ?_
   have m:=m.fr 4
   have m:=m.fr 4
   have m:Mem W a5 w (ib ae 26 [sn]::ib ag 26 [ba]::a9::a2::ib ad 26 [aa]::H):=m.fr 4
   have m:=m.fr 4
   have m:Mem W a5 w (ib ad 26 [aa]::ib ae 26 [sn]::ib ag 26 [ba]::a9::H):=m.eraseAt 4
   obtain rfl:=sj ay
   exact⟨_,Z,_,_,Z,_,ba,a9,(gt aA (gt aK (gt aR (gt aX (gt a0 a6))))),f.k Z,m,bb⟩
  ·refine Aj f Z aC ?_
   refine AO Z ?_
   have m:=m.fr 3
   have m:=m.fr 3
   have m:Mem W au w (ib ae 26 [sn]::ib ag 26 [av]::aw::ib ad 26 [aa]::H):=m.fr 3
   have m:=m.eraseAt 3
   obtain rfl:=sj ay
   obtain rfl:=az _ rfl
   exact⟨_,Z,_,av,aw,aA,f.k Z,m,aB⟩
 ·rintro a w ⟨al,rfl,am,an,ao,bc,f,m,bd⟩
  refine Ae ?_
  refine Au 1 0 (ds:=[an]) m AA f Z Z Z Z Z λa f=>Ai 0 0 (ds:=[an]) m sizeOf26 f Z Z Z (Ah (Ow.one1 2 m bd Z) An) Z (lb Z) Z λw m=>Aa ?_
  refine Am ?_
  have be:=A2 (P:=prog) 0 m AA f (s:=2) rfl rfl rfl
  have m:=m.fr 2
  have m:=m.eraseAt 2
  have m:=m.eraseAt 1
  obtain rfl:=sj hd
  exact⟨[(.agg #[an])],⟨be,trivial⟩,f.d,_,[ao],bc,m,_,_,Z,Z,bd⟩
theorem Wk.m0 {v0:Value}{x0:LI}{x1:Int}(m:Mem W G w (H))(h0:R1 G v0 x0){y:(LI)}(hd:D.m0 x0 x1=some y):
  Calls prog 74 #[v0,(iv x1)] w (Res W G H (λG' Ho v=>∃r0:Value,∃i0:Itm,Ho=[i0]∧r0=v∧Ow R0 2 G' i0 r0 y)):=by
 refine Aw (args:=[v0,(iv x1)]) (N:=28) [.tmp 4] func74 Z Z (lb Z) Z λa f=> ?_
 unfold D.m0 at hd
 refine Ae ?_
 refine Ac f Z λa f=>AG ?_
 refine AU (R:=R0) (xs:=([]:LI)) (RI.one _) m T29 f Z Z Z (by decide) (All2.nil _) λaa ab w a m ac f=>Ac f Z λa f=>Aa (Ag (Ae ?_))
 refine Ac f Z λa f=>Aa ?_
 have⟨ad,ae,hd⟩:=bind_some hd
 refine AR (λa w=>∃af:LI,af=ad∧∃(ag:GH) (ah:Value) (ai:Itm),GLe G ag∧Fr a 28 [(5,ah)]∧Mem W ag w (ai::H)∧Ow R0 2 ag ai ah af) ?_ ?_
 ·refine Ap ?_
  refine AQ (λaj a w=>∃ak:LI,∃al:Int,(ak,al)=aj∧∃(am:GH) (an:Value) (ao:Itm),GLe G am∧Fr a 28 [(0,v0),(1,(iv x1)),(5,an),(6,(iv al))]∧Mem W am w (ao::H)∧Ow R0 2 am ao an ak) ae ⟨_,_,Z,_,ab,aa,gr,f.k Z,m,ac⟩ ?_
  clear ae f m
  rintro aj ap aq ar a w ⟨ak,al,rfl,am,an,ao,au,f,m,av⟩
  have h0:=rd1 au h0
  refine Ag (Ae ?_)
  refine Ab f Z λa f=>Ab f Z λa f=>Bb underlying29 f Z Z h0 λa f=>Ak f Z Z AV λa f=>Aa ?_
  rcases Af aq with⟨aw,aq⟩|⟨aw,aq⟩
  ·refine Al f Z aw ?_
   refine Ao ?_
   refine Ag (Ap (Ae ?_))
   refine Ab f Z λa f=>Ab f Z λa f=> ?_
   have⟨ax,ay,aq⟩:=bind_some aq
   refine Bo T29 f Z Z Z h0 ay λaz aA a aB aC f=> ?_
   subst aC
   refine AN m Pl2 f Z Z aB λa f=>Ab f Z λa f=>Ak f Z Z CF λa f=>Aa ?_
   rcases Af aq with⟨aD,aq⟩|⟨aD,aq⟩
   ·refine Al f Z aD ?_
    refine Aq ?_
    refine Ab f Z λa f=>Ab f Z λa f=>Ab f Z λa f=> ?_
    have⟨aE,aF,aq⟩:=bind_some aq
    refine Bo T29 f Z Z Z h0 aF λaG aH a aI aJ f=> ?_
    subst aJ
    refine AN m Pl2 f Z Z aI λa f=>AU (R:=R0) (xs:=([aE]:LI)) (RI.one _) m T29 f Z Z Z (by decide) (All2.cons Z (All2.nil _)) λaK aL w a m aM f=> ?_
    have⟨aN,aO,aq⟩:=bind_some aq
    refine AX (RI.one _) 1 m av Z T29 Z (by decide) f Z Z Z (Ow.src (j:=0) aM m Z) aO λaP aQ w a m aR f=>Ac f Z λa f=>Aa (Aq ?_)
    refine Ab f Z λa f=>Ak f Z Z AD λa f=>Ac f Z λa f=>Aa ?_
    have m:=m.fr 1
    have m:=m.eraseAt 1
    obtain rfl:=sj aq
    exact⟨_,Z,_,_,Z,_,aQ,aP,au,f.k Z,m,aR⟩
   ·refine Aj f Z aD ?_
    refine Ao ?_
    refine Aq ?_
    refine Ab f Z λa f=>Ak f Z Z AD λa f=>Ac f Z λa f=>Aa ?_
    obtain rfl:=sj aq
    exact⟨_,Z,_,_,Z,_,an,ao,au,f.k Z,m,av⟩
  ·refine Aj f Z aw ?_
   refine AO Z ?_
   obtain rfl:=sj aq
   obtain rfl:=ar _ rfl
   exact⟨_,Z,_,an,ao,au,f.k Z,m,av⟩
 ·rintro a w ⟨af,rfl,ag,ah,ai,aS,f,m,aT⟩
  refine Ae ?_
  refine Ab f Z λa f=>Ac f Z λa f=>Aa ?_
  refine Am ?_
  obtain rfl:=sj hd
  exact⟨[ah],f.g Z,f.d,_,[ai],aS,m,_,_,Z,Z,aT⟩
theorem Wk.U {aa:Value}{ab:LL}{x1 x2:Int}(m:Mem W G w (H))(ac:R2 G aa ab){y:(LL)×Bool}(hd:D.U ab x1 x2=some y):
  Calls prog 43 #[(.agg #[aa]),(iv x1),(iv x2)] w (Res W G H (λG' Ho v=>∃r0:Value,∃i0:Itm,Ho=[i0]∧v= .tuple #[(.agg #[r0]),(.bool y.2)]∧Ow R1 29 G' i0 r0 y.1)):=by
 refine Aw (args:=[(.agg #[aa]),(iv x1),(iv x2)]) (N:=47) [.cell 6 26,.tmp 7] func43 Z Z (lb Z) Z λa f=> ?_
 unfold D.U at hd
 refine Ae ?_
 refine Bf (cs:=[aa]) m f Z Z Z λad w a m f=>AH (cs:=[sn]) zeroValue26 m f Z Z λae w a m f=>Ac f Z λa f=>Aa (Ag (Ae ?_))
 refine Au 1 0 (ds:=[aa]) m AA f Z Z Z Z Z λa f=>Ab f Z λa f=>Ab f Z λa f=> ?_
 have⟨af,ag,hd⟩:=bind_some hd
 refine A4 f Z call72 (Wk.d0 m ac ag) λah w ai m a f=> ?_
 have ac:=rd2 ai ac
 refine l_o f (Bp (f.e Z)) λa f=>Ab f Z λa f=> ?_
 have⟨aj,ak,hd⟩:=bind_some hd
 refine Be 6 (λa w=>∃al,GLe ah al∧Mem W al w (ib ae 26 [sn]::ib ad 26 [aa]::H)∧Fr a 47 [(0,(.agg #[aa])),(1,(iv x1)),(2,(iv x2)),(3,(pb ad)),(6,(pb ae)),(9,(.agg #[aa])),(10,(iv x1)),(11,(iv x2)),(12,(.bool af)),(13,(.bool (!af))),(14,(.bool (!af))),(20,(.bool aj))]) ?_ ?_
 ·rcases Af ak with⟨am,ak⟩|⟨am,ak⟩
  ·refine As f am λa f=> ?_
   refine As f am λa f=>As f am λa f=>As f am λa f=>As f am λa f=>l_o f (AK (f.e Z) am (f.e Z)) λa f=> ?_
   obtain rfl:=sj ak
   exact⟨_,gr,m,f.k Z⟩
  ·refine Ar f am ?_
   refine Au 1 0 (ds:=[aa]) m AA f Z Z Z Z Z λa f=>Ar f am ?_
   refine Ab f Z λa f=>Ar f am ?_
   refine Ab f Z λa f=>Ar f am ?_
   have⟨an,ao,ak⟩:=bind_some ak
   refine A4 f Z call61 (Wk.i m ac ao) λap w aq m a f=>Ar f am ?_
   refine l_o f (Bp (f.e Z)) λa f=>l_o f (AL (f.e Z) am (f.e Z)) λa f=> ?_
   obtain rfl:=sj ak
   exact⟨_,aq,m,f.k Z⟩
 ·rintro a w ⟨al,ar,m,f⟩
  have ac:=rd2 ar ac
  refine Aa ?_
  rcases Af hd with⟨au,hd⟩|⟨au,hd⟩
  ·refine Al f Z au ?_
   refine Ae ?_
   have av:∀w,(Instr.build 26 #[]).run prog w= .ok (.agg #[sn]) w:=by intro w;simp[Instr.build,Instr.fill,A8,A6,AT,AZ,AP,A9]
   refine Bl f Z Z av λa f=>Ai 0 0 (ds:=[sn]) m sizeOf26 f Z Z Z (Ah Z An) Z (lb Z) Z λw m=>Ac f Z λa f=>Aa ?_
   refine Am ?_
   obtain⟨aw,m,ax⟩:=Ow.nil R1 29 m
   have ay:=A2 (P:=prog) 1 m AA f (s:=6) rfl rfl rfl
   have m:=m.eraseAt 2
   have m:=m.eraseAt 1
   obtain rfl:=sj hd
   exact⟨[(.agg #[sn]),(.bool false)],⟨ay,f.get _ _ Z,trivial⟩,f.d,_,[aw],(gt ai ar),m,_,_,Z,Z,ax⟩
  ·refine Aj f Z au ?_
   refine Ao ?_
   refine Ae ?_
   refine Au 1 0 (ds:=[aa]) m AA f Z Z Z Z Z λa f=> ?_
   have⟨az,aA,hd⟩:=bind_some hd
   refine Az f Z call73 (Wk.J m ac aA) λaB aC aD w aE m aF a f=> ?_
   obtain⟨aG,aH,rfl,rfl,aI⟩:=aF
   refine AH (cs:=[sn]) zeroValue26 m f Z Z λaJ w a m f=>Ai 0 0 (ds:=[aG]) m sizeOf26 f Z Z Z (Ah (Ow.one1 1 m aI Z) An) Z (lb Z) Z λw m=>Aa (Ag ?_)
   refine Bc 11 AW (by kernel_rfl) m ?_
   refine BB 0 11 underlying26 Z sizeOf24 Z f Z λa f=>Bd 1 11 0 Bk Z Z Z f Z λa f=>Ay 2 11 Z f Z λa f=>BB 3 11 underlying26 Z sizeOf24 Z f Z λa f=>Bd 4 11 0 Bk Z Z Z f Z λa f=>Ay 5 11 Z f Z λa f=> ?_
   have⟨aK,aL,hd⟩:=bind_some hd
   refine Ck 6 11 1 m aI T24 aL Z f Z Z λaM a aN f=>q_ol 7 11 1 aI By aN aL Z f Z λaO a aP f=>Ay 8 11 Z f Z λa f=>A3 9 Z λaQ w aR m aS aS=> ?_
   have aP:=rd1 aR aP
   have aI:=Ow.mono (RSl.mono (RI.mono _)) aR aI
   have⟨aT,aU,hd⟩:=bind_some hd
   refine Az f Z call74 (Wk.m0 m aP aU) λaV aW aX w aY m aZ a f=> ?_
   obtain⟨a0,a1,rfl,rfl,a2⟩:=aZ
   have aI:=Ow.mono (RSl.mono (RI.mono _)) aY aI
   refine Aa ?_
   refine aS aW [a1] _ _ aY m ?_
   have⟨a3,a4,hd⟩:=bind_some hd
   refine Ck 10 11 2 m aI T24 a4 Z f Z Z λa5 a a6 f=>A1 λa7 w a8 m=> ?_
   have a2:=od1 a8 a2
   have aI:=Ow.mono (RSl.mono (RI.mono _)) a8 aI
   obtain⟨a9,ba,m,bb⟩:=Ow.stamp (RI.mono _) a2 m
   have aI:=Ow.mono (RSl.mono (RI.mono _)) ba aI
   refine BK 1 m aI Z sizeOf29 f Z Z a6 a4 bb.cells bb.one1 bb λbc w m bd=>Aa (Ag ?_)
   refine Bc 11 AW (by kernel_rfl) m ?_
   refine BB 0 11 underlying26 Z sizeOf24 Z f Z λa f=>Bd 1 11 0 Bk Z Z Z f Z λa f=>Ay 2 11 Z f Z λa f=>BB 3 11 underlying26 Z sizeOf24 Z f Z λa f=>Bd 4 11 0 Bk Z Z Z f Z λa f=>Ay 5 11 Z f Z λa f=> ?_
   have⟨be,bf,hd⟩:=bind_some hd
   refine Ck 6 11 1 m bd T24 bf Z f Z Z λbg a bh f=>q_ol 7 11 1 bd By bh bf Z f Z λbi a bj f=>Ay 8 11 Z f Z λa f=>A3 9 Z λbk w bl m bm bm=> ?_
   have bj:=rd1 bl bj
   have bd:=Ow.mono (RSl.mono (RI.mono _)) bl bd
   have⟨bn,bo,hd⟩:=bind_some hd
   refine Az f Z call74 (Wk.m0 m bj bo) λbp bq br w bs m bt a f=> ?_
   obtain⟨bu,bv,rfl,rfl,bw⟩:=bt
   have bd:=Ow.mono (RSl.mono (RI.mono _)) bs bd
   refine Aa ?_
   refine bm bq [bv] _ _ bs m ?_
   have⟨bx,bz,hd⟩:=bind_some hd
   refine Ck 10 11 2 m bd T24 bz Z f Z Z λbA a bB f=>A1 λbC w bD m=> ?_
   have bw:=od1 bD bw
   have bd:=Ow.mono (RSl.mono (RI.mono _)) bD bd
   obtain⟨bE,bF,m,bG⟩:=Ow.stamp (RI.mono _) bw m
   have bd:=Ow.mono (RSl.mono (RI.mono _)) bF bd
   refine BK 1 m bd Z sizeOf29 f Z Z bB bz bG.cells bG.one1 bG λbH w m bI=>AG ?_
   refine Au 0 0 (ds:=[aG]) m AA f Z Z Z Z Z λa f=>Ai 2 0 (ds:=[aG]) m sizeOf26 f Z Z Z (Ah (Ow.one1 1 m bI Z) An) Z (lb Z) Z λw m=>Ac f Z λa f=>Aa ?_
   refine Am ?_
   have bJ:=A2 (P:=prog) 2 m AA f (s:=6) rfl rfl rfl
   have m:=m.fr 1
   have m:=m.eraseAt 3
   have m:Mem W bE w (bH::ib aJ 26 [aG]::H):=m.eraseAt 2
   have m:=m.eraseAt 1
   obtain rfl:=sj hd
   exact⟨[(.agg #[aG]),(.bool true)],⟨bJ,f.get _ _ Z,trivial⟩,f.d,_,[bH],(gt ai (gt ar (gt aE (gt aR (gt aY (gt a8 (gt ba (gt bl (gt bs (gt bD bF)))))))))),m,_,_,Z,Z,bI⟩
theorem Wk.N0 {x0 x1:Int}(m:Mem W G w (H)){y:Int}(hd:D.N0 x0 x1=some y):
  Calls prog 71 #[(iv x0),(iv x1)] w (Res W G H (λ_ Ho v=>Ho=[]∧v=(iv y))):=by
 refine Aw (args:=[(iv x0),(iv x1)]) (N:=10) [.tmp 4] func71 Z Z (lb Z) Z λa f=> ?_
 unfold D.N0 at hd
 refine Ae ?_
 refine Ac f Z λa f=>Aa (Ag (Ae ?_))
 refine Ab f Z λa f=>Ab f Z λa f=>Ak f Z Z Cu λa f=>Aa ?_
 rcases Af hd with⟨aa,hd⟩|⟨aa,hd⟩
 ·refine Al f Z aa ?_
  refine Ae ?_
  refine Ab f Z λa f=>Ac f Z λa f=>Aa ?_
  refine Am ?_
  obtain rfl:=sj hd
  exact⟨[(iv x0)],f.g Z,f.d,_,[],gr,m,Z,Z⟩
 ·refine Aj f Z aa ?_
  refine Ao ?_
  refine Ae ?_
  refine Ab f Z λa f=>Ac f Z λa f=>Aa ?_
  refine Am ?_
  obtain rfl:=sj hd
  exact⟨[(iv x1)],f.g Z,f.d,_,[],gr,m,Z,Z⟩
theorem Wk.P0 {aa v1:Value}{ab:LL}{x1:LI}(m:Mem W G w (H))(ac:R2 G aa ab)(h1:R1 G v1 x1){y:Bool}(hd:D.P0 ab x1=some y):
  Calls prog 90 #[(.agg #[aa]),v1] w (Res W G H (λ_ Ho v=>Ho=[]∧v=(.bool y))):=by
 refine Aw (args:=[(.agg #[aa]),v1]) (N:=13) [.tmp 4] func90 Z Z (lb Z) Z λa f=> ?_
 unfold D.P0 at hd
 refine Ae ?_
 refine Bf (cs:=[aa]) m f Z Z Z λad w a m f=>Ac f Z λa f=>AG ?_
 refine Au 0 0 (ds:=[aa]) m AA f Z Z Z Z Z λa f=> ?_
 have⟨ae,af,hd⟩:=bind_some hd
 refine A4 f Z call10 (Wk.p m ac af) λag w ah m a f=> ?_
 have ac:=rd2 ah ac
 have h1:=rd1 ah h1
 refine Ab f Z λa f=> ?_
 have⟨ai,aj,hd⟩:=bind_some hd
 refine Be 5 (λa w=>∃ak,GLe ag ak∧Mem W ak w (ib ad 26 [aa]::H)∧Fr a 13 [(0,(.agg #[aa])),(1,v1),(2,(pb ad)),(5,(.agg #[aa])),(6,(.bool ae)),(7,(.bool ae)),(12,(.bool ai))]) ?_ ?_
 ·rcases Af aj with⟨al,aj⟩|⟨al,aj⟩
  ·refine Ar f al ?_
   refine Ab f Z λa f=>Ar f al ?_
   refine Au 0 0 (ds:=[aa]) m AA f Z Z Z Z Z λa f=>Ar f al ?_
   have⟨am,an,aj⟩:=bind_some aj
   refine A4 f Z call26 (Wk.b m ac an) λao w ap m a f=> ?_
   have h1:=rd1 ap h1
   refine Ar f al ?_
   have⟨aq,ar,aj⟩:=bind_some aj
   refine A4 f Z call37 (Wk.g0 m h1 ar) λau w av m a f=>l_o f (AK (f.e Z) al (f.e Z)) λa f=> ?_
   obtain rfl:=sj aj
   exact⟨_,(gt ap av),m,f.k Z⟩
  ·refine As f al λa f=> ?_
   refine As f al λa f=>As f al λa f=>As f al λa f=>l_o f (AL (f.e Z) al (f.e Z)) λa f=> ?_
   obtain rfl:=sj aj
   exact⟨_,gr,m,f.k Z⟩
 ·rintro a w ⟨ak,aw,m,f⟩
  refine Ac f Z λa f=>Aa ?_
  refine Am ?_
  have m:Mem W ak w H:=Mem.drop (H':=[ib ad 26 [aa]]) m
  obtain rfl:=sj hd
  exact⟨[(.bool ai)],f.g Z,f.d,_,[],(gt ah aw),m,Z,Z⟩
theorem Wk.w0 {aa v1:Value}{ab:LL}{x1:LI}(m:Mem W G w (H))(ac:R2 G aa ab)(h1:R1 G v1 x1){y:(LL)×Bool}(hd:D.w0 ab x1=some y):
  Calls prog 69 #[(.agg #[aa]),v1] w (Res W G H (λG' Ho v=>∃r0:Value,∃i0:Itm,Ho=[i0]∧v= .tuple #[(.agg #[r0]),(.bool y.2)]∧Ow R1 29 G' i0 r0 y.1)):=by
 refine Aw (args:=[(.agg #[aa]),v1]) (N:=41) [.cell 4 26,.tmp 5] func69 Z Z (lb Z) Z λa f=> ?_
 unfold D.w0 at hd
 refine Ae ?_
 refine Bf (cs:=[aa]) m f Z Z Z λad w a m f=>AH (cs:=[sn]) zeroValue26 m f Z Z λae w a m f=>Ac f Z λa f=>Aa (Ag (Ae ?_))
 refine Au 1 0 (ds:=[aa]) m AA f Z Z Z Z Z λa f=>Ab f Z λa f=> ?_
 have⟨af,ag,hd⟩:=bind_some hd
 refine A4 f Z call90 (Wk.P0 m ac h1 ag) λah w ai m a f=> ?_
 have ac:=rd2 ai ac
 have h1:=rd1 ai h1
 refine l_o f (Bp (f.e Z)) λa f=>Ab f Z λa f=> ?_
 have⟨aj,ak,hd⟩:=bind_some hd
 refine Be 4 (λa w=>∃al,GLe ah al∧Mem W al w (ib ae 26 [sn]::ib ad 26 [aa]::H)∧Fr a 41 [(0,(.agg #[aa])),(1,v1),(2,(pb ad)),(4,(pb ae)),(8,(.agg #[aa])),(9,v1),(10,(.bool af)),(11,(.bool (!af))),(12,(.bool (!af))),(16,(.bool aj))]) ?_ ?_
 ·rcases Af ak with⟨am,ak⟩|⟨am,ak⟩
  ·refine As f am λa f=> ?_
   refine As f am λa f=>As f am λa f=>l_o f (AK (f.e Z) am (f.e Z)) λa f=> ?_
   obtain rfl:=sj ak
   exact⟨_,gr,m,f.k Z⟩
  ·refine Ar f am ?_
   refine Au 1 0 (ds:=[aa]) m AA f Z Z Z Z Z λa f=>Ar f am ?_
   have⟨an,ao,ak⟩:=bind_some ak
   refine A4 f Z call26 (Wk.b m ac ao) λap w aq m a f=>Ar f am ?_
   refine Ak f Z Z Bj λa f=>l_o f (AL (f.e Z) am (f.e Z)) λa f=> ?_
   obtain rfl:=sj ak
   exact⟨_,aq,m,f.k Z⟩
 ·rintro a w ⟨al,ar,m,f⟩
  have ac:=rd2 ar ac
  have h1:=rd1 ar h1
  refine Aa ?_
  rcases Af hd with⟨au,hd⟩|⟨au,hd⟩
  ·refine Al f Z au ?_
   refine Ae ?_
   have av:∀w,(Instr.build 26 #[]).run prog w= .ok (.agg #[sn]) w:=by intro w;simp[Instr.build,Instr.fill,A8,A6,AT,AZ,AP,A9]
   refine Bl f Z Z av λa f=>Ai 0 0 (ds:=[sn]) m sizeOf26 f Z Z Z (Ah Z An) Z (lb Z) Z λw m=>Ac f Z λa f=>Aa ?_
   refine Am ?_
   obtain⟨aw,m,ax⟩:=Ow.nil R1 29 m
   have ay:=A2 (P:=prog) 1 m AA f (s:=4) rfl rfl rfl
   have m:=m.eraseAt 2
   have m:=m.eraseAt 1
   obtain rfl:=sj hd
   exact⟨[(.agg #[sn]),(.bool false)],⟨ay,f.get _ _ Z,trivial⟩,f.d,_,[aw],(gt ai ar),m,_,_,Z,Z,ax⟩
  ·refine Aj f Z au ?_
   refine Ao ?_
   refine Ae ?_
   refine Au 1 0 (ds:=[aa]) m AA f Z Z Z Z Z λa f=> ?_
   have⟨az,aA,hd⟩:=bind_some hd
   refine Az f Z call73 (Wk.J m ac aA) λaB aC aD w aE m aF a f=> ?_
   obtain⟨aG,aH,rfl,rfl,aI⟩:=aF
   have ac:=rd2 aE ac
   have h1:=rd1 aE h1
   refine AH (cs:=[sn]) zeroValue26 m f Z Z λaJ w a m f=>Ai 0 0 (ds:=[aG]) m sizeOf26 f Z Z Z (Ah (Ow.one1 1 m aI Z) An) Z (lb Z) Z λw m=>AG ?_
   refine Bh underlying26 Z sizeOf24 f Z λa f=>AE 0 0 m Bk f Z Z Z Z λa f=>AU (R:=R0) (xs:=([]:LI)) (RI.one _) m T29 f Z Z Z (by decide) (All2.nil _) λaK aL w a m aM f=> ?_
   obtain⟨aN,aO,m,aP⟩:=Ow.stamp (RI.mono _) aM m
   have ac:=rd2 aO ac
   have h1:=rd1 aO h1
   have aI:=Ow.mono (RSl.mono (RI.mono _)) aO aI
   refine AU (R:=R1) (xs:=([([]:LI)]:LL)) (RSl.one _) m T24 f Z Z Z (by decide) (All2.cons aP (All2.nil _)) λaQ aR w a m aS f=> ?_
   have⟨aT,aU,hd⟩:=bind_some hd
   refine AX (RSl.one _) 2 m aI Z T24 Z (by decide) f Z Z Z (Ow.src (j:=0) aS m Z) aU λaV aW w a m aX f=>Bh underlying26 Z sizeOf24 f Z λa f=>Ai 1 0 (ds:=[aW]) m sizeOf24 f Z Z (Ow.cells 2 m aX Z) (Ah (Ow.one1 2 m aX Z) An) Z (lb Z) Z λw m=>Aa (Ag (Ae ?_))
   refine Ac f Z λa f=>Aa ?_
   have⟨aY,aZ,hd⟩:=bind_some hd
   refine AR (λa w=>∃a0:LL,a0=aY∧∃(a1:GH) (a2:Itm),GLe aN a1∧Fr a 41 [(4,(pb ae)),(6,(pb aJ))]∧Mem W a1 w (ib ae 26 [sn]::ib aJ 26 [aW]::a2::H)∧Ow R1 29 a1 a2 aW a0) ?_ ?_
   ·refine Ap ?_
    have m:=m.fr 2
    have m:=m.fr 2
    have m:Mem W aN w (ib ae 26 [sn]::ib aJ 26 [aW]::aV::aQ::ib ad 26 [aa]::H):=m.fr 3
    have m:=m.fr 4
    have m:Mem W aN w (ib ad 26 [aa]::ib ae 26 [sn]::ib aJ 26 [aW]::aV::H):=m.eraseAt 4
    refine AQ (λa3 a w=>∃a4:Int,∃a5:LL,(a4,a5)=a3∧∃(a6:GH) (a7:Itm),GLe aN a6∧Fr a 41 [(1,v1),(2,(pb ad)),(4,(pb ae)),(6,(pb aJ)),(7,(iv a4))]∧Mem W a6 w (ib ad 26 [aa]::ib ae 26 [sn]::ib aJ 26 [aW]::a7::H)∧Ow R1 29 a6 a7 aW a5) aZ ⟨_,_,Z,_,aV,gr,f.k Z,m,aX⟩ ?_
    clear aZ f m
    rintro a3 a8 a9 ba a w ⟨a4,a5,rfl,a6,a7,bb,f,m,bc⟩
    have h1:=rd1 bb h1
    have ac:=rd2 bb ac
    refine Ag (Ae ?_)
    refine Ab f Z λa f=>Ab f Z λa f=>Bb underlying29 f Z Z h1 λa f=>Ak f Z Z AV λa f=>Aa ?_
    rcases Af a9 with⟨bd,a9⟩|⟨bd,a9⟩
    ·refine Al f Z bd ?_
     refine Ao ?_
     refine Ag (Ap ?_)
     refine Bc 7 AW (by kernel_rfl) m ?_
     refine BC (i:=0) (ds:=[aW]) 7 2 AA Z Z Z Z (by kernel_rfl) Z f Z Z Z λa f=>Ay 1 7 Z f Z λa f=>Ay 2 7 Z f Z λa f=> ?_
     have⟨be,bf,a9⟩:=bind_some a9
     refine Bs 3 7 T29 h1 bf Z f Z Z λbg bh a bi bj f=> ?_
     subst bj
     refine Bq 4 7 Pl2 bi Z f Z λa f=>BC (i:=5) (ds:=[aa]) 7 0 AA Z Z Z Z (by kernel_rfl) Z f Z Z Z λa f=> ?_
     have⟨bk,bl,a9⟩:=bind_some a9
     refine BL (i:=6) 7 Z (by kernel_rfl) Z f Z Z Z call26 (λ_ _ w bm m=>Wk.b m (rd2 bm ac) bl) λa f=>A1 λbn w bo m=> ?_
     have bc:=Ow.mono (RSl.mono (RI.mono _)) bo bc
     have m:Mem W bn w (a7::ib ad 26 [aa]::ib ae 26 [sn]::ib aJ 26 [aW]::H):=m.fr 3
     have⟨bp,bq,a9⟩:=bind_some a9
     refine Az f Z call67 (Wk.j m bc bq) λbr bs bt w bu m bv a f=> ?_
     obtain⟨bw,rfl,rfl,bx⟩:=bv
     refine Ai 3 0 (ds:=[aW]) m sizeOf26 f Z Z Z (Ah (Ow.one1 0 m bx Z) An) Z (lb Z) Z λw m=>Aa (Aq ?_)
     refine Ab f Z λa f=>Ak f Z Z AD λa f=>Ac f Z λa f=>Aa ?_
     have m:=m.fr 3
     have m:=m.fr 3
     have m:Mem W bs w (ib ad 26 [aa]::ib ae 26 [sn]::ib aJ 26 [aW]::bw::H):=m.fr 3
     obtain rfl:=sj a9
     exact⟨_,Z,_,_,Z,_,bw,(gt bb (gt bo bu)),f.k Z,m,bx⟩
    ·refine Aj f Z bd ?_
     refine AO Z ?_
     have m:=m.fr 3
     have m:=m.fr 3
     have m:Mem W a6 w (ib ae 26 [sn]::ib aJ 26 [aW]::a7::ib ad 26 [aa]::H):=m.fr 3
     have m:=m.eraseAt 3
     obtain rfl:=sj a9
     obtain rfl:=ba _ rfl
     exact⟨_,Z,_,a7,bb,f.k Z,m,bc⟩
   ·rintro a w ⟨a0,rfl,a1,a2,bz,f,m,bA⟩
    refine Ae ?_
    refine Au 1 0 (ds:=[aW]) m AA f Z Z Z Z Z λa f=>Ai 0 0 (ds:=[aW]) m sizeOf26 f Z Z Z (Ah (Ow.one1 2 m bA Z) An) Z (lb Z) Z λw m=>Ac f Z λa f=>Aa ?_
    refine Am ?_
    have bB:=A2 (P:=prog) 0 m AA f (s:=4) rfl rfl rfl
    have m:=m.fr 2
    have m:=m.eraseAt 2
    have m:=m.eraseAt 1
    obtain rfl:=sj hd
    exact⟨[(.agg #[aW]),(.bool true)],⟨bB,f.get _ _ Z,trivial⟩,f.d,_,[a2],(gt ai (gt ar (gt aE (gt aO bz)))),m,_,_,Z,Z,bA⟩
theorem Wk.t0 {aa:Value}{ab:LL}{x1 x2:Int}(m:Mem W G w (H))(ac:R2 G aa ab){y:(LL)×Bool}(hd:D.t0 ab x1 x2=some y):
  Calls prog 41 #[(.agg #[aa]),(iv x1),(iv x2)] w (Res W G H (λG' Ho v=>∃r0:Value,∃i0:Itm,Ho=[i0]∧v= .tuple #[(.agg #[r0]),(.bool y.2)]∧Ow R1 29 G' i0 r0 y.1)):=by
 refine Aw (args:=[(.agg #[aa]),(iv x1),(iv x2)]) (N:=41) [.cell 6 26,.tmp 7] func41 Z Z (lb Z) Z λa f=> ?_
 unfold D.t0 at hd
 refine Ae ?_
 refine Bf (cs:=[aa]) m f Z Z Z λad w a m f=>AH (cs:=[sn]) zeroValue26 m f Z Z λae w a m f=>Ac f Z λa f=>AG ?_
 refine Au 1 0 (ds:=[aa]) m AA f Z Z Z Z Z λa f=> ?_
 have⟨af,ag,hd⟩:=bind_some hd
 refine A4 f Z call26 (Wk.b m ac ag) λah w ai m a f=> ?_
 have ac:=rd2 ai ac
 refine Ac f Z λa f=>Aa (Ag (Ae ?_))
 refine Au 1 0 (ds:=[aa]) m AA f Z Z Z Z Z λa f=>Ab f Z λa f=>Ab f Z λa f=> ?_
 have⟨aj,ak,hd⟩:=bind_some hd
 refine A4 f Z call68 (Wk.S0 m ac ak) λal w am m a f=> ?_
 have ac:=rd2 am ac
 refine l_o f (Bp (f.e Z)) λa f=>Ab f Z λa f=> ?_
 refine Be 3 (λa w=>∃an,GLe al an∧Mem W an w (ib ae 26 [sn]::ib ad 26 [aa]::H)∧Fr a 41 [(0,(.agg #[aa])),(1,(iv x1)),(2,(iv x2)),(3,(pb ad)),(6,(pb ae)),(8,(iv af)),(13,(.agg #[aa])),(14,(iv x1)),(15,(iv x2)),(16,(.bool aj)),(17,(.bool (!aj))),(18,(.bool (!aj))),(21,(.bool ((!aj)||(decide ((16:Int)≤af)))))]) ?_ ?_
 ·rcases Bool.eq_false_or_eq_true (!aj) with ao|ao
  ·refine As f ao λa f=> ?_
   refine As f ao λa f=>l_o f (AK (f.e Z) ao (f.e Z)) λa f=> ?_
   exact⟨_,gr,m,f.weak ⟨Z,Z,Z,Z,Z,Z,Z,Z,Z,Z,Z,Z,by rw[ao];rfl,trivial⟩⟩
  ·refine Ar f ao ?_
   refine Ab f Z λa f=>Ar f ao ?_
   refine Ak f Z Z b_geq λa f=>l_o f (AL (f.e Z) ao (f.e Z)) λa f=> ?_
   exact⟨_,gr,m,f.weak ⟨Z,Z,Z,Z,Z,Z,Z,Z,Z,Z,Z,Z,by rw[ao];rfl,trivial⟩⟩
 ·rintro a w ⟨an,ap,m,f⟩
  have ac:=rd2 ap ac
  refine Aa ?_
  rcases Af hd with⟨aq,hd⟩|⟨aq,hd⟩
  ·refine Al f Z aq ?_
   refine Ae ?_
   have ar:∀w,(Instr.build 26 #[]).run prog w= .ok (.agg #[sn]) w:=by intro w;simp[Instr.build,Instr.fill,A8,A6,AT,AZ,AP,A9]
   refine Bl f Z Z ar λa f=>Ai 0 0 (ds:=[sn]) m sizeOf26 f Z Z Z (Ah Z An) Z (lb Z) Z λw m=>Ac f Z λa f=>Aa ?_
   refine Am ?_
   obtain⟨au,m,av⟩:=Ow.nil R1 29 m
   have aw:=A2 (P:=prog) 1 m AA f (s:=6) rfl rfl rfl
   have m:=m.eraseAt 2
   have m:=m.eraseAt 1
   obtain rfl:=sj hd
   exact⟨[(.agg #[sn]),(.bool false)],⟨aw,f.get _ _ Z,trivial⟩,f.d,_,[au],(gt ai (gt am ap)),m,_,_,Z,Z,av⟩
  ·refine Aj f Z aq ?_
   refine Ao ?_
   refine Ae ?_
   refine Au 1 0 (ds:=[aa]) m AA f Z Z Z Z Z λa f=>Ab f Z λa f=>Ab f Z λa f=> ?_
   have⟨ax,ay,hd⟩:=bind_some hd
   refine Az f Z call43 (Wk.U m ac ay) λaz aA aB w aC m aD a f=> ?_
   obtain⟨aE,aF,rfl,rfl,aG⟩:=aD
   refine Ab f Z λa f=>l_o f (AB (f.e Z) Z) λa f=>l_o f (AB (f.e Z) Z) λa f=>AH (cs:=[sn]) zeroValue26 m f Z Z λaH w a m f=>Ai 0 0 (ds:=[aE]) m sizeOf26 f Z Z Z (Ah (Ow.one1 1 m aG Z) An) Z (lb Z) Z λw m=>Ac f Z λa f=>Aa (Ag ?_)
   have m:Mem W aA w (aF::ib aH 26 [aE]::ib ae 26 [sn]::ib ad 26 [aa]::H):=m.fr 1
   obtain⟨aI,aJ,m,aK⟩:=Ow.stamp (RSl.mono (RI.mono _)) aG m
   refine Bc 11 AW (by kernel_rfl) m ?_
   refine BC (i:=0) (ds:=[aE]) 11 0 AA Z Z Z Z (by kernel_rfl) Z f Z Z Z λa f=>Ay 1 11 Z f Z λa f=>Ay 2 11 Z f Z λa f=> ?_
   have⟨aL,aM,hd⟩:=bind_some hd
   refine BL (i:=3) 11 Z (by kernel_rfl) Z f Z Z Z call70 (λ_ _ w aN m=>Wk.O m aM) λa f=>Ay 4 11 Z f Z λa f=>Ay 5 11 Z f Z λa f=> ?_
   have⟨aO,aP,hd⟩:=bind_some hd
   refine BL (i:=6) 11 Z (by kernel_rfl) Z f Z Z Z call71 (λ_ _ w aQ m=>Wk.N0 m aP) λa f=>A3 7 Z λaR w aS m aT aT=> ?_
   have aK:=rd2 aS aK
   refine AU (R:=R0) (xs:=([aL,aO]:LI)) (RI.one _) m T29 f Z Z Z (by decide) (All2.cons Z (All2.cons Z (All2.nil _))) λaU aV w a m aW f=>Aa ?_
   refine aT aR [aU] _ _ gr m ?_
   refine A3 8 Z λaX w aY m aZ aZ=> ?_
   have aK:=rd2 aY aK
   have aW:=od1 aY aW
   obtain⟨a0,a1,m,a2⟩:=Ow.stamp (RI.mono _) aW m
   have aK:=rd2 a1 aK
   have⟨a3,a4,hd⟩:=bind_some hd
   refine Az f Z call69 (Wk.w0 m aK a2 a4) λa5 a6 a7 w a8 m a9 a f=> ?_
   obtain⟨ba,bb,rfl,rfl,bc⟩:=a9
   refine Aa ?_
   refine aZ a6 [bb] _ _ (gt a1 a8) m ?_
   refine q_p 9 11 Z f (λ_=>AB (f.e Z) Z) λa f=>q_p 10 11 Z f (λ_=>AB (f.e Z) Z) λa f=>A1 λbd w be m=> ?_
   have bc:=Ow.mono (RSl.mono (RI.mono _)) be bc
   refine Ai 2 0 (ds:=[ba]) m sizeOf26 f Z Z Z (Ah (Ow.one1 0 m bc Z) An) Z (lb Z) Z λw m=>Ac f Z λa f=>Aa ?_
   refine Am ?_
   have bf:=A2 (P:=prog) 2 m AA f (s:=6) rfl rfl rfl
   have m:=m.eraseAt 3
   have m:=m.eraseAt 2
   have m:=m.eraseAt 1
   obtain rfl:=sj hd
   exact⟨[(.agg #[ba]),(.bool a3.2)],⟨bf,f.get _ _ Z,trivial⟩,f.d,_,[bb],(gt ai (gt am (gt ap (gt aC (gt aJ (gt aS (gt aY (gt a1 (gt a8 be))))))))),m,_,_,Z,Z,bc⟩
theorem Wk.u0 {aa:Value}{ab:LL}{x1 x2:Int}(m:Mem W G w (H))(ac:R2 G aa ab){y:(LL)×Bool}(hd:D.u0 ab x1 x2=some y):
  Calls prog 42 #[(.agg #[aa]),(iv x1),(iv x2)] w (Res W G H (λG' Ho v=>∃r0:Value,∃i0:Itm,Ho=[i0]∧v= .tuple #[(.agg #[r0]),(.bool y.2)]∧Ow R1 29 G' i0 r0 y.1)):=by
 refine Aw (args:=[(.agg #[aa]),(iv x1),(iv x2)]) (N:=25) [.cell 6 26,.tmp 7] func42 Z Z (lb Z) Z λa f=> ?_
 unfold D.u0 at hd
 refine Ae ?_
 refine Bf (cs:=[aa]) m f Z Z Z λad w a m f=>AH (cs:=[sn]) zeroValue26 m f Z Z λae w a m f=>Ac f Z λa f=>Aa (Ag (Ae ?_))
 refine Au 1 0 (ds:=[aa]) m AA f Z Z Z Z Z λa f=>Ab f Z λa f=>Ab f Z λa f=> ?_
 have⟨af,ag,hd⟩:=bind_some hd
 refine A4 f Z call72 (Wk.d0 m ac ag) λah w ai m a f=> ?_
 have ac:=rd2 ai ac
 refine l_o f (Bp (f.e Z)) λa f=>Ab f Z λa f=> ?_
 have⟨aj,ak,hd⟩:=bind_some hd
 refine Be 5 (λa w=>∃al,GLe ah al∧Mem W al w (ib ae 26 [sn]::ib ad 26 [aa]::H)∧Fr a 25 [(0,(.agg #[aa])),(1,(iv x1)),(2,(iv x2)),(3,(pb ad)),(6,(pb ae)),(8,(.agg #[aa])),(9,(iv x1)),(10,(iv x2)),(11,(.bool af)),(12,(.bool (!af))),(13,(.bool (!af))),(18,(.bool aj))]) ?_ ?_
 ·rcases Af ak with⟨am,ak⟩|⟨am,ak⟩
  ·refine As f am λa f=> ?_
   refine As f am λa f=>As f am λa f=>As f am λa f=>l_o f (AK (f.e Z) am (f.e Z)) λa f=> ?_
   obtain rfl:=sj ak
   exact⟨_,gr,m,f.k Z⟩
  ·refine Ar f am ?_
   refine Au 1 0 (ds:=[aa]) m AA f Z Z Z Z Z λa f=>Ar f am ?_
   refine Ab f Z λa f=>Ar f am ?_
   refine Ab f Z λa f=>Ar f am ?_
   have⟨an,ao,ak⟩:=bind_some ak
   refine A4 f Z call61 (Wk.i m ac ao) λap w aq m a f=>l_o f (AL (f.e Z) am (f.e Z)) λa f=> ?_
   obtain rfl:=sj ak
   exact⟨_,aq,m,f.k Z⟩
 ·rintro a w ⟨al,ar,m,f⟩
  have ac:=rd2 ar ac
  refine Aa ?_
  rcases Af hd with⟨au,hd⟩|⟨au,hd⟩
  ·refine Al f Z au ?_
   refine Ae ?_
   have av:∀w,(Instr.build 26 #[]).run prog w= .ok (.agg #[sn]) w:=by intro w;simp[Instr.build,Instr.fill,A8,A6,AT,AZ,AP,A9]
   refine Bl f Z Z av λa f=>Ai 0 0 (ds:=[sn]) m sizeOf26 f Z Z Z (Ah Z An) Z (lb Z) Z λw m=>Ac f Z λa f=>Aa ?_
   refine Am ?_
   obtain⟨aw,m,ax⟩:=Ow.nil R1 29 m
   have ay:=A2 (P:=prog) 1 m AA f (s:=6) rfl rfl rfl
   have m:=m.eraseAt 2
   have m:=m.eraseAt 1
   obtain rfl:=sj hd
   exact⟨[(.agg #[sn]),(.bool false)],⟨ay,f.get _ _ Z,trivial⟩,f.d,_,[aw],(gt ai ar),m,_,_,Z,Z,ax⟩
  ·refine Aj f Z au ?_
   refine Ao ?_
   refine Ae ?_
   refine Au 1 0 (ds:=[aa]) m AA f Z Z Z Z Z λa f=> ?_
   have⟨az,aA,hd⟩:=bind_some hd
   refine Az f Z call73 (Wk.J m ac aA) λaB aC aD w aE m aF a f=> ?_
   obtain⟨aG,aH,rfl,rfl,aI⟩:=aF
   refine Ab f Z λa f=>Ab f Z λa f=> ?_
   have⟨aJ,aK,hd⟩:=bind_some hd
   refine Az f Z call67 (Wk.j m aI aK) λaL aM aN w aO m aP a f=> ?_
   obtain⟨aQ,rfl,rfl,aR⟩:=aP
   refine Ai 1 0 (ds:=[aG]) m sizeOf26 f Z Z Z (Ah (Ow.one1 0 m aR Z) An) Z (lb Z) Z λw m=>Ac f Z λa f=>Aa ?_
   refine Am ?_
   have aS:=A2 (P:=prog) 1 m AA f (s:=6) rfl rfl rfl
   have m:=m.eraseAt 2
   have m:=m.eraseAt 1
   obtain rfl:=sj hd
   exact⟨[(.agg #[aG]),(.bool true)],⟨aS,f.get _ _ Z,trivial⟩,f.d,_,[aQ],(gt ai (gt ar (gt aE aO))),m,_,_,Z,Z,aR⟩
theorem Wk.T0 {x0:Int}(m:Mem W G w (H)){y:(LI)}(hd:D.T0 x0=some y):
  Calls prog 77 #[(iv x0)] w (Res W G H (λG' Ho v=>∃r0:Value,∃i0:Itm,Ho=[i0]∧r0=v∧Ow R0 2 G' i0 r0 y)):=by
 refine Aw (args:=[(iv x0)]) (N:=16) [.tmp 2] func77 Z Z (lb Z) Z λa f=> ?_
 unfold D.T0 at hd
 refine Ae ?_
 refine Ac f Z λa f=>AG ?_
 refine AU (R:=R0) (xs:=([]:LI)) (RI.one _) m T29 f Z Z Z (by decide) (All2.nil _) λaa ab w a m ac f=>Ac f Z λa f=>Aa (Ag (Ae ?_))
 refine Ac f Z λa f=>Aa ?_
 have⟨ad,ae,hd⟩:=bind_some hd
 refine AR (λa w=>∃af:LI,af=ad∧∃(ag:GH) (ah:Value) (ai:Itm),GLe G ag∧Fr a 16 [(3,ah)]∧Mem W ag w (ai::H)∧Ow R0 2 ag ai ah af) ?_ ?_
 ·refine Ap ?_
  refine AQ (λaj a w=>∃ak:LI,∃al:Int,(ak,al)=aj∧∃(am:GH) (an:Value) (ao:Itm),GLe G am∧Fr a 16 [(0,(iv x0)),(3,an),(4,(iv al))]∧Mem W am w (ao::H)∧Ow R0 2 am ao an ak) ae ⟨_,_,Z,_,ab,aa,gr,f.k Z,m,ac⟩ ?_
  clear ae f m
  rintro aj ap aq ar a w ⟨ak,al,rfl,am,an,ao,au,f,m,av⟩
  refine Ag (Ae ?_)
  refine Ab f Z λa f=>Ab f Z λa f=>Ak f Z Z AV λa f=>Aa ?_
  rcases Af aq with⟨aw,aq⟩|⟨aw,aq⟩
  ·refine Al f Z aw ?_
   refine Ao ?_
   refine Ag (Ap (Aq ?_))
   refine Ab f Z λa f=>Ab f Z λa f=>AU (R:=R0) (xs:=([al]:LI)) (RI.one _) m T29 f Z Z Z (by decide) (All2.cons Z (All2.nil _)) λax ay w a m az f=> ?_
   have⟨aA,aB,aq⟩:=bind_some aq
   refine AX (RI.one _) 1 m av Z T29 Z (by decide) f Z Z Z (Ow.src (j:=0) az m Z) aB λaC aD w a m aE f=>Ac f Z λa f=>Aa (Aq ?_)
   refine Ab f Z λa f=>Ak f Z Z AD λa f=>Ac f Z λa f=>Aa ?_
   have m:=m.fr 1
   have m:=m.eraseAt 1
   obtain rfl:=sj aq
   exact⟨_,Z,_,_,Z,_,aD,aC,au,f.k Z,m,aE⟩
  ·refine Aj f Z aw ?_
   refine AO Z ?_
   obtain rfl:=sj aq
   obtain rfl:=ar _ rfl
   exact⟨_,Z,_,an,ao,au,f.k Z,m,av⟩
 ·rintro a w ⟨af,rfl,ag,ah,ai,aF,f,m,aG⟩
  refine Ae ?_
  refine Ab f Z λa f=>Ac f Z λa f=>Aa ?_
  refine Am ?_
  obtain rfl:=sj hd
  exact⟨[ah],f.g Z,f.d,_,[ai],aF,m,_,_,Z,Z,aG⟩
theorem Wk.n0 {b0:Nat}{aa:Value}{ab:LI}{ac ad x1 x2:Int}(m:Mem W G w (ib b0 72 [aa,(iv ac),(iv ad)]::H))(ae:RSl (RI .u8) G aa ab){y:Int×(LI)×Int×Int}(hd:D.n0 ab ac ad x1 x2=some y):
  Calls prog 16 #[(pb b0),(iv x1),(iv x2)] w (Res W G H (λG' Ho v=>∃r0:Value,Ho=[ib b0 72 [r0,(iv y.2.2.1),(iv y.2.2.2)]]∧v=(iv y.1)∧RSl (RI .u8) G' r0 y.2.1)):=by
 refine Aw (args:=[(pb b0),(iv x1),(iv x2)]) (N:=15) [.tmp 6] func16 Z Z (lb Z) Z λa f=> ?_
 unfold D.n0 at hd
 refine Ae ?_
 refine Ac f Z λa f=>AG ?_
 refine Ab f Z λa f=>Ab f Z λa f=>Ab f Z λa f=>Ab f Z λa f=>Ak f Z Z BO λa f=>Ak f Z Z AD λa f=> ?_
 have⟨af,ag,hd⟩:=bind_some hd
 refine Az f Z call17 (Wk.a m ae ag) λah ai aj w ak m al a f=> ?_
 obtain⟨am,rfl,rfl,an⟩:=al
 refine Ak f Z Z AD λa f=>Ac f Z λa f=>Aa ?_
 refine Am ?_
 obtain rfl:=sj hd
 exact⟨[(iv (i64.wrap (x1+af.1)))],f.g Z,f.d,_,[ib b0 72 [am,(iv af.2.2.1),(iv af.2.2.2)]],ak,m,_,Z,Z,an⟩
theorem Wk.r0 {b0:Nat}{aa ab:Value}{ac:LI}{ad ae:Int}{af:LL}(m:Mem W G w (ib b0 72 [aa,(iv ad),(iv ae)]::H))(ag:RSl (RI .u8) G aa ac)(ah:R2 G ab af){y:(LI)×(LI)×Int×Int}(hd:D.r0 ac ad ae af=some y):
  Calls prog 45 #[(pb b0),(.agg #[ab])] w (Res W G H (λG' Ho v=>∃r0:Value,∃i0:Itm,∃r2:Value,Ho=[i0,ib b0 72 [r2,(iv y.2.2.1),(iv y.2.2.2)]]∧r0=v∧Ow R0 2 G' i0 r0 y.1∧RSl (RI .u8) G' r2 y.2.1)):=by
 refine Aw (args:=[(pb b0),(.agg #[ab])]) (N:=52) [.tmp 4] func45 Z Z (lb Z) Z λa f=> ?_
 unfold D.r0 at hd
 refine Ae ?_
 refine Bf (cs:=[ab]) m f Z Z Z λai w a m f=>Ac f Z λa f=>AG ?_
 refine Bh underlying26 Z sizeOf24 f Z λa f=>AE 0 0 m Bk f Z Z Z Z λa f=>Bb underlying24 f Z Z ah λa f=> ?_
 have⟨aj,ak,hd⟩:=bind_some hd
 refine Az f Z call77 (Wk.T0 m ak) λal am an w ao m ap a f=> ?_
 obtain⟨aq,ar,rfl,rfl,au⟩:=ap
 have ag:=rd1 ao ag
 refine Ac f Z λa f=>AG ?_
 refine AU (R:=R0) (xs:=([]:LI)) (RI.one _) m T29 f Z Z Z (by decide) (All2.nil _) λav aw w a m ax f=>Ac f Z λa f=>Aa (Ag ?_)
 have⟨ay,az,hd⟩:=bind_some hd
 refine AR (λa w=>∃aA:LI,∃aB:LI,∃aC:Int,∃aD:Int,(aA,aB,aC,aD)=ay∧∃(aE:GH) (aF:Value) (aG:Itm) (aH:Value),GLe am aE∧Fr a 52 [(0,(pb b0)),(6,aF)]∧Mem W aE w (ib b0 72 [aH,(iv aC),(iv aD)]::aG::H)∧Ow R0 2 aE aG aF aA∧RSl (RI .u8) aE aH aB) ?_ ?_
 ·refine Ap ?_
  have m:=m.fr 1
  have m:=m.fr 3
  have m:=m.eraseAt 3
  refine AQ (λaI a w=>∃aJ:LI,∃aK:LI,∃aL:LI,∃aM:Int,∃aN:Int,(aJ,aK,aL,aM,aN)=aI∧∃(aO:GH) (aP:Value) (aQ:Itm) (aR:Value) (aS:Itm) (aT:Value),GLe am aO∧Fr a 52 [(0,(pb b0)),(5,aP),(6,aR)]∧Mem W aO w (ib b0 72 [aT,(iv aM),(iv aN)]::aQ::aS::H)∧Ow R0 2 aO aQ aP aJ∧Ow R0 2 aO aS aR aK∧RSl (RI .u8) aO aT aL) az ⟨_,_,_,_,_,Z,_,aq,ar,aw,av,aa,gr,f.k Z,m,au,ax,ag⟩ ?_
  clear az f m
  rintro aI aU aV aW a w ⟨aJ,aK,aL,aM,aN,rfl,aO,aP,aQ,aR,aS,aT,aX,f,m,aY,aZ,a0⟩
  refine Ag (Ae ?_)
  refine Ab f Z λa f=>Bw 1 m aY Z underlying29 f Z Z λa f=>Ak f Z Z Cu λa f=>Aa ?_
  rcases Af aV with⟨a1,aV⟩|⟨a1,aV⟩
  ·refine Al f Z a1 ?_
   refine Ao ?_
   refine Ap (Ae ?_)
   refine Ab f Z λa f=>Ab f Z λa f=>Bw 1 m aY Z underlying29 f Z Z λa f=> ?_
   have⟨a2,a3,aV⟩:=bind_some aV
   refine Az f Z call17 (Wk.a m a0 a3) λa4 a5 a6 w a7 m a8 a f=> ?_
   obtain⟨a9,rfl,rfl,ba⟩:=a8
   have aY:=od1 a7 aY
   have aZ:=od1 a7 aZ
   refine Ac f Z λa f=>AG ?_
   refine Ab f Z λa f=>Ab f Z λa f=>Ab f Z λa f=> ?_
   have⟨bb,bc,aV⟩:=bind_some aV
   refine BH 1 m aY Z T29 f Z Z Z bc λbd a be f=>BF 1 m aY Z Pl2 f Z Z be bc λbf a bg f=> ?_
   subst bg
   refine AU (R:=R0) (xs:=([bb]:LI)) (RI.one _) m T29 f Z Z Z (by decide) (All2.cons Z (All2.nil _)) λbh bi w a m bj f=> ?_
   have⟨bk,bl,aV⟩:=bind_some aV
   refine AX (RI.one _) 3 m aZ Z T29 Z (by decide) f Z Z Z (Ow.src (j:=0) bj m Z) bl λbm bn w a m bo f=>Ac f Z λa f=>Aa ?_
   have m:Mem W a5 w (aQ::bh::ib b0 72 [a9,(iv a2.2.2.1),(iv a2.2.2.2)]::bm::H):=m.fr 2
   obtain⟨bp,bq,m,br⟩:=Ow.stamp (RI.mono _) aY m
   have ba:=rd1 bq ba
   have bo:=od1 bq bo
   refine Bc 8 AW (by kernel_rfl) m ?_
   refine Ay 0 8 Z f Z λa f=>Ay 1 8 Z f Z λa f=> ?_
   have⟨bs,bt,aV⟩:=bind_some aV
   refine Cv (i:=2) 8 T29 br bt Z (by kernel_rfl) Z f Z Z Z (.inl ⟨Z,Z⟩) (.inr ⟨_,_,Z,Z⟩) λbu a bv f=>Ay 4 8 Z f Z λa f=>Ay 5 8 Z f Z λa f=>q_p 6 8 Z f (λ_=>Bi (f.e Z) (f.e Z) AD) λa f=> ?_
   have⟨bw,bx,aV⟩:=bind_some aV
   refine Cv (i:=7) 8 T29 br bx Z (by kernel_rfl) Z f Z Z Z (.inr ⟨_,_,Z,Z⟩) (.inl ⟨Z,Z⟩) λbz a bA f=>A3 3 Z λbB w bC m bD bD=> ?_
   have bv:=rd1 bC bv
   have bA:=rd1 bC bA
   have ba:=rd1 bC ba
   have bo:=od1 bC bo
   have⟨bE,bF,aV⟩:=bind_some aV
   refine Az f Z call30 (Wk.c m bv bF) λbG bH bI w bJ m bK a f=> ?_
   obtain⟨bL,bM,rfl,rfl,bN⟩:=bK
   have bA:=rd1 bJ bA
   have ba:=rd1 bJ ba
   have bo:=od1 bJ bo
   refine Aa ?_
   refine bD bH [bM] _ _ bJ m ?_
   refine A1 λbO w bP m=> ?_
   have bA:=rd1 bP bA
   have bN:=od1 bP bN
   have ba:=rd1 bP ba
   have bo:=od1 bP bo
   have⟨bQ,bR,aV⟩:=bind_some aV
   refine AX (RI.one _) 0 m bN Z T29 Z (by decide) f Z Z Z (bA.src m) bR λbS bT w a m bU f=>Ac f Z λa f=>Aa ?_
   have m:=m.fr 3
   have m:=m.fr 1
   have m:Mem W bO w (ib b0 72 [a9,(iv a2.2.2.1),(iv a2.2.2.2)]::bS::bm::bh::H):=m.fr 3
   have m:Mem W bO w (ib b0 72 [a9,(iv a2.2.2.1),(iv a2.2.2.2)]::bS::bm::H):=m.eraseAt 3
   obtain rfl:=sj aV
   exact⟨_,Z,_,_,_,_,_,Z,_,bT,bS,bn,bm,a9,(gt aX (gt a7 (gt bq (gt bC (gt bJ bP))))),f.k Z,m,bU,bo,ba⟩
  ·refine Aj f Z a1 ?_
   refine AO Z ?_
   have m:=m.fr 2
   have m:=m.fr 1
   have m:=m.eraseAt 2
   obtain rfl:=sj aV
   obtain rfl:=aW _ rfl
   exact⟨_,_,_,_,Z,_,aR,aS,aT,aX,f.k Z,m,aZ,a0⟩
 ·rintro a w ⟨aA,aB,aC,aD,rfl,aE,aF,aG,aH,bV,f,m,bW,bX⟩
  refine Ag (Ae ?_)
  refine Ab f Z λa f=> ?_
  have⟨bY,bZ,hd⟩:=bind_some hd
  refine Az f Z call15 (Wk.l m bX bZ) λb1 b2 b3 w b4 m b5 a f=> ?_
  obtain⟨b6,rfl,rfl,b7⟩:=b5
  have bW:=od1 b4 bW
  refine Ab f Z λa f=> ?_
  refine Be 4 (λa w=>∃b8,GLe b2 b8∧Mem W b8 w (ib b0 72 [b6,(iv bY.2.2.1),(iv bY.2.2.2)]::aG::H)∧Fr a 52 [(0,(pb b0)),(6,aF),(36,(pb b0)),(37,(.bool bY.1)),(38,(.bool bY.1)),(42,(.bool (bY.1&&(decide ((0:Int)<(aA.length:Int))))))]) ?_ ?_
  ·rcases Bool.eq_false_or_eq_true bY.1 with b9|b9
   ·refine Ar f b9 ?_
    refine Ab f Z λa f=>Ar f b9 ?_
    refine Bw 1 m bW Z underlying29 f Z Z λa f=>Ar f b9 ?_
    refine Ak f Z Z Cu λa f=>l_o f (AK (f.e Z) b9 (f.e Z)) λa f=> ?_
    exact⟨_,gr,m,f.weak ⟨Z,Z,Z,Z,Z,by rw[b9];rfl,trivial⟩⟩
   ·refine As f b9 λa f=> ?_
    refine As f b9 λa f=>As f b9 λa f=>l_o f (AL (f.e Z) b9 (f.e Z)) λa f=> ?_
    exact⟨_,gr,m,f.weak ⟨Z,Z,Z,Z,Z,by rw[b9];rfl,trivial⟩⟩
  ·rintro a w ⟨b8,ca,m,f⟩
   have b7:=rd1 ca b7
   have bW:=od1 ca bW
   refine Aa ?_
   rcases Af hd with⟨cb,hd⟩|⟨cb,hd⟩
   ·refine Al f Z cb ?_
    refine Aq ?_
    refine Ab f Z λa f=>Ab f Z λa f=>Ab f Z λa f=>Bw 1 m bW Z underlying29 f Z Z λa f=> ?_
    have⟨cc,cd,hd⟩:=bind_some hd
    refine Az f Z call17 (Wk.a m b7 cd) λce cf cg w ch m ci a f=> ?_
    obtain⟨cj,rfl,rfl,ck⟩:=ci
    have bW:=od1 ch bW
    refine Ab f Z λa f=> ?_
    have⟨cl,cm,hd⟩:=bind_some hd
    refine Az f Z call16 (Wk.n0 m ck cm) λcn co cp w cq m cr a f=> ?_
    obtain⟨ct,rfl,rfl,cu⟩:=cr
    have bW:=od1 cq bW
    have⟨cv,cw,hd⟩:=bind_some hd
    refine BH 1 m bW Z T29 f Z Z Z cw λcx a cy f=>BK 1 m bW Z sizeOf2 f Z Z cy cw Z Z Z λcz w m cA=>AG ?_
    refine Ab f Z λa f=>Ac f Z λa f=>Aa ?_
    refine Am ?_
    have m:Mem W co w (cz::ib b0 72 [ct,(iv cl.2.2.1),(iv cl.2.2.2)]::H):=m.fr 1
    obtain rfl:=sj hd
    exact⟨[aF],f.g Z,f.d,_,[cz,ib b0 72 [ct,(iv cl.2.2.1),(iv cl.2.2.2)]],(gt ao (gt bV (gt b4 (gt ca (gt ch cq))))),m,_,_,_,Z,Z,cA,cu⟩
   ·refine Aj f Z cb ?_
    refine Ao ?_
    refine Ae ?_
    refine Ab f Z λa f=>Ac f Z λa f=>Aa ?_
    refine Am ?_
    have m:Mem W b8 w (aG::ib b0 72 [b6,(iv bY.2.2.1),(iv bY.2.2.2)]::H):=m.fr 1
    obtain rfl:=sj hd
    exact⟨[aF],f.g Z,f.d,_,[aG,ib b0 72 [b6,(iv bY.2.2.1),(iv bY.2.2.2)]],(gt ao (gt bV (gt b4 ca))),m,_,_,_,Z,Z,bW,b7⟩
theorem Wk.c1 {aa v1:Value}{ab:LL}{x1:LI}(m:Mem W G w (H))(ac:R2 G aa ab)(h1:R1 G v1 x1){y:Bool}(hd:D.c1 ab x1=some y):
  Calls prog 91 #[(.agg #[aa]),v1] w (Res W G H (λ_ Ho v=>Ho=[]∧v=(.bool y))):=by
 refine Aw (args:=[(.agg #[aa]),v1]) (N:=34) [.tmp 4] func91 Z Z (lb Z) Z λa f=> ?_
 unfold D.c1 at hd
 refine Ae ?_
 refine Bf (cs:=[aa]) m f Z Z Z λad w a m f=>Ac f Z λa f=>Aa (Ag (Ae ?_))
 refine Ab f Z λa f=>Bb underlying29 f Z Z h1 λa f=>Au 0 0 (ds:=[aa]) m AA f Z Z Z Z Z λa f=> ?_
 have⟨ae,af,hd⟩:=bind_some hd
 refine A4 f Z call26 (Wk.b m ac af) λag w ah m a f=> ?_
 have ac:=rd2 ah ac
 have h1:=rd1 ah h1
 refine Ak f Z Z CF λa f=>Aa ?_
 rcases Af hd with⟨ai,hd⟩|⟨ai,hd⟩
 ·refine Al f Z ai ?_
  refine Ae ?_
  refine Ac f Z λa f=>Aa ?_
  refine Am ?_
  have m:Mem W ag w H:=Mem.drop (H':=[ib ad 26 [aa]]) m
  obtain rfl:=sj hd
  exact⟨[(.bool false)],f.g Z,f.d,_,[],ah,m,Z,Z⟩
 ·refine Aj f Z ai ?_
  refine Ao ?_
  refine Ag (Ae ?_)
  refine Ac f Z λa f=>Aa ?_
  have⟨aj,ak,hd⟩:=bind_some hd
  refine AR (λa w=>∃q_99':Unit,aj= .inl q_99'∧∃(al:GH),GLe ag al∧Fr a 34 []∧Mem W al w (H)) ?_ ?_
  ·refine Ap ?_
   refine AQ (λam a w=>∃an:Int,an=am∧∃(ao:GH),GLe ag ao∧Fr a 34 [(1,v1),(2,(pb ad)),(5,(iv an))]∧Mem W ao w (ib ad 26 [aa]::H)) ak ⟨_,Z,_,gr,f.k Z,m⟩ ?_
   clear ak f m
   rintro am ap aq ar a w ⟨an,rfl,ao,au,f,m⟩
   have h1:=rd1 au h1
   have ac:=rd2 au ac
   refine Ag (Ae ?_)
   refine Ab f Z λa f=>Ab f Z λa f=>Bb underlying29 f Z Z h1 λa f=>Ak f Z Z AV λa f=>Aa ?_
   rcases Af aq with⟨av,aq⟩|⟨av,aq⟩
   ·refine Al f Z av ?_
    refine Ao ?_
    refine Ag (Ap (Ag ?_))
    refine Bc 17 AW (by kernel_rfl) m ?_
    refine BC (i:=0) (ds:=[aa]) 17 0 AA Z Z Z Z (by kernel_rfl) Z f Z Z Z λa f=>Ay 1 17 Z f Z λa f=>Ay 2 17 Z f Z λa f=> ?_
    have⟨aw,ax,aq⟩:=bind_some aq
    refine Bs 3 17 T29 h1 ax Z f Z Z λay az a aA aB f=> ?_
    subst aB
    refine Bq 4 17 Pl2 aA Z f Z λa f=> ?_
    have⟨aC,aD,aq⟩:=bind_some aq
    refine BL (i:=5) 17 Z (by kernel_rfl) Z f Z Z Z call59 (λ_ _ w aE m=>Wk.m m (rd2 aE ac) aD) λa f=>q_p 6 17 Z f (λ_=>Bp (f.e Z)) λa f=>Ay 7 17 Z f Z λa f=> ?_
    have⟨aF,aG,aq⟩:=bind_some aq
    refine B9 (fuel':=0) (listed':= #[true,true,true,true,true,true,true,true,true,true,true,true,true,true,true,true,true]) (λa=>Fr a 34 [(1,v1),(2,(pb ad)),(5,(iv an)),(14,(.bool (decide (an<(x1.length:Int))))),(17,(.agg #[aa])),(18,v1),(19,(iv an)),(20,ay),(21,(iv aw)),(22,(.bool aC)),(23,(.bool (!aC))),(24,(.bool (!aC))),(33,(.bool aF))]) ?_ ?_
    ·intro a f
     refine A1 λaH w aI m=>Aa ?_
     rcases Af aq with⟨aJ,aq⟩|⟨aJ,aq⟩
     ·refine Al f Z aJ ?_
      refine Ae ?_
      refine Ac f Z λa f=>Aa ?_
      refine Am ?_
      have m:Mem W aH w H:=Mem.drop (H':=[ib ad 26 [aa]]) m
      obtain rfl:=sj aq
      obtain rfl:=ar _ rfl
      obtain rfl:=sj hd
      exact⟨[(.bool false)],f.g Z,f.d,_,[],(gt ah (gt au aI)),m,Z,Z⟩
     ·refine Aj f Z aJ ?_
      refine Ao ?_
      refine Aq ?_
      refine Ab f Z λa f=>Ak f Z Z AD λa f=>Ac f Z λa f=>Aa ?_
      obtain rfl:=sj aq
      exact⟨_,Z,_,Z,_,(gt au aI),f.k Z,m⟩
    ·intro aK
     rcases Af aG with⟨aL,aG⟩|⟨aL,aG⟩
     ·refine AF 8 17 Z f aL λa f=> ?_
      refine AF 9 17 Z f aL λa f=>AF 10 17 Z f aL λa f=>AF 11 17 Z f aL λa f=>AF 12 17 Z f aL λa f=>AF 13 17 Z f aL λa f=>AF 14 17 Z f aL λa f=>AF 15 17 Z f aL λa f=>q_p 16 17 Z f (λ_=>AK (f.e Z) aL (f.e Z)) λa f=> ?_
      obtain rfl:=sj aG
      exact aK _ (f.k Z)
     ·refine Ay (hw:=wo f aL) 8 17 Z f Z λa f=> ?_
      refine Ay (hw:=wo f aL) 9 17 Z f Z λa f=> ?_
      have⟨aM,aN,aG⟩:=bind_some aG
      refine Cv (i:=10) 17 T29 h1 aN Z (by kernel_rfl) Z f (Br f Z Z Z aL) Z Z (.inl ⟨Z,Z⟩) (.inr ⟨_,_,Z,Z⟩) λaO a aP f=>Ay (hw:=wo f aL) 11 17 Z f Z λa f=>Ay (hw:=wo f aL) 12 17 Z f Z λa f=> ?_
      have⟨aQ,aR,aG⟩:=bind_some aG
      refine Bs (hw:=wo f aL) 13 17 T29 h1 aR Z f Z Z λaS aT a aU aV f=> ?_
      subst aV
      refine Bq (hw:=wo f aL) 14 17 Pl2 aU Z f Z λa f=> ?_
      have⟨aW,aX,aG⟩:=bind_some aG
      refine BL (i:=15) 17 Z (by kernel_rfl) Z f (Br f Z Z Z aL) Z Z call32 (λ_ _ w aY m=>Wk.g m (rd1 aY aP) aX) λa f=>q_p 16 17 Z f (λ_=>AL (f.e Z) aL (f.e Z)) λa f=> ?_
      obtain rfl:=sj aG
      exact aK _ (f.k Z)
   ·refine Aj f Z av ?_
    refine AO Z ?_
    have m:Mem W ao w H:=Mem.drop (H':=[ib ad 26 [aa]]) m
    obtain rfl:=sj aq
    obtain rfl:=ar _ rfl
    exact⟨_,Z,_,au,f.weak trivial,m⟩
  ·rintro a w ⟨_,rfl,al,aZ,f,m⟩
   refine Ae ?_
   refine Ac f Z λa f=>Aa ?_
   refine Am ?_
   obtain rfl:=sj hd
   exact⟨[(.bool true)],f.g Z,f.d,_,[],(gt ah aZ),m,Z,Z⟩
theorem Wk.M0 {aa v1:Value}{ab:LL}{x1:LI}(m:Mem W G w (H))(ac:R2 G aa ab)(h1:R1 G v1 x1){y:Bool}(hd:D.M0 ab x1=some y):
  Calls prog 75 #[(.agg #[aa]),v1] w (Res W G H (λ_ Ho v=>Ho=[]∧v=(.bool y))):=by
 refine Aw (args:=[(.agg #[aa]),v1]) (N:=12) [.tmp 4] func75 Z Z (lb Z) Z λa f=> ?_
 unfold D.M0 at hd
 refine Ae ?_
 refine Bf (cs:=[aa]) m f Z Z Z λad w a m f=>Ac f Z λa f=>AG ?_
 refine Au 0 0 (ds:=[aa]) m AA f Z Z Z Z Z λa f=> ?_
 have⟨ae,af,hd⟩:=bind_some hd
 refine A4 f Z call10 (Wk.p m ac af) λag w ah m a f=> ?_
 have ac:=rd2 ah ac
 have h1:=rd1 ah h1
 refine Ab f Z λa f=> ?_
 have⟨ai,aj,hd⟩:=bind_some hd
 refine Be 4 (λa w=>∃ak,GLe ag ak∧Mem W ak w (ib ad 26 [aa]::H)∧Fr a 12 [(0,(.agg #[aa])),(1,v1),(2,(pb ad)),(5,(.agg #[aa])),(6,(.bool ae)),(7,(.bool ae)),(11,(.bool ai))]) ?_ ?_
 ·rcases Af aj with⟨al,aj⟩|⟨al,aj⟩
  ·refine Ar f al ?_
   refine Au 0 0 (ds:=[aa]) m AA f Z Z Z Z Z λa f=>Ar f al ?_
   refine Ab f Z λa f=>Ar f al ?_
   have⟨am,an,aj⟩:=bind_some aj
   refine A4 f Z call91 (Wk.c1 m ac h1 an) λao w ap m a f=>l_o f (AK (f.e Z) al (f.e Z)) λa f=> ?_
   obtain rfl:=sj aj
   exact⟨_,ap,m,f.k Z⟩
  ·refine As f al λa f=> ?_
   refine As f al λa f=>As f al λa f=>l_o f (AL (f.e Z) al (f.e Z)) λa f=> ?_
   obtain rfl:=sj aj
   exact⟨_,gr,m,f.k Z⟩
 ·rintro a w ⟨ak,aq,m,f⟩
  refine Ac f Z λa f=>Aa ?_
  refine Am ?_
  have m:Mem W ak w H:=Mem.drop (H':=[ib ad 26 [aa]]) m
  obtain rfl:=sj hd
  exact⟨[(.bool ai)],f.g Z,f.d,_,[],(gt ah aq),m,Z,Z⟩
end Go.Proofs.YtaddadondmaeaaaDoor
