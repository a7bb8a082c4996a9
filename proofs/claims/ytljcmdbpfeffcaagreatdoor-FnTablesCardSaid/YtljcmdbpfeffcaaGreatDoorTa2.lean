/- Parts. -/
import Derived.Test.YtljcmdbpfeffcaaGreatDoorTa1
import Derived.Lib.TrailingZeros
import Derived.Lib.AppendZeros
import Derived.ChangeKeysEq
import Derived.KernelRfl
import Derived.Test.YtljcmdbpfeffcaaGreatDoorProg
set_option linter.unusedVariables false
set_option linter.unusedSimpArgs false
set_option linter.unusedSectionVars false
namespace Go.Sx
theorem EW (n:Int):IntKind.u32.wrap n=n%4294967296:=by simp[IntKind.wrap,IntKind.signed,IntKind.bits]
def VS (s:Int):Prop:=0≤s∧s<4294967296
def has (s:Int)(v:Nat):Bool:=s.toNat.testBit v
theorem VS.nat {s:Int}(h:VS s):∃n:Nat,s=n∧n<4294967296:=⟨s.toNat,by have:=h.1;omega,by have:=h.1;have:=h.2;omega⟩
theorem VS.zero :VS 0:=⟨by omega,by omega⟩
theorem VS.wrap (n:Int):VS (IntKind.u32.wrap n):=by rw[EW];exact⟨by omega,by omega⟩
theorem B7 (n v:Nat):has (n:Int) v=n.testBit v:=by simp[has]
theorem Bv (v:Nat):has 0 v=false:=by simp[has]
theorem Ep (n:Nat)(h:n<4294967296):(BitVec.ofInt 32 (n:Int)).toNat=n:=by
 rw[BitVec.toNat_ofInt]
 omega
theorem ior_nat {a b:Nat}(ha:a<4294967296)(hb:b<4294967296):ior .u32 (a:Int) (b:Int)=((a|||b:Nat):Int):=by
 have hw:a|||b<4294967296:=Nat.or_lt_two_pow (n:=32) ha hb
 show IntKind.u32.wrap (((BitVec.ofInt 32 (a:Int)|||BitVec.ofInt 32 (b:Int)).toNat:Nat):Int)=_
 rw[BitVec.toNat_or,Ep a ha,Ep b hb,EW];omega
theorem EH {a b:Nat}(ha:a<4294967296)(hb:b<4294967296):iand .u32 (a:Int) (b:Int)=((a&&&b:Nat):Int):=by
 have hw:a&&&b<4294967296:=Nat.and_lt_two_pow (n:=32) _ hb
 show IntKind.u32.wrap (((BitVec.ofInt 32 (a:Int)&&&BitVec.ofInt 32 (b:Int)).toNat:Nat):Int)=_
 rw[BitVec.toNat_and,Ep a ha,Ep b hb,EW];omega
theorem VS.ior (a b:Int):VS (ior .u32 a b):=VS.wrap _
theorem VS.iand (a b:Int):VS (iand .u32 a b):=VS.wrap _
theorem VS.iandNot (a b:Int):VS (iandNot .u32 a b):=VS.wrap _
theorem VS.ishl (a b:Int):VS (ishl .u32 a b):=VS.wrap _
theorem CG {a b:Int}(ha:VS a)(hb:VS b)(v:Nat):has (ior .u32 a b) v=(has a v||has b v):=by
 obtain⟨m,rfl,hm⟩:=ha.nat;obtain⟨n,rfl,hn⟩:=hb.nat
 rw[ior_nat hm hn];simp only[B7,Nat.testBit_or]
theorem B8 {a b:Int}(ha:VS a)(hb:VS b)(v:Nat):has (iand .u32 a b) v=(has a v&&has b v):=by
 obtain⟨m,rfl,hm⟩:=ha.nat;obtain⟨n,rfl,hn⟩:=hb.nat
 rw[EH hm hn];simp only[B7,Nat.testBit_and]
theorem A8 {a b:Int}(ha:VS a)(hb:VS b)(v:Nat):has (iandNot .u32 a b) v=(has a v&& !has b v):=by
 obtain⟨m,rfl,hm⟩:=ha.nat;obtain⟨n,rfl,hn⟩:=hb.nat
 have e:iandNot .u32 (m:Int) (n:Int)=(((BitVec.ofInt 32 (m:Int)&&& ~~~(BitVec.ofInt 32 (n:Int))).toNat:Nat):Int):=by
  have hw:=(BitVec.ofInt 32 (m:Int)&&& ~~~(BitVec.ofInt 32 (n:Int))).isLt
  show IntKind.u32.wrap (((BitVec.ofInt 32 (m:Int)&&& ~~~(BitVec.ofInt 32 (n:Int))).toNat:Nat):Int)=_
  rw[EW];omega
 rw[e,B7,B7,B7]
 have h1:∀i,(BitVec.ofInt 32 (m:Int)).getLsbD i=m.testBit i:=λi=>by rw[BitVec.getLsbD,Ep m hm]
 have h2:∀i,(BitVec.ofInt 32 (n:Int)).getLsbD i=n.testBit i:=λi=>by rw[BitVec.getLsbD,Ep n hn]
 rw[←BitVec.getLsbD,BitVec.getLsbD_and,BitVec.getLsbD_not,h1,h2]
 by_cases hv:v<32
 ·simp[hv]
 ·have:m.testBit v=false:=Nat.testBit_lt_two_pow (Nat.lt_of_lt_of_le hm (Nat.pow_le_pow_right (n:=2) (by omega) (show 32≤v by omega)))
  simp[this]
theorem FX {a:Int}(ha:VS a){v:Nat}(hv:32≤v):has a v=false:=by
 obtain⟨m,rfl,hm⟩:=ha.nat
 rw[B7]
 exact Nat.testBit_lt_two_pow (Nat.lt_of_lt_of_le hm (Nat.pow_le_pow_right (n:=2) (by omega) hv))
theorem VS.ext {a b:Int}(ha:VS a)(hb:VS b)(h:∀v,v<32→has a v=has b v):a=b:=by
 have:∀v,has a v=has b v:=λv=>by
  by_cases hv:v<32
  ·exact h v hv
  ·rw[FX ha (by omega),FX hb (by omega)]
 obtain⟨m,rfl,hm⟩:=ha.nat;obtain⟨n,rfl,hn⟩:=hb.nat
 congr 1
 apply Nat.eq_of_testBit_eq
 intro v
 have:=this v
 rwa [B7,B7] at this
theorem VS.eq_zero {a:Int}(ha:VS a):a=0↔∀v,v<32→has a v=false:=
 ⟨λh v _=>by rw[h,Bv],λh=>ha.ext VS.zero (λv hv=>by rw[h v hv,Bv])⟩
theorem one_eq {v:Nat}(hv:v<32):ishl .u32 1 (v:Int)=((2^v:Nat):Int):=by
 have h:(2:Nat)^v<2^32:=Nat.pow_lt_pow_right (by omega) hv
 have h':(2:Nat)^32=4294967296:=by decide
 rw[h'] at h
 show IntKind.u32.wrap (1*2^(min ((v:Int)).toNat 32))=_
 rw[EW,show min ((v:Int)).toNat 32=v by simp;omega,Int.one_mul]
 have e:((2^v:Nat):Int)=(2:Int)^v:=by simp
 rw[←e]
 generalize 2^v=p at h ⊢
 omega
theorem BX {v:Nat}(hv:v<32)(u:Nat):has (ishl .u32 1 (v:Int)) u=decide (u=v):=by
 rw[one_eq hv,B7,Nat.testBit_two_pow]
 simp[eq_comm]
theorem shr_eq (s:Int)(v:Nat)(h:VS s)(hv:v<32):BZ .u32 s (v:Int)=((s.toNat>>>v:Nat):Int):=by
 obtain⟨m,rfl,hm⟩:=h.nat
 show Int.fdiv (m:Int) (2^(min ((v:Int)).toNat 32))=_
 rw[show min ((v:Int)).toNat 32=v by simp;omega]
 have e:((2^v:Nat):Int)=(2:Int)^v:=by simp
 rw[←e,Int.fdiv_eq_ediv_of_nonneg _ (Int.natCast_nonneg _),Nat.shiftRight_eq_div_pow]
 simp
theorem F8 {s:Int}{v:Nat}(h:VS s)(hv:v<32):(iand .u32 (BZ .u32 s (v:Int)) 1==1)=has s v:=by
 rw[shr_eq s v h hv]
 have hs:s.toNat>>>v<4294967296:=by
  obtain⟨m,rfl,hm⟩:=h.nat
  rw[Nat.shiftRight_eq_div_pow]
  exact Nat.lt_of_le_of_lt (Nat.div_le_self _ _) hm
 have:=EH hs (show (1:Nat)<4294967296 by omega)
 rw[show (1:Int)=((1:Nat):Int) from rfl,this,has,Nat.testBit]
 rw[Nat.and_comm]
 have h1:1&&&(s.toNat>>>v)=0∨1&&&(s.toNat>>>v)=1:=by
  rw[Nat.and_comm,Nat.and_one_is_mod];omega
 rcases h1 with e|e<;>rw[e]<;>rfl
def elems (s:Int):LI:=((List.range 32).filter (has s)).map Int.ofNat
theorem mem_elems {s:Int}{x:Int}:x∈elems s↔∃v:Nat,v<32∧has s v=true∧x=v:=by
 unfold elems
 rw[List.mem_map]
 constructor
 ·rintro⟨v,hv,rfl⟩
  rw[List.mem_filter,List.mem_range] at hv
  exact⟨v,hv.1,hv.2,rfl⟩
 ·rintro⟨v,h1,h2,rfl⟩
  exact⟨v,List.mem_filter.2 ⟨List.mem_range.2 h1,h2⟩,rfl⟩
theorem AT {s:Int}(h:VS s){v:Nat}:(v:Int)∈elems s↔has s v=true:=by
 rw[mem_elems]
 constructor
 ·rintro⟨u,_,h2,h3⟩;obtain rfl:v=u:=by omega
  exact h2
 ·intro h2
  refine⟨v,?_,h2,rfl⟩
  by_cases hv:v<32
  ·exact hv
  ·rw[FX h (by omega)] at h2;cases h2
theorem Ce (s:Int):(elems s).length≤32:=by
 unfold elems
 rw[List.length_map]
 exact Nat.le_trans (List.length_filter_le _ _) (by simp)
def Inc (l:LI):Prop:=l.Pairwise (·<·)
theorem BP (s:Int):Inc (elems s):=by
 unfold elems Inc
 rw[List.pairwise_map]
 refine List.Pairwise.filter _ ?_
 refine List.Pairwise.imp ?_ (List.pairwise_lt_range (n:=32))
 intro a b h
 show (a:Int)<(b:Int)
 omega
theorem Inc.ext :∀{l l':LI},Inc l→Inc l'→(∀x,x∈l↔x∈l')→l=l'
 |[],[],_,_,_=>rfl
 |[],y::l',_,_,h=>by have:=(h y).2 (by simp);simp at this
 |x::l,[],_,_,h=>by have:=(h x).1 (by simp);simp at this
 |x::l,y::l',h1,h2,h=>by
  have h1':=List.pairwise_cons.1 h1;have h2':=List.pairwise_cons.1 h2
  have e:x=y:=by
   rcases List.mem_cons.1 ((h x).1 (by simp)) with e|e
   ·exact e
   ·rcases List.mem_cons.1 ((h y).2 (by simp)) with e'|e'
    ·exact e'.symm
    ·have:=h2'.1 x e;have:=h1'.1 y e';omega
  subst e
  have:l=l':=by
   refine Inc.ext h1'.2 h2'.2 (λz=> ?_)
   constructor
   ·intro hz
    rcases List.mem_cons.1 ((h z).1 (List.mem_cons_of_mem _ hz)) with e|e
    ·have:=h1'.1 z hz;omega
    ·exact e
   ·intro hz
    rcases List.mem_cons.1 ((h z).2 (List.mem_cons_of_mem _ hz)) with e|e
    ·have:=h2'.1 z hz;omega
    ·exact e
  rw[this]
theorem least_spec {s:Int}(h:VS s)(h0:s≠0):∃k:Nat,k<32∧has s k=true∧(∀v,v<k→has s v=false)∧
  iand .u32 s (IntKind.u32.wrap (0-s))=((2^k:Nat):Int)∧(∀v,has (iand .u32 s (IntKind.u32.wrap (s-1))) v=(has s v&& !decide (v=k))):=by
 obtain⟨m,rfl,hm⟩:=h.nat
 have hm0:m≠0:=by omega
 obtain⟨q,hq,hk⟩:=Lib.ctzFrom_spec 32 m (by omega) hm
 have hc:Lib.ctz 32 m=Lib.ctzFrom 32 m:=by unfold Lib.ctz;rw[if_neg hm0]
 obtain⟨hl,_⟩:=Lib.lowest_bit 32 m hm0 hm
 rw[hc] at hl
 generalize Lib.ctzFrom 32 m=k at*
 have hpos:0<2^k:=Nat.pow_pos (by omega)
 have hb:∀v,m.testBit v=(decide (v≥k)&&(2*q+1).testBit (v-k)):=λv=>by rw[hq,Nat.mul_comm,Nat.testBit_mul_two_pow,Bool.and_comm]
 refine⟨k,hk,?_,λv hv=> ?_,?_,λv=> ?_⟩
 ·rw[B7,hb];simp
 ·rw[B7,hb];simp;intro hc;omega
 ·have e:IntKind.u32.wrap (0-(m:Int))=((4294967296-m:Nat):Int):=by rw[EW];omega
  rw[e,EH hm (by omega)]
  rw[←hl]
 ·have e:IntKind.u32.wrap ((m:Int)-1)=((m-1:Nat):Int):=by rw[EW];omega
  rw[e,EH hm (by omega),B7,B7,Nat.testBit_and]
  have hm1:m-1=2^k*(2*q)+(2^k-1):=by rw[hq,Nat.mul_add];omega
  have hb1:(m-1).testBit v=if v<k then true else(2*q).testBit (v-k):=by
   rw[hm1,Nat.testBit_two_pow_mul_add _ (by omega)]
   split
   ·rename_i hv;rw[Nat.testBit_two_pow_sub_one];simp[hv]
   ·rfl
  rw[hb1,hb]
  by_cases hv:v<k
  ·simp[hv];intro hc;omega
  ·rw[if_neg hv]
   by_cases hvk:v=k
   ·subst hvk;simp
   ·obtain⟨t,ht⟩:∃t,v-k=t+1:=⟨v-k-1,by omega⟩
    rw[ht,Nat.testBit_succ,Nat.testBit_succ]
    have e1:(2*q+1)/2=q:=by omega
    have e2:2*q/2=q:=by omega
    rw[e1,e2]
    simp[hvk]
theorem Hd {s t:Int}{k:Nat}(hk:k<32)(h1:has s k=true)(h2:∀v,v<k→has s v=false)(h3:∀v,has t v=(has s v&& !decide (v=k))):
  elems s=(k:Int)::elems t:=by
 refine Inc.ext (BP s) ?_ (λx=> ?_)
 ·refine List.pairwise_cons.2 ⟨λx hx=> ?_,BP t⟩
  obtain⟨v,hv,h4,rfl⟩:=mem_elems.1 hx
  rw[h3] at h4
  simp at h4
  by_cases hc:v<k
  ·rw[h2 v hc] at h4;simp at h4
  ·omega
 ·rw[List.mem_cons,mem_elems,mem_elems]
  constructor
  ·rintro⟨v,hv,h4,rfl⟩
   by_cases e:v=k
   ·left;omega
   ·right;exact⟨v,hv,by rw[h3,h4];simp[e],rfl⟩
  ·rintro(rfl|⟨v,hv,h4,rfl⟩)
   ·exact⟨k,hk,h1,rfl⟩
   ·rw[h3] at h4;simp at h4
    exact⟨v,hv,h4.1,rfl⟩
theorem Cr :elems 0=[]:=by
 unfold elems
 rw[List.filter_eq_nil_iff.2 (λv _=>by simp[Bv])];rfl
theorem tz_table :∀k:Nat,k<32→idx tab32 (BZ .u32 (IntKind.u32.wrap (((2^k:Nat):Int)*125613361)) 27)=some (k:Int):=by decide+kernel
abbrev ArM :=List ((Int×Int)×Int)
abbrev ArL :=List (Int×Int)
end Go.Sx

namespace Go.Sx
end Go.Sx

namespace Go.Sx
open Go
section
variable {P : Program} {ρ : Operand → Value} {w : World} {d : Option Tmp} {t : TypeId} {pos : String} {af : Array Edge} {gd : Option (Nat × Bool)}
end
end Go.Sx

namespace Go.Sx
end Go.Sx

namespace Go.Sx
end Go.Sx

namespace Go.Sx
open Go
def ai (x:Nat→Int)(j:Int):Option Int:=if 0≤j∧j<16 then some (x j.toNat) else none
section
variable {P : Program} {ρ : Operand → Value} {w : World} {d : Option Tmp} {t : TypeId} {pos : String} {af : Array Edge} {gd : Option (Nat × Bool)}
end
section
variable {P : Program} {ops : Array Oper} {rest : List Oper} {n r : AZ} {x : List (Nat × AZ)} {a : Act} {w : World} {N : Nat} {L : Bi}
variable {d : Nat} {t : TypeId} {pos : String} {af : Array Edge}
end
section
variable {P : Program} {ops : Array Oper} {nn r : AZ} {x : List (Nat × AZ)} {T : Act → World → Prop} {W : World} {G : GH} {E H : List Itm} {N : Nat} {L : Bi} {a : Act} {fuel : Nat} {listed listed' : Array Bool}
variable {t : TypeId} {pos : String} {af : Array Edge} {gd : Option (Nat × Bool)} {d i : Nat}
end
end Go.Sx

namespace Go.Sx
open IntKind
noncomputable def D.I0 (n:LI)(o p q:Int):Option (LL×LI×Int×Int):=
 (D.l n o p q).bind λb=>(D.l b.2.1 b.2.2.1 b.2.2.2 3).bind λc=>(Az (σ:=LL×Int×LI×Int×Int) (ρ:=(LL×LI×Int×Int)) (fun(g,d,h,i,j)=>cond (decide (d<(i64.wrap (1+b.1)))) ((Az (σ:=LL×Int×LI×Int×Int) (ρ:=(LL×LI×Int×Int)) (fun(f,e,k,l,m)=>cond (decide (e<d)) ((D.l k l m 4).bind λa=>cond (decide (a.1<(i64.wrap (1+c.1)))) ((AR f ([([e,d]:LI)]:LL)).bind λt=>some (.inl (t,(i64.wrap (e+1)),a.2.1,a.2.2.1,a.2.2.2))) (some (.inl (f,(i64.wrap (e+1)),a.2.1,a.2.2.1,a.2.2.2)))) (some (.inr (f,k,l,m)))) (g,0,h,i,j)).bind fun(u,v,w,x)=>some (.inl (u,(i64.wrap (d+1)),v,w,x))) (some (.inr (g,h,i,j)))) (([]:LL),1,c.2.1,c.2.2.1,c.2.2.2)).bind fun(y,z,aa,ab)=>(D.A0 (i64.wrap (1+b.1)) y).bind λac=>some (ac.1,z,aa,ab)
end Go.Sx

namespace Go.Sx
end Go.Sx

namespace Go.Sx
end Go.Sx

namespace Go.Sx
end Go.Sx

namespace Go.Sx
section
variable {P : Program} {ops : Array Oper} {rest : List Oper} {n r : AZ} {x : List (Nat × AZ)} {a : Act} {w w' W : World} {G : GH} {H : List Itm} {N : Nat} {L : Bi}
variable {d : Nat} {t : TypeId} {pos : String} {af : Array Edge}
end
end Go.Sx

namespace Go.Sx
section
variable {P : Program} {ops : Array Oper} {rest : List Oper} {n r : AZ} {x : List (Nat × AZ)} {a : Act} {w : World} {N : Nat} {L : Bi}
variable {W : World} {G : GH} {H : List Itm} {d : Nat} {t : TypeId} {pos : String} {af : Array Edge} {kt ft : TypeId} {f0 f1 : Field}
end
end Go.Sx

namespace Go.Sx
open IntKind
noncomputable def D.l0 (b:LI):Option (Int):=
 (Az (σ:=Int×Int) (ρ:=(Int)) (fun(c,a)=>cond (decide (a<(b.length:Int))) ((idx b a).bind λd=>cond (decide ((IntKind.u64.wrap d)<0)) none (some (.inl ((ior .i64 c (ishl .i64 1 (IntKind.u64.wrap d))),(i64.wrap (a+1)))))) (some (.inr c))) (0,0)).bind λf=>some f
end Go.Sx

namespace Go.Sx
end Go.Sx

namespace Go.Sx
noncomputable def D.t0 (a:LL):Option (Bool):=
 (D.r a).bind λb=>some (b&&(decide ((a.length:Int)≤8)))
open Go
section
variable {P : Program} {kt : TypeId} {f0 f1 : Field} {nt : TypeId} {g0 g1 : Field} {ut : TypeId} {i2 i3 : TypeInfo}
end
section
variable {P : Program} {kt : TypeId} {f0 f1 : Field} {nt : TypeId} {g0 g1 : Field} {ut : TypeId} {i2 i3 : TypeInfo}
end
section
variable {P : Program} {kt ft : TypeId} {w : World}
end
section
variable {P : Program} {ops : Array Oper} {rest : List Oper} {n r : AZ} {x : List (Nat × AZ)} {a : Act} {w : World} {N : Nat} {L : Bi}
variable {W : World} {G : GH} {H : List Itm} {d : Nat} {t : TypeId} {pos : String} {af : Array Edge} {kt ft : TypeId}
end
section
variable {P : Program} {ops : Array Oper} {nn r : AZ} {x : List (Nat × AZ)} {a : Act} {W : World} {T : Act → World → Prop} {H E : List Itm} {G : GH} {N fuel : Nat} {L : Bi} {listed listed' : Array Bool}
variable {i d : Nat} {t : TypeId} {pos : String} {af : Array Edge} {gd : Option (Nat × Bool)} {kt ft : TypeId}
end
end Go.Sx

namespace Go.Sx
open Go
def upd (i:Int)(n:Nat)(v c:Int):Int:=if i=(n:Int) then v else c
def updL (i v:Int):Nat→List Int→List Int
 |_,[]=>[]
 |n,c::cs=>upd i n v c::updL i v (n+1) cs
theorem updL_get (i v:Int):∀(n:Nat) (cs:List Int) (j:Nat),(updL i v n cs)[j]? =cs[j]?.map (λc=>if i=((n+j:Nat):Int) then v else c)
 |_,[],j=>by simp[updL]
 |n,c::cs,0=>by simp[updL,upd]
 |n,c::cs,j+1=>by
  rw[updL,List.getElem?_cons_succ,List.getElem?_cons_succ,updL_get i v (n+1) cs j,show n+1+j=n+(j+1) by omega]
theorem updL_set {i:Int}{y:Int}(v:Int){cs:List Int}(h:idx cs i=some y):updL i v 0 cs=cs.set i.toNat v:=by
 obtain⟨h0,h1,h2⟩:=Dg h
 apply List.ext_getElem?
 intro j
 rw[updL_get,List.getElem?_set]
 by_cases hj:i.toNat=j
 ·have:i=((0+j:Nat):Int):=by omega
  have hl:j<cs.length:=by omega
  rw[if_pos hj]
  simp[this,hl]
 ·have:¬i=((0+j:Nat):Int):=by omega
  rw[if_neg hj]
  simp only[this,if_false,Option.map_id']
theorem boxIx {k:IntKind}{A B:List Value}{cs:List Int}{i y:Int}(h:idx cs i=some y):(A++(cs.map (Value.int k)++B))[A.length+i.toNat]? =some (.int k y):=by
 obtain⟨h0,h1,h2⟩:=Dg h
 rw[List.getElem?_append_right (by omega),show A.length+i.toNat-A.length=i.toNat by omega,List.getElem?_append_left (by simp;omega),List.getElem?_map,h2]
 rfl
theorem boxUp {k:IntKind}{A B:List Value}{cs:List Int}{i y:Int}(v:Int)(h:idx cs i=some y):
  (A++(cs.map (Value.int k)++B)).take (A.length+i.toNat)++[.int k v]++(A++(cs.map (Value.int k)++B)).drop (A.length+i.toNat+[Value.int k v].length)=A++((updL i v 0 cs).map (Value.int k)++B):=by
 obtain⟨h0,h1,h2⟩:=Dg h
 rw[updL_set v h,List.take_append,List.drop_append,List.take_of_length_le (by omega),List.drop_of_length_le (by simp;omega)]
 simp only[Nat.add_sub_cancel_left,List.length_singleton,List.nil_append,List.append_assoc,show A.length+i.toNat+1-A.length=i.toNat+1 by omega]
 rw[List.take_append_of_le_length (by simp;omega),List.drop_append_of_le_length (by simp;omega),List.map_set,List.set_eq_take_append_cons_drop,if_pos (by simp;omega)]
 simp
theorem boxLe {k:IntKind}{A B:List Value}{cs:List Int}{i y v:Int}(h:idx cs i=some y):A.length+i.toNat+[Value.int k v].length≤(A++(cs.map (Value.int k)++B)).length:=by
 obtain⟨h0,h1,h2⟩:=Dg h
 simp;omega
section
variable {P : Program} {ρ : Operand → Value} {w : World} {d : Option Tmp} {t : TypeId} {pos : String} {af : Array Edge} {gd : Option (Nat × Bool)} {t' : TypeId}
theorem r_indexBox {u e m:Nat}{xo io:Operand}{b o:Nat}{k:IntKind}{j:Int}(hx:ρ xo= .pointer (some ⟨b,o,none⟩))(hi:ρ io= .int k j)(hu:P.underlying u=some (.array m e))(hz:∀w,(sizeOf e).run P w= .ok 1 w)(h0:0≤j)(h1:j<m):
  (execOp ρ ⟨d,.indexAddr u xo io,t,pos,af,gd⟩).run P w= .ok (.value (.pointer (some ⟨b,o+j.toNat,none⟩))) w:=by
 simp[execOp,hx,hi,Instr.indexAt,asIntOf,run_underlying hu,Instr.sureAddr,h0,h1,hz w,Co]
end
section
variable {P : Program} {ops : Array Oper} {rest : List Oper} {n r : AZ} {x : List (Nat × AZ)} {a : Act} {w : World} {N : Nat} {L : Bi}
variable {d : Nat} {t : TypeId} {pos : String} {af : Array Edge}
theorem l_boxElem {b o:Nat}{u e mm:Nat}{xo io:Operand}{k:IntKind}{j y:Int}{cs:List Int}(hu:P.underlying u=some (.array mm e))(hz:∀w,(sizeOf e).run P w= .ok 1 w)(hl:cs.length=mm)(hj:idx cs j=some y)(f:Fr a N L)(hN:Nat.blt d N=true)
  (hx:AU L xo=some (.pointer (some ⟨b,o,none⟩))) (hi:AU L io=some (.int k j))
  (q:∀a',Fr a' N ((d,.pointer (some ⟨b,o+j.toNat,none⟩))::L)→wpList P ops (Qk n x r) rest a' w):
  wpList P ops (Qk n x r) (⟨some d,.indexAddr u xo io,t,pos,af,none⟩::rest) a w:=by
 obtain⟨h0,h1,_⟩:=Dg hj
 exact Ct f rfl rfl hN (r_indexBox (f.eval hx) (f.eval hi) hu hz h0 (by omega)) q
end
section
variable {P : Program} {ops : Array Oper} {nn r : AZ} {x : List (Nat × AZ)} {T : Act → World → Prop} {W : World} {G : GH} {E H : List Itm} {N : Nat} {L : Bi} {a : Act} {fuel : Nat} {listed listed' : Array Bool}
variable {t : TypeId} {pos : String} {af : Array Edge} {gd : Option (Nat × Bool)} {d i : Nat}
theorem q_boxElem {b o:Nat}{u e mm:Nat}{xo io:Operand}{k0:IntKind}{j y:Int}{cs:List Int}(n:Nat)(hu:P.underlying u=some (.array mm e))(hz:∀w,(sizeOf e).run P w= .ok 1 w)(hl':cs.length=mm)(hj:idx cs j=some y)
  (hi:ops[i]? =some ⟨some d,.indexAddr u xo io,t,pos,af,gd⟩) (hck:Cu ops n fuel listed i=true) (hl:listed.setIfInBounds i true=listed') (f:Fr a N L)
  (hw:Region.wanted ⟨some d,.indexAddr u xo io,t,pos,af,gd⟩ (yielded ops a.tmps)=true) (hN:Nat.blt d N=true) (hx:AU L xo=some (.pointer (some ⟨b,o,none⟩))) (hio:AU L io=some (.int k0 j))
  (k:∀a',Fr a' N ((d,.pointer (some ⟨b,o+j.toNat,none⟩))::L)→AnyB W P ops (Qk nn x r) T H fuel G E listed' a'):AnyB W P ops (Qk nn x r) T H (fuel+1) G E listed a:=by
 obtain⟨h0,h1,_⟩:=Dg hj
 exact EC n hi hck hl f hw rfl hN (λ_ _ _ _ _=>r_indexBox (f.eval hx) (f.eval hio) hu hz h0 (by omega)) k
end
end Go.Sx

namespace Go.Sx
open Go
section
variable {P : Program} {ops : Array Oper} {rest : List Oper} {n r : AZ} {x : List (Nat × AZ)} {a : Act} {w : World} {N : Nat} {L : Bi}
variable {d : Nat} {t : TypeId} {pos : String} {af : Array Edge} {W : World} {G : GH} {H : List Itm} {α : Type} {E : Rec α}
end
end Go.Sx

namespace Go.Sx
end Go.Sx

namespace Go.Sx
open IntKind
noncomputable def D.D0 (g:LI)(h i:Int)(j:LL):Option (LI×LI×Int×Int):=
 (Az (σ:=LI×Int×LI×Int×Int) (ρ:=(LI×LI×Int×Int)) (fun(b,c,d,e,f)=>cond (decide (c<(j.length:Int))) ((D.l d e f (i64.wrap (c+1))).bind λa=>(Di b 0 a.1).bind λl=>(AR ([]:LI) l).bind λm=>(AR m ([c]:LI)).bind λn=>(Di b a.1 (b.length:Int)).bind λo=>(AR n o).bind λp=>some (.inl (p,(i64.wrap (c+1)),a.2.1,a.2.2.1,a.2.2.2))) (some (.inr (b,d,e,f)))) (([]:LI),0,g,h,i)).bind fun(q,r,s,t)=>some (q,r,s,t)
end Go.Sx

namespace Go.Sx
open Go
structure KeyE (P:Program)(kt:TypeId){K:Type}(enc:K→Value):Prop where
 inj:∀a b,enc a=enc b→a=b
 check:∀(em:Bool) (x:K) (w:World),(Instr.checkKey em 10000 kt (enc x)).run P w= .ok () w
 find:∀(x:K) (w:World) (es:List MapEntry) (M:List (K×Int)),es.map (λe=>(e.key,e.val))=M.map (λkv=>(enc kv.1,Value.int .i64 kv.2))→
  ((Instr.findKey kt (enc x) es).run P w= .ok none w∧∀kv∈M,kv.1≠x)∨∃j kv,(Instr.findKey kt (enc x) es).run P w= .ok (some (j,.int .i64 kv.2)) w∧M[j]? =some kv∧kv.1=x
 stays:∀(x:K) (w:World),(Instr.keyThatStays (enc x) (enc x)).run P w= .ok (enc x) w
abbrev AJ :Type:=Int→Option Int
def Bn (x:Int):Value:= .int .u32 x
theorem mfT :True:=trivial
def mf0 {K:Type}:K→Option Int:=λ_=>none
def BN {K:Type}[DecidableEq K](F:K→Option Int)(k:K)(y:Int):K→Option Int:=λx=>if x=k then some y else F x
theorem KeyE.u32 {P:Program}{kt:TypeId}(hu:P.underlying kt=some (.int .u32)):KeyE P kt Bn:=by
 refine⟨λa b h=>by simpa [Bn] using h,λem x w=>run_check hu em x,λx w es M h=> ?_,λx w=>run_stays _ _⟩
 rcases find_now (β:=Int) (enc:=λy=>Value.int .i64 y) x es M 0 h with⟨h1,h2⟩|⟨j,kv,h1,h2,h3⟩
 ·exact .inl ⟨run_find hu h1,h2⟩
 ·exact .inr ⟨j,kv,by rw[Bn,run_find hu h1,Nat.zero_add],h2,h3⟩
section
variable {P : Program} {kt ft : TypeId} {f0 f1 : Field}
theorem G8 {K:Type}[DecidableEq K]{enc:K→Value}(heq:∀a b w,(Op.equal kt (enc a) (enc b)).run P w= .ok (decide (a=b)) w)(x:K)(w:World):∀(es:List MapEntry) (M:List (K×Int)) (i:Nat),es.map (λe=>(e.key,e.val))=M.map (λkv=>(enc kv.1,Value.int .i64 kv.2))→
  ((Instr.findAsking kt (enc x) es i).run P w= .ok none w∧∀kv∈M,kv.1≠x)∨∃j kv,(Instr.findAsking kt (enc x) es i).run P w= .ok (some (i+j,.int .i64 kv.2)) w∧M[j]? =some kv∧kv.1=x
 |[],M,i,h=>by
  have:M=[]:=by simpa using h.symm
  subst this
  exact .inl ⟨by simp[Instr.findAsking],by simp⟩
 |e::es,[],i,h=>by simp at h
 |e::es,kv::M,i,h=>by
  simp only[List.map_cons,List.cons.injEq,Prod.mk.injEq] at h
  obtain⟨⟨h1,h2⟩,h3⟩:=h
  unfold Instr.findAsking
  rw[h1]
  simp only[Sem.run_bind,heq,Result.andThen_ok]
  by_cases hx:x=kv.1
  ·rw[decide_eq_true hx]
   exact .inr ⟨0,kv,by simp[h2],rfl,hx.symm⟩
  ·rw[decide_eq_false hx]
   rcases G8 heq x w es M (i+1) h3 with⟨h4,h5⟩|⟨j,kv',h4,h5,h6⟩
   ·refine .inl ⟨by simpa using h4,λz hz=> ?_⟩
    rcases List.mem_cons.1 hz with rfl|hz
    ·exact λe=>hx e.symm
    ·exact h5 z hz
   ·exact .inr ⟨j+1,kv',by simp only[Bool.false_eq_true,if_false,h4];congr 3;omega,by simpa using h5,h6⟩
end
def MapIs {K:Type}(enc:K→Value)(es:Array MapEntry)(clock:Nat)(F:K→Option Int):Prop:=
 ∃M:List (K×Int),es.toList.map (λe=>(e.key,e.val))=M.map (λkv=>(enc kv.1,Value.int .i64 kv.2))∧(M.map (·.1)).Nodup∧(∀k y,F k=some y↔(k,y)∈M)∧
  (∀e∈es.toList,e.born<clock)∧(es.toList.map (·.born)).Nodup
def OwMf {K:Type}(enc:K→Value)(_:GH)(it:Itm)(v:Value)(F:K→Option Int):Prop:=
 ∃(b:Nat) (es:Array MapEntry) (clock:Nat),it= .obj b (.map es clock)∧v= .map (some b)∧MapIs enc es clock F
def RMf {K:Type}(enc:K→Value):Rep (K→Option Int):=λG v F=>
 (v= .map none∧F=mf0)∨∃(b:Nat) (es:Array MapEntry) (clock:Nat),v= .map (some b)∧G b=some (.map es clock)∧MapIs enc es clock F
section
variable {K : Type} {enc : K → Value} {G G' : GH} {it : Itm} {v : Value} {F : K → Option Int}
theorem OwMf.mono (_:True)(_:GLe G G')(o:OwMf enc G it v F):OwMf enc G' it v F:=o
theorem RMf.mono (_:True):E5 (RMf enc):=by
 rintro G G' v F hG (h|⟨b,es,clock,h1,h2,h3⟩)
 ·exact .inl h
 ·exact .inr ⟨b,es,clock,h1,hG _ _ h2,h3⟩
theorem RMf.one (enc:K→Value):One (RMf enc):=by
 rintro G v F (⟨rfl,_⟩|⟨b,es,clock,rfl,_⟩)<;>exact⟨rfl,rfl⟩
theorem OwMf.stamp {W w:World}{H:List Itm}(_:True)(h:OwMf enc G it v F)(m:Mem W G w (it::H)):∃G',GLe G G'∧Mem W G' w H∧RMf enc G' v F:=by
 obtain⟨G',h1,h2,h3,_⟩:=m.stamp
 obtain⟨b,es,clock,rfl,rfl,hM⟩:=h
 refine⟨G',h1,h2,.inr ⟨b,es,clock,rfl,?_,hM⟩⟩
 rw[h3 b (by simp[Itm.foot])]
 exact m.items 0 _ rfl
theorem MapIs.nil (enc:K→Value):MapIs enc #[] 0 mf0:=⟨[],rfl,by simp,λk y=>by simp[mf0],by simp,by simp⟩
theorem mem_get {M:List (K×Int)}(hn:(M.map (·.1)).Nodup){k:K}{y y':Int}(h:(k,y)∈M)(h':(k,y')∈M):y=y':=by
 induction M with
 |nil=>cases h
 |cons e M ih=>
  rw[List.map_cons,List.nodup_cons] at hn
  have n1:∀z,(e.1,z)∈M→False:=λz hz=>hn.1 (List.mem_map.2 ⟨_,hz,rfl⟩)
  rcases List.mem_cons.1 h with p|p<;>rcases List.mem_cons.1 h' with q|q
  ·rw[←q] at p;exact(Prod.mk.inj p).2
  ·exact(n1 y' (by rw[←p];exact q)).elim
  ·exact(n1 y (by rw[←q];exact p)).elim
  ·exact ih hn.2 p q
end
section
variable {P : Program} {K : Type} [DecidableEq K] {enc : K → Value} {kt : TypeId} {F : K → Option Int} {w : World}
omit [DecidableEq K] in
theorem MapIs.find (k:KeyE P kt enc){es:Array MapEntry}{clock:Nat}(h:MapIs enc es clock F)(x:K)(w:World):
  (F x=none∧(Instr.findKey kt (enc x) es.toList).run P w= .ok none w)∨∃j y,F x=some y∧(Instr.findKey kt (enc x) es.toList).run P w= .ok (some (j,.int .i64 y)) w∧(es[j]?).map (·.key)=some (enc x):=by
 obtain⟨M,hM,hn,hF,_⟩:=h
 rcases k.find x w es.toList M hM with⟨h1,h2⟩|⟨j,kv,h1,h2,h3⟩
 ·refine .inl ⟨?_,h1⟩
  cases hx:F x with
  |none=>rfl
  |some y=>exact absurd rfl (h2 _ ((hF x y).1 hx))
 ·refine .inr ⟨j,kv.2,(hF _ _).2 (by rw[←h3];exact List.mem_of_getElem? h2),h1,?_⟩
  have hA:=congrArg (λl=>l[j]?) hM
  simp only[List.getElem?_map,h2,Option.map_some,Array.getElem?_toList] at hA
  cases hE:es[j]? with
  |none=>rw[hE] at hA;simp at hA
  |some e=>
   rw[hE] at hA
   simp only[Option.map_some,Option.some.injEq,Prod.mk.injEq] at hA
   rw[Option.map_some,hA.1,h3]
theorem run_lookMf (k:KeyE P kt enc){mt ft:TypeId}{b:Nat}{es:Array MapEntry}{clock:Nat}(ht:P.underlying mt=some (.map kt ft))(hz:∀w,(zeroValue ft).run P w= .ok (.int .i64 0) w)
  (hg:w.heap[b]? =some (.map es clock)) (h:MapIs enc es clock F) (i:K) (ok:Bool):
  (Instr.lookup mt (.map (some b)) (enc i) ok).run P w= .ok (if ok then .tuple #[.int .i64 ((F i).getD 0),.bool (F i).isSome] else .int .i64 ((F i).getD 0)) w:=by
 rcases h.find k i w with⟨h1,h2⟩|⟨j,y,h1,h2,_⟩
 ·simp[Instr.lookup,run_underlying ht,run_map hg,k.check,h1,h2,hz w]
 ·simp[Instr.lookup,run_underlying ht,run_map hg,k.check,h1,h2]
theorem MapIs.put {es:Array MapEntry}{clock:Nat}(h:MapIs enc es clock F)(i:K)(y:Int)(hno:F i=none):MapIs enc (es.push {key:=enc i,val:= .int .i64 y,born:=clock}) (clock+1) (BN F i y):=by
 obtain⟨M,hM,hn,hF,hb,hd⟩:=h
 refine⟨M++[(i,y)],by simp[hM],?_,λk z=> ?_,λe hm=> ?_,?_⟩
 ·rw[List.map_append,List.nodup_append]
  refine⟨hn,by simp,λp hp q hq=> ?_⟩
  obtain⟨e,he,rfl⟩:=List.mem_map.1 hp
  simp at hq
  rintro rfl
  have:=(hF e.1 e.2).2 he
  rw[hq,hno] at this
  cases this
 ·unfold BN
  rw[List.mem_append,List.mem_singleton]
  split
  ·rename_i e;subst e
   constructor
   ·intro e;cases e;exact .inr rfl
   ·rintro(e|e)
    ·rw[(hF k z).2 e] at hno;cases hno
    ·rw[(Prod.mk.inj e).2]
  ·rename_i e
   rw[hF]
   constructor
   ·exact .inl
   ·rintro(h|h)
    ·exact h
    ·exact absurd (Prod.mk.inj h).1 e
 ·rw[Array.toList_push,List.mem_append] at hm
  rcases hm with hm|hm
  ·have:=hb e hm;omega
  ·simp at hm;subst hm;simp
 ·rw[Array.toList_push,List.map_append,List.nodup_append]
  refine⟨hd,by simp,λp hp q hq=> ?_⟩
  obtain⟨e,hm,rfl⟩:=List.mem_map.1 hp
  simp at hq
  have:=hb e hm
  omega
theorem modify_same {es:Array MapEntry}{j:Nat}(f:MapEntry→MapEntry)(hf:∀e,(f e).born=e.born):(es.modify j f).toList.map (·.born)=es.toList.map (·.born):=by
 refine List.ext_getElem? λp=> ?_
 simp only[List.getElem?_map,Array.getElem?_toList,Array.getElem?_modify]
 split
 ·cases es[p]? with
  |none=>rfl
  |some e=>simp[hf]
 ·rfl
theorem MapIs.set {es:Array MapEntry}{clock:Nat}(h:MapIs enc es clock F)(hinj:∀a b,enc a=enc b→a=b)(i:K)(y:Int){j:Nat}(hj:(es[j]?).map (·.key)=some (enc i)):
  MapIs enc (es.modify j λe=>{e with key:=enc i,val:= .int .i64 y}) clock (BN F i y):=by
 obtain⟨M,hM,hn,hF,hb,hd⟩:=h
 have hbn:=modify_same (es:=es) (j:=j) (λe=>{e with key:=enc i,val:= .int .i64 y}) (λ_=>rfl)
 have hlen:es.toList.length=M.length:=by have:=congrArg List.length hM;simpa using this
 obtain⟨z,hz⟩:∃z,M[j]? =some (i,z):=by
  have hA:=congrArg (λl=>l[j]?) hM
  simp only[List.getElem?_map,Array.getElem?_toList] at hA
  cases hE:es[j]? with
  |none=>rw[hE] at hj;cases hj
  |some e=>
   rw[hE] at hA hj
   cases hMj:M[j]? with
   |none=>rw[hMj] at hA;cases hA
   |some kv=>
    rw[hMj] at hA
    simp only[Option.map_some,Option.some.injEq,Prod.mk.injEq] at hA hj
    refine⟨kv.2,?_⟩
    rw[←hinj _ _ (hA.1.symm.trans hj)]
 have hjl:j<M.length:=(List.getElem?_eq_some_iff.1 hz).1
 have hks:(M.set j (i,y)).map (·.1)=M.map (·.1):=by
  refine List.ext_getElem? λp=> ?_
  simp only[List.getElem?_map,List.getElem?_set]
  split
  ·rename_i e;subst e
   simp only[if_pos hjl,hz];rfl
  ·rfl
 refine⟨M.set j (i,y),?_,by rw[hks];exact hn,λk x=> ?_,λe he=> ?_,by rw[hbn];exact hd⟩
 ·refine List.ext_getElem? λp=> ?_
  have hA:=congrArg (λl=>l[p]?) hM
  simp only[List.getElem?_map,Array.getElem?_toList] at hA
  simp only[List.getElem?_map,Array.getElem?_toList,Array.getElem?_modify,List.getElem?_set]
  by_cases hp:j=p
  ·subst hp
   rw[if_pos rfl,if_pos rfl,if_pos hjl]
   have:j<es.size:=by rw[←hlen] at hjl;simpa using hjl
   simp[this]
  ·rw[if_neg hp,if_neg hp]
   exact hA
 ·unfold BN
  have hzm:(i,z)∈M:=List.mem_of_getElem? hz
  have hym:(i,y)∈M.set j (i,y):=by
   refine List.mem_iff_getElem?.2 ⟨j,?_⟩
   rw[List.getElem?_set,if_pos rfl,if_pos hjl]
  split
  ·rename_i e;subst e
   constructor
   ·intro e;cases e;exact hym
   ·intro e
    rw[mem_get (M:=M.set j (k,y)) (by rw[hks];exact hn) e hym]
  ·rename_i e
   rw[hF]
   constructor
   ·intro hm
    obtain⟨p,hp⟩:=List.mem_iff_getElem?.1 hm
    refine List.mem_iff_getElem?.2 ⟨p,?_⟩
    rw[List.getElem?_set,if_neg,hp]
    rintro rfl
    rw[hz] at hp
    exact e (Prod.mk.inj (Option.some.inj hp)).1.symm
   ·intro hm
    rcases List.mem_or_eq_of_mem_set hm with h|h
    ·exact h
    ·exact absurd (Prod.mk.inj h).1 e
 ·have:e.born∈es.toList.map (·.born):=by rw[←hbn];exact List.mem_map.2 ⟨e,he,rfl⟩
  obtain⟨e',h1,h2⟩:=List.mem_map.1 this
  rw[←h2];exact hb e' h1
theorem run_putMf (k:KeyE P kt enc){mt ft:TypeId}{b:Nat}{es:Array MapEntry}{clock:Nat}(ht:P.underlying mt=some (.map kt ft))(hg:w.heap[b]? =some (.map es clock))(h:MapIs enc es clock F)(i:K)(y:Int):
  ∃es' clock',(Instr.mapUpdate mt (.map (some b)) (enc i) (.int .i64 y)).run P w= .ok () {w with heap:=w.heap.setIfInBounds b (.map es' clock')}∧MapIs enc es' clock' (BN F i y):=by
 rcases h.find k i w with⟨h1,h2⟩|⟨j,z,h1,h2,h3⟩
 ·refine⟨_,_,?_,h.put i y h1⟩
  simp[Instr.mapUpdate,run_underlying ht,run_map hg,k.check,h2,run_setMap hg]
 ·have h4:((es[j]?).map (·.key)).getD (enc i)=enc i:=by rw[h3];rfl
  refine⟨es.modify j λe=>{e with key:=enc i,val:= .int .i64 y},clock,?_,h.set k.inj i y h3⟩
  simp only[Instr.mapUpdate]
  simp[run_underlying ht,run_map hg,k.check,h2,h4,k.stays,run_setMap hg]
end
section
variable {P : Program} {ops : Array Oper} {rest : List Oper} {n r : AZ} {x : List (Nat × AZ)} {a : Act} {w : World} {N : Nat} {L : Bi}
variable {W : World} {G : GH} {H : List Itm} {d : Nat} {t : TypeId} {pos : String} {af : Array Edge} {kt ft : TypeId} {K : Type} {enc : K → Value}
theorem Ds (enc:K→Value){mt:TypeId}(m:Mem W G w H)(f:Fr a N L)(hN:Nat.blt d N=true)
  (k:∀it v w' a',Mem W G w' (it::H)→OwMf enc G it v mf0→Fr a' N ((d,v)::L)→wpList P ops (Qk n x r) rest a' w'):
  wpList P ops (Qk n x r) (⟨some d,.makeMap mt none,t,pos,af,none⟩::rest) a w:=
 Ct f rfl rfl hN r_makeMap (λa' f'=>k (.obj w.heap.size (.map #[] 0)) _ _ a' (m.add rfl rfl rfl (λy hy=>by first|exact heap_alloc_old w _ y hy|exact heap_alloc_old w _ hy) (heap_alloc_new w _) (λy hy=>by simp[Itm.foot] at hy;omega)) ⟨_,_,_,rfl,rfl,MapIs.nil _⟩ f')
variable [DecidableEq K]
theorem l_lookMf (ke:KeyE P kt enc){it:Itm}{v:Value}{F:K→Option Int}{mt:TypeId}{xo ko:Operand}{i:K}{ok:Bool}(j:Nat)(m:Mem W G w H)(h:OwMf enc G it v F)(hj:H[j]? =some it)
  (ht:P.underlying mt=some (.map kt ft)) (hz:∀w,(zeroValue ft).run P w= .ok (.int .i64 0) w) (f:Fr a N L) (hN:Nat.blt d N=true) (hx:AU L xo=some v) (hk:AU L ko=some (enc i))
  (k:∀a',Fr a' N ((d,if ok then .tuple #[.int .i64 ((F i).getD 0),.bool (F i).isSome] else .int .i64 ((F i).getD 0))::L)→wpList P ops (Qk n x r) rest a' w):
  wpList P ops (Qk n x r) (⟨some d,.lookup mt xo ko ok,t,pos,af,none⟩::rest) a w:=by
 obtain⟨b,es,clock,rfl,rfl,he⟩:=h
 have hg:w.heap[b]? =some (.map es clock):=m.items j _ hj
 refine Ct f rfl rfl hN ?_ k
 simp only[execOp,f.eval hx,f.eval hk,Sem.run_bind,run_lookMf ke ht hz hg he i ok,Result.andThen_ok]
 rfl
theorem l_lookRMf (ke:KeyE P kt enc){v:Value}{F:K→Option Int}{mt:TypeId}{xo ko:Operand}{i:K}{ok:Bool}(m:Mem W G w H)(h:RMf enc G v F)
  (ht:P.underlying mt=some (.map kt ft)) (hz:∀w,(zeroValue ft).run P w= .ok (.int .i64 0) w) (f:Fr a N L) (hN:Nat.blt d N=true) (hx:AU L xo=some v) (hk:AU L ko=some (enc i))
  (k:∀a',Fr a' N ((d,if ok then .tuple #[.int .i64 ((F i).getD 0),.bool (F i).isSome] else .int .i64 ((F i).getD 0))::L)→wpList P ops (Qk n x r) rest a' w):
  wpList P ops (Qk n x r) (⟨some d,.lookup mt xo ko ok,t,pos,af,none⟩::rest) a w:=by
 refine Ct f rfl rfl hN ?_ k
 rcases h with⟨rfl,rfl⟩|⟨b,es,clock,rfl,h2,h3⟩
 ·have h1:(Instr.findKey kt (enc i) []).run P w= .ok none w:=by
   rcases ke.find i w [] [] rfl with⟨h,_⟩|⟨j,kv,_,h,_⟩
   ·exact h
   ·simp at h
  have:(Instr.lookup mt (.map none) (enc i) ok).run P w= .ok (if ok then .tuple #[.int .i64 0,.bool false] else .int .i64 0) w:=by
   simp[Instr.lookup,run_underlying ht,ke.check,h1,hz w]
  simp only[execOp,f.eval hx,f.eval hk,Sem.run_bind,this,Result.andThen_ok]
  rfl
 ·simp only[execOp,f.eval hx,f.eval hk,Sem.run_bind,run_lookMf ke ht hz (m.sealed _ _ h2) h3 i ok,Result.andThen_ok]
  rfl
theorem Gy (ke:KeyE P kt enc){it:Itm}{v:Value}{F:K→Option Int}{mt:TypeId}{xo ko:Operand}{i:K}(j:Nat)(m:Mem W G w H)(h:OwMf enc G it v F)(hj:H[j]? =some it)
  (ht:P.underlying mt=some (.map kt ft)) (hz:∀w,(zeroValue ft).run P w= .ok (.int .i64 0) w) (f:Fr a N L) (hN:Nat.blt d N=true) (hx:AU L xo=some v) (hk:AU L ko=some (enc i))
  (k:∀a',Fr a' N ((d,.tuple #[.int .i64 ((F i).getD 0),.bool (F i).isSome])::L)→wpList P ops (Qk n x r) rest a' w):
  wpList P ops (Qk n x r) (⟨some d,.lookup mt xo ko true,t,pos,af,none⟩::rest) a w:=l_lookMf (ok:=true) ke j m h hj ht hz f hN hx hk k
theorem Gd (ke:KeyE P kt enc){v:Value}{F:K→Option Int}{mt:TypeId}{xo ko:Operand}{i:K}(m:Mem W G w H)(h:RMf enc G v F)
  (ht:P.underlying mt=some (.map kt ft)) (hz:∀w,(zeroValue ft).run P w= .ok (.int .i64 0) w) (f:Fr a N L) (hN:Nat.blt d N=true) (hx:AU L xo=some v) (hk:AU L ko=some (enc i))
  (k:∀a',Fr a' N ((d,.int .i64 ((F i).getD 0))::L)→wpList P ops (Qk n x r) rest a' w):
  wpList P ops (Qk n x r) (⟨some d,.lookup mt xo ko false,t,pos,af,none⟩::rest) a w:=l_lookRMf (ok:=false) ke m h ht hz f hN hx hk k
theorem OwMf.upd (ke:KeyE P kt enc){it:Itm}{v:Value}{F:K→Option Int}{mt:TypeId}(j:Nat)(m:Mem W G w H)(h:OwMf enc G it v F)(hj:H[j]? =some it)(ht:P.underlying mt=some (.map kt ft))(i:K)(y:Int):
  ∃it' w',(Instr.mapUpdate mt v (enc i) (.int .i64 y)).run P w= .ok () w'∧Mem W G w' (H.set j it')∧OwMf enc G it' v (BN F i y):=by
 obtain⟨b,es,clock,rfl,rfl,he⟩:=h
 have hg:w.heap[b]? =some (.map es clock):=m.items j _ hj
 have hlt:b<w.heap.size:=(Array.getElem?_eq_some_iff.1 hg).1
 obtain⟨es',clock',h1,h2⟩:=run_putMf ke ht hg he i y
 exact⟨.obj b (.map es' clock'),_,h1,m.changeAt j hj rfl rfl rfl (λy _ hy=>by
   have:y≠b:=λe=>hy (by rw[e];simp[Itm.foot])
   simp[Ne.symm this]) (by simp[Itm.ok,hlt]) (λy hy=> .inl hy),b,es',clock',rfl,rfl,h2⟩
theorem Fg (ke:KeyE P kt enc){it:Itm}{v:Value}{F:K→Option Int}{mt:TypeId}{xo ko vo:Operand}{i:K}{y:Int}(j:Nat)(m:Mem W G w H)(h:OwMf enc G it v F)(hj:H[j]? =some it)
  (ht:P.underlying mt=some (.map kt ft)) (f:Fr a N L) (hx:AU L xo=some v) (hk:AU L ko=some (enc i)) (hv:AU L vo=some (.int .i64 y))
  (k:∀it' w',Mem W G w' (H.set j it')→OwMf enc G it' v (BN F i y)→wpList P ops (Qk n x r) rest a w'):
  wpList P ops (Qk n x r) (⟨none,.mapUpdate mt xo ko vo,t,pos,af,none⟩::rest) a w:=by
 obtain⟨it',w',h1,m',h'⟩:=h.upd ke j m hj ht i y
 refine l_void rfl rfl ?_ (k it' w' m' h')
 simp only[execOp,f.eval hx,f.eval hk,f.eval hv,Sem.run_bind,h1,Result.andThen_ok]
 rfl
theorem En (ke:KeyE P kt enc){it:Itm}{v:Value}{F:K→Option Int}{mt:TypeId}{xo ko vo:Operand}{i:K}{y:Int}(j:Nat)(m:Mem W G w H)(h:OwMf enc G it v F)(hj:H[j]? =some it)
  (ht:P.underlying mt=some (.map kt ft)) (f:Fr a N L) (hx:AU L xo=some v) (hk:AU L ko=some (enc i)) (hv:AU L vo=some (.int .i64 y))
  (k:∀it' w',Mem W G w' (H.set j it')→OwMf enc G it' v (BN F i y)→wpList P ops (Qk n x r) rest a w'):
  wpList P ops (Qk n x r) (⟨none,.insert mt xo ko vo,t,pos,af,none⟩::rest) a w:=by
 obtain⟨it',w',h1,m',h'⟩:=h.upd ke j m hj ht i y
 refine l_void rfl rfl ?_ (k it' w' m' h')
 simp only[execOp,f.eval hx,f.eval hk,f.eval hv,Sem.run_bind,h1,Result.andThen_ok]
 rfl
end
def Enum {K:Type}(F:K→Option Int)(l:List (K×Int)):Prop:=(l.map (·.1)).Nodup∧∀k y,F k=some y↔(k,y)∈l
theorem Enum.perm {K:Type}{F:K→Option Int}{l l':List (K×Int)}(h:Enum F l)(p:l'.Perm l):Enum F l':=
 ⟨(p.map _).nodup_iff.2 h.1,λk y=>by rw[h.2,p.mem_iff]⟩
def Ex {K σ:Type}(body:K×Int→σ→Option σ):List (K×Int)→σ→Option σ
 |[],s=>some s
 |e::l,s=>(body e s).bind (Ex body l)
open Classical in
noncomputable def BU {K σ:Type}(F:K→Option Int)(body:K×Int→σ→Option σ)(s:σ):Option σ:=
 if h:∃s',∀l,Enum F l→Ex body l s=some s' then some h.choose else none
theorem rangeF_spec {K σ:Type}{F:K→Option Int}{body:K×Int→σ→Option σ}{s s':σ}(h:BU F body s=some s'):∀l,Enum F l→Ex body l s=some s':=by
 unfold BU at h
 split at h
 ·rename_i hh
  cases h
  exact hh.choose_spec
 ·cases h
theorem rangeF_eq {K σ:Type}{F:K→Option Int}{body:K×Int→σ→Option σ}{s s':σ}{l₀:List (K×Int)}(h0:Enum F l₀)(h:∀l,Enum F l→Ex body l s=some s'):BU F body s=some s':=by
 unfold BU
 have hh:∃s',∀l,Enum F l→Ex body l s=some s':=⟨s',h⟩
 rw[dif_pos hh]
 have:=hh.choose_spec l₀ h0
 rw[h l₀ h0] at this
 exact this.symm
theorem CF {K σ:Type}{body:K×Int→σ→Option σ}{s q:σ}{rs:List (K×Int)}(h:∀l,l.Perm rs→Ex body l s=some q)(hz:rs=[]):s=q:=by
 have:=h [] (by rw[hz])
 exact Option.some.inj this
theorem Ck {K σ:Type}{body:K×Int→σ→Option σ}{s q:σ}{rs rs':List (K×Int)}{e:K×Int}(h:∀l,l.Perm rs→Ex body l s=some q)(hp:rs.Perm (e::rs')):
  ∃s1,body e s=some s1∧∀l,l.Perm rs'→Ex body l s1=some q:=by
 have h1:=h (e::rs') hp.symm
 obtain⟨s1,h2,h3⟩:=bind_some h1
 refine⟨s1,h2,λl hl=> ?_⟩
 have h4:=h (e::l) ((List.Perm.cons e hl).trans hp.symm)
 obtain⟨s2,h5,h6⟩:=bind_some h4
 rw[h2] at h5;cases h5
 exact h6
theorem CO {K:Type}{rs rs':List (K×Int)}{e:K×Int}(hp:rs.Perm (e::rs')):rs'.length<rs.length:=by
 rw[hp.length_eq];simp
theorem C9 {P:Program}{n r:AZ}{x:List (Nat×AZ)}{a:Act}{w:World}{c:Code}{K σ:Type}{F:K→Option Int}{body:K×Int→σ→Option σ}{s₀ q:σ}{rs₀:List (K×Int)}
  (Inv:σ→List (K×Int)→AZ) (hl:BU F body s₀=some q) (hE:Enum F rs₀) (h0:Inv s₀ rs₀ a w)
  (round:∀s rs,(∀l,l.Perm rs→Ex body l s=some q)→∀a w,Inv s rs a w→
   c.wp P (Qk (λa w=>∃s' rs',rs'.length<rs.length∧(∀l,l.Perm rs'→Ex body l s'=some q)∧Inv s' rs' a w) x r) a w):
  (Code.loop c).wp P (Qk n x r) a w:=by
 refine k_loopN (λk a w=>∃s rs,rs.length=k∧(∀l,l.Perm rs→Ex body l s=some q)∧Inv s rs a w) (k₀:=rs₀.length) ⟨s₀,rs₀,rfl,λl hp=>rangeF_spec hl l (hE.perm hp),h0⟩ ?_
 rintro k a w ⟨s,rs,rfl,h1,h2⟩
 refine wp_mono (round s rs h1 a w h2) λe a w hq=> ?_
 cases e with
 |normal=>
  obtain⟨s',rs',h3,h4,h5⟩:=hq
  exact⟨rs'.length,h3,s',rs',rfl,h4,h5⟩
 |_=>exact hq
def RgF {K:Type}(enc:K→Value)(G:GH)(it:Itm)(v:Value)(rest:List (K×Int))(at':Option (K×Int)):Prop:=
 (rest=[]∧at'=none∧∃bi,it= .obj bi (.mapIter none 0 #[] 0)∧v= .pointer (some ⟨bi,0,none⟩))∨
 ∃(b bi:Nat) (es:Array MapEntry) (clock:Nat) (seen:Array Nat),G b=some (.map es clock)∧(∀e∈es.toList,e.born<clock)∧(es.toList.map (·.born)).Nodup∧
  it= .obj bi (.mapIter (some b) clock seen clock)∧v= .pointer (some ⟨bi,0,none⟩)∧
  ((leftOf es seen).toList.map (λe=>(e.key,e.val)))=rest.map (λkv=>(enc kv.1,Value.int .i64 kv.2))∧
  (∀kv,at'=some kv→∃e∈es.toList,seen.back? =some e.born∧e.key=enc kv.1∧e.val= .int .i64 kv.2)
def RgA {K:Type}(enc:K→Value)(G:GH)(it:Itm)(v:Value)(rest:List (K×Int)):Prop:=∃at',RgF enc G it v rest at'
section
variable {K : Type} {enc : K → Value} {G G' : GH} {it : Itm} {v : Value} {rs : List (K × Int)} {at0 : Option (K × Int)}
theorem RgF.mono (hG:GLe G G')(h:RgF enc G it v rs at0):RgF enc G' it v rs at0:=by
 rcases h with h|⟨b,bi,es,clock,seen,h1,h2⟩
 ·exact .inl h
 ·exact .inr ⟨b,bi,es,clock,seen,hG _ _ h1,h2⟩
theorem RgF.any (h:RgF enc G it v rs at0):RgA enc G it v rs:=⟨_,h⟩
end
section
variable {P : Program} {ops : Array Oper} {rest : List Oper} {n r : AZ} {x : List (Nat × AZ)} {a : Act} {w : World} {N : Nat} {L : Bi}
variable {W : World} {G : GH} {H : List Itm} {d : Nat} {t : TypeId} {pos : String} {af : Array Edge} {K : Type} {enc : K → Value}
theorem CE {v:Value}{F:K→Option Int}{mt kt et:TypeId}{xo:Operand}(m:Mem W G w H)(h:RMf enc G v F)(ht:P.underlying mt=some (.map kt et))
  (f:Fr a N L) (hN:Nat.blt d N=true) (hx:AU L xo=some v)
  (k:∀itI vI rs w' a',Mem W G w' (itI::H)→RgA enc G itI vI rs→Enum F rs→Fr a' N ((d,vI)::L)→wpList P ops (Qk n x r) rest a' w'):
  wpList P ops (Qk n x r) (⟨some d,.range mt xo,t,pos,af,none⟩::rest) a w:=by
 rcases h with⟨rfl,rfl⟩|⟨b,es,clock,rfl,hG,M,hM,hn,hF,hb,hd⟩
 ·refine Ct f rfl rfl hN (v:= .pointer (some ⟨w.heap.size,0,none⟩)) (w':=w.alloc (.mapIter none 0 #[] 0)) ?_ (λa' f'=>k (.obj w.heap.size (.mapIter none 0 #[] 0)) _ [] _ a'
   (m.add rfl rfl rfl (λy hy=>by first|exact heap_alloc_old w _ y hy|exact heap_alloc_old w _ hy) (heap_alloc_new w _) (λy hy=>by simp[Itm.foot] at hy;omega)) ⟨none,.inl ⟨rfl,rfl,_,rfl,rfl⟩⟩ ⟨by simp,λk y=>by simp[mf0]⟩ f')
  simp only[execOp,f.eval hx,Sem.run_bind]
  simp[Instr.range,run_underlying ht]
 ·have hg:w.heap[b]? =some (.map es clock):=m.sealed _ _ hG
  refine Ct f rfl rfl hN (v:= .pointer (some ⟨w.heap.size,0,none⟩)) (w':=w.alloc (.mapIter (some b) clock #[] clock)) ?_ (λa' f'=>k (.obj w.heap.size (.mapIter (some b) clock #[] clock)) _ M _ a'
   (m.add rfl rfl rfl (λy hy=>by first|exact heap_alloc_old w _ y hy|exact heap_alloc_old w _ hy) (heap_alloc_new w _) (λy hy=>by simp[Itm.foot] at hy;omega)) ⟨none,.inr ⟨b,_,es,clock,#[],hG,hb,hd,rfl,rfl,?_,λk hk=>by cases hk⟩⟩ ⟨hn,hF⟩ f')
  ·simp only[execOp,f.eval hx,Sem.run_bind,run_range_map w mt kt et b es clock ht hg,Result.andThen_ok]
   rfl
  ·have e:leftOf es #[]=es:=by
    unfold leftOf
    exact Array.filter_eq_self.2 (λx _=>by simp)
   rw[e];exact hM
theorem rest_step {e:MapEntry}{kv:K×Int}(hinj:∀a b,enc a=enc b→a=b)(hk1:e.key=enc kv.1)(hk2:e.val= .int .i64 kv.2):∀(l:List MapEntry) (rs:List (K×Int)),(l.map (·.born)).Nodup→e∈l→l.map (λe=>(e.key,e.val))=rs.map (λkv=>(enc kv.1,Value.int .i64 kv.2))→
  ∃rs',rs.Perm (kv::rs')∧(l.filter (λx=> !(x.born==e.born))).map (λe=>(e.key,e.val))=rs'.map (λkv=>(enc kv.1,Value.int .i64 kv.2)):=by
 intro l
 induction l with
 |nil=>intro rs _ h;cases h
 |cons z l ih=>
  intro rs hnd hmem hmap
  cases rs with
  |nil=>simp at hmap
  |cons q rs=>
   simp only[List.map_cons,List.cons.injEq] at hmap
   have hnd':=List.nodup_cons.1 hnd
   by_cases hz:z=e
   ·subst hz
    have hq:q=kv:=by
     have h1:=Prod.mk.inj hmap.1
     have h2:enc q.1=enc kv.1:=h1.1.symm.trans hk1
     have h3:Value.int .i64 q.2= .int .i64 kv.2:=h1.2.symm.trans hk2
     exact Prod.ext (hinj _ _ h2) (by simpa using h3)
    refine⟨rs,by rw[hq],?_⟩
    rw[List.filter_cons,beq_self_eq_true,Bool.not_true,if_neg Bool.false_ne_true]
    have:l.filter (λx=> !(x.born==z.born))=l:=List.filter_eq_self.2 (λx hx=>by
     cases hc:(x.born==z.born)
     ·rfl
     ·exact absurd (List.mem_map.2 ⟨x,hx,beq_iff_eq.1 hc⟩) hnd'.1)
    rw[this];exact hmap.2
   ·have hel:e∈l:=(List.mem_cons.1 hmem).resolve_left (λh=>hz h.symm)
    obtain⟨rs',p1,p2⟩:=ih rs hnd'.2 hel hmap.2
    refine⟨q::rs',(List.Perm.cons q p1).trans (List.Perm.swap _ _ _),?_⟩
    have hb:(z.born==e.born)=false:=by
     cases hc:(z.born==e.born)
     ·rfl
     ·exact absurd (List.mem_map.2 ⟨e,hel,(beq_iff_eq.1 hc).symm⟩) hnd'.1
    rw[List.filter_cons,hb,Bool.not_false,if_pos rfl,List.map_cons,List.map_cons,p2,hmap.1]
theorem CP {itI:Itm}{v:Value}{rs:List (K×Int)}{xo:Operand}(hinj:∀a b,enc a=enc b→a=b)(j:Nat)(m:Mem W G w H)(h:RgA enc G itI v rs)(hj:H[j]? =some itI)
  (f:Fr a N L) (hN:Nat.blt d N=true) (hx:AU L xo=some v)
  (k0:rs=[]→∀a',Fr a' N ((d,.tuple #[.bool false])::L)→wpList P ops (Qk n x r) rest a' w)
  (k1:∀e rs' itI' w' a',rs.Perm (e::rs')→Mem W G w' (H.set j itI')→RgF enc G itI' v rs' (some e)→Fr a' N ((d,.tuple #[.bool true,enc e.1,.int .i64 e.2])::L)→wpList P ops (Qk n x r) rest a' w'):
  wpList P ops (Qk n x r) (⟨some d,.next xo false,t,pos,af,none⟩::rest) a w:=by
 obtain⟨at0,h⟩:=h
 rcases h with⟨rfl,_,bi,rfl,rfl⟩|⟨b,bi,es,clock,seen,hG,hb,hn,rfl,rfl,he,_⟩
 ·have hr:w.heap[bi]? =some (.mapIter none 0 #[] 0):=m.items j _ hj
  refine Ct f rfl rfl hN ?_ (k0 rfl)
  simp only[execOp,f.eval hx,Sem.run_bind]
  simp[Instr.next,getObj,Sem.run,hr]
 ·have hg:w.heap[b]? =some (.map es clock):=m.sealed _ _ hG
  have hr:w.heap[bi]? =some (.mapIter (some b) clock seen clock):=m.items j _ hj
  have hlt:bi<w.heap.size:=(Array.getElem?_eq_some_iff.1 hr).1
  have hex:(execOp a.eval ⟨some d,.next xo false,t,pos,af,none⟩).run P w=(((Instr.next (.pointer (some ⟨bi,0,none⟩)) false t).run P w).andThen λv' w'=> .ok (.value v') w'):=by
   simp only[execOp,f.eval hx,Sem.run_bind]
   rfl
  rcases run_nextAt (P:=P) w t bi b clock seen es hr hg hb with⟨h0,h1⟩|⟨e,hem,w1,a1,a2,a3,a4,h1⟩
  ·have hrs:rs=[]:=by
    have:(leftOf es seen).toList=[]:=List.eq_nil_of_length_eq_zero (by rw[Array.length_toList];exact h0)
    rw[this] at he
    simpa using he.symm
   refine Ct f rfl rfl hN ?_ (k0 hrs)
   rw[hex,h1];rfl
  ·have hee:=mem_left hem
   have hkv:∃kv∈rs,e.key=enc kv.1∧e.val= .int .i64 kv.2:=by
    have:(e.key,e.val)∈(leftOf es seen).toList.map (λe=>(e.key,e.val)):=List.mem_map.2 ⟨e,hem,rfl⟩
    rw[he] at this
    obtain⟨kv,h2,h3⟩:=List.mem_map.1 this
    simp only[Prod.mk.injEq] at h3
    exact⟨kv,h2,h3.1.symm,h3.2.symm⟩
   obtain⟨kv,_,hk1,hk2⟩:=hkv
   obtain⟨rs',hperm,hrest⟩:∃rs',rs.Perm (kv::rs')∧((leftOf es (seen.push e.born)).toList.map (λe=>(e.key,e.val)))=rs'.map (λkv=>(enc kv.1,Value.int .i64 kv.2)):=by
    have e3:(leftOf es (seen.push e.born)).toList=(leftOf es seen).toList.filter (λx=> !(x.born==e.born)):=by
     unfold leftOf
     rw[Array.toList_filter,Array.toList_filter,List.filter_filter]
     congr 1
     funext x
     rw[contains_push]
     cases seen.contains x.born<;>cases (x.born==e.born)<;>rfl
    rw[e3]
    have hnd:((leftOf es seen).toList.map (·.born)).Nodup:=by
     unfold leftOf
     rw[Array.toList_filter]
     exact hn.sublist (List.Sublist.map _ (List.filter_sublist))
    exact rest_step hinj hk1 hk2 _ rs hnd hem he
   have m':Mem W G w1 (H.set j (.obj bi (.mapIter (some b) clock (seen.push e.born) clock))):=
    m.changeAt j hj a2 a3 a4 (λy _ hy=>by
     have:y≠bi:=λe=>hy (by rw[e];simp[Itm.foot])
     rw[a1];simp[Ne.symm this]) (by simp[Itm.ok,a1,hlt]) (λy hy=> .inl hy)
   refine Ct f rfl rfl hN (w':=w1) (v:= .tuple #[.bool true,enc kv.1,.int .i64 kv.2]) ?_ (λa' f'=>k1 kv rs' _ w1 a' hperm m' (.inr ⟨b,bi,es,clock,seen.push e.born,hG,hb,hn,rfl,rfl,hrest,λk hk=> ?_⟩) f')
   ·rw[hex,h1,hk1,hk2];rfl
   ·cases hk
    exact⟨e,hee.1,by simp,hk1,hk2⟩
theorem CD {itI:Itm}{v:Value}{rs:List (K×Int)}{e:K×Int}{xo:Operand}(j:Nat)(m:Mem W G w H)(h:RgF enc G itI v rs (some e))(hj:H[j]? =some itI)
  (f:Fr a N L) (hN:Nat.blt d N=true) (hx:AU L xo=some v)
  (k:∀a',Fr a' N ((d,.tuple #[enc e.1,.int .i64 e.2])::L)→wpList P ops (Qk n x r) rest a' w):
  wpList P ops (Qk n x r) (⟨some d,.entry xo,t,pos,af,none⟩::rest) a w:=by
 rcases h with⟨_,h,_⟩|⟨b,bi,es,clock,seen,hG,hb,hn,rfl,rfl,he,hl⟩
 ·cases h
 obtain⟨z,hz,hs,hk,hy⟩:=hl e rfl
 have hg:w.heap[b]? =some (.map es clock):=m.sealed _ _ hG
 have hr:w.heap[bi]? =some (.mapIter (some b) clock seen clock):=m.items j _ hj
 have hf:es.find? (·.born==z.born)=some z:=by rw[←Array.find?_toList];exact find_born z es.toList hn hz
 refine Ct f rfl rfl hN (v:= .tuple #[enc e.1,.int .i64 e.2]) ?_ k
 simp only[execOp,f.eval hx,Sem.run_bind]
 have:(Instr.entry (.pointer (some ⟨bi,0,none⟩))).run P w= .ok (.tuple #[z.key,z.val]) w:=by
  simp only[Instr.entry,getObj,Sem.run_bind,Sem.run,hr,hg,Result.andThen,hs,bne_self_eq_false,Bool.false_eq_true,if_false,hf]
  rfl
 rw[this,hk,hy]
 rfl
end
section
variable {P : Program} {ops : Array Oper} {rest : List Oper} {n r : AZ} {x : List (Nat × AZ)} {a : Act} {w : World} {N : Nat} {L : Bi}
variable {d : Nat} {t : TypeId} {pos : String} {af : Array Edge} {W : World} {G : GH} {H : List Itm} {α : Type} {E : Rec α}
end
theorem r_buildF {P:Program}{a:Act}{w:World}{N:Nat}{L:Bi}{dd:Option Tmp}{t:TypeId}{pos:String}{af:Array Edge}{gd:Option (Nat×Bool)}{u:TypeId}{parts:Array (Nat×Operand)}{vs:List (Nat×Value)}{v:Value}(f:Fr a N L)
  (hp:(parts.toList.map λp=>(p.1,AU L p.2))=vs.map λp=>(p.1,some p.2)) (hb:∀w,(Instr.build u vs.toArray).run P w= .ok v w):
  (execOp a.eval ⟨dd,.build u parts,t,pos,af,gd⟩).run P w= .ok (.value v) w:=by
 have key:∀(ps:List (Nat×Operand)) (vs:List (Nat×Value)),(ps.map λp=>(p.1,AU L p.2))=vs.map (λp=>(p.1,some p.2))→ps.map (fun(i,x)=>(i,a.eval x))=vs:=by
  intro ps
  induction ps with
  |nil=>intro vs h;cases vs with
   |nil=>rfl
   |cons _ _=>simp at h
  |cons p ps ih=>
   intro vs h
   cases vs with
   |nil=>simp at h
   |cons q vs=>
    simp only[List.map_cons,List.cons.injEq,Prod.mk.injEq] at h
    simp only[List.map_cons,ih vs h.2,f.eval h.1.2,h.1.1]
 have e:(parts.map fun(i,x)=>(i,a.eval x))=vs.toArray:=by
  apply Array.toList_inj.1
  rw[Array.toList_map,key parts.toList vs hp]
 simp[execOp,e,hb]
theorem B3 {f:Fn}{a b:Array Value}:(Value.func f a b).cells= #[.func f a b]:=rfl
end Go.Sx

namespace Go.Sx
open IntKind
noncomputable section
def D.c1 (a:LI):Option (Bool):=
 some (decide ((8:Int)<(a.length:Int)))
def D.n (a b:LI)(c d:LL)(e f:LI):Option (Int×LI×LI×LL×LL):=
 some ((i64.wrap ((a.length:Int)-1)),a,b,c,d)
def D.s (a b:LI)(c d:LL)(o p:LI)(e f g:Int)(h:LI):Option (LI×LI×LL×LL):=
 (AR a ([e]:LI)).bind λi=>(AR b ([f]:LI)).bind λj=>(D.n1 g).bind λk=>(AR c ([k]:LL)).bind λl=>(D.r0 h).bind λm=>(AR d ([m]:LL)).bind λn=>some (i,j,l,n)
def D.e0 (ab ac:LI)(ad ae:LL)(c d:LI)(j k:Int):Option (LI×LI×LL×LL):=
 (D.o (iandNot .u32 j k)).bind λl=>(Az (σ:=Int×Int×LI×LI×LL×LL) (ρ:=(Int×LI×LI×LL×LL)) (fun(g,h,m,n,o,p)=>cond (decide (h<(l.length:Int))) ((idx l h).bind λq=>(D.a q).bind λr=>(D.n m n o p c d).bind λa=>(D.s a.2.1 a.2.2.1 a.2.2.2.1 a.2.2.2.2 c d 3 q (iandNot .u32 g r) ([a.1]:LI)).bind λe=>some (.inl ((iandNot .u32 g r),(i64.wrap (h+1)),e.1,e.2.1,e.2.2.1,e.2.2.2))) (some (.inr (g,m,n,o,p)))) (j,0,ab,ac,ad,ae)).bind fun(s,ag,ah,ai,aj)=>(D.o (iandNot .u32 k s)).bind λt=>(Az (σ:=Int×Int×LI×LI×LL×LL) (ρ:=(LI×LI×LL×LL)) (fun(u,i,v,w,x,y)=>cond (decide (i<(t.length:Int))) ((idx t i).bind λz=>(D.a z).bind λaa=>(D.n v w x y c d).bind λb=>(D.s b.2.1 b.2.2.1 b.2.2.2.1 b.2.2.2.2 c d 2 z (ior .u32 u aa) ([b.1]:LI)).bind λf=>some (.inl ((ior .u32 u aa),(i64.wrap (i+1)),f.1,f.2.1,f.2.2.1,f.2.2.2))) (some (.inr (v,w,x,y)))) (s,0,ag,ah,ai,aj)).bind fun(al,am,an,ao)=>some (al,am,an,ao)
def D.m0 :Nat→LI→LI→LL→LL→LI→LI→Int→Int→Option (LI×LI×LL×LL)
 |0,_,_,_,_,_,_,_,_=>none
 |fuel+1,x,y,z,aa,a,b,d,ab=>(idx b d).bind λac=>(D.o ac).bind λs=>(Az (σ:=Int×Int×LI×LI×LL×LL) (ρ:=(Int×LI×LI×LL×LL)) (fun(i,e,n,o,p,q)=>cond (decide (e<(s.length:Int))) ((idx s e).bind λr=>cond (r==ab) (some (.inl (i,(i64.wrap (e+1)),n,o,p,q))) ((D.m0 fuel n o p q a b r d).bind λj=>(idx a r).bind λae=>(idx a d).bind λaf=>(D.e0 j.1 j.2.1 j.2.2.1 j.2.2.2 a b ae af).bind λc=>cond (decide ((0:Int)≤i)) ((((idx a d).bind λag=>(D.n c.1 c.2.1 c.2.2.1 c.2.2.2 a b).bind λf=>(D.s f.2.1 f.2.2.1 f.2.2.2.1 f.2.2.2.2 a b 4 (-1) ag ([i,f.1]:LI)).bind λk=>some (k.1,k.2.1,k.2.2.1,k.2.2.2):Option (LI×LI×LL×LL))).bind fun(ah,ai,aj,ak)=>(D.n ah ai aj ak a b).bind λg=>some (.inl (g.1,(i64.wrap (e+1)),g.2.1,g.2.2.1,g.2.2.2.1,g.2.2.2.2))) ((D.n c.1 c.2.1 c.2.2.1 c.2.2.2 a b).bind λh=>some (.inl (h.1,(i64.wrap (e+1)),h.2.1,h.2.2.1,h.2.2.2.1,h.2.2.2.2))))) (some (.inr (i,n,o,p,q)))) ((-1),0,x,y,z,aa)).bind fun(al,t,u,v,w)=>cond (decide (al<0)) ((D.s t u v w a b 1 (-1) 0 ([]:LI)).bind λl=>(idx a d).bind λam=>(D.e0 l.1 l.2.1 l.2.2.1 l.2.2.2 a b 0 am).bind λm=>some (m.1,m.2.1,m.2.2.1,m.2.2.2)) (some (t,u,v,w))
def D.C (a b:LI)(c d:LL)(e f:LI)(g h:Int):Option (LI×LI×LL×LL):=D.m0 Bx a b c d e f g h
def D.T1 (b:LL):Option (Int):=
 (Az (σ:=Int) (ρ:=(Unit) ⊕ (Int)) (fun(a:Int)=>cond (decide (a<(b.length:Int))) ((idx b a).bind λc=>(D.c1 c).bind λd=>cond d (some (.inr (.inr a))) (some (.inl (i64.wrap (a+1))))) (some (.inr (.inl ())))) 0).bind λzz=>match zz with| .inl _=>(some (-1))| .inr z=>(some z)
def D.M0 (a:LL):Option (Bool):=
 (D.T1 a).bind λb=>some (decide ((0:Int)≤b))
def D.K (g b e:LL):Option (LI×LI×LL×LL×Bool):=
 (D.P0 g b e).bind λh=>(cond (!h) (some true) ((D.M0 b).bind λi=>some i)).bind λj=>cond j (some (([]:LI),([]:LI),([]:LL),([]:LL),false)) ((D.v b).bind λd=>(D.v0 b e).bind λf=>(D.C ([]) ([]) ([]) ([]) d f 0 (-1)).bind λc=>(idx d 0).bind λk=>(D.e0 c.1 c.2.1 c.2.2.1 c.2.2.2 d f k 0).bind λa=>cond (decide ((200:Int)<(a.1.length:Int))) (some (([]:LI),([]:LI),([]:LL),([]:LL),false)) (some (a.1,a.2.1,a.2.2.1,a.2.2.2,true)))
def D.Y (a c:LI)(b:Int):Option (Bool):=
 (D.f a b).bind λd=>(cond (!d) ((D.q a b).bind λe=>(D.Q e c).bind λf=>some f) (some false)).bind λg=>some g
def D.i (h:LL)(i e:LI)(d j:LL)(b:Int):Option (Bool):=
 (idx d b).bind λc=>(idx j b).bind λa=>(cond (decide ((8:Int)<(c.length:Int))) (some true) ((D.d h).bind λk=>(D.A c k).bind λl=>some (!l))).bind λm=>cond m (some false) ((Az (σ:=Int) (ρ:=(Unit) ⊕ (Bool)) (fun(g:Int)=>cond (decide (g<(a.length:Int))) ((idx a g).bind λn=>(D.b n 0 (i64.wrap (b-1))).bind λo=>cond (!o) (some (.inr (.inr false))) (some (.inl (i64.wrap (g+1))))) (some (.inr (.inl ())))) 0).bind λzz=>match zz with| .inl _=>((idx i b).bind λf=>cond (f==1) ((idx e b).bind λp=>some (((p==(-1))&&((c.length:Int)==0))&&((a.length:Int)==0))) (cond (f==2) ((cond ((a.length:Int)==1) ((idx a 0).bind λq=>(idx d q).bind λr=>(idx e b).bind λs=>(D.Y r c s).bind λt=>some t) (some false)).bind λu=>some u) (cond (f==3) ((cond ((a.length:Int)==1) ((idx a 0).bind λv=>(idx d v).bind λw=>(idx e b).bind λx=>(D.Y c w x).bind λy=>some y) (some false)).bind λaa=>some aa) (cond (f==4) ((idx e b).bind λab=>(cond ((ab==(-1))&&((a.length:Int)==2)) ((idx a 0).bind λac=>(idx d ac).bind λad=>(D.Q ad c).bind λae=>some ae) (some false)).bind λaf=>(cond af ((idx a 1).bind λag=>(idx d ag).bind λah=>(D.Q ah c).bind λai=>some ai) (some false)).bind λaj=>some aj) (some false)))))| .inr z=>(some z))
def D.h1 (g r:LI)(s c:LL):Option (Bool):=
 (C4 (0:Int) (g.length:Int) (g.length:Int)).bind λj=>(Az (σ:=LI×Int) (ρ:=LI) (fun(h,a)=>cond (decide (a<(c.length:Int))) ((Az (σ:=LI×Int) (ρ:=LI) (fun(b,d)=>(idx c a).bind λm=>cond (decide (d<(m.length:Int))) ((idx c a).bind λn=>(idx n d).bind λe=>(idx b e).bind λo=>(idx b e).bind λt=>some (.inl ((b.set (Int.toNat e) (i64.wrap (o+1))),(i64.wrap (d+1))))) (some (.inr b))) (h,0)).bind λp=>some (.inl (p,(i64.wrap (a+1))))) (some (.inr h))) (j,0)).bind λi=>(Az (σ:=Int) (ρ:=(Unit) ⊕ (Bool)) (fun(f:Int)=>cond (decide ((i64.wrap (f+1))<(i.length:Int))) ((idx i f).bind λq=>cond (q !=1) (some (.inr (.inr false))) (some (.inl (i64.wrap (f+1))))) (some (.inr (.inl ())))) 0).bind λzz=>match zz with| .inl _=>(some true)| .inr z=>(some z)
def D.Q0 (b:LL)(i m:LI)(e aj:LL):Option (Bool):=
 (C4 (0:Int) (b.length:Int) (b.length:Int)).bind λn=>(C4 (0:Int) (b.length:Int) (b.length:Int)).bind λo=>(Az (σ:=LI×LI×Int) (ρ:=(LI×LI)) (fun(c,j,a)=>cond (decide (a<(i.length:Int))) ((idx i a).bind λq=>((cond (q==3) ((idx m a).bind λh=>(idx c h).bind λr=>(idx c h).bind λak=>some (c.set (Int.toNat h) (i64.wrap (r+1)))) (some c):Option LI)).bind λs=>(idx e a).bind λt=>(D.l0 t).bind λu=>(Az (σ:=LI×Int) (ρ:=LI) (fun(f,g)=>(idx e a).bind λw=>cond (decide (g<(w.length:Int))) ((idx e a).bind λx=>(idx x g).bind λk=>(idx e a).bind λy=>(idx y g).bind λaa=>(idx f aa).bind λab=>(idx f k).bind λal=>some (.inl ((f.set (Int.toNat k) (ior .i64 ab u)),(i64.wrap (g+1))))) (some (.inr f))) (j,0)).bind λac=>some (.inl (s,ac,(i64.wrap (a+1))))) (some (.inr (c,j)))) (n,o,0)).bind fun(l,ad)=>(D.m b).bind λae=>(Az (σ:=Int) (ρ:=(Unit) ⊕ (Bool)) (fun(d:Int)=>cond (decide (d<(l.length:Int))) ((idx l d).bind λaf=>(cond (af !=1) (some true) ((idx ae d).bind λag=>(idx ad d).bind λah=>some ((iandNot .i64 ag ah) !=0))).bind λai=>cond ai (some (.inr (.inr false))) (some (.inl (i64.wrap (d+1))))) (some (.inr (.inl ())))) 0).bind λzz=>match zz with| .inl _=>(some true)| .inr z=>(some z)
def D.H0 (e:LL)(a c:LI)(b d:LL):Option (Bool):=
 (D.r e).bind λg=>cond ((((((!g)||(decide ((a.length:Int)<1)))||(decide ((200:Int)<(a.length:Int))))||((c.length:Int) !=(a.length:Int)))||((b.length:Int) !=(a.length:Int)))||((d.length:Int) !=(a.length:Int))) (some false) ((Az (σ:=Int) (ρ:=(Unit) ⊕ (Bool)) (fun(f:Int)=>cond (decide (f<(a.length:Int))) ((D.i e a c b d f).bind λh=>cond (!h) (some (.inr (.inr false))) (some (.inl (i64.wrap (f+1))))) (some (.inr (.inl ())))) 0).bind λzz=>match zz with| .inl _=>((idx b (i64.wrap ((a.length:Int)-1))).bind λi=>(cond ((i.length:Int)==0) ((D.h1 a c b d).bind λj=>some j) (some false)).bind λk=>(cond k ((D.Q0 e a c b d).bind λl=>some l) (some false)).bind λm=>some m)| .inr z=>(some z))
def D.x1 (a b:Int):Option (Bool):=
 (D.t a 0 (i64.wrap (b-1))).bind λc=>some (!c)
def D.B1 (b:LI)(c:Int):Option (Int):=
 (Az (σ:=Int) (ρ:=(Unit) ⊕ (Int)) (fun(a:Int)=>cond (decide (a<(b.length:Int))) ((idx b a).bind λd=>(D.x1 d c).bind λe=>cond e (some (.inr (.inr a))) (some (.inl (i64.wrap (a+1))))) (some (.inr (.inl ())))) 0).bind λzz=>match zz with| .inl _=>(some (-1))| .inr z=>(some z)
def D.l1 (a:LI)(b:Int):Option (Bool):=
 (D.B1 a b).bind λc=>some (decide ((0:Int)≤c))
def D.u (g h:LI)(ao i:LL)(c:Int)(a:LI)(f:Int):Option (Bool):=
 (idx h c).bind λd=>(idx i c).bind λb=>(D.l1 b c).bind λj=>cond j (some false) ((idx g c).bind λe=>cond (e==1) ((cond (d==(-1)) ((idx a c).bind λk=>some (k==0)) (some false)).bind λl=>some (l&&((b.length:Int)==0))) (cond (e==4) ((cond ((d==(-1))&&((b.length:Int)==2)) ((idx b 0).bind λm=>(idx a m).bind λn=>(idx a c).bind λo=>some (n==o)) (some false)).bind λp=>(cond p ((idx b 1).bind λq=>(idx a q).bind λr=>(idx a c).bind λs=>some (r==s)) (some false)).bind λt=>some t) (cond (e==2) ((D.t d 0 (i64.wrap (f-1))).bind λu=>(cond (u&&((b.length:Int)==1)) ((idx b 0).bind λv=>(idx a v).bind λw=>(D.g w d).bind λx=>some (!x)) (some false)).bind λy=>(cond y ((idx a c).bind λz=>(idx b 0).bind λaa=>(idx a aa).bind λab=>(D.a d).bind λac=>some (z==(ior .u32 ab ac))) (some false)).bind λad=>some ad) (cond (e==3) ((D.t d 0 (i64.wrap (f-1))).bind λae=>(cond (ae&&((b.length:Int)==1)) ((idx b 0).bind λaf=>(idx a af).bind λag=>(D.g ag d).bind λah=>some ah) (some false)).bind λai=>(cond ai ((idx a c).bind λaj=>(idx b 0).bind λak=>(idx a ak).bind λal=>(D.a d).bind λam=>some (aj==(iandNot .u32 al am))) (some false)).bind λan=>some an) (some false)))))
end
end Go.Sx

namespace Go.Sx
open IntKind
noncomputable section
def D.K1 (a:Int):Option (Bool):=
 some (a !=1)
def D.H1 (b:LI):Option (Int):=
 (Az (σ:=Int) (ρ:=(Unit) ⊕ (Int)) (fun(a:Int)=>cond (decide (a<(b.length:Int))) ((idx b a).bind λc=>(D.K1 c).bind λd=>cond d (some (.inr (.inr a))) (some (.inl (i64.wrap (a+1))))) (some (.inr (.inl ())))) 0).bind λzz=>match zz with| .inl _=>(some (-1))| .inr z=>(some z)
def D.o1 (a:LI):Option (Bool):=
 (D.H1 a).bind λb=>some (decide ((0:Int)≤b))
def D.j (c:LL)(a h:LI)(d i:LL):Option (Bool):=
 (D.w0 c).bind λu=>cond ((((((!u)||(decide ((a.length:Int)<1)))||(decide ((200:Int)<(a.length:Int))))||((h.length:Int) !=(a.length:Int)))||((d.length:Int) !=(a.length:Int)))||((i.length:Int) !=(a.length:Int))) (some false) ((Az (σ:=Int) (ρ:=(Unit) ⊕ (Bool)) (fun(j:Int)=>cond (decide (j<(d.length:Int))) ((idx d j).bind λo=>(cond (decide ((8:Int)<(o.length:Int))) (some true) ((D.R o (c.length:Int)).bind λv=>some (!v))).bind λw=>cond w (some (.inr (.inr false))) (some (.inl (i64.wrap (j+1))))) (some (.inr (.inl ())))) 0).bind λzz=>match zz with| .inl _=>((((D.v d).bind λx=>(C4 (0:Int) (a.length:Int) (a.length:Int)).bind λy=>(C4 (0:Int) (c.length:Int) (c.length:Int)).bind λaa=>some (x,y,aa):Option (LI×LI×LI))).bind fun(k,ab,ac)=>(Az (σ:=LI×LI×Int) (ρ:=(LI×LI) ⊕ (Bool)) (fun(p,e,b)=>cond (decide (b<(a.length:Int))) ((D.u a h d i b k (c.length:Int)).bind λae=>cond (!ae) (some (.inr (.inr false))) ((idx i b).bind λq=>(Az (σ:=LI×Int) (ρ:=LI) (fun(f,l)=>cond (decide (l<(q.length:Int))) ((idx q l).bind λm=>(idx f m).bind λag=>(idx f m).bind λaq=>some (.inl ((f.set (Int.toNat m) (i64.wrap (ag+1))),(i64.wrap (l+1))))) (some (.inr f))) (p,0)).bind λr=>(idx a b).bind λah=>cond (ah==3) ((idx h b).bind λn=>(idx e n).bind λai=>(idx e n).bind λar=>some (.inl (r,(e.set (Int.toNat n) (i64.wrap (ai+1))),(i64.wrap (b+1))))) (some (.inl (r,e,(i64.wrap (b+1))))))) (some (.inr (.inl (p,e))))) (ab,ac,0)).bind λzz=>match zz with| .inl (s,aj)=>((Az (σ:=Int) (ρ:=(Unit) ⊕ (Bool)) (fun(g:Int)=>cond (decide (g<(s.length:Int))) ((idx s g).bind λt=>cond (((t==1) !=(decide (g<(i64.wrap ((a.length:Int)-1)))))||(decide ((1:Int)<t))) (some (.inr (.inr false))) (some (.inl (i64.wrap (g+1))))) (some (.inr (.inl ())))) 0).bind λzz=>match zz with| .inl _=>((idx k (i64.wrap ((a.length:Int)-1))).bind λak=>(cond (ak==0) ((D.o1 aj).bind λal=>some (!al)) (some false)).bind λam=>(cond am ((D.L c).bind λan=>(D.i0 an k).bind λao=>some ao) (some false)).bind λap=>some ap)| .inr z=>(some z))| .inr z=>(some z))| .inr z=>(some z))
def D.I (a b:Int):Option (Int):=
 some (i64.wrap (a+b))
def D.V (a b:Int):Option (Int):=
 some (i64.wrap (a*b))
def D.d2 (x0_1c0_0:LI)(a:AJ)(b c:Int):Option (AJ):=
 cond ((a b).isSome) ((D.I ((a b).getD 0) c).bind λd=>some (BN a b d)) (some (BN a b c))
end
end Go.Sx

namespace Go.Sx
open Go
structure C16 where
 (c0 c1 c2 c3 c4 c5 c6 c7 c8 c9 c10 c11 c12 c13 c14 c15:Int)
deriving DecidableEq
def C16.li (x:C16):List Int:=[x.c0,x.c1,x.c2,x.c3,x.c4,x.c5,x.c6,x.c7,x.c8,x.c9,x.c10,x.c11,x.c12,x.c13,x.c14,x.c15]
abbrev Bt :Type:=C16→Option Int
def BF (x:C16):Value:= .agg #[.int .i8 x.c0,.int .i8 x.c1,.int .i8 x.c2,.int .i8 x.c3,.int .i8 x.c4,.int .i8 x.c5,.int .i8 x.c6,.int .i8 x.c7,.int .i8 x.c8,.int .i8 x.c9,.int .i8 x.c10,.int .i8 x.c11,.int .i8 x.c12,.int .i8 x.c13,.int .i8 x.c14,.int .i8 x.c15]
theorem eC16_li (x:C16):BF x= .agg (x.li.map (Value.int .i8)).toArray:=rfl
theorem C16.li_inj {x y:C16}(h:x.li=y.li):x=y:=by
 cases x;cases y
 simpa [C16.li] using h
def R16 :Rec C16:=⟨16,λx=>[.int .i8 x.c0,.int .i8 x.c1,.int .i8 x.c2,.int .i8 x.c3,.int .i8 x.c4,.int .i8 x.c5,.int .i8 x.c6,.int .i8 x.c7,.int .i8 x.c8,.int .i8 x.c9,.int .i8 x.c10,.int .i8 x.c11,.int .i8 x.c12,.int .i8 x.c13,.int .i8 x.c14,.int .i8 x.c15],λ_=>rfl,by decide,λx c h=>by
 obtain⟨y,_,rfl⟩:=List.mem_map.1 (show c∈x.li.map (Value.int .i8) from h);rfl⟩
structure ArT (P:Program)(kt ft:TypeId):Prop where
 u:P.underlying kt=some (.array 16 ft)
 i:P.underlying ft=some (.int .i8)
 a:∀w,(isAgg ft).run P w= .ok false w
 s:∀w,(sizeOf ft).run P w= .ok 1 w
section
variable {P : Program} {kt ft : TypeId}
theorem ArT.part (K:ArT P kt ft)(l:List Int){j:Nat}(hj:j<l.length)(w:World):(part ft (l.map (Value.int .i8)).toArray (j*1)).run P w= .ok (.int .i8 l[j]) w:=by
 simp[Go.part,K.a w,hj]
theorem ArT.loopEq (K:ArT P kt ft)(d:Nat)(l m:List Int)(h:l.length=m.length)(w:World):∀(c j:Nat),j+c=l.length→
  ((forIn (List.range' j c) ((none,()):Option Bool×Unit) λi _=>do
   if(!(←Op.equalIn (d+1) ft (←Go.part ft (l.map (Value.int .i8)).toArray (i*1)) (←Go.part ft (m.map (Value.int .i8)).toArray (i*1))))=true then
    pure (ForInStep.done (some false,()))
   else pure (ForInStep.yield (none,()))):Sem (Option Bool×Unit)).run P w= .ok (if l.drop j=m.drop j then(none,()) else(some false,())) w
 |0,j,hj=>by
  rw[List.drop_of_length_le (by omega),List.drop_of_length_le (by omega),if_pos rfl]
  simp
 |c+1,j,hj=>by
  have h1:j<l.length:=by omega
  have h2:j<m.length:=by omega
  rw[List.range'_succ,List.forIn_cons]
  have e:=run_equalIn_int (P:=P) w d ft .i8 .i8 l[j] m[j] K.i
  simp only[Sem.run_bind,K.part l h1,K.part m h2,Result.andThen_ok,e]
  have hd:(l.drop j=m.drop j)=(l[j]=m[j]∧l.drop (j+1)=m.drop (j+1)):=by
   rw[List.drop_eq_getElem_cons h1,List.drop_eq_getElem_cons h2,List.cons.injEq]
  simp only[hd]
  by_cases hv:l[j]=m[j]
  ·rw[show (l[j]==m[j])=true from beq_iff_eq.2 hv]
   simp only[Bool.not_true,Bool.false_eq_true,if_false,Sem.run_pure,Result.andThen_ok]
   rw[K.loopEq d l m h w c (j+1) (by omega)]
   simp[hv]
  ·rw[show (l[j]==m[j])=false from beq_eq_false_iff_ne.2 hv]
   simp[hv]
theorem ArT.eq (K:ArT P kt ft)(d:Nat)(a b:C16)(w:World):(Op.equalIn (d+2) kt (BF a) (BF b)).run P w= .ok (a==b) w:=by
 rw[eC16_li,eC16_li]
 unfold Op.equalIn
 simp only[Sem.run_bind,run_underlying K.u,Result.andThen_ok,K.s w]
 simp only[Std.Legacy.Range.forIn_eq_forIn_range',Std.Legacy.Range.size,Nat.sub_zero,Nat.add_one_sub_one,Nat.div_one]
 have h:=K.loopEq d a.li b.li rfl w 16 0 rfl
 rw[List.drop_zero,List.drop_zero] at h
 refine Eq.trans (congrArg (λr=>Result.andThen r _) h) ?_
 by_cases hv:a=b
 ·subst hv
  rw[if_pos rfl]
  simp
 ·rw[if_neg (λe=>hv (C16.li_inj e))]
  simp[hv]
theorem ArT.check (K:ArT P kt ft)(x:C16)(em:Bool)(w:World):(Instr.checkKey em 10000 kt (BF x)).run P w= .ok () w:=by
 have c:∀(y:Int),(Instr.checkKey em 9999 ft (.int .i8 y)).run P w= .ok () w:=λy=>by
  unfold Instr.checkKey
  simp[run_underlying K.i]
 rw[eC16_li]
 unfold Instr.checkKey
 simp only[Sem.run_bind,run_underlying K.u,Result.andThen_ok]
 simp only[Std.Legacy.Range.forIn_eq_forIn_range',Std.Legacy.Range.size,Nat.sub_zero,Nat.add_one_sub_one,Nat.div_one]
 have key:∀(c' j:Nat),j+c'=x.li.length→((forIn (List.range' j c') PUnit.unit λi _=>do
   Instr.checkKey em 9999 ft (←Go.part ft (x.li.map (Value.int .i8)).toArray (i*(←sizeOf ft)))
   pure (ForInStep.yield PUnit.unit)):Sem PUnit).run P w= .ok PUnit.unit w:=by
  intro c'
  induction c' with
  |zero=>intro j _;simp
  |succ c' ih=>
   intro j hj
   rw[List.range'_succ,List.forIn_cons]
   have h1:j<x.li.length:=by omega
   simp only[Sem.run_bind,K.s w,Result.andThen_ok,K.part x.li h1,c,Sem.run_pure]
   exact ih (j+1) (by omega)
 have:=key 16 0 rfl
 refine Eq.trans (congrArg (λr=>Result.andThen r _) this) ?_
 simp
theorem KeyE.c16 (K:ArT P kt ft):KeyE P kt BF:=by
 refine⟨λa b h=> ?_,λem x w=>K.check x em w,λx w es M h=> ?_,λx w=> ?_⟩
 ·apply C16.li_inj
  simp only[BF,Value.agg.injEq,Array.mk.injEq,List.cons.injEq,Value.int.injEq,true_and,and_true] at h
  unfold C16.li
  simp[h]
 ·rw[run_findKey_eq w (by rw[K.u])]
  have heq:∀a b w,(Op.equal kt (BF a) (BF b)).run P w= .ok (decide (a=b)) w:=λa b w=>by
   have:(Op.equal kt (BF a) (BF b)).run P w= .ok (a==b) w:=K.eq 9998 a b w
   rw[this]
   congr 1
  rcases G8 heq x w es M 0 h with h|⟨j,kv,h1,h2⟩
  ·exact .inl h
  ·exact .inr ⟨j,kv,by rw[h1,Nat.zero_add],h2⟩
 ·have e:Instr.sameBits 10000 (BF x) (BF x)=true:=by simp[BF,Instr.sameBits]
  unfold Instr.keyThatStays
  rw[e];rfl
theorem ArT.noGuard (K:ArT P kt ft):P.eqGuardType P.depth kt=false:=by
 have h:P.eqGuardType (2*(P.types.size+Made.depth)+1+1) kt=false:=by
  unfold Program.eqGuardType
  rw[K.u]
  have e0:P.eqGuardType (2*(P.types.size+Made.depth)+1) ft=false:=by
   unfold Program.eqGuardType
   rw[K.i]
  simp[e0]
 exact h
theorem r_eq16 {ρ:Operand→Value}{w:World}{d:Option Tmp}{t:TypeId}{pos:String}{af:Array Edge}{gd:Option (Nat×Bool)}{u':TypeId}{x y:Operand}{a b:C16}(K:ArT P kt ft)(hx:ρ x=BF a)(hy:ρ y=BF b):
  (execOp ρ ⟨d,.binOp .eql kt x y u',t,pos,af,gd⟩).run P w= .ok (.value (.bool (a==b))) w:=by
 have hg:(eqGuard .eql kt x y (BF a) (BF b)).run P w= .ok () w:=by
  unfold eqGuard BF
  simp[K.noGuard]
 have hb:(binOp .eql kt (BF a) (BF b)).run P w= .ok (.bool (a==b)) w:=by
  have h:=K.eq 9998 a b w
  have h:(Op.equal kt (BF a) (BF b)).run P w= .ok (a==b) w:=h
  unfold BF at h ⊢
  simp[binOp,h]
 simp[execOp,hx,hy,hg,hb]
end
end Go.Sx

namespace Go.Sx
open IntKind
noncomputable section
open Go
def D.Y1 (a b:Int):Option (Int×Int):=
 some ((IntKind.u64.wrap ((IntKind.u64.wrap ((IntKind.u64.wrap ((BZ .u64 a 32)*(BZ .u64 b 32)))+(BZ .u64 (IntKind.u64.wrap ((IntKind.u64.wrap ((BZ .u64 a 32)*(iand .u64 b 4294967295)))+(BZ .u64 (IntKind.u64.wrap ((iand .u64 a 4294967295)*(iand .u64 b 4294967295))) 32))) 32)))+(BZ .u64 (IntKind.u64.wrap ((iand .u64 (IntKind.u64.wrap ((IntKind.u64.wrap ((BZ .u64 a 32)*(iand .u64 b 4294967295)))+(BZ .u64 (IntKind.u64.wrap ((iand .u64 a 4294967295)*(iand .u64 b 4294967295))) 32))) 4294967295)+(IntKind.u64.wrap ((iand .u64 a 4294967295)*(BZ .u64 b 32))))) 32))),(IntKind.u64.wrap (a*b)))
def D.U (b c:Int):Option (Int×Int):=
 (D.Y1 b c).bind λa=>some (a.1,a.2)
def D.J0 (l b:LL)(c d:Int):Option (Bool):=
 (Az (σ:=Int) (ρ:=(Unit) ⊕ (Bool)) (fun(a:Int)=>cond (decide (a<(b.length:Int))) ((idx b a).bind λe=>(idx e 0).bind λf=>(D.x0 c d).bind λg=>(cond (f==g) ((idx b a).bind λh=>(idx h 1).bind λi=>(D.M c d).bind λj=>some (i==j)) (some false)).bind λk=>cond (k&&(c !=d)) (some (.inr (.inr true))) (some (.inl (i64.wrap (a+1))))) (some (.inr (.inl ())))) 0).bind λzz=>match zz with| .inl _=>(some false)| .inr z=>(some z)
def D.p (a b:LI)(c d:LL)(e f:Int)(g h:LI):Option (LI×LI×LL×LL):=
 (AR a ([e]:LI)).bind λi=>(AR b ([f]:LI)).bind λj=>(AR c ([g]:LL)).bind λk=>(AR d ([h]:LL)).bind λl=>some (i,j,k,l)
def D.a0 (s t:LI)(u v:LL)(a d:LI):Option (LI×LI×LL×LL):=
 (Az (σ:=LI×Int×LI×LI×LL×LL) (ρ:=(LI×LI×LI×LL×LL)) (fun(i,b,e,j,k,l)=>cond (decide (b<(a.length:Int))) ((idx a b).bind λx=>(D.f d x).bind λy=>cond (!y) ((idx a b).bind λz=>(D.X0 i z).bind λp=>(idx a b).bind λaa=>(D.p e j k l 3 aa p ([(i64.wrap ((e.length:Int)-1))]:LI)).bind λf=>some (.inl (p,(i64.wrap (b+1)),f.1,f.2.1,f.2.2.1,f.2.2.2))) (some (.inl (i,(i64.wrap (b+1)),e,j,k,l)))) (some (.inr (i,e,j,k,l)))) (a,0,s,t,u,v)).bind fun(ab,ac,ad,ae,af)=>(Az (σ:=LI×Int×LI×LI×LL×LL) (ρ:=(LI×LI×LL×LL)) (fun(q,c,g,m,n,o)=>cond (decide (c<(d.length:Int))) ((idx d c).bind λah=>(D.f a ah).bind λai=>cond (!ai) ((idx d c).bind λaj=>(D.q q aj).bind λr=>(idx d c).bind λak=>(D.p g m n o 2 ak r ([(i64.wrap ((g.length:Int)-1))]:LI)).bind λh=>some (.inl (r,(i64.wrap (c+1)),h.1,h.2.1,h.2.2.1,h.2.2.2))) (some (.inl (q,(i64.wrap (c+1)),g,m,n,o)))) (some (.inr (g,m,n,o)))) (ab,0,ac,ad,ae,af)).bind fun(al,am,an,ao)=>some (al,am,an,ao)
def D.g0 :Nat→LL→LL→LI→LI→LL→LL→Int→Int→Option (LI×LI×LL×LL)
 |0,_,_,_,_,_,_,_,_=>none
 |fuel+1,c,n,t,u,v,w,d,x=>(Az (σ:=Int×Int×LI×LI×LL×LL) (ρ:=(Int×LI×LI×LL×LL)) (fun(e,b,j,k,l,m)=>cond (decide (b<(c.length:Int))) ((cond (b==x) (some true) ((D.J0 c n d b).bind λz=>some (!z))).bind λaa=>cond aa (some (.inl (e,(i64.wrap (b+1)),j,k,l,m))) ((D.g0 fuel c n j k l m b d).bind λf=>(idx c b).bind λab=>(idx c d).bind λac=>(D.a0 f.1 f.2.1 f.2.2.1 f.2.2.2 ab ac).bind λa=>cond (decide ((0:Int)≤e)) ((((idx c d).bind λad=>(D.e ad).bind λae=>(D.p a.1 a.2.1 a.2.2.1 a.2.2.2 4 (-1) ae ([e,(i64.wrap ((a.1.length:Int)-1))]:LI)).bind λg=>some (g.1,g.2.1,g.2.2.1,g.2.2.2):Option (LI×LI×LL×LL))).bind fun(o,af,ag,ah)=>some (.inl ((i64.wrap ((o.length:Int)-1)),(i64.wrap (b+1)),o,af,ag,ah))) (some (.inl ((i64.wrap ((a.1.length:Int)-1)),(i64.wrap (b+1)),a.1,a.2.1,a.2.2.1,a.2.2.2))))) (some (.inr (e,j,k,l,m)))) ((-1),0,t,u,v,w)).bind fun(ai,p,q,r,s)=>cond (decide (ai<0)) ((D.p p q r s 1 (-1) ([]:LI) ([]:LI)).bind λh=>(idx c d).bind λaj=>(D.a0 h.1 h.2.1 h.2.2.1 h.2.2.2 ([]:LI) aj).bind λi=>some (i.1,i.2.1,i.2.2.1,i.2.2.2)) (some (p,q,r,s))
def D.B (a b:LL)(c d:LI)(e f:LL)(g h:Int):Option (LI×LI×LL×LL):=D.g0 Bx a b c d e f g h
def D.U0 (l c g:LL):Option (LI×LI×LL×LL×Bool):=
 (D.y1 l c g).bind λm=>cond (!m) (some (([]:LI),([]:LI),([]:LL),([]:LL),false)) ((Az (σ:=Int) (ρ:=(Unit) ⊕ (LI×LI×LL×LL×Bool)) (fun(f:Int)=>cond (decide (f<(c.length:Int))) ((idx c f).bind λn=>cond (decide ((8:Int)<(n.length:Int))) (some (.inr (.inr (([]:LI),([]:LI),([]:LL),([]:LL),false)))) (some (.inl (i64.wrap (f+1))))) (some (.inr (.inl ())))) 0).bind λzz=>match zz with| .inl _=>((D.B c g ([]) ([]) ([]) ([]) 0 (-1)).bind λd=>(idx c 0).bind λo=>(D.a0 d.1 d.2.1 d.2.2.1 d.2.2.2 o ([]:LI)).bind λa=>cond (decide ((200:Int)<(a.1.length:Int))) (some (([]:LI),([]:LI),([]:LL),([]:LL),false)) ((Az (σ:=Int×LI×LI×LL×LL) (ρ:=(LI×LI×LL×LL)) (fun(b,h,i,j,k)=>cond (decide (b<(a.1.length:Int))) ((idx a.1 b).bind λq=>(idx a.2.1 b).bind λr=>(idx a.2.2.1 b).bind λs=>(idx a.2.2.2 b).bind λt=>(D.e s).bind λu=>(D.e t).bind λv=>(D.p h i j k q r u v).bind λe=>some (.inl ((i64.wrap (b+1)),e.1,e.2.1,e.2.2.1,e.2.2.2))) (some (.inr (h,i,j,k)))) (0,([]:LI),([]:LI),([]:LL),([]:LL))).bind fun(w,x,y,aa)=>some (w,x,y,aa,true)))| .inr z=>(some z))
def D.q1 (c:LL)(a:LI):Option (Bool):=
 cond ((a.length:Int) !=(c.length:Int)) (some false) ((Az (σ:=Int) (ρ:=(Unit) ⊕ (Bool)) (fun(b:Int)=>cond (decide (b<(a.length:Int))) ((idx a b).bind λd=>(D.b d 0 1000).bind λe=>cond (!e) (some (.inr (.inr false))) (some (.inl (i64.wrap (b+1))))) (some (.inr (.inl ())))) 0).bind λzz=>match zz with| .inl _=>(some true)| .inr z=>(some z))
def D.W0 (e:LL)(f:LI):Option (LI×Int):=
 (D.r e).bind λk=>(cond (!k) (some true) ((D.q1 e f).bind λl=>some (!l))).bind λm=>cond m (some (([]:LI),(-1))) ((D.m e).bind λn=>(Az (σ:=Int×Int×Int) (ρ:=(Int×Int)) (fun(b,c,a)=>(D.F e).bind λp=>cond (decide (a≤p)) ((Az (σ:=Int×Int) (ρ:=(Int)) (fun(h,d)=>cond (decide (d<(f.length:Int))) ((idx f d).bind λr=>cond (decide ((IntKind.u64.wrap d)<0)) none (some (.inl ((i64.wrap (h+(i64.wrap (r*(iand .i64 (BZ .i64 a (IntKind.u64.wrap d)) 1))))),(i64.wrap (d+1)))))) (some (.inr h))) (0,0)).bind λg=>(D.z a).bind λi=>(D.z b).bind λj=>(cond (decide (g<c)) (some true) ((cond (g==c) ((cond (decide (j<i)) (some true) ((cond (i==j) ((D.P a b).bind λs=>some (!s)) (some false)).bind λt=>some t)).bind λu=>some u) (some false)).bind λv=>some v)).bind λw=>cond w (some (.inl (b,c,(i64.wrap (a+1))))) ((D.S n a).bind λx=>cond x (some (.inl (a,g,(i64.wrap (a+1))))) (some (.inl (b,c,(i64.wrap (a+1))))))) (some (.inr (b,c)))) (0,0,0)).bind fun(y,z)=>(D.c0 y).bind λaa=>some (aa,z))
def D.n0 (a b:Int):Option (Int×Bool):=
 some (a,(a==b))
def D.G1 (a:Int):Option (Int):=
 some 0
def D.S1 (a:LI):Option (Unit):=
 some ()
def D.h0 (a b f:Int)(c:LI):Option LI:=
 (idx c b).bind λd=>cond ((iand .u32 d a) !=0) (some ([a]:LI)) ((D.a b).bind λe=>some ([a,(ior .u32 a e)]:LI))
def D.T (x0_0c0_0:LI)(a:AJ)(b c:Int):Option (AJ):=
 cond ((a b).isSome) ((D.I ((a b).getD 0) c).bind λd=>some (BN a b d)) (some (BN a b c))
def D.a1 (b a:Int)(h c:Int):Option (AJ):=
 (D.g b a).bind λd=>cond d ((D.G1 a).bind λe=>(D.a a).bind λf=>some (BN (mf0:AJ) (iandNot .u32 b f) (i64.wrap (c+e)))) ((D.a a).bind λg=>some (BN (mf0:AJ) (iandNot .u32 b g) c))
def D.Q1 (f s:LI)(g t:LL)(u:AJ)(x2_0c0_0:LI):Option (AJ):=
 (Az (σ:=(List AJ)×Int) (ρ:=((List AJ))) (fun(a,b)=>cond (decide (b<(f.length:Int))) ((idx f b).bind λd=>(idx s b).bind λh=>(idx t b).bind λc=>cond (d==1) ((AR a ([u]:List AJ)).bind λw=>some (.inl (w,(i64.wrap (b+1))))) (cond (d==2) ((idx c 0).bind λx=>(idx a x).bind λy=>(BU (σ:=(AJ)) y (fun(i:Int×Int) (z:AJ)=>(idx c 0).bind λaa=>(idx g aa).bind λab=>(D.h ab).bind λac=>(D.h0 i.1 h ac x2_0c0_0).bind λj=>(Az (σ:=(AJ)×Int) (ρ:=((AJ))) (fun(k,e)=>cond (decide (e<(j.length:Int))) ((idx j e).bind λae=>(D.T x2_0c0_0 k ae i.2).bind λaf=>some (.inl (af,(i64.wrap (e+1))))) (some (.inr k))) (z,0)).bind λag=>some ag) (mf0:AJ)).bind λah=>(AR a ([ah]:List AJ)).bind λai=>some (.inl (ai,(i64.wrap (b+1))))) (cond (d==3) ((idx c 0).bind λaj=>(idx a aj).bind λak=>(BU (σ:=(AJ)) ak (fun(l:Int×Int) (al:AJ)=>(idx g b).bind λam=>(D.h am).bind λan=>(D.a1 l.1 h an l.2).bind λao=>(BU (σ:=(AJ)) ao (fun(m:Int×Int) (ap:AJ)=>(D.T x2_0c0_0 ap m.1 m.2).bind λaq=>some aq) al).bind λar=>some ar) (mf0:AJ)).bind λau=>(AR a ([au]:List AJ)).bind λav=>some (.inl (av,(i64.wrap (b+1))))) (cond (d==4) ((idx c 0).bind λaw=>(idx a aw).bind λax=>(BU (σ:=(AJ)) ax (fun(n:Int×Int) (ay:AJ)=>(idx c 1).bind λaz=>(idx a az).bind λa0=>(BU (σ:=(AJ)) a0 (fun(o:Int×Int) (p:AJ)=>(D.n0 n.1 o.1).bind λq=>cond q.2 ((D.V n.2 o.2).bind λa1=>(D.T x2_0c0_0 p q.1 a1).bind λa2=>some a2) (some p)) ay).bind λa3=>some a3) (mf0:AJ)).bind λa4=>(AR a ([a4]:List AJ)).bind λa5=>some (.inl (a5,(i64.wrap (b+1))))) ((AR a ([(mf0:AJ)]:List AJ)).bind λa6=>some (.inl (a6,(i64.wrap (b+1))))))))) (some (.inr a))) (([]:List AJ),0)).bind λr=>(idx r (i64.wrap ((r.length:Int)-1))).bind λa7=>some a7
def D.N (a:LL)(b c:LI)(d e:LL):Option (Int):=
 (D.j a b c d e).bind λg=>cond (!g) (some (-1)) ((D.L a).bind λf=>(D.S1 f).bind λi=>(D.Q1 b c d e (BN (mf0:AJ) 0 1) f).bind λh=>some ((h 0).getD 0))
def D.d1 (b:LL):Option (Int):=
 (D.r b).bind λd=>cond (!d) (some (-1)) ((D.m b).bind λe=>(Az (σ:=Int×Int) (ρ:=(Int)) (fun(c,a)=>(D.F b).bind λg=>cond (decide (a≤g)) ((D.S e a).bind λh=>cond h (some (.inl ((i64.wrap (c+1)),(i64.wrap (a+1))))) (some (.inl (c,(i64.wrap (a+1)))))) (some (.inr c))) (0,0)).bind λi=>some i)
def D.Z0 (a:Int):Option (Bool):=
 (D.t a 0 1000).bind λb=>some (!b)
def D.V1 (b:LI):Option (Int):=
 (Az (σ:=Int) (ρ:=(Unit) ⊕ (Int)) (fun(a:Int)=>cond (decide (a<(b.length:Int))) ((idx b a).bind λc=>(D.Z0 c).bind λd=>cond d (some (.inr (.inr a))) (some (.inl (i64.wrap (a+1))))) (some (.inr (.inl ())))) 0).bind λzz=>match zz with| .inl _=>(some (-1))| .inr z=>(some z)
def D.X1 (a:LI):Option (Bool):=
 (D.V1 a).bind λb=>some (decide ((0:Int)≤b))
def D.E (b:LL)(a:LI):Option (Bool):=
 (cond ((a.length:Int)==(b.length:Int)) ((D.X1 a).bind λc=>some (!c)) (some false)).bind λd=>some d
def D.a2 (a b:Int):Option (Int):=
 some (if a<b then b else a)
def D.I1 (a b:LI):Option (Unit):=
 some ()
def D.O (x0_0c0_0 x0_1c0f0_0:LI)(a:AJ)(b c:Int):Option (AJ):=
 cond ((a b).isSome) ((D.a2 ((a b).getD 0) c).bind λd=>some (BN a b d)) (some (BN a b c))
def D.A1 (a:Int)(b:LI):Option (Int):=
 (idx b a).bind λc=>some c
def D.y0 (b a:Int)(h c:Int)(x4f0_0:LI):Option (AJ):=
 (D.g b a).bind λd=>cond d ((D.A1 a x4f0_0).bind λe=>(D.a a).bind λf=>some (BN (mf0:AJ) (iandNot .u32 b f) (i64.wrap (c+e)))) ((D.a a).bind λg=>some (BN (mf0:AJ) (iandNot .u32 b g) c))
def D.F1 (f s:LI)(g t:LL)(u:AJ)(x2_0c0_0 x2_1c0f0_0:LI):Option (AJ):=
 (Az (σ:=(List AJ)×Int) (ρ:=((List AJ))) (fun(a,b)=>cond (decide (b<(f.length:Int))) ((idx f b).bind λd=>(idx s b).bind λh=>(idx t b).bind λc=>cond (d==1) ((AR a ([u]:List AJ)).bind λw=>some (.inl (w,(i64.wrap (b+1))))) (cond (d==2) ((idx c 0).bind λx=>(idx a x).bind λy=>(BU (σ:=(AJ)) y (fun(i:Int×Int) (z:AJ)=>(idx c 0).bind λaa=>(idx g aa).bind λab=>(D.h ab).bind λac=>(D.h0 i.1 h ac x2_0c0_0).bind λj=>(Az (σ:=(AJ)×Int) (ρ:=((AJ))) (fun(k,e)=>cond (decide (e<(j.length:Int))) ((idx j e).bind λae=>(D.O x2_0c0_0 x2_1c0f0_0 k ae i.2).bind λaf=>some (.inl (af,(i64.wrap (e+1))))) (some (.inr k))) (z,0)).bind λag=>some ag) (mf0:AJ)).bind λah=>(AR a ([ah]:List AJ)).bind λai=>some (.inl (ai,(i64.wrap (b+1))))) (cond (d==3) ((idx c 0).bind λaj=>(idx a aj).bind λak=>(BU (σ:=(AJ)) ak (fun(l:Int×Int) (al:AJ)=>(idx g b).bind λam=>(D.h am).bind λan=>(D.y0 l.1 h an l.2 x2_1c0f0_0).bind λao=>(BU (σ:=(AJ)) ao (fun(m:Int×Int) (ap:AJ)=>(D.O x2_0c0_0 x2_1c0f0_0 ap m.1 m.2).bind λaq=>some aq) al).bind λar=>some ar) (mf0:AJ)).bind λau=>(AR a ([au]:List AJ)).bind λav=>some (.inl (av,(i64.wrap (b+1))))) (cond (d==4) ((idx c 0).bind λaw=>(idx a aw).bind λax=>(BU (σ:=(AJ)) ax (fun(n:Int×Int) (ay:AJ)=>(idx c 1).bind λaz=>(idx a az).bind λa0=>(BU (σ:=(AJ)) a0 (fun(o:Int×Int) (p:AJ)=>(D.n0 n.1 o.1).bind λq=>cond q.2 ((D.I n.2 o.2).bind λa1=>(D.O x2_0c0_0 x2_1c0f0_0 p q.1 a1).bind λa2=>some a2) (some p)) ay).bind λa3=>some a3) (mf0:AJ)).bind λa4=>(AR a ([a4]:List AJ)).bind λa5=>some (.inl (a5,(i64.wrap (b+1))))) ((AR a ([(mf0:AJ)]:List AJ)).bind λa6=>some (.inl (a6,(i64.wrap (b+1))))))))) (some (.inr a))) (([]:List AJ),0)).bind λr=>(idx r (i64.wrap ((r.length:Int)-1))).bind λa7=>some a7
def D.y (a:LL)(c d:LI)(e f:LL)(b:LI):Option (Int):=
 (D.j a c d e f).bind λh=>(cond (!h) (some true) ((D.E a b).bind λi=>some (!i))).bind λj=>cond j (some (-1)) ((D.L a).bind λg=>(D.I1 g b).bind λl=>(D.F1 c d e f (BN (mf0:AJ) 0 0) g b).bind λk=>some ((k 0).getD 0))
def D.S0 (b:LL):Option LI:=
 (D.r b).bind λf=>cond (!f) (some ([]:LI)) ((D.m b).bind λg=>(D.F b).bind λh=>(Az (σ:=Int×Int) (ρ:=(Int)) (fun(c,a)=>(D.F b).bind λj=>cond (decide (a≤j)) ((D.z a).bind λd=>(D.z c).bind λe=>(cond (decide (e<d)) (some true) ((cond (d==e) ((D.P a c).bind λk=>some (!k)) (some false)).bind λl=>some l)).bind λm=>cond m (some (.inl (c,(i64.wrap (a+1))))) ((D.F b).bind λn=>(D.S g (iandNot .i64 n a)).bind λo=>cond o (some (.inl (a,(i64.wrap (a+1))))) (some (.inl (c,(i64.wrap (a+1))))))) (some (.inr c))) (h,0)).bind λp=>(D.c0 p).bind λq=>some q)
def D.N0 (b c:Int)(d e:Int)(f g:Int)(h i:Int)(j k:Int)(l m:Int)(n o:Int)(p q:Int)(a s r:Int):Option (Bt):=
 (idx ([b,c,d,e,f,g,h,i,j,k,l,m,n,o,p,q]:LI) a).bind λt=>some (BN (mf0:Bt) (⟨(upd a 0 0 b),(upd a 1 0 c),(upd a 2 0 d),(upd a 3 0 e),(upd a 4 0 f),(upd a 5 0 g),(upd a 6 0 h),(upd a 7 0 i),(upd a 8 0 j),(upd a 9 0 k),(upd a 10 0 l),(upd a 11 0 m),(upd a 12 0 n),(upd a 13 0 o),(upd a 14 0 p),(upd a 15 0 q)⟩:C16) r)
def D.Y0 (a b:Int)(c d:Int)(e f:Int)(g h:Int)(i j:Int)(k l:Int)(m n:Int)(o p:Int)(q r:Int)(s t:Int)(u v:Int)(w x:Int)(y z:Int)(aa ab:Int)(ac ad:Int)(ae af:Int):Option (Int×Int×Int×Int×Int×Int×Int×Int×Int×Int×Int×Int×Int×Int×Int×Int×Bool):=
 some (a,b,c,d,e,f,g,h,i,j,k,l,m,n,o,p,((⟨a,b,c,d,e,f,g,h,i,j,k,l,m,n,o,p⟩:C16)==(⟨q,r,s,t,u,v,w,x,y,z,aa,ab,ac,ad,ae,af⟩:C16)))
def D.E0 (a b:Int)(c d:Int)(e f:Int)(g h:Int)(i j:Int)(k l:Int)(m n:Int)(o p:Int)(q r:Int):Option (Bool):=
 (idx ([b,c,d,e,f,g,h,i,j,k,l,m,n,o,p,q]:LI) a).bind λs=>some (s==r)
def D.E1 (b:LI)(c d:Int)(e f:Int)(g h:Int)(i j:Int)(k l:Int)(m n:Int)(o p:Int)(q r s:Int):Option (Int):=
 (Az (σ:=Int) (ρ:=(Unit) ⊕ (Int)) (fun(a:Int)=>cond (decide (a<(b.length:Int))) ((idx b a).bind λt=>(D.E0 t c d e f g h i j k l m n o p q r s).bind λu=>cond u (some (.inr (.inr a))) (some (.inl (i64.wrap (a+1))))) (some (.inr (.inl ())))) 0).bind λzz=>match zz with| .inl _=>(some (-1))| .inr z=>(some z)
def D.t1 (a:LI)(b c:Int)(d e:Int)(f g:Int)(h i:Int)(j k:Int)(l m:Int)(n o:Int)(p q r:Int):Option (Bool):=
 (D.E1 a b c d e f g h i j k l m n o p q r).bind λs=>some (decide ((0:Int)≤s))
def D.x (c d:Int)(e f:Int)(g h:Int)(i j:Int)(k l:Int)(m n:Int)(o p:Int)(q r:Int)(b t u:Int)(v:LI):Option (((List C16))):=
 (Az (σ:=(List C16)×Int) (ρ:=((List C16))) (fun(s,a)=>cond (decide ((i64.wrap a)≤u)) ((idx v b).bind λx=>(D.o (iand .u32 x t)).bind λy=>(D.t1 y c d e f g h i j k l m n o p q r a).bind λz=>cond (!z) ((idx ([c,d,e,f,g,h,i,j,k,l,m,n,o,p,q,r]:LI) b).bind λac=>(AR s ([(⟨(upd b 0 a c),(upd b 1 a d),(upd b 2 a e),(upd b 3 a f),(upd b 4 a g),(upd b 5 a h),(upd b 6 a i),(upd b 7 a j),(upd b 8 a k),(upd b 9 a l),(upd b 10 a m),(upd b 11 a n),(upd b 12 a o),(upd b 13 a p),(upd b 14 a q),(upd b 15 a r)⟩:C16)]:List C16)).bind λaa=>some (.inl (aa,(IntKind.i8.wrap (a+1))))) (some (.inl (s,(IntKind.i8.wrap (a+1)))))) (some (.inr s))) (([]:List C16),1)).bind λab=>some ab
def D.d0 (x0_0c0_0:Int)(x0_0c1_0:LI)(a:Bt)(b c:Int)(d e:Int)(f g:Int)(h i:Int)(j k:Int)(l m:Int)(n o:Int)(p q r:Int):Option (Bt):=
 cond ((a (⟨b,c,d,e,f,g,h,i,j,k,l,m,n,o,p,q⟩:C16)).isSome) ((D.I ((a (⟨b,c,d,e,f,g,h,i,j,k,l,m,n,o,p,q⟩:C16)).getD 0) r).bind λs=>some (BN a (⟨b,c,d,e,f,g,h,i,j,k,l,m,n,o,p,q⟩:C16) s)) (some (BN a (⟨b,c,d,e,f,g,h,i,j,k,l,m,n,o,p,q⟩:C16) r))
def D.O1 (m u:LI)(n v:LL)(w:Bt)(x2_0c0_0:Int)(x2_0c1_0:LI):Option (Bt):=
 (Az (σ:=(List Bt)×Int) (ρ:=((List Bt))) (fun(h,i)=>cond (decide (i<(m.length:Int))) ((idx m i).bind λk=>(idx u i).bind λo=>(idx v i).bind λj=>cond (k==1) ((AR h ([w]:List Bt)).bind λy=>some (.inl (y,(i64.wrap (i+1))))) (cond (k==2) ((idx j 0).bind λz=>(idx h z).bind λaa=>(BU (σ:=(Bt)) aa (fun(a:C16×Int) (ab:Bt)=>(idx j 0).bind λac=>(idx n ac).bind λad=>(D.h ad).bind λae=>(D.x a.1.c0 a.1.c1 a.1.c2 a.1.c3 a.1.c4 a.1.c5 a.1.c6 a.1.c7 a.1.c8 a.1.c9 a.1.c10 a.1.c11 a.1.c12 a.1.c13 a.1.c14 a.1.c15 o ae x2_0c0_0 x2_0c1_0).bind λp=>(Az (σ:=(Bt)×(List C16)×Int) (ρ:=((Bt))) (fun(q,r,l)=>cond (decide (l<(p.length:Int))) ((idx r l).bind λg=>(D.d0 x2_0c0_0 x2_0c1_0 q g.c0 g.c1 g.c2 g.c3 g.c4 g.c5 g.c6 g.c7 g.c8 g.c9 g.c10 g.c11 g.c12 g.c13 g.c14 g.c15 a.2).bind λag=>some (.inl (ag,r,(i64.wrap (l+1))))) (some (.inr q))) (ab,p,0)).bind λah=>some ah) (mf0:Bt)).bind λai=>(AR h ([ai]:List Bt)).bind λaj=>some (.inl (aj,(i64.wrap (i+1))))) (cond (k==3) ((idx j 0).bind λak=>(idx h ak).bind λal=>(BU (σ:=(Bt)) al (fun(b:C16×Int) (am:Bt)=>(idx n i).bind λan=>(D.h an).bind λao=>(D.N0 b.1.c0 b.1.c1 b.1.c2 b.1.c3 b.1.c4 b.1.c5 b.1.c6 b.1.c7 b.1.c8 b.1.c9 b.1.c10 b.1.c11 b.1.c12 b.1.c13 b.1.c14 b.1.c15 o ao b.2).bind λap=>(BU (σ:=(Bt)) ap (fun(c:C16×Int) (aq:Bt)=>(D.d0 x2_0c0_0 x2_0c1_0 aq c.1.c0 c.1.c1 c.1.c2 c.1.c3 c.1.c4 c.1.c5 c.1.c6 c.1.c7 c.1.c8 c.1.c9 c.1.c10 c.1.c11 c.1.c12 c.1.c13 c.1.c14 c.1.c15 c.2).bind λar=>some ar) am).bind λau=>some au) (mf0:Bt)).bind λav=>(AR h ([av]:List Bt)).bind λaw=>some (.inl (aw,(i64.wrap (i+1))))) (cond (k==4) ((idx j 0).bind λax=>(idx h ax).bind λay=>(BU (σ:=(Bt)) ay (fun(d:C16×Int) (az:Bt)=>(idx j 1).bind λa0=>(idx h a0).bind λa1=>(BU (σ:=(Bt)) a1 (fun(e:C16×Int) (s:Bt)=>(D.Y0 d.1.c0 d.1.c1 d.1.c2 d.1.c3 d.1.c4 d.1.c5 d.1.c6 d.1.c7 d.1.c8 d.1.c9 d.1.c10 d.1.c11 d.1.c12 d.1.c13 d.1.c14 d.1.c15 e.1.c0 e.1.c1 e.1.c2 e.1.c3 e.1.c4 e.1.c5 e.1.c6 e.1.c7 e.1.c8 e.1.c9 e.1.c10 e.1.c11 e.1.c12 e.1.c13 e.1.c14 e.1.c15).bind λf=>cond f.2.2.2.2.2.2.2.2.2.2.2.2.2.2.2.2 ((D.V d.2 e.2).bind λa2=>(D.d0 x2_0c0_0 x2_0c1_0 s f.1 f.2.1 f.2.2.1 f.2.2.2.1 f.2.2.2.2.1 f.2.2.2.2.2.1 f.2.2.2.2.2.2.1 f.2.2.2.2.2.2.2.1 f.2.2.2.2.2.2.2.2.1 f.2.2.2.2.2.2.2.2.2.1 f.2.2.2.2.2.2.2.2.2.2.1 f.2.2.2.2.2.2.2.2.2.2.2.1 f.2.2.2.2.2.2.2.2.2.2.2.2.1 f.2.2.2.2.2.2.2.2.2.2.2.2.2.1 f.2.2.2.2.2.2.2.2.2.2.2.2.2.2.1 f.2.2.2.2.2.2.2.2.2.2.2.2.2.2.2.1 a2).bind λa3=>some a3) (some s)) az).bind λa4=>some a4) (mf0:Bt)).bind λa5=>(AR h ([a5]:List Bt)).bind λa6=>some (.inl (a6,(i64.wrap (i+1))))) ((AR h ([(mf0:Bt)]:List Bt)).bind λa7=>some (.inl (a7,(i64.wrap (i+1))))))))) (some (.inr h))) (([]:List Bt),0)).bind λt=>(idx t (i64.wrap ((t.length:Int)-1))).bind λa8=>some a8
def D.c (a:LL)(b c:LI)(d e:LL)(f:Int):Option (Int):=
 (D.j a b c d e).bind λg=>(cond (!g) (some true) ((D.t f 0 4).bind λh=>some (!h))).bind λi=>cond i (some (-1)) ((D.L a).bind λj=>(D.O1 b c d e (BN (mf0:Bt) (⟨0,0,0,0,0,0,0,0,0,0,0,0,0,0,0,0⟩:C16) 1) f j).bind λk=>some ((k (⟨0,0,0,0,0,0,0,0,0,0,0,0,0,0,0,0⟩:C16)).getD 0))
def D.X :Nat→LI→Int→LI→LI→Option LI
 |0,_,_,_,_=>none
 |fuel+1,d,a,b,e=>cond (a==(d.length:Int)) ((idx e (b.length:Int)).bind λh=>(idx e (b.length:Int)).bind λr=>some (e.set (Int.toNat (b.length:Int)) (i64.wrap (h+1)))) ((Az (σ:=LI×Int) (ρ:=LI) (fun(f,c)=>cond (decide (c<(b.length:Int))) ((idx b c).bind λj=>(idx d a).bind λk=>cond ((iand .i64 j k)==0) ((D.e b).bind λg=>(idx g c).bind λl=>cond (decide ((IntKind.u64.wrap a)<0)) none ((idx g c).bind λs=>(D.X fuel d (i64.wrap (a+1)) (g.set (Int.toNat c) (ior .i64 l (ishl .i64 1 (IntKind.u64.wrap a)))) f).bind λm=>some (.inl (m,(i64.wrap (c+1)))))) (some (.inl (f,(i64.wrap (c+1)))))) (some (.inr f))) (e,0)).bind λn=>(D.e b).bind λo=>cond (decide ((IntKind.u64.wrap a)<0)) none ((AR o ([(ishl .i64 1 (IntKind.u64.wrap a))]:LI)).bind λp=>(D.X fuel d (i64.wrap (a+1)) p n).bind λq=>some q))
def D.k (a:LI)(b:Int)(c d:LI):Option LI:=D.X Bx a b c d
def D.m1 (a:LL):Option LI:=
 (D.t0 a).bind λb=>cond (!b) (some ([]:LI)) ((((D.m a).bind λc=>(C4 (0:Int) (i64.wrap ((a.length:Int)+1)) (i64.wrap ((a.length:Int)+1))).bind λd=>(D.k c 0 ([]:LI) d).bind λe=>some e:Option LI)).bind λf=>some f)
def D.O0 (c:LL)(d:Int):Option (Int):=
 (D.t0 c).bind λh=>(cond (!h) (some true) ((D.b d 0 16).bind λi=>some (!i))).bind λj=>cond j (some (-1)) ((D.m1 c).bind λe=>(Az (σ:=Int×Int) (ρ:=(Int)) (fun(f,a)=>cond (decide (a<(e.length:Int))) ((idx e a).bind λl=>(Az (σ:=Int×Int) (ρ:=(Int)) (fun(g,b)=>cond (decide (b<a)) ((D.M (i64.wrap (d-b)) 0).bind λn=>some (.inl ((i64.wrap (g*n)),(i64.wrap (b+1))))) (some (.inr g))) (l,0)).bind λo=>some (.inl ((i64.wrap (f+o)),(i64.wrap (a+1))))) (some (.inr f))) (0,0)).bind λp=>some p)
end
end Go.Sx

namespace Go.Sx
noncomputable def D.e1 (xs:LI)(n:Int):Option LI:=
 match xs with
 |[v]=>cond (decide (1≤n)&&decide (n≤7)) (some (List.replicate n.toNat v)) none
 |_=>none
end Go.Sx

namespace Go.Sx
open IntKind
noncomputable section
def D.z0 (a:LL)(b c:LI)(d e:LL):Option (Int):=
 (D.j a b c d e).bind λf=>cond (!f) (some (-1)) ((D.e1 ([1]:LI) (a.length:Int)).bind λg=>(D.y a b c d e g).bind λh=>some (i64.wrap ((a.length:Int)-h)))
def D.U1 (h:LI):Option (Bool):=
 (D.N1 h).bind λs=>cond s (some true) ((D.p1 h 814).bind λg=>(D.I0 g.1 g.2.1 g.2.2 7).bind λc=>(((D.D0 c.2.1 c.2.2.1 c.2.2.2 c.1).bind λe=>(D.s0 c.1 e.1).bind λi=>some (i.1,i.2.1,e.2.1,e.2.2.1,e.2.2.2,c.1):Option (LL×LL×LI×Int×Int×LL))).bind fun(j,k,t,u,v,b)=>(D.K b j k).bind λd=>(D.U0 b j k).bind λa=>cond ((d.2.2.2.2 !=a.2.2.2.2)||((d.1.length:Int) !=(a.1.length:Int))) (some false) (cond (!a.2.2.2.2) (some true) ((D.H0 b d.1 d.2.1 d.2.2.1 d.2.2.2.1).bind λw=>(cond (!w) (some true) ((D.j b a.1 a.2.1 a.2.2.1 a.2.2.2.1).bind λx=>some (!x))).bind λy=>cond y (some false) ((Az (σ:=LI×Int×LI×Int×Int) (ρ:=(LI×LI×Int×Int)) (fun(l,m,n,o,p)=>cond (decide (m<(b.length:Int))) ((D.l n o p 7).bind λf=>(AR l ([f.1]:LI)).bind λaa=>some (.inl (aa,(i64.wrap (m+1)),f.2.1,f.2.2.1,f.2.2.2))) (some (.inr (l,n,o,p)))) (([]:LI),0,t,u,v)).bind fun(q,ab,ac,ad)=>(D.l ab ac ad 4).bind λr=>(D.W0 b q).bind λae=>(D.N b a.1 a.2.1 a.2.2.1 a.2.2.2.1).bind λaf=>(D.d1 b).bind λag=>(cond (af==ag) ((D.y b a.1 a.2.1 a.2.2.1 a.2.2.2.1 q).bind λah=>some (ah==ae.2)) (some false)).bind λai=>cond ai ((D.z0 b a.1 a.2.1 a.2.2.1 a.2.2.2.1).bind λaj=>(D.S0 b).bind λak=>(cond (aj==(ak.length:Int)) ((D.c b a.1 a.2.1 a.2.2.1 a.2.2.2.1 r.1).bind λal=>(D.O0 b r.1).bind λam=>some (al==am)) (some false)).bind λan=>some an) (some false)))))
end
end Go.Sx

namespace Go.Sx
end Go.Sx

namespace Go.Sx
end Go.Sx

namespace Go.Sx
end Go.Sx

namespace Go.Sx
end Go.Sx

namespace Go.Sx
end Go.Sx

namespace Go.Sx
end Go.Sx

namespace Go.Sx
end Go.Sx



namespace Go.Sx
end Go.Sx

namespace Go.Sx.Gs
class Srtd (α:Type) where
 dflt:α
 key:α→Int
 good:α→Prop
 cmp:α→α→Option Int
 law:∀x y,good x→good y→∃v,cmp x y=some v∧decide (v<0)=decide (key x<key y)
variable {α : Type} [Srtd α]
def el (l:List α)(i:Int):α:=l.getD i.toNat Srtd.dflt
def at' (l:List α)(i:Int):Int:=Srtd.key (el l i)
end Go.Sx.Gs

namespace Go.Sx.Gs
variable {α : Type} [Srtd α]
end Go.Sx.Gs

namespace Go.Sx.Gs
variable {α : Type} [Srtd α]
end Go.Sx.Gs

namespace Go.Sx.Gs
variable {α : Type} [Srtd α]
end Go.Sx.Gs

namespace Go.Sx
theorem wu64 {x:Int}(h1:0≤x)(h2:x<18446744073709551616):IntKind.u64.wrap x=x:=by
 simp only[IntKind.wrap,IntKind.bits,IntKind.signed]
 simp
 omega
end Go.Sx

namespace Go.Sx.Gs
variable {α : Type} [Srtd α]
end Go.Sx.Gs

namespace Go.Sx.Gs
variable {α : Type} [Srtd α]
end Go.Sx.Gs

namespace Go.Sx.Gs
variable {α : Type} [Srtd α]
end Go.Sx.Gs

namespace Go.Sx
theorem list2 {l:LI}(h:l.length=2):∃a b,l=[a,b]:=by
 match l,h with
 |[a,b],_=>exact⟨a,b,rfl⟩
end Go.Sx

set_option maxRecDepth 100000
namespace Go.Proofs.YtljcmdbpfeffcaaGreatDoor
open Go Go.Sx
open Go.Proofs.Tryz Go.Proofs.YtljcmdbpfeffcaaGreatDoor.Tryz IntKind
variable {W w : World} {G : GH} {H : List Itm}
theorem AV :prog.follows .mixedOrders=true:=by kernel_rfl
theorem Pl2 :Cj prog 2:=isAgg2
theorem T35 :SlT prog 35 2 1 8 (iv 0):=⟨underlying35,Tryz.t2,by kernel_rfl,by kernel_rfl,by kernel_rfl,by kernel_rfl⟩
theorem Pl5 :Cj prog 5:=isAgg5
theorem Wk.J1 {v0:Value}{x0:LI}{x1:Int}(m:Mem W G w (H))(h0:R1 G v0 x0){y:Int}(hd:D.J1 x0 x1=some y):
  Calls prog 132 #[v0,iv x1] w (Res W G H (λ_ Ho v=>Ho=[]∧v=(iv y))):=by
 refine Au (args:=[v0,iv x1]) (N:=19) [.tmp 4] func132 Z Z (lb Z) Z λa f=> ?_
 unfold D.J1 at hd
 refine Ae (Ac f Z λa f=>Aa (Ah (Ae (Ab f Z λa f=>AN underlying35 f Z Z h0 λa f=>Ab f Z λa f=>Aa (Bd hd λaa ab hd=> ?_)))))
 refine AL (λa w=>∃q_19':Unit,aa= .inl q_19'∧∃(ac:GH),GLe G ac∧Fr a 19 []∧Mem W ac w (H)) ?_ ?_
 ·refine Al (AM (λad a w=>∃ae:Int,ae=ad∧∃(af:GH),GLe G af∧Fr a 19 [(0,v0),(1,iv x1),(7,(iv (x0.length:Int))),(8,iv ae)]∧Mem W af w (H)) ab ⟨_,Z,_,gr,f.k Z,m⟩ ?_)
  clear ab f m
  rintro ad ag ah ai a w ⟨ae,rfl,af,aj,f,m⟩
  refine have h0:=rd1 aj h0;Ae (Ai f Z Z AP λa f=>Aa (Ah ?_))
  rcases Ag ah with⟨ak,ah⟩|⟨ak,ah⟩
  ·refine Am f Z ak (An (Ah (Al (Ae (Ab f Z λa f=>Ac f Z λa f=>AF (Ab f Z λa f=>Ab f Z λa f=>Ab f Z λa f=>Bd ah λal am ah=>AX T35 f Z Z Z h0 am λan ao a ap aq f=> ?_))))))
   subst aq
   refine Aw m Pl2 f Z Z ap λa f=>Ai f Z Z Bf λa f=>Aa ?_
   rcases Ag ah with⟨ar,ah⟩|⟨ar,ah⟩
   ·refine Am f Z ar (Ae (Ab f Z λa f=>Ac f Z λa f=>Aa (Ar ?_)))
    obtain rfl:=sj ah
    obtain rfl:=ai _ rfl
    obtain rfl:=sj hd
    exact⟨[iv ae],f.g Z,f.d,_,[],aj,m,Z,Z⟩
   ·refine Ak f Z ar (An (Aj (Ai f Z Z AB λa f=>Ab f Z λa f=>Aa ?_)))
    obtain rfl:=sj ah
    exact⟨_,Z,_,Z,_,aj,f.k Z,m⟩
  ·refine Ak f Z ak (AE Z ?_)
   obtain rfl:=sj ah
   obtain rfl:=ai _ rfl
   exact⟨_,Z,_,aj,f.weak trivial,m⟩
 ·rintro a w ⟨_,rfl,ac,au,f,m⟩
  refine Ae (Ac f Z λa f=>Aa (Ar ?_))
  obtain rfl:=sj hd
  exact⟨[(iv (-1))],f.g Z,f.d,_,[],au,m,Z,Z⟩
theorem Wk.q0 {v0:Value}{x0:LI}{x1:Int}(m:Mem W G w (H))(h0:R1 G v0 x0){y:Bool}(hd:D.q0 x0 x1=some y):
  Calls prog 107 #[v0,iv x1] w (Res W G H (λ_ Ho v=>Ho=[]∧v=(.bool y))):=by
 refine Au (args:=[v0,iv x1]) (N:=9) [.tmp 4] func107 Z Z (lb Z) Z λa f=> ?_
 unfold D.q0 at hd
 refine Ae (Ac f Z λa f=>AF (Ab f Z λa f=>Ab f Z λa f=>Bd hd λaa ab hd=>A2 f Z call132 (Wk.J1 m h0 ab) λac w ad m a f=>Ai f Z Z EA λa f=>Ac f Z λa f=>Aa (Ar ?_)))
 obtain rfl:=sj hd
 exact⟨[(.bool (decide ((0:Int)≤aa)))],f.g Z,f.d,_,[],ad,m,Z,Z⟩
theorem Wk.D1 {x0:Int}(hW:DM W)(m:Mem W G w (H)){y:Int}(hd:D.D1 x0=some y):
  Calls prog 136 #[(.int .u32 x0)] w (Res W G H (λ_ Ho v=>Ho=[]∧v=(iv y))):=by
 refine Au (args:=[(.int .u32 x0)]) (N:=14) [.tmp 2] func136 Z Z (lb Z) Z λa f=> ?_
 unfold D.D1 at hd
 refine Ae (Ac f Z λa f=>Aa (Ah (Ae (Ab f Z λa f=>Ai f Z Z Bf λa f=>Aa ?_))))
 rcases Ag hd with⟨aa,hd⟩|⟨aa,hd⟩
 ·refine Am f Z aa (Ae (Ac f Z λa f=>Aa (Ar ?_)))
  obtain rfl:=sj hd
  exact⟨[iv 32],f.g Z,f.d,_,[],gr,m,Z,Z⟩
 ·refine Ak f Z aa (An (Ae (Ab f Z λa f=>Ab f Z λa f=>l_o f (r_neg (f.e Z)) λa f=>Ai f Z Z Dx λa f=>Ai f Z Z Ei λa f=>l_o f (Ek (f.e Z) (f.e Z) (by decide)) λa f=>Bd hd λab ac hd=>l_tab hW m underlying163 sizeOf5 f Z Z ac λad a ae f=>Aw m Pl5 f Z Z ae λa f=>l_o f (C6 (f.e Z) ⟨_,underlying5⟩ underlying3) λa f=>Ac f Z λa f=>Aa (Ar ?_))))
  obtain rfl:=sj hd
  exact⟨[(iv (i64.wrap ab))],f.g Z,f.d,_,[],gr,m,Z,Z⟩
theorem Wk.Y1 {x0 x1:Int}(m:Mem W G w (H)){y:Int×Int}(hd:D.Y1 x0 x1=some y):
  Calls prog 135 #[(.int .u64 x0),(.int .u64 x1)] w (Res W G H (λ_ Ho v=>Ho=[]∧v= .tuple #[(.int .u64 y.1),(.int .u64 y.2)])):=by
 refine Au (args:=[(.int .u64 x0),(.int .u64 x1)]) (N:=51) [.tmp 4,.tmp 5] func135 Z Z (lb Z) Z λa f=> ?_
 unfold D.Y1 at hd
 refine Ae (Ac f Z λa f=>Ac f Z λa f=>AF (Ab f Z λa f=>Ai f Z Z Dx λa f=>Ac f Z λa f=>AF (Ab f Z λa f=>l_o f (Ek (f.e Z) (f.e Z) (by decide)) λa f=>Ac f Z λa f=>AF (Ab f Z λa f=>Ai f Z Z Dx λa f=>Ac f Z λa f=>AF (Ab f Z λa f=>l_o f (Ek (f.e Z) (f.e Z) (by decide)) λa f=>Ac f Z λa f=>AF (Ab f Z λa f=>Ab f Z λa f=>Ai f Z Z Ei λa f=>Ac f Z λa f=>AF (Ab f Z λa f=>Ab f Z λa f=>Ai f Z Z Ei λa f=>Ab f Z λa f=>l_o f (Ek (f.e Z) (f.e Z) (by decide)) λa f=>Ai f Z Z AB λa f=>Ac f Z λa f=>AF (Ab f Z λa f=>Ai f Z Z Dx λa f=>Ac f Z λa f=>AF (Ab f Z λa f=>l_o f (Ek (f.e Z) (f.e Z) (by decide)) λa f=>Ac f Z λa f=>AF (Ab f Z λa f=>Ab f Z λa f=>Ab f Z λa f=>Ai f Z Z Ei λa f=>Ai f Z Z AB λa f=>Ac f Z λa f=> ?_))))))))))
 refine AF (Ab f Z λa f=>Ab f Z λa f=>Ai f Z Z Ei λa f=>Ab f Z λa f=>Ai f Z Z AB λa f=>Ab f Z λa f=>l_o f (Ek (f.e Z) (f.e Z) (by decide)) λa f=>Ai f Z Z AB λa f=>Ac f Z λa f=>AF (Ab f Z λa f=>Ab f Z λa f=>Ai f Z Z Ei λa f=>Ac f Z λa f=>Aa (Ar ?_)))
 obtain rfl:=sj hd
 exact⟨[(.int .u64 (IntKind.u64.wrap ((IntKind.u64.wrap ((IntKind.u64.wrap ((BZ .u64 x0 32)*(BZ .u64 x1 32)))+(BZ .u64 (IntKind.u64.wrap ((IntKind.u64.wrap ((BZ .u64 x0 32)*(iand .u64 x1 4294967295)))+(BZ .u64 (IntKind.u64.wrap ((iand .u64 x0 4294967295)*(iand .u64 x1 4294967295))) 32))) 32)))+(BZ .u64 (IntKind.u64.wrap ((iand .u64 (IntKind.u64.wrap ((IntKind.u64.wrap ((BZ .u64 x0 32)*(iand .u64 x1 4294967295)))+(BZ .u64 (IntKind.u64.wrap ((iand .u64 x0 4294967295)*(iand .u64 x1 4294967295))) 32))) 4294967295)+(IntKind.u64.wrap ((iand .u64 x0 4294967295)*(BZ .u64 x1 32))))) 32)))),(.int .u64 (IntKind.u64.wrap (x0*x1)))],⟨f.get _ _ Z,f.get _ _ Z,trivial⟩,f.d,_,[],gr,m,Z,Z⟩
theorem Wk.U {x0 x1:Int}(m:Mem W G w (H)){y:Int×Int}(hd:D.U x0 x1=some y):
  Calls prog 116 #[(.int .u64 x0),(.int .u64 x1)] w (Res W G H (λ_ Ho v=>Ho=[]∧v= .tuple #[(.int .u64 y.1),(.int .u64 y.2)])):=by
 refine Au (args:=[(.int .u64 x0),(.int .u64 x1)]) (N:=30) [.tmp 4,.tmp 5] func116 Z Z (lb Z) Z λa f=> ?_
 unfold D.U at hd
 refine Ae (Ac f Z λa f=>Ac f Z λa f=>Aa (Ah (Ak f Z Z (An (Ae (Ab f Z λa f=>Ab f Z λa f=>Bd hd λaa ab hd=>A2 f Z call135 (Wk.Y1 m ab) λac w ad m a f=>Ab f Z λa f=>l_o f (AD (f.e Z) Z) λa f=>l_o f (AD (f.e Z) Z) λa f=>Ac f Z λa f=>Ac f Z λa f=>AF (Ab f Z λa f=>Ab f Z λa f=>Ac f Z λa f=>Ac f Z λa f=>Aa (Ar ?_))))))))
 obtain rfl:=sj hd
 exact⟨[(.int .u64 aa.1),(.int .u64 aa.2)],⟨f.get _ _ Z,f.get _ _ Z,trivial⟩,f.d,_,[],ad,m,Z,Z⟩
end Go.Proofs.YtljcmdbpfeffcaaGreatDoor

namespace Go.Sx
def OwnPart (v p:Value)(lo k:Nat):Prop:=∃b m c c',v= .slice (some ⟨b,0,none⟩) m c∧p= .slice (some ⟨b,lo,none⟩) k c'
def cpD {α:Type}(xs ys:List α)(k:Nat):List α:=xs.take k++ys.take (xs.length-k)++xs.drop (k+min ys.length (xs.length-k))
section
variable {P : Program} {ops : Array Oper} {rest : List Oper} {n r : AZ} {x : List (Nat × AZ)} {a : Act} {w : World} {N : Nat} {L : Bi}
variable {W : World} {G : GH} {H : List Itm}
variable {d : Nat} {t : TypeId} {pos : String} {af : Array Edge}
variable {α : Type} {R : Rep α}
theorem Ow.part {tt:TypeId}{it:Itm}{v:Value}{xs:List α}(j:Nat)(m:Mem W G w H)(h:Ow R tt G it v xs)(hj:H[j]? =some it)(hn:0<xs.length):
  ∃b c,v= .slice (some ⟨b,0,none⟩) xs.length c∧xs.length≤c∧c≤maxLen:=by
 obtain⟨vs,rfl,_⟩:=h
 have ok:w.ownsRow 0 tt 1 v xs.length vs:=m.items j _ hj
 rcases ok.2 with⟨_,e2⟩|⟨g,cap,cur,e1,_,_,e2,e3,_⟩
 ·omega
 ·exact⟨g,cap,e1,e2,e3⟩
theorem Ow.srcTo {tt:TypeId}{it:Itm}{v p:Value}{xs:List α}{k:Nat}(j:Nat)(m:Mem W G w H)(h:Ow R tt G it v xs)(hj:H[j]? =some it)(hp:OwnPart v p 0 k)(hk:k≤xs.length):
  ∃vs,Src w p k vs∧All2 (R G) vs (xs.take k):=by
 obtain⟨vs,⟨hl,hs⟩,hA⟩:=h.src m hj
 obtain⟨b,mm,c,c',rfl,rfl⟩:=hp
 refine⟨vs.take k,⟨by simp;omega,.inr ⟨_,_,rfl,λi u hu=> ?_⟩⟩,hA.take k⟩
 rw[List.getElem?_take] at hu
 split at hu
 ·rcases hs with⟨e,_⟩|⟨ad,cc,e,hc⟩
  ·cases e
  ·cases e;exact hc i u hu
 ·cases hu
theorem run_copyOwn (hO:One R){tt u bytes:Nat}{z:Value}{it:Itm}{v y p:Value}{xs ys:List α}{k:Nat}{vs:List Value}(j:Nat)(m:Mem W G w H)(h:Ow R tt G it v xs)(hj:H[j]? =some it)
  (hu:SlT P u tt 1 bytes z) (hp:OwnPart v p k (xs.length-k)) (hk:k≤xs.length) (hs:Src w y ys.length vs) (hA:All2 (R G) vs ys):
  ∃it' w',(Builtin.copy_ #[u,u] t #[p,y]).run P w= .ok (.int .i64 ((min ys.length (xs.length-k):Nat):Int)) w'∧Mem W G w' (H.set j it')∧Ow R tt G it' v (cpD xs ys k):=by
 have h1:=hA.ones hO
 obtain⟨vs0,rfl,hA0⟩:=h
 obtain⟨ti,hi1,hi2,hi3,hi4⟩:=hu.info
 have ok:w.ownsRow 0 tt 1 v xs.length vs0:=m.items j _ hj
 have hl0:vs0.length=xs.length:=hA0.1
 have hlv:vs.length=ys.length:=hs.1
 obtain⟨b,mm,c,c',e,rfl⟩:=hp
 rcases ok.2 with⟨e1,_⟩|⟨g,cap,cur,e1,_,eh,e2,e3,e4,e5⟩
 ·rw[e] at e1;cases e1
 rw[e] at e1
 cases e1
 rcases hs.2 with⟨rfl,h0⟩|⟨ad,cc,rfl,hcells⟩
 ·have hys:ys=[]:=List.eq_nil_of_length_eq_zero h0
  subst hys
  refine⟨.row v tt 1 xs.length vs0,w,by simpa [goInt] using run_copy_nil P w u u t tt ⟨b,k,none⟩ (xs.length-k) c' hu.und (by simp[hi1]),?_,vs0,by simp[cpD],by simpa [cpD] using hA0⟩
  have:H.set j (.row v tt 1 xs.length vs0)=H:=by
   apply List.ext_getElem?
   intro i
   rw[List.getElem?_set]
   split
   ·rename_i e;subst e
    have hl:=(List.getElem?_eq_some_iff.1 hj).1
    simp[hl] at hj ⊢
    exact hj.symm
   ·rfl
  rw[this];exact m
 ·have hcl:(vs.take (xs.length-k)).length=min ys.length (xs.length-k):=by simp;omega
  have hr:=run_copy_row P w u u t tt b k (xs.length-k) c' ad ys.length cc cur tt (vs.take (xs.length-k)) hu.und (by simp[hi1,hi2]) eh (by rw[hcl]) (λi q hq=>by
   rw[List.getElem?_take] at hq
   split at hq
   ·exact hcells i q hq
   ·cases hq) (by rw[hcl];omega) (λq hq=>h1 q (List.mem_of_mem_take hq))
  have hcur:cur.toList=vs0++cur.toList.drop xs.length:=by
   have:=e5
   rw[Nat.mul_one] at this
   rw[←this,List.take_append_drop]
  have hnew:(cur.toList.take k++vs.take (xs.length-k)++cur.toList.drop (k+(vs.take (xs.length-k)).length))=cpD vs0 vs k++cur.toList.drop xs.length:=by
   rw[hcl]
   rw[hcur,List.take_append_of_le_length (by omega),List.drop_append_of_le_length (by omega),←hcur]
   simp[cpD,hl0,hlv]
  have hcp:(cpD vs0 vs k).length=xs.length:=by simp[cpD];omega
  have hcp2:(cpD xs ys k).length=xs.length:=by simp[cpD];omega
  rw[hnew] at hr
  rw[hcl] at hr
  refine⟨.row v tt 1 xs.length (cpD vs0 vs k),w.setRow b (cpD vs0 vs k++cur.toList.drop xs.length).toArray,hr,m.changeAt j hj rfl rfl rfl (λz _ hz'=>setRow_other w b z _ (by simpa [Itm.foot,e,Value.ownBlock] using hz')) ⟨by simp[hcp],.inr ⟨b,_,_,e,Nat.zero_le _,setRow_heap w b cur _ tt _ eh,e2,e3,?_,?_⟩⟩ (λz hz'=> .inl hz'),⟨_,by rw[hcp2],?_⟩⟩
  ·have:=congrArg List.length hcur
   simp at this
   simp[hcp];omega
  ·simp only[Nat.mul_one]
   rw[List.take_append_of_le_length (by omega),List.take_of_length_le (by omega)]
  ·unfold cpD
   rw[hl0,hlv]
   exact((hA0.take k).append (hA.take _)).append (hA0.drop _)
theorem r_copy {ρ:Operand→Value}{s xo:Operand}{u:TypeId}{v y v':Value}{w':World}{dd:Option Tmp}{gd:Option (Nat×Bool)}(hs:ρ s=v)(hx:ρ xo=y)(h:(Builtin.copy_ #[u,u] t #[v,y]).run P w= .ok v' w'):
  (execOp ρ ⟨dd,.call {callee:= .builtin .copy,args:= #[s,xo],argTypes:= #[u,u]},t,pos,af,gd⟩).run P w= .ok (.value v') w':=by
 simp[execOp,resolve,invoke,builtin,hs,hx,h]
theorem l_copy (hO:One R){tt u bytes:Nat}{z:Value}{it:Itm}{v y p:Value}{xs ys:List α}{k:Nat}{vs:List Value}{s xo:Operand}(j:Nat)(m:Mem W G w H)(h:Ow R tt G it v xs)(hj:H[j]? =some it)
  (hu:SlT P u tt 1 bytes z) (hp:OwnPart v p k (xs.length-k)) (hk:k≤xs.length) (hs:Src w y ys.length vs) (hA:All2 (R G) vs ys) (f:Fr a N L) (hN:Nat.blt d N=true) (hsx:AU L s=some p) (hxx:AU L xo=some y)
  (q:∀it' w' a',Mem W G w' (H.set j it')→Ow R tt G it' v (cpD xs ys k)→Fr a' N ((d,.int .i64 ((min ys.length (xs.length-k):Nat):Int))::L)→wpList P ops (Qk n x r) rest a' w'):
  wpList P ops (Qk n x r) (⟨some d,.call {callee:= .builtin .copy,args:= #[s,xo],argTypes:= #[u,u]},t,pos,af,none⟩::rest) a w:=by
 obtain⟨it',w',hr,m',h'⟩:=run_copyOwn (t:=t) hO j m h hj hu hp hk hs hA
 exact Ct f rfl rfl hN (r_copy (f.eval hsx) (f.eval hxx) hr) (λa' f'=>q it' w' a' m' h' f')
end
end Go.Sx

set_option maxRecDepth 100000
namespace Go.Proofs.YtljcmdbpfeffcaaGreatDoor
open Go Go.Sx
open Go.Proofs.Tryz Go.Proofs.YtljcmdbpfeffcaaGreatDoor.Tryz IntKind
variable {W w : World} {G : GH} {H : List Itm}
theorem mulSmall {n:Int}(h1:1≤n)(h7:n≤7)(c0:Int):D.U (IntKind.u64.wrap (([c0]:LI).length:Int)) (IntKind.u64.wrap n)=some (0,n):=by
 have e:∀x:Int,x=1∨x=2∨x=3∨x=4∨x=5∨x=6∨x=7→D.U (IntKind.u64.wrap 1) (IntKind.u64.wrap x)=some (0,x):=by
  intro x hx
  rcases hx with h|h|h|h|h|h|h<;>(rw[h];kernel_rfl)
 exact e n (by omega)
abbrev rpL (c0:Int)(N k:Nat):LI:=List.replicate k c0++List.replicate (N-k) 0
theorem rpL_step (c0:Int){N k:Nat}(hk:k≤N):cpD (rpL c0 N k) (List.replicate k c0) k=rpL c0 N (k+min k (N-k)):=by
 have e1:(rpL c0 N k).length=N:=by simp;omega
 unfold cpD
 rw[e1,List.length_replicate]
 have e2:(rpL c0 N k).take k=List.replicate k c0:=List.take_left' (by simp)
 have e3:(rpL c0 N k).drop (k+min k (N-k))=List.replicate (N-(k+min k (N-k))) 0:=by
  unfold rpL
  rw[←List.drop_drop,List.drop_left' (by simp),List.drop_replicate]
  congr 1;omega
 rw[e2,e3,List.take_replicate,List.replicate_append_replicate,Nat.min_comm]
theorem i64s {x:Int}(h0:0≤x)(h1:x≤1000):i64.wrap x=x:=by rw[IntKind.wrap_i64];omega
theorem Wk.e1 {v0:Value}{x0:LI}{x1:Int}(m:Mem W G w H)(h0:R1 G v0 x0){y:LI}(hd:D.e1 x0 x1=some y):
  Calls prog 66 #[v0,iv x1] w (Res W G H (λG' Ho v=>∃r0:Value,∃i0:Itm,Ho=[i0]∧r0=v∧Ow R0 2 G' i0 r0 y)):=by
 unfold D.e1 at hd
 have hx:∃c0,x0=[c0]:=by
  match x0,hd with
  |[c0],_=>exact⟨c0,rfl⟩
  |[],hd=>cases hd
  |_::_::_,hd=>cases hd
 obtain⟨c0,rfl⟩:=hx
 have hd:cond (decide (1≤x1)&&decide (x1≤7)) (some (List.replicate x1.toNat c0)) none=some y:=hd
 have hc:(decide (1≤x1)&&decide (x1≤7))=true:=by
  cases hb:(decide (1≤x1)&&decide (x1≤7)) with
  |true=>rfl
  |false=>rw[hb] at hd;cases hd
 rw[hc] at hd
 obtain rfl:=sj hd
 obtain⟨h1,h7⟩:=Bool.and_eq_true_iff.1 hc
 refine have h1:=of_decide_eq_true h1;have h7:=of_decide_eq_true h7;?_
 clear hc hd
 obtain⟨N,hN⟩:∃N:Nat,x1.toNat=N:=⟨_,rfl⟩
 have ex:x1=(N:Int):=by omega
 have hN1:1≤N:=by omega
 have hN7:N≤7:=by omega
 refine Au (args:=[v0,iv x1]) (N:=48) [.tmp 4] func66 Z Z (lb Z) Z λa f=>Ae (Ac f Z λa f=>Aa (Ah (Ae (Ab f Z λa f=>Ai f Z Z AP λa f=>Aa (Ak f Z (decide_eq_false (by omega)) (An (Ae (Ab f Z λa f=>AN underlying35 f Z Z h0 λa f=>l_o f (C6 (f.e Z) ⟨_,underlying3⟩ underlying88) λa f=>Ab f Z λa f=>l_o f (C6 (f.e Z) ⟨_,underlying3⟩ underlying88) λa f=>A2 f Z call116 (Wk.U m (mulSmall h1 h7 c0)) λG1 w hl1 m a f=>have h0:=rd1 hl1 h0;have m:Mem W G1 w H:=m;Ab f Z λa f=>l_o f (AD (f.e Z) Z) λa f=>l_o f (AD (f.e Z) Z) λa f=>Ac f Z λa f=>Ac f Z λa f=>Aa (Ah (Ae (Ab f Z λa f=>Ai f Z Z CK λa f=>Ab f Z λa f=>Ap f Z (Ab f Z λa f=>Ap f Z (Ai f Z Z CK λa f=>l_o f (AI (f.e Z) Z (f.e Z)) λa f=>Aa (Ak f Z (decide_eq_false (by omega)) (An (Ae ?_))))))))))))))))
 refine Ab f Z λa f=>l_o f (C6 (f.e Z) ⟨_,underlying88⟩ underlying3) λa f=>Cy (R:=RI .i64) (zz:=0) (zs:=rpL 0 N 0) m T35 Z (by decide) Z f Z Z Z (by rw[i64s (by omega) (by omega)];subst ex;simp[C4];omega) λit v w a m o f=>Ac f Z λa f=>Aa ?_
 have hl0:(rpL 0 N 0).length=N:=by simp
 obtain⟨b,c,rfl,hc1,hc2⟩:=Ow.part 0 m o rfl (by omega)
 rw[hl0] at hc1
 refine Ae (Ab f Z λa f=>Ab f Z λa f=> ?_)
 obtain⟨vs,hs,hA⟩:=h0.src m
 refine l_copy (k:=0) (RI.one _) 0 m o Z T35 ⟨b,_,c,c,Z,Z⟩ (Nat.zero_le _) hs hA f Z Z Z λit w a m o f=>Ac f Z λa f=>Aa ?_
 have e0:cpD (rpL 0 N 0) [c0] 0=rpL c0 N 1:=by
  unfold cpD
  rw[hl0]
  have e1:min ([c0]:LI).length (N-0)=1:=by simp;omega
  have e2:([c0]:LI).take (N-0)=[c0]:=List.take_of_length_le (by simp;omega)
  rw[e1,e2]
  simp[rpL,List.drop_replicate]
 have e1:min ([c0]:LI).length ((rpL 0 N 0).length-0)=1:=by rw[hl0];simp;omega
 rw[e0] at o
 rw[e1] at f
 rw[hl0] at o f
 refine Ah ?_
 refine AL (λa w=>∃(it:Itm) (G2:GH),GLe G G2∧Fr a 48 [(7,(.slice (some ⟨b,0,none⟩) N c))]∧Mem W G2 w (it::H)∧Ow R0 2 G2 it (.slice (some ⟨b,0,none⟩) N c) (List.replicate N c0)) ?_ ?_
 ·refine Al (k_loopN (λμ a w=>∃(k:Nat) (it:Itm) (G2:GH),1≤k∧k≤N∧μ=N-k∧GLe G G2∧Fr a 48 [(7,(.slice (some ⟨b,0,none⟩) N c)),(8,(iv (k:Int)))]∧Mem W G2 w (it::H)∧Ow R0 2 G2 it (.slice (some ⟨b,0,none⟩) N c) (rpL c0 N k)) (k₀:=N-1) ⟨1,it,G1,Nat.le_refl _,hN1,Z,hl1,f.k Z,m,o⟩ ?_)
  clear f m o hs hA h0
  rintro μ a w ⟨k,it,G2,hk1,hkN,rfl,hl2,f,m,o⟩
  have hlk:(rpL c0 N k).length=N:=by simp;omega
  refine Ah (Ae (Ab f Z λa f=>Ab f Z λa f=>BH 0 m o Z underlying35 f Z Z λa f=>Ai f Z Z AP λa f=>Aa ?_))
  rw[hlk] at f
  by_cases hlt:k<N
  ·refine Am f Z (decide_eq_true (by omega)) (An (Al (k_draw0 AV m (p_p 0 Z f (λ_=>r_move (f.e Z)) λa f=>k_draw1 1007 6 (by kernel_rfl) Z (As 1 1007 Z f Z λa f=>As 2 1007 Z f Z λa f=>q_p 3 1007 Z f (λ_=>r_slice_hi T35 (f.e Z) (f.e Z) (by omega) (by omega) hc1) λa f=>As 4 1007 Z f Z λa f=>As 5 1007 Z f Z λa f=>q_p 6 1007 Z f (λ_=>r_slice_lo T35 (f.e Z) (f.e Z) (by omega) (by omega)) λa f=>A4 λG3 w hl3 m=>have o:=od1 hl3 o;?_)))))
   obtain⟨vs,hs,hA⟩:=Ow.srcTo (p:= .slice (some ⟨b,0,none⟩) ((k:Int).toNat) c) (k:=k) 0 m o rfl ⟨b,_,_,c,rfl,by rw[Int.toNat_natCast]⟩ (by omega)
   have e2:(rpL c0 N k).take k=List.replicate k c0:=List.take_left' (by simp)
   rw[e2] at hA
   refine l_copy (k:=k) (ys:=List.replicate k c0) (RI.one _) 0 m o Z T35 ⟨b,_,_,c-((k:Int).toNat),Z,by rw[if_neg (by omega),hlk,Int.toNat_natCast]⟩ (by omega) (by rw[List.length_replicate];exact hs) hA f Z Z Z λit w a m o f=> ?_
   rw[rpL_step c0 hkN] at o
   rw[hlk,List.length_replicate] at f
   refine Ai f Z Z AB λa f=> ?_
   rw[i64s (by omega) (by omega),←Int.natCast_add] at f
   exact Ac f Z λa f=>Aa ⟨N-(k+min k (N-k)),by omega,k+min k (N-k),it,G3,by omega,by omega,Z,gt hl2 hl3,f.k Z,m,o⟩
  ·refine Ak f Z (decide_eq_false (by omega)) (AE Z ?_)
   have:k=N:=by omega
   subst this
   have e9:rpL c0 k k=List.replicate k c0:=by simp[rpL]
   rw[e9] at o
   exact⟨it,G2,hl2,f.k Z,m,o⟩
 ·rintro a w ⟨it,G2,hl2,f,m,o⟩
  refine Ae (Ab f Z λa f=>Ac f Z λa f=>Aa (Ar ?_))
  rw[show (x1.toNat)=N from hN]
  exact⟨[(.slice (some ⟨b,0,none⟩) N c)],f.g Z,f.d,G2,[it],hl2,m,_,_,Z,Z,o⟩
end Go.Proofs.YtljcmdbpfeffcaaGreatDoor

set_option maxRecDepth 100000
namespace Go.Proofs.YtljcmdbpfeffcaaGreatDoor
open Go Go.Sx
open Go.Proofs.Tryz Go.Proofs.YtljcmdbpfeffcaaGreatDoor.Tryz IntKind
variable {W w : World} {G : GH} {H : List Itm}
abbrev C8 (b:Nat)(p0 p1:Int)(p2:Value):Itm:=ib b 52 [p2,iv p0,(.int .u64 p1)]
theorem T22 :SlT prog 22 5 1 1 (.int .u8 0):=⟨underlying22,Tryz.t5,by kernel_rfl,by kernel_rfl,by kernel_rfl,by kernel_rfl⟩
theorem Pl26 :Cj prog 26:=isAgg26
theorem Pl3 :Cj prog 3:=isAgg3
theorem Pl22 :Cj prog 22:=isAgg22
theorem T27 :SlT prog 27 35 1 24 sn:=⟨underlying27,Tryz.t35,by kernel_rfl,by kernel_rfl,by kernel_rfl,by kernel_rfl⟩
theorem AW :Cj prog 27:=isAgg27
theorem Bh :Agg prog 29 1:=⟨isAgg29,sizeOf29⟩
theorem AY :Cj prog 35:=isAgg35
theorem Pl4 :Cj prog 4:=isAgg4
theorem T118 :SlT prog 118 4 1 1 (.bool false):=⟨underlying118,Tryz.t4,by kernel_rfl,by kernel_rfl,by kernel_rfl,by kernel_rfl⟩
theorem Wk.N1 {v0:Value}{x0:LI}(m:Mem W G w (H))(h0:RSl (RI .u8) G v0 x0){y:Bool}(hd:D.N1 x0=some y):
  Calls prog 4 #[v0] w (Res W G H (λ_ Ho v=>Ho=[]∧v=(.bool y))):=by
 refine Au (args:=[v0]) (N:=6) [.tmp 2] func4 Z Z (lb Z) Z λa f=> ?_
 unfold D.N1 at hd
 refine Ae (Ac f Z λa f=>AF (Ab f Z λa f=>AN underlying22 f Z Z h0 λa f=>Ai f Z Z CK λa f=>Ac f Z λa f=>Aa (Ar ?_)))
 obtain rfl:=sj hd
 exact⟨[(.bool (decide ((4096:Int)<(x0.length:Int))))],f.g Z,f.d,_,[],gr,m,Z,Z⟩
theorem Wk.p1 {v0:Value}{x0:LI}{x1:Int}(m:Mem W G w (H))(h0:RSl (RI .u8) G v0 x0){y:(LI)×Int×Int}(hd:D.p1 x0 x1=some y):
  Calls prog 5 #[v0,(.int .u64 x1)] w (Res W G H (λG' Ho v=>∃r0:Value,∃c1:Nat,Ho=[C8 c1 y.2.1 y.2.2 r0]∧v=(pb c1)∧RSl (RI .u8) G' r0 y.1)):=by
 refine Au (args:=[v0,(.int .u64 x1)]) (N:=38) [.tmp 4] func5 Z Z (lb Z) Z λa f=> ?_
 unfold D.p1 at hd
 refine Ae (Ac f Z λa f=>AF (Ab f Z λa f=>Ab f Z λa f=>Ai f Z Z Ei λa f=>Ab f Z λa f=>AN underlying22 f Z Z h0 λa f=>l_o f (C6 (f.e Z) ⟨_,underlying3⟩ underlying26) λa f=>Ai f Z Z AB λa f=> ?_))
 have aa:∀w,(Instr.build 52 #[(0,v0),(2,(.int .u64 (IntKind.u64.wrap ((IntKind.u64.wrap (x1*7919))+(IntKind.u64.wrap (x0.length:Int))))))]).run prog w= .ok (.agg #[v0,iv 0,(.int .u64 (IntKind.u64.wrap ((IntKind.u64.wrap (x1*7919))+(IntKind.u64.wrap (x0.length:Int)))))]) w:=by intro w;simp[Instr.build,Instr.fill,h0.cells,Cb,B5,BI,BQ,BA,B9,B3]
 refine CM f Z Z aa λa f=>A3 (cs:=[v0,iv 0,(.int .u64 (IntKind.u64.wrap ((IntKind.u64.wrap (x1*7919))+(IntKind.u64.wrap (x0.length:Int)))))]) m f Z Z Z λab w a m f=>Ac f Z λa f=>Aa (Ah (Ae (Ac f Z λa f=>Aa (Bd hd λac ad hd=> ?_))))
 refine AL (λa w=>∃ae:Int,ae=ac∧∃(af:GH),GLe G af∧Fr a 38 [(5,pb ab)]∧Mem W af w (ib ab 52 [v0,iv 0,(.int .u64 ae)]::H)) ?_ ?_
 ·refine Al (AM (λag a w=>∃ah:Int,∃ai:Int,(ah,ai)=ag∧∃(aj:GH),GLe G aj∧Fr a 38 [(0,v0),(5,pb ab),(6,iv ah)]∧Mem W aj w (ib ab 52 [v0,iv 0,(.int .u64 ai)]::H)) ad ⟨_,_,Z,_,gr,f.k Z,m⟩ ?_)
  clear ad f m
  rintro ag ak al am a w ⟨ah,ai,rfl,aj,an,f,m⟩
  refine have h0:=rd1 an h0;Ah (Ae (Ab f Z λa f=>Ab f Z λa f=>AN underlying22 f Z Z h0 λa f=>Ai f Z Z AP λa f=>Aa ?_))
  rcases Ag al with⟨ao,al⟩|⟨ao,al⟩
  ·refine Am f Z ao (An (Ah (Al (Bg 15 AV (by kernel_rfl) m (As 0 15 Z f Z λa f=>As 1 15 Z f Z λa f=>q_p 2 15 Z f (λ_=>Bu (f.e Z)) λa f=>Br 3 15 underlying52 Z sizeOf26 Z f Z λa f=>Bo 4 15 0 Pl26 Z Z Z f Z λa f=>q_p 5 15 Z f (λ_=>BB (f.e Z) (f.e Z) Ei) λa f=>As 6 15 Z f Z λa f=>As 7 15 Z f Z λa f=>Bd al λap aq al=>Bb 8 15 T22 h0 aq Z f Z Z λar au a av aw f=> ?_)))))
   subst aw
   refine Ba 9 15 Pl5 av Z f Z λa f=>q_p 10 15 Z f (λ_=>C6 (f.e Z) ⟨_,underlying5⟩ underlying26) λa f=>q_p 11 15 Z f (λ_=>BB (f.e Z) (f.e Z) AB) λa f=>q_p 12 15 Z f (λ_=>BB (f.e Z) (f.e Z) AB) λa f=>q_p 13 15 Z f (λ_=>Bu (f.e Z)) λa f=>Br 14 15 underlying52 Z sizeOf26 Z f Z λa f=>A4 λax w ay m=>Ax 0 2 (ds:=[(.int .u64 (IntKind.u64.wrap ((IntKind.u64.wrap ((IntKind.u64.wrap (ai*1099511628211))+(IntKind.u64.wrap ap)))+3)))]) m sizeOf26 f Z Z Z (Af Z AG) Z (lb Z) Z λw m=>Aa (Aj (Ab f Z λa f=>Ai f Z Z AB λa f=>Ac f Z λa f=>Aa ?_))
   obtain rfl:=sj al
   exact⟨_,Z,_,_,Z,_,(gt an ay),f.k Z,m⟩
  ·refine Ak f Z ao (AE Z ?_)
   obtain rfl:=sj al
   obtain rfl:=am _ rfl
   exact⟨_,Z,_,an,f.k Z,m⟩
 ·rintro a w ⟨ae,rfl,af,az,f,m⟩
  refine have h0:=rd1 az h0;Ae (Ab f Z λa f=>Ac f Z λa f=>Aa (Ar ?_))
  obtain rfl:=sj hd
  exact⟨[pb ab],f.g Z,f.d,_,[ib ab 52 [v0,iv 0,(.int .u64 ae)]],az,m,_,_,Z,Z,h0⟩
theorem Wk.l {b0:Nat}{aa:Value}{ab:LI}{ac ad x1:Int}(m:Mem W G w (C8 b0 ac ad aa::H))(ae:RSl (RI .u8) G aa ab){y:Int×(LI)×Int×Int}(hd:D.l ab ac ad x1=some y):
  Calls prog 13 #[pb b0,iv x1] w (Res W G H (λG' Ho v=>∃r0:Value,Ho=[C8 b0 y.2.2.1 y.2.2.2 r0]∧v=(iv y.1)∧RSl (RI .u8) G' r0 y.2.1)):=by
 refine Au (args:=[pb b0,iv x1]) (N:=56) [.tmp 4] func13 Z Z (lb Z) Z λa f=> ?_
 unfold D.l at hd
 refine Ae (Ac f Z λa f=>AF (Ab f Z λa f=>Ab f Z λa f=>l_o f (Bu (f.e Z)) λa f=>AQ underlying52 Z sizeOf26 f Z λa f=>Ao 0 2 m Pl26 f Z Z Z Z λa f=>Ai f Z Z Ei λa f=>Ai f Z Z AB λa f=>l_o f (Bu (f.e Z)) λa f=>AQ underlying52 Z sizeOf26 f Z λa f=>Ax 0 2 (ds:=[(.int .u64 (IntKind.u64.wrap ((IntKind.u64.wrap (ad*6364136223846793005))+1442695040888963407)))]) m sizeOf26 f Z Z Z (Af Z AG) Z (lb Z) Z λw m=>AF (Ab f Z λa f=>l_o f (Bu (f.e Z)) λa f=>AQ underlying52 Z sizeOf26 f Z λa f=>Ao 0 2 m Pl26 f Z Z Z Z λa f=>l_o f (Ek (f.e Z) (f.e Z) (by decide)) λa f=>Ai f Z Z Dx λa f=>l_o f (C6 (f.e Z) ⟨_,underlying26⟩ underlying2) λa f=>Ac f Z λa f=>Aa (Ah (Ah (Bg 10 AV (by kernel_rfl) m (As 0 10 Z f Z λa f=>q_p 1 10 Z f (λ_=>Bu (f.e Z)) λa f=> ?_)))))))
 refine Br 2 10 underlying52 Z sizeOf3 Z f Z λa f=>Bo 3 10 0 Pl3 Z Z Z f Z λa f=>As 4 10 Z f Z λa f=>q_p 5 10 Z f (λ_=>Bu (f.e Z)) λa f=>Br 6 10 underlying52 Z sizeOf22 Z f Z λa f=>Bo 7 10 0 Pl22 Z Z Z f Z λa f=>DR (i:=8) 10 underlying22 ae Z (by kernel_rfl) Z f Z Z Z λa f=>q_p 9 10 Z f (λ_=>BB (f.e Z) (f.e Z) AP) λa f=>A4 λaf w ag m=>have ae:=rd1 ag ae;Aa ?_
 rcases Ag hd with⟨ah,hd⟩|⟨ah,hd⟩
 ·refine Am f Z ah (Ah (Bg 14 AV (by kernel_rfl) m (As 0 14 Z f Z λa f=>As 1 14 Z f Z λa f=>q_p 2 14 Z f (λ_=>Bu (f.e Z)) λa f=>Br 3 14 underlying52 Z sizeOf22 Z f Z λa f=>Bo 4 14 0 Pl22 Z Z Z f Z λa f=>As 5 14 Z f Z λa f=>q_p 6 14 Z f (λ_=>Bu (f.e Z)) λa f=>Br 7 14 underlying52 Z sizeOf3 Z f Z λa f=>Bo 8 14 0 Pl3 Z Z Z f Z λa f=>Bd hd λai aj hd=>Bb 9 14 T22 ae aj Z f Z Z λak al a am an f=> ?_)))
  subst an
  refine Ba 10 14 Pl5 am Z f Z λa f=>q_p 11 14 Z f (λ_=>C6 (f.e Z) ⟨_,underlying5⟩ underlying2) λa f=>q_p 12 14 Z f (λ_=>BB (f.e Z) (f.e Z) AB) λa f=>q_p 13 14 Z f (λ_=>Bq (f.e Z)) λa f=>A4 λao w ap m=>have ae:=rd1 ap ae;Aa (Aj (Ab f Z λa f=>Ab f Z λa f=>l_o f (Bu (f.e Z)) λa f=>AQ underlying52 Z sizeOf3 f Z λa f=>Ao 0 1 m Pl3 f Z Z Z Z λa f=>Ai f Z Z AB λa f=>l_o f (Bu (f.e Z)) λa f=>AQ underlying52 Z sizeOf3 f Z λa f=>Ax 0 1 (ds:=[(iv (i64.wrap (ac+1)))]) m sizeOf3 f Z Z Z (Af Z AG) Z (lb Z) Z λw m=>AF (Ab f Z λa f=>Ab f Z λa f=> ?_)))
  obtain⟨aq,hd⟩:=CL hd
  refine Ai f Z Z (b_rem aq) λa f=>Ac f Z λa f=>Aa (Ar ?_)
  obtain rfl:=sj hd
  exact⟨[(iv (Int.tmod (i64.wrap ((i64.wrap (iand .u64 (BZ .u64 (IntKind.u64.wrap ((IntKind.u64.wrap (ad*6364136223846793005))+1442695040888963407)) 33) 16777215))+(i64.wrap ai))) x1))],f.g Z,f.d,_,[ib b0 52 [aa,(iv (i64.wrap (ac+1))),(.int .u64 (IntKind.u64.wrap ((IntKind.u64.wrap (ad*6364136223846793005))+1442695040888963407)))]],(gt ag ap),m,_,Z,Z,ae⟩
 ·refine Ak f Z ah (An (Ae (Ab f Z λa f=>Ab f Z λa f=> ?_)))
  obtain⟨ar,hd⟩:=CL hd
  refine Ai f Z Z (b_rem ar) λa f=>Ac f Z λa f=>Aa (Ar ?_)
  obtain rfl:=sj hd
  exact⟨[(iv (Int.tmod (i64.wrap (iand .u64 (BZ .u64 (IntKind.u64.wrap ((IntKind.u64.wrap (ad*6364136223846793005))+1442695040888963407)) 33) 16777215)) x1))],f.g Z,f.d,_,[ib b0 52 [aa,iv ac,(.int .u64 (IntKind.u64.wrap ((IntKind.u64.wrap (ad*6364136223846793005))+1442695040888963407)))]],ag,m,_,Z,Z,ae⟩
theorem Wk.b {x0 x1 x2:Int}(m:Mem W G w (H)){y:Bool}(hd:D.b x0 x1 x2=some y):
  Calls prog 75 #[iv x0,iv x1,iv x2] w (Res W G H (λ_ Ho v=>Ho=[]∧v=(.bool y))):=by
 refine Au (args:=[iv x0,iv x1,iv x2]) (N:=15) [.tmp 6] func75 Z Z (lb Z) Z λa f=> ?_
 unfold D.b at hd
 refine Ae (Ac f Z λa f=>AF (Ab f Z λa f=>Ab f Z λa f=>Ai f Z Z EA λa f=>Ab f Z λa f=> ?_))
 refine Bk 4 (λa w=>∃aa,GLe G aa∧Mem W aa w (H)∧Fr a 15 [(0,iv x0),(1,iv x1),(2,iv x2),(7,iv x0),(8,iv x1),(9,(.bool (decide (x1≤x0)))),(10,(.bool (decide (x1≤x0)))),(14,(.bool ((decide (x1≤x0))&&(decide (x0≤x2)))))]) ?_ ?_
 ·rcases Bool.eq_false_or_eq_true (decide (x1≤x0)) with ab|ab
  ·exact Ap f ab (Ab f Z λa f=>Ap f ab (Ab f Z λa f=>Ap f ab (Ai f Z Z Fe λa f=>l_o f (AK (f.e Z) ab (f.e Z)) λa f=>⟨_,gr,m,f.weak ⟨Z,Z,Z,Z,Z,Z,Z,by rw[ab];rfl,trivial⟩⟩)))
  ·exact Aq f ab λa f=>Aq f ab λa f=>Aq f ab λa f=>l_o f (AI (f.e Z) ab (f.e Z)) λa f=>⟨_,gr,m,f.weak ⟨Z,Z,Z,Z,Z,Z,Z,by rw[ab];rfl,trivial⟩⟩
 ·rintro a w ⟨aa,ac,m,f⟩
  refine Ac f Z λa f=>Aa (Ar ?_)
  obtain rfl:=sj hd
  exact⟨[(.bool ((decide (x1≤x0))&&(decide (x0≤x2))))],f.g Z,f.d,_,[],ac,m,Z,Z⟩
theorem Wk.u1 {x0:Int}(m:Mem W G w (H)){y:(LL)}(hd:D.u1 x0=some y):
  Calls prog 78 #[iv x0] w (Res W G H (λG' Ho v=>∃r0:Value,∃i0:Itm,Ho=[i0]∧v=(.agg #[r0])∧Ow R1 35 G' i0 r0 y)):=by
 refine Au (args:=[iv x0]) (N:=18) [.cell 2 29] func78 Z Z (lb Z) Z λa f=> ?_
 unfold D.u1 at hd
 refine Ae (Bp (cs:=[sn]) zeroValue29 m f Z Z λaa w a m f=>AF ?_)
 have ab:∀w,(Instr.build 29 #[]).run prog w= .ok (.agg #[sn]) w:=by intro w;simp[Instr.build,Instr.fill,Cb,B5,BI,BQ,BA,B9,B3]
 refine CM f Z Z ab λa f=>Bp (cs:=[sn]) zeroValue29 m f Z Z λac w a m f=>Ax 0 0 (ds:=[sn]) m sizeOf29 f Z Z Z (Af Z AG) Z (lb Z) Z λw m=>Aa (Ah (Ae (Ac f Z λa f=>Aa ?_)))
 obtain⟨ad,m,ae⟩:=Ow.nil R1 35 m
 have⟨af,ag,hd⟩:=bind_some hd
 refine AL (λa w=>∃ah:LL,ah=af∧∃(ai:GH) (aj:Value) (ak:Itm),GLe G ai∧Fr a 18 [(2,pb aa),(3,pb ac)]∧Mem W ai w (ib aa 29 [sn]::ib ac 29 [aj]::ak::H)∧Ow R1 35 ai ak aj ah) ?_ ?_
 ·refine Al (have m:=m.fr 1;have m:=m.fr 2;AM (λal a w=>∃am:Int,∃an:LL,(am,an)=al∧∃(ao:GH) (ap:Value) (aq:Itm),GLe G ao∧Fr a 18 [(0,iv x0),(2,pb aa),(3,pb ac),(4,iv am)]∧Mem W ao w (ib aa 29 [sn]::ib ac 29 [ap]::aq::H)∧Ow R1 35 ao aq ap an) ag ⟨_,_,Z,_,sn,ad,gr,f.k Z,m,ae⟩ ?_)
  clear ag f m
  rintro al ar au av a w ⟨am,an,rfl,ao,ap,aq,aw,f,m,ax⟩
  refine Ah (Ae (Ab f Z λa f=>Ab f Z λa f=>Ai f Z Z AP λa f=>Aa ?_))
  rcases Ag au with⟨ay,au⟩|⟨ay,au⟩
  ·refine Am f Z ay (An (Ah (Al (Aj (AQ underlying29 Z sizeOf27 f Z λa f=>Ao 1 0 m AW f Z Z Z Z λa f=>AO (R:=R0) (xs:=([]:LI)) (RI.one _) m T35 f Z Z Z (by decide) (All2.nil _) λaz aA w a m aB f=> ?_)))))
   obtain⟨aC,aD,m,aE⟩:=Ow.stamp (RI.mono _) aB m
   refine have ax:=od3 aD ax;AO (R:=R1) (xs:=([([]:LI)]:LL)) (RSl.one _) m T27 f Z Z Z (by decide) (All2.cons aE (All2.nil _)) λaF aG w a m aH f=>Bd au λaI aJ au=>A6 (RSl.one _) 3 m ax Z T27 Z (by decide) f Z Z Z (Ow.src (j:=0) aH m Z) aJ λaK aL w a m aM f=>AQ underlying29 Z sizeOf27 f Z λa f=>Ax 2 0 (ds:=[aL]) m sizeOf27 f Z Z (Ow.cells 3 m aM Z) (Af (Ow.one1 3 m aM Z) AG) Z (lb Z) Z λw m=>Aa (Aj (Ab f Z λa f=>Ai f Z Z AB λa f=>Ac f Z λa f=>Aa (have m:=m.fr 3;have m:=m.fr 3;have m:=m.fr 3;have m:=m.eraseAt 3;?_)))
   obtain rfl:=sj au
   exact⟨_,Z,_,_,Z,_,aL,aK,(gt aw aD),f.k Z,m,aM⟩
  ·refine Ak f Z ay (AE Z ?_)
   obtain rfl:=sj au
   obtain rfl:=av _ rfl
   exact⟨_,Z,_,ap,aq,aw,f.k Z,m,ax⟩
 ·rintro a w ⟨ah,rfl,ai,aj,ak,aN,f,m,aO⟩
  refine Ae (Ay 1 0 (ds:=[aj]) m Bh f Z Z Z Z Z λa f=>Ax 0 0 (ds:=[aj]) m sizeOf29 f Z Z Z (Af (Ow.one1 2 m aO Z) AG) Z (lb Z) Z λw m=>Aa (Ar (have aP:=Cs (P:=prog) 0 m Bh f (s:=2) rfl rfl rfl;have m:=m.fr 2;have m:=m.eraseAt 2;have m:=m.eraseAt 1;?_)))
  obtain rfl:=sj hd
  exact⟨[(.agg #[aj])],⟨aP,trivial⟩,f.d,_,[ak],aN,m,_,_,Z,Z,aO⟩
theorem Wk.A {v0:Value}{x0:LI}{x1:Int}(m:Mem W G w (H))(h0:R1 G v0 x0){y:Bool}(hd:D.A x0 x1=some y):
  Calls prog 79 #[v0,iv x1] w (Res W G H (λ_ Ho v=>Ho=[]∧v=(.bool y))):=by
 refine Au (args:=[v0,iv x1]) (N:=40) [.tmp 4] func79 Z Z (lb Z) Z λa f=> ?_
 unfold D.A at hd
 refine Ae (Ac f Z λa f=>Aa (Ah (Ae (Ab f Z λa f=>AN underlying35 f Z Z h0 λa f=>Ab f Z λa f=>Ai f Z Z CK λa f=>Aa ?_))))
 rcases Ag hd with⟨aa,hd⟩|⟨aa,hd⟩
 ·refine Am f Z aa (Ae (Ac f Z λa f=>Aa (Ar ?_)))
  obtain rfl:=sj hd
  exact⟨[(.bool false)],f.g Z,f.d,_,[],gr,m,Z,Z⟩
 ·refine Ak f Z aa (An (Ah (Ae (Ac f Z λa f=>Aa (Bd hd λab ac hd=> ?_)))))
  refine AL (λa w=>∃q_150':Unit,ab= .inl q_150'∧∃(ad:GH),GLe G ad∧Fr a 40 []∧Mem W ad w (H)) ?_ ?_
  ·refine Al (AM (λae a w=>∃af:Int,af=ae∧∃(ag:GH),GLe G ag∧Fr a 40 [(0,v0),(1,iv x1),(5,iv af)]∧Mem W ag w (H)) ac ⟨_,Z,_,gr,f.k Z,m⟩ ?_)
   clear ac f m
   rintro ae ah ai aj a w ⟨af,rfl,ag,ak,f,m⟩
   refine have h0:=rd1 ak h0;Ah (Ae (Ab f Z λa f=>Ab f Z λa f=>AN underlying35 f Z Z h0 λa f=>Ai f Z Z AP λa f=>Aa ?_))
   rcases Ag ai with⟨al,ai⟩|⟨al,ai⟩
   ·refine Am f Z al (An (Ah (Al (Ah (Bg 24 AV (by kernel_rfl) m (As 0 24 Z f Z λa f=>As 1 24 Z f Z λa f=>Bd ai λam an ai=>Bb 2 24 T35 h0 an Z f Z Z λao ap a aq ar f=> ?_))))))
    subst ar
    refine Ba 3 24 Pl2 aq Z f Z λa f=>As 4 24 Z f Z λa f=>q_p 5 24 Z f (λ_=>BB (f.e Z) (f.e Z) CA) λa f=>Bd ai λau av ai=>B4 (i:=6) 24 Z (by kernel_rfl) Z f Z Z Z call75 (λ_ _ w aw m=>Wk.b m av) λa f=>q_p 7 24 Z f (λ_=>Bj (f.e Z)) λa f=>As 8 24 Z f Z λa f=>Bd ai λax ay ai=>CW (fuel':=0) (listed':= #[true,true,true,true,true,true,true,true,true,true,true,true,true,true,true,true,true,true,true,true,true,true,true,true]) (λa=>Fr a 40 [(0,v0),(1,iv x1),(5,iv af),(13,(.bool (decide (af<(x0.length:Int))))),(16,v0),(17,iv af),(18,ao),(19,iv am),(20,iv x1),(21,(iv (i64.wrap (x1-1)))),(22,(.bool au)),(23,(.bool (!au))),(24,(.bool (!au))),(39,(.bool ax))]) ?_ ?_
    ·intro a f
     refine A4 λaz w aA m=>Aa ?_
     rcases Ag ai with⟨aB,ai⟩|⟨aB,ai⟩
     ·refine Am f Z aB (Ae (Ac f Z λa f=>Aa (Ar ?_)))
      obtain rfl:=sj ai
      obtain rfl:=aj _ rfl
      obtain rfl:=sj hd
      exact⟨[(.bool false)],f.g Z,f.d,_,[],(gt ak aA),m,Z,Z⟩
     ·refine Ak f Z aB (An (Aj (Ab f Z λa f=>Ai f Z Z AB λa f=>Ac f Z λa f=>Aa ?_)))
      obtain rfl:=sj ai
      exact⟨_,Z,_,Z,_,(gt ak aA),f.k Z,m⟩
    ·intro aC
     rcases Ag ay with⟨aD,ay⟩|⟨aD,ay⟩
     ·refine AA 9 24 Z f aD λa f=>AA 10 24 Z f aD λa f=>AA 11 24 Z f aD λa f=>q_nu 12 24 Z f λa f=>q_nu 13 24 Z f λa f=>q_nu 14 24 Z f λa f=>q_nu 15 24 Z f λa f=>q_nu 16 24 Z f λa f=>q_nu 17 24 Z f λa f=>q_nu 18 24 Z f λa f=>q_nu 19 24 Z f λa f=>q_nu 20 24 Z f λa f=>q_nu 21 24 Z f λa f=>AA 22 24 Z f aD λa f=>q_p 23 24 Z f (λ_=>AK (f.e Z) aD (f.e Z)) λa f=> ?_
      obtain rfl:=sj ay
      exact aC _ (f.k Z)
     ·refine As (hw:=wo f aD) 9 24 Z f Z λa f=>q_p (hw:=wo f aD) 10 24 Z f (λ_=>BB (f.e Z) (f.e Z) CK) λa f=>As (hw:=wo f aD) 11 24 Z f Z λa f=>Bd ay λaE aF ay=>CW (fuel':=1) (listed':= #[true,true,true,true,true,true,true,true,true,true,true,true,true,true,true,true,true,true,true,true,true,true,true,false]) (λa=>Fr a 40 [(0,v0),(1,iv x1),(5,iv af),(13,(.bool (decide (af<(x0.length:Int))))),(16,v0),(17,iv af),(18,ao),(19,iv am),(20,iv x1),(21,(iv (i64.wrap (x1-1)))),(22,(.bool au)),(23,(.bool (!au))),(24,(.bool (!au))),(25,iv af),(26,(.bool (decide ((0:Int)<af)))),(27,(.bool (decide ((0:Int)<af)))),(38,(.bool aE))]) ?_ ?_
      ·intro a f
       refine q_p 23 24 Z f (λ_=>AI (f.e Z) aD (f.e Z)) λa f=> ?_
       obtain rfl:=sj ay
       exact aC _ (f.k Z)
      ·intro aG
       rcases Ag aF with⟨aH,aF⟩|⟨aH,aF⟩
       ·refine As (hw:=wo f aH) 12 24 Z f Z λa f=>As (hw:=wo f aH) 13 24 Z f Z λa f=>Bd aF λaI aJ aF=>Bb (hw:=wo f aH) 14 24 T35 h0 aJ Z f Z Z λaK aL a aM aN f=> ?_
        subst aN
        refine Ba (hw:=wo f aH) 15 24 Pl2 aM Z f Z λa f=>As (hw:=wo f aH) 16 24 Z f Z λa f=>As (hw:=wo f aH) 17 24 Z f Z λa f=>q_p (hw:=wo f aH) 18 24 Z f (λ_=>BB (f.e Z) (f.e Z) CA) λa f=>Bd aF λaO aP aF=>Bb (hw:=wo f aH) 19 24 T35 h0 aP Z f Z Z λaQ aR a aS aT f=> ?_
        subst aT
        refine Ba (hw:=wo f aH) 20 24 Pl2 aS Z f Z λa f=>q_p (hw:=wo f aH) 21 24 Z f (λ_=>BB (f.e Z) (f.e Z) Fe) λa f=>q_p (hw:=wo f aD) 22 24 Z f (λ_=>AK (f.e Z) aH (f.e Z)) λa f=> ?_
        obtain rfl:=sj aF
        exact aG _ (f.k Z)
       ·refine AA 12 24 Z f aH λa f=>AA 13 24 Z f aH λa f=>AA 14 24 Z f aH λa f=>AA 15 24 Z f aH λa f=>AA 16 24 Z f aH λa f=>AA 17 24 Z f aH λa f=>AA 18 24 Z f aH λa f=>AA 19 24 Z f aH λa f=>AA 20 24 Z f aH λa f=>AA 21 24 Z f aH λa f=>q_p (hw:=wo f aD) 22 24 Z f (λ_=>AI (f.e Z) aH (f.e Z)) λa f=> ?_
        obtain rfl:=sj aF
        exact aG _ (f.k Z)
   ·refine Ak f Z al (AE Z ?_)
    obtain rfl:=sj ai
    obtain rfl:=aj _ rfl
    exact⟨_,Z,_,ak,f.weak trivial,m⟩
  ·rintro a w ⟨_,rfl,ad,aU,f,m⟩
   refine Ae (Ac f Z λa f=>Aa (Ar ?_))
   obtain rfl:=sj hd
   exact⟨[(.bool true)],f.g Z,f.d,_,[],aU,m,Z,Z⟩
theorem Wk.e {v0:Value}{x0:LI}(m:Mem W G w (H))(h0:R1 G v0 x0){y:(LI)}(hd:D.e x0=some y):
  Calls prog 26 #[v0] w (Res W G H (λG' Ho v=>∃r0:Value,∃i0:Itm,Ho=[i0]∧r0=v∧Ow R0 2 G' i0 r0 y)):=by
 refine Au (args:=[v0]) (N:=6) [.tmp 2] func26 Z Z (lb Z) Z λa f=> ?_
 unfold D.e at hd
 refine Ae (Ac f Z λa f=>AF (AO (R:=R0) (xs:=([]:LI)) (RI.one _) m T35 f Z Z Z (by decide) (All2.nil _) λaa ab w a m ac f=>Ab f Z λa f=>Bd hd λad ae hd=>A6 (RI.one _) 0 m ac Z T35 Z (by decide) f Z Z Z (h0.src m) ae λaf ag w a m ah f=>Ac f Z λa f=>Aa (Ar ?_)))
 obtain rfl:=sj hd
 exact⟨[ag],f.g Z,f.d,_,[af],gr,m,_,_,Z,Z,ah⟩
theorem Wk.q {v0:Value}{x0:LI}{x1:Int}(m:Mem W G w (H))(h0:R1 G v0 x0){y:(LI)}(hd:D.q x0 x1=some y):
  Calls prog 25 #[v0,iv x1] w (Res W G H (λG' Ho v=>∃r0:Value,Ho=[]∧r0=v∧R1 G' r0 y)):=by
 refine Au (args:=[v0,iv x1]) (N:=46) [.tmp 4] func25 Z Z (lb Z) Z λa f=> ?_
 unfold D.q at hd
 refine Ae (Ac f Z λa f=>AF (Ac f Z λa f=>Aa (Ah (Bd hd λaa ab hd=> ?_))))
 refine AL (λa w=>∃ac:Int,ac=aa∧∃(ad:GH),GLe G ad∧Fr a 46 [(0,v0),(1,iv x1),(5,iv ac)]∧Mem W ad w (H)) ?_ ?_
 ·refine Al (AM (λae a w=>∃af:Int,af=ae∧∃(ag:GH),GLe G ag∧Fr a 46 [(0,v0),(1,iv x1),(5,iv af)]∧Mem W ag w (H)) ab ⟨_,Z,_,gr,f.k Z,m⟩ ?_)
  clear ab f m
  rintro ae ah ai aj a w ⟨af,rfl,ag,ak,f,m⟩
  refine have h0:=rd1 ak h0;Ah (Ae (Ab f Z λa f=>Ab f Z λa f=>AN underlying35 f Z Z h0 λa f=>Ai f Z Z AP λa f=>Ab f Z λa f=>Bd ai λal am ai=> ?_))
  refine Bk 7 (λa w=>∃an,GLe ag an∧Mem W an w (H)∧Fr a 46 [(0,v0),(1,iv x1),(5,iv af),(7,iv af),(8,v0),(9,(iv (x0.length:Int))),(10,(.bool (decide (af<(x0.length:Int))))),(11,(.bool (decide (af<(x0.length:Int))))),(18,(.bool al))]) ?_ ?_
  ·rcases Ag am with⟨ao,am⟩|⟨ao,am⟩
   ·refine Ap f ao (Ab f Z λa f=>Ap f ao (Ab f Z λa f=>Ap f ao (Bd am λap aq am=>AX T35 f Z Z Z h0 aq λar au a av aw f=> ?_)))
    subst aw
    refine Ap f ao (Aw m Pl2 f Z Z av λa f=>Ap f ao (Ab f Z λa f=>Ap f ao (Ai f Z Z AP λa f=>l_o f (AK (f.e Z) ao (f.e Z)) λa f=> ?_)))
    obtain rfl:=sj am
    exact⟨_,gr,m,f.k Z⟩
   ·refine Aq f ao λa f=>Aq f ao λa f=>Aq f ao λa f=>Aq f ao λa f=>Aq f ao λa f=>Aq f ao λa f=>l_o f (AI (f.e Z) ao (f.e Z)) λa f=> ?_
    obtain rfl:=sj am
    exact⟨_,gr,m,f.k Z⟩
  ·rintro a w ⟨an,ax,m,f⟩
   refine Aa ?_
   rcases Ag ai with⟨ay,ai⟩|⟨ay,ai⟩
   ·refine Am f Z ay (An (Al (Aj (Ab f Z λa f=>Ai f Z Z AB λa f=>Ac f Z λa f=>Aa ?_))))
    obtain rfl:=sj ai
    exact⟨_,Z,_,Z,_,(gt ak ax),f.k Z,m⟩
   ·refine Ak f Z ay (AE Z ?_)
    obtain rfl:=sj ai
    obtain rfl:=aj _ rfl
    exact⟨_,Z,_,(gt ak ax),f.k Z,m⟩
 ·rintro a w ⟨ac,rfl,ad,az,f,m⟩
  refine have h0:=rd1 az h0;Ah (Ae (Ab f Z λa f=>Ab f Z λa f=>AN underlying35 f Z Z h0 λa f=>Ai f Z Z AP λa f=>Ab f Z λa f=>Bd hd λaA aB hd=> ?_))
  refine Bk 7 (λa w=>∃aC,GLe ad aC∧Mem W aC w (H)∧Fr a 46 [(0,v0),(1,iv x1),(5,iv ac),(21,iv ac),(22,v0),(23,(iv (x0.length:Int))),(24,(.bool (decide (ac<(x0.length:Int))))),(25,(.bool (decide (ac<(x0.length:Int))))),(32,(.bool aA))]) ?_ ?_
  ·rcases Ag aB with⟨aD,aB⟩|⟨aD,aB⟩
   ·refine Ap f aD (Ab f Z λa f=>Ap f aD (Ab f Z λa f=>Ap f aD (Bd aB λaE aF aB=>AX T35 f Z Z Z h0 aF λaG aH a aI aJ f=> ?_)))
    subst aJ
    refine Ap f aD (Aw m Pl2 f Z Z aI λa f=>Ap f aD (Ab f Z λa f=>Ap f aD (Ai f Z Z Bf λa f=>l_o f (AK (f.e Z) aD (f.e Z)) λa f=> ?_)))
    obtain rfl:=sj aB
    exact⟨_,gr,m,f.k Z⟩
   ·refine Aq f aD λa f=>Aq f aD λa f=>Aq f aD λa f=>Aq f aD λa f=>Aq f aD λa f=>Aq f aD λa f=>l_o f (AI (f.e Z) aD (f.e Z)) λa f=> ?_
    obtain rfl:=sj aB
    exact⟨_,gr,m,f.k Z⟩
  ·rintro a w ⟨aC,aK,m,f⟩
   refine have h0:=rd1 aK h0;Aa ?_
   rcases Ag hd with⟨aL,hd⟩|⟨aL,hd⟩
   ·refine Am f Z aL (Ae (Ab f Z λa f=>Ac f Z λa f=>Aa (Ar ?_)))
    obtain rfl:=sj hd
    exact⟨[v0],f.g Z,f.d,_,[],(gt az aK),m,_,Z,Z,h0⟩
   ·refine Ak f Z aL (An (Ae (Ab f Z λa f=>Ab f Z λa f=>Bd hd λaM aN hd=>GY T35 f Z Z h0 (.inl ⟨Z,Z⟩) (.inr ⟨_,_,Z,Z⟩) aN λaO a aP f=>Bd hd λaQ aR hd=>BK f Z call26 (Wk.e m aP aR) λaS aT aU w aV m aW a f=>have h0:=rd1 aV h0;Ab f Z λa f=>AO (R:=R0) (xs:=([x1]:LI)) (RI.one _) m T35 f Z Z Z (by decide) (All2.cons Z (All2.nil _)) λaX aY w a m aZ f=>Bd hd λa0 a1 hd=>A6 (RI.one _) 1 m aW Z T35 Z (by decide) f Z Z Z (Ow.src (j:=0) aZ m Z) a1 λa2 a3 w a m a4 f=>Ac f Z λa f=>AF (Ab f Z λa f=>Ab f Z λa f=>Ab f Z λa f=>Bd hd λa5 a6 hd=>GY T35 f Z Z h0 (.inr ⟨_,_,Z,Z⟩) (.inl ⟨Z,Z⟩) a6 λa7 a a8 f=>Bd hd λa9 ba hd=>A6 (RI.one _) 1 m a4 Z T35 Z (by decide) f Z Z Z (a8.src m) ba λbb bc w a m bd f=>Ac f Z λa f=>Aa (Ar (have m:=m.fr 1;?_))))))
    obtain⟨be,bf,m,bg⟩:=Ow.stamp (RI.mono _) bd m
    have m:=m.dp 1
    obtain rfl:=sj hd
    exact⟨[bc],f.g Z,f.d,_,[],(gt az (gt aK (gt aV bf))),m,_,Z,Z,bg⟩
theorem Wk.j0 {aa:Value}{ab:Itm}{ac:LL}{x1 x2:Int}(m:Mem W G w (ab::H))(ad:Ow R1 35 G ab aa ac){y:(LL)}(hd:D.j0 ac x1 x2=some y):
  Calls prog 80 #[(.agg #[aa]),iv x1,iv x2] w (Res W G H (λG' Ho v=>∃i0:Itm,Ho=[i0]∧v=(.agg #[aa])∧Ow R1 35 G' i0 aa y)):=by
 refine Au (args:=[(.agg #[aa]),iv x1,iv x2]) (N:=30) [.cell 6 29] func80 Z Z (lb Z) Z λa f=> ?_
 unfold D.j0 at hd
 refine Ae (A3 (cs:=[aa]) m f Z Z Z λae w a m f=>Bp (cs:=[sn]) zeroValue29 m f Z Z λaf w a m f=>Aa (Ah (Bg 11 AV (by kernel_rfl) m (Br 0 11 underlying29 Z sizeOf27 Z f Z λa f=>Bo 1 11 1 AW Z Z Z f Z λa f=>As 2 11 Z f Z λa f=>Br 3 11 underlying29 Z sizeOf27 Z f Z λa f=>Bo 4 11 1 AW Z Z Z f Z λa f=>As 5 11 Z f Z λa f=>Bd hd λag ah hd=>DD 6 11 2 m ad T27 ah Z f Z Z λai a aj f=>Ew 7 11 2 ad AY aj ah Z f Z λak a al f=>As 8 11 Z f Z λa f=>Bw 9 Z λam w an m ao ao=>have al:=rd1 an al;have ad:=od3 an ad;Bd hd λap aq hd=>A9 f Z call25 (Wk.q m al aq) λar au av w aw m ax a f=> ?_))))
 obtain⟨ay,rfl,rfl,az⟩:=ax
 refine have ad:=od3 aw ad;Aa (ao au [] _ _ aw m (Bd hd λaA aB hd=>DD 10 11 2 m ad T27 aB Z f Z Z λaC a aD f=>A4 λaE w aF m=>have az:=rd1 aF az;have ad:=od3 aF ad;Ci 2 m ad Z sizeOf35 f Z Z aD aB az.cells az.one1 az λaG w m aH=>Aa (Ah (Bg 11 AV (by kernel_rfl) m (Br 0 11 underlying29 Z sizeOf27 Z f Z λa f=>Bo 1 11 1 AW Z Z Z f Z λa f=>As 2 11 Z f Z λa f=>Br 3 11 underlying29 Z sizeOf27 Z f Z λa f=>Bo 4 11 1 AW Z Z Z f Z λa f=>As 5 11 Z f Z λa f=>Bd hd λaI aJ hd=>DD 6 11 2 m aH T27 aJ Z f Z Z λaK a aL f=>Ew 7 11 2 aH AY aL aJ Z f Z λaM a aN f=>As 8 11 Z f Z λa f=>Bw 9 Z λaO w aP m aQ aQ=>have aN:=rd1 aP aN;have aH:=od3 aP aH;Bd hd λaR aS hd=>A9 f Z call25 (Wk.q m aN aS) λaT aU aV w aW m aX a f=> ?_)))))
 obtain⟨aY,rfl,rfl,aZ⟩:=aX
 refine have aH:=od3 aW aH;Aa (aQ aU [] _ _ aW m (Bd hd λa0 a1 hd=>DD 10 11 2 m aH T27 a1 Z f Z Z λa2 a a3 f=>A4 λa4 w a5 m=>have aZ:=rd1 a5 aZ;have aH:=od3 a5 aH;Ci 2 m aH Z sizeOf35 f Z Z a3 a1 aZ.cells aZ.one1 aZ λa6 w m a7=>AF (Ay 1 0 (ds:=[aa]) m Bh f Z Z Z Z Z λa f=>Ax 0 0 (ds:=[aa]) m sizeOf29 f Z Z Z (Af (Ow.one1 2 m a7 Z) AG) Z (lb Z) Z λw m=>Aa (Ar (have a8:=Cs (P:=prog) 0 m Bh f (s:=6) rfl rfl rfl;have m:=m.fr 2;have m:=m.eraseAt 2;have m:=m.eraseAt 1;?_)))))
 obtain rfl:=sj hd
 exact⟨[(.agg #[aa])],⟨a8,trivial⟩,f.d,_,[a6],(gt an (gt aw (gt aF (gt aP (gt aW a5))))),m,_,Z,Z,a7⟩
theorem Wk.A0 {v1:Value}{x0:Int}{x1:LL}(m:Mem W G w (H))(h1:R2 G v1 x1){y:(LL)×Bool}(hd:D.A0 x0 x1=some y):
  Calls prog 22 #[iv x0,v1] w (Res W G H (λG' Ho v=>∃r0:Value,∃i0:Itm,Ho=[i0]∧v= .tuple #[(.agg #[r0]),(.bool y.2)]∧Ow R1 35 G' i0 r0 y.1)):=by
 refine Au (args:=[iv x0,v1]) (N:=56) [.cell 4 29,.tmp 5] func22 Z Z (lb Z) Z λa f=> ?_
 unfold D.A0 at hd
 refine Ae (Bp (cs:=[sn]) zeroValue29 m f Z Z λaa w a m f=>Ac f Z λa f=>Aa (Ah (Ae (Ab f Z λa f=>Bd hd λab ac hd=>A2 f Z call75 (Wk.b m ac) λad w ae m a f=>have h1:=rd2 ae h1;l_o f (Bj (f.e Z)) λa f=>Ab f Z λa f=> ?_))))
 refine Bk 4 (λa w=>∃af,GLe ad af∧Mem W af w (ib aa 29 [sn]::H)∧Fr a 56 [(0,iv x0),(1,v1),(4,pb aa),(8,iv x0),(9,(.bool ab)),(10,(.bool (!ab))),(11,(.bool (!ab))),(15,(.bool ((!ab)||(decide ((120:Int)<(x1.length:Int))))))]) ?_ ?_
 ·rcases Bool.eq_false_or_eq_true (!ab) with ag|ag
  ·exact Aq f ag λa f=>Aq f ag λa f=>Aq f ag λa f=>l_o f (AK (f.e Z) ag (f.e Z)) λa f=>⟨_,gr,m,f.weak ⟨Z,Z,Z,Z,Z,Z,Z,by rw[ag];rfl,trivial⟩⟩
  ·exact Ap f ag (Ab f Z λa f=>Ap f ag (AN underlying27 f Z Z h1 λa f=>Ap f ag (Ai f Z Z CK λa f=>l_o f (AI (f.e Z) ag (f.e Z)) λa f=>⟨_,gr,m,f.weak ⟨Z,Z,Z,Z,Z,Z,Z,by rw[ag];rfl,trivial⟩⟩)))
 ·rintro a w ⟨af,ah,m,f⟩
  refine have h1:=rd2 ah h1;Aa ?_
  rcases Ag hd with⟨ai,hd⟩|⟨ai,hd⟩
  ·refine Am f Z ai (Ae ?_)
   have aj:∀w,(Instr.build 29 #[]).run prog w= .ok (.agg #[sn]) w:=by intro w;simp[Instr.build,Instr.fill,Cb,B5,BI,BQ,BA,B9,B3]
   refine CM f Z Z aj λa f=>Ax 0 0 (ds:=[sn]) m sizeOf29 f Z Z Z (Af Z AG) Z (lb Z) Z λw m=>Ac f Z λa f=>Aa (Ar ?_)
   obtain⟨ak,m,al⟩:=Ow.nil R1 35 m
   refine have am:=Cs (P:=prog) 1 m Bh f (s:=4) rfl rfl rfl;have m:=m.eraseAt 1;?_
   obtain rfl:=sj hd
   exact⟨[(.agg #[sn]),(.bool false)],⟨am,f.get _ _ Z,trivial⟩,f.d,_,[ak],(gt ae ah),m,_,_,Z,Z,al⟩
  ·refine Ak f Z ai (An (Ae (Ab f Z λa f=>Bd hd λan ao hd=>A9 f Z call78 (Wk.u1 m ao) λap aq ar w au m av a f=> ?_)))
   obtain⟨aw,ax,rfl,rfl,ay⟩:=av
   refine have h1:=rd2 au h1;Bp (cs:=[sn]) zeroValue29 m f Z Z λaz w a m f=>Ax 0 0 (ds:=[aw]) m sizeOf29 f Z Z Z (Af (Ow.one1 1 m ay Z) AG) Z (lb Z) Z λw m=>Aa (Ah (Ae (Ac f Z λa f=>Aa (Bd hd λaA aB hd=> ?_))))
   refine AL (λa w=>∃q_213':LL,aA= .inl q_213'∧∃aC:LL,aC=q_213'∧∃(aD:GH) (aE:Itm),GLe aq aD∧Fr a 56 [(4,pb aa),(6,pb az)]∧Mem W aD w (ib aa 29 [sn]::ib az 29 [aw]::aE::H)∧Ow R1 35 aD aE aw aC) ?_ ?_
   ·refine Al (have m:=m.fr 2;AM (λaF a w=>∃aG:Int,∃aH:LL,(aG,aH)=aF∧∃(aI:GH) (aJ:Itm),GLe aq aI∧Fr a 56 [(0,iv x0),(1,v1),(4,pb aa),(6,pb az),(7,iv aG)]∧Mem W aI w (ib aa 29 [sn]::ib az 29 [aw]::aJ::H)∧Ow R1 35 aI aJ aw aH) aB ⟨_,_,Z,_,ax,gr,f.k Z,m,ay⟩ ?_)
    clear aB f m
    rintro aF aK aL aM a w ⟨aG,aH,rfl,aI,aJ,aN,f,m,aO⟩
    refine have h1:=rd2 aN h1;Ah (Ae (Ab f Z λa f=>Ab f Z λa f=>AN underlying27 f Z Z h1 λa f=>Ai f Z Z AP λa f=>Aa ?_))
    rcases Ag aL with⟨aP,aL⟩|⟨aP,aL⟩
    ·refine Am f Z aP (An (Ah (Al (Ah (Ae (Ab f Z λa f=>Ab f Z λa f=>Bd aL λaQ aR aL=>AX T27 f Z Z Z h1 aR λaS aT a aU aV f=>Aw m AY f Z Z aU λa f=>AN underlying35 f Z Z aV λa f=>Ai f Z Z Cw λa f=>Ab f Z λa f=>Bd aL λaW aX aL=> ?_))))))
     refine Bk 8 (λa w=>∃aY,GLe aI aY∧Mem W aY w (ib aa 29 [sn]::ib az 29 [aw]::aJ::H)∧Fr a 56 [(0,iv x0),(1,v1),(4,pb aa),(6,pb az),(7,iv aG),(22,(.bool (decide (aG<(x1.length:Int))))),(25,v1),(26,iv aG),(27,aS),(28,aT),(29,(iv (aQ.length:Int))),(30,(.bool ((aQ.length:Int) !=2))),(31,(.bool ((aQ.length:Int) !=2))),(39,(.bool aW))]) ?_ ?_
     ·rcases Ag aX with⟨aZ,aX⟩|⟨aZ,aX⟩
      ·refine Aq f aZ λa f=>Aq f aZ λa f=>Aq f aZ λa f=>Aq f aZ λa f=>Aq f aZ λa f=>Aq f aZ λa f=>Aq f aZ λa f=>l_o f (AK (f.e Z) aZ (f.e Z)) λa f=> ?_
       obtain rfl:=sj aX
       exact⟨_,gr,m,f.k Z⟩
      ·refine Ap f aZ (Ab f Z λa f=>Ap f aZ (Ab f Z λa f=>Ap f aZ (Bd aX λa0 a1 aX=>AX T27 f Z Z Z h1 a1 λa2 a3 a a4 a5 f=>Ap f aZ (Aw m AY f Z Z a4 λa f=>Ap f aZ (Ab f Z λa f=>Ap f aZ (Bd aX λa6 a7 aX=>A2 f Z call79 (Wk.A m a5 a7) λa8 w a9 m a f=>Ap f aZ (l_o f (Bj (f.e Z)) λa f=>l_o f (AI (f.e Z) aZ (f.e Z)) λa f=> ?_)))))))
       obtain rfl:=sj aX
       exact⟨_,a9,m,f.k Z⟩
     ·rintro a w ⟨aY,ba,m,f⟩
      refine have h1:=rd2 ba h1;have aO:=od3 ba aO;Aa ?_
      rcases Ag aL with⟨bb,aL⟩|⟨bb,aL⟩
      ·refine Am f Z bb (Ae ?_)
       have bc:∀w,(Instr.build 29 #[]).run prog w= .ok (.agg #[sn]) w:=by intro w;simp[Instr.build,Instr.fill,Cb,B5,BI,BQ,BA,B9,B3]
       refine CM f Z Z bc λa f=>Ax 0 0 (ds:=[sn]) m sizeOf29 f Z Z Z (Af Z AG) Z (lb Z) Z λw m=>Ac f Z λa f=>Aa (Ar ?_)
       obtain⟨bd,m,be⟩:=Ow.nil R1 35 m
       refine have bf:=Cs (P:=prog) 1 m Bh f (s:=4) rfl rfl rfl;have m:=m.fr 3;have m:=m.fr 1;have m:=m.eraseAt 3;have m:Mem W aY w (bd::aJ::H):=m.eraseAt 2;have m:=m.eraseAt 1;?_
       obtain rfl:=sj aL
       obtain rfl:=aM _ rfl
       obtain rfl:=sj hd
       exact⟨[(.agg #[sn]),(.bool false)],⟨bf,f.get _ _ Z,trivial⟩,f.d,_,[bd],(gt ae (gt ah (gt au (gt aN ba)))),m,_,_,Z,Z,be⟩
      ·refine Ak f Z bb (An (Bg 13 AV (by kernel_rfl) m (Bc (i:=0) (ds:=[aw]) 13 1 Bh Z Z Z Z (by kernel_rfl) Z f Z Z Z λa f=>As 1 13 Z f Z λa f=>As 2 13 Z f Z λa f=>Bd aL λbg bh aL=>Bb 3 13 T27 h1 bh Z f Z Z λbi bj a bk bl f=>Ba 4 13 AY bk Z f Z λa f=>Bd aL λbm bn aL=>Bb 5 13 T35 bl bn Z f Z Z λbo bp a bq br f=> ?_)))
       subst br
       refine Ba 6 13 Pl2 bq Z f Z λa f=>As 7 13 Z f Z λa f=>As 8 13 Z f Z λa f=>Bd aL λbs bt aL=>Bb 9 13 T27 h1 bt Z f Z Z λbu bv a bw bx f=>Ba 10 13 AY bw Z f Z λa f=>Bd aL λbz bA aL=>Bb 11 13 T35 bx bA Z f Z Z λbB bC a bD bE f=> ?_
       subst bE
       refine Ba 12 13 Pl2 bD Z f Z λa f=>A4 λbF w bG m=>have aO:=od3 bG aO;have m:=m.fr 2;Bd aL λbH bI aL=>A9 f Z call80 (Wk.j0 m aO bI) λbJ bK bL w bM m bN a f=> ?_
       obtain⟨bO,rfl,rfl,bP⟩:=bN
       refine Ax 2 0 (ds:=[aw]) m sizeOf29 f Z Z Z (Af (Ow.one1 0 m bP Z) AG) Z (lb Z) Z λw m=>Aa (Aj (Ab f Z λa f=>Ai f Z Z AB λa f=>Ac f Z λa f=>Aa (have m:=m.fr 2;have m:=m.fr 2;?_)))
       obtain rfl:=sj aL
       exact⟨_,Z,_,_,Z,_,bO,(gt aN (gt ba (gt bG bM))),f.k Z,m,bP⟩
    ·refine Ak f Z aP (AE Z ?_)
     obtain rfl:=sj aL
     obtain rfl:=aM _ rfl
     exact⟨_,Z,_,Z,_,aJ,aN,f.k Z,m,aO⟩
   ·rintro a w ⟨_,rfl,aC,rfl,aD,aE,bQ,f,m,bR⟩
    refine Ae (Ay 1 0 (ds:=[aw]) m Bh f Z Z Z Z Z λa f=>Ax 0 0 (ds:=[aw]) m sizeOf29 f Z Z Z (Af (Ow.one1 2 m bR Z) AG) Z (lb Z) Z λw m=>Ac f Z λa f=>Aa (Ar (have bS:=Cs (P:=prog) 0 m Bh f (s:=4) rfl rfl rfl;have m:=m.fr 2;have m:=m.eraseAt 2;have m:=m.eraseAt 1;?_)))
    obtain rfl:=sj hd
    exact⟨[(.agg #[aw]),(.bool true)],⟨bS,f.get _ _ Z,trivial⟩,f.d,_,[aE],(gt ae (gt ah (gt au bQ))),m,_,_,Z,Z,bR⟩
theorem Wk.I0 {b0:Nat}{aa:Value}{ab:LI}{ac ad x1:Int}(m:Mem W G w (C8 b0 ac ad aa::H))(ae:RSl (RI .u8) G aa ab){y:(LL)×(LI)×Int×Int}(hd:D.I0 ab ac ad x1=some y):
  Calls prog 6 #[pb b0,iv x1] w (Res W G H (λG' Ho v=>∃r0:Value,∃i0:Itm,∃r2:Value,Ho=[i0,C8 b0 y.2.2.1 y.2.2.2 r2]∧v=(.agg #[r0])∧Ow R1 35 G' i0 r0 y.1∧RSl (RI .u8) G' r2 y.2.1)):=by
 refine Au (args:=[pb b0,iv x1]) (N:=47) [.cell 4 29] func6 Z Z (lb Z) Z λa f=> ?_
 unfold D.I0 at hd
 refine Ae (Bp (cs:=[sn]) zeroValue29 m f Z Z λaf w a m f=>AF (Ab f Z λa f=>Ab f Z λa f=>have m:=m.fr 1;Bd hd λag ah hd=>A9 f Z call13 (Wk.l m ae ah) λai aj ak w al m am a f=> ?_))
 obtain⟨an,rfl,rfl,ao⟩:=am
 refine Ai f Z Z AB λa f=>Ac f Z λa f=>AF (Ab f Z λa f=>Bd hd λap aq hd=>A9 f Z call13 (Wk.l m ao aq) λar au av w aw m ax a f=> ?_)
 obtain⟨ay,rfl,rfl,az⟩:=ax
 refine Ai f Z Z AB λa f=>Ac f Z λa f=>AF (AO (R:=R1) (xs:=([]:LL)) (RSl.one _) m T27 f Z Z Z (by decide) (All2.nil _) λaA aB w a m aC f=>Ac f Z λa f=>Aa (Ah (Ae (Ac f Z λa f=>Aa (Bd hd λaD aE hd=> ?_)))))
 refine AL (λa w=>∃aF:LL,∃aG:LI,∃aH:Int,∃aI:Int,(aF,aG,aH,aI)=aD∧∃(aJ:GH) (aK:Value) (aL:Itm) (aM:Value),GLe au aJ∧Fr a 47 [(4,pb af),(5,(iv (i64.wrap (1+ag.1)))),(7,aK)]∧Mem W aJ w (ib af 29 [sn]::C8 b0 aH aI aM::aL::H)∧Ow R1 35 aJ aL aK aF∧RSl (RI .u8) aJ aM aG) ?_ ?_
 ·refine Al (have m:=m.fr 2;have m:=m.fr 2;AM (λaN a w=>∃aO:LL,∃aP:Int,∃aQ:LI,∃aR:Int,∃aS:Int,(aO,aP,aQ,aR,aS)=aN∧∃(aT:GH) (aU:Value) (aV:Itm) (aW:Value),GLe au aT∧Fr a 47 [(0,pb b0),(4,pb af),(5,(iv (i64.wrap (1+ag.1)))),(6,(iv (i64.wrap (1+ap.1)))),(7,aU),(8,iv aP)]∧Mem W aT w (C8 b0 aR aS aW::ib af 29 [sn]::aV::H)∧Ow R1 35 aT aV aU aO∧RSl (RI .u8) aT aW aQ) aE ⟨_,_,_,_,_,Z,_,aB,aA,ay,gr,f.k Z,m,aC,az⟩ ?_)
  clear aE f m
  rintro aN aX aY aZ a w ⟨aO,aP,aQ,aR,aS,rfl,aT,aU,aV,aW,a0,f,m,a1,a2⟩
  refine Ah (Ae (Ab f Z λa f=>Ab f Z λa f=>Ai f Z Z AP λa f=>Aa ?_))
  rcases Ag aY with⟨a3,aY⟩|⟨a3,aY⟩
  ·refine Am f Z a3 (An (Ah (Al (Ae (Ac f Z λa f=>Aa (Bd aY λa4 a5 aY=> ?_))))))
   refine AL (λa w=>∃a6:LL,∃a7:LI,∃a8:Int,∃a9:Int,(a6,a7,a8,a9)=a4∧∃(ba:GH) (bb:Value) (bc:Itm) (bd:Value),GLe aT ba∧Fr a 47 [(0,pb b0),(4,pb af),(5,(iv (i64.wrap (1+ag.1)))),(6,(iv (i64.wrap (1+ap.1)))),(7,bb),(8,iv aP)]∧Mem W ba w (C8 b0 a8 a9 bd::ib af 29 [sn]::bc::H)∧Ow R1 35 ba bc bb a6∧RSl (RI .u8) ba bd a7) ?_ ?_
   ·refine Al (AM (λbe a w=>∃bf:LL,∃bg:Int,∃bh:LI,∃bi:Int,∃bj:Int,(bf,bg,bh,bi,bj)=be∧∃(bk:GH) (bl:Value) (bm:Itm) (bn:Value),GLe aT bk∧Fr a 47 [(0,pb b0),(4,pb af),(5,(iv (i64.wrap (1+ag.1)))),(6,(iv (i64.wrap (1+ap.1)))),(7,bl),(8,iv aP),(9,iv bg)]∧Mem W bk w (C8 b0 bi bj bn::ib af 29 [sn]::bm::H)∧Ow R1 35 bk bm bl bf∧RSl (RI .u8) bk bn bh) a5 ⟨_,_,_,_,_,Z,_,aU,aV,aW,gr,f.k Z,m,a1,a2⟩ ?_)
    clear a5 f m
    rintro be bo bp bq a w ⟨bf,bg,bh,bi,bj,rfl,bk,bl,bm,bn,br,f,m,bs,bt⟩
    refine Ah (Ae (Ab f Z λa f=>Ab f Z λa f=>Ai f Z Z AP λa f=>Aa ?_))
    rcases Ag bp with⟨bu,bp⟩|⟨bu,bp⟩
    ·refine Am f Z bu (An (Ah (Al (Ae (Ab f Z λa f=>Bd bp λbv bw bp=>A9 f Z call13 (Wk.l m bt bw) λbx bz bA w bB m bC a f=> ?_)))))
     obtain⟨bD,rfl,rfl,bE⟩:=bC
     refine have bs:=od3 bB bs;Ab f Z λa f=>Ai f Z Z AP λa f=>Aa ?_
     rcases Ag bp with⟨bF,bp⟩|⟨bF,bp⟩
     ·refine Am f Z bF (Aj (Ab f Z λa f=>Ab f Z λa f=>Ab f Z λa f=>AO (R:=R0) (xs:=([bg,aP]:LI)) (RI.one _) m T35 f Z Z Z (by decide) (All2.cons Z (All2.cons Z (All2.nil _))) λbG bH w a m bI f=> ?_))
      obtain⟨bJ,bK,m,bL⟩:=Ow.stamp (RI.mono _) bI m
      refine have bE:=rd1 bK bE;have bs:=od3 bK bs;AO (R:=R1) (xs:=([([bg,aP]:LI)]:LL)) (RSl.one _) m T27 f Z Z Z (by decide) (All2.cons bL (All2.nil _)) λbM bN w a m bO f=>Bd bp λbP bQ bp=>A6 (RSl.one _) 3 m bs Z T27 Z (by decide) f Z Z Z (Ow.src (j:=0) bO m Z) bQ λbR bS w a m bT f=>Ac f Z λa f=>Aa (Aj (Ab f Z λa f=>Ai f Z Z AB λa f=>Ac f Z λa f=>Aa (have m:=m.fr 3;have m:=m.fr 3;have m:=m.fr 3;have m:=m.eraseAt 3;?_)))
      obtain rfl:=sj bp
      exact⟨_,Z,_,_,_,_,_,Z,_,bS,bR,bD,(gt br (gt bB bK)),f.k Z,m,bT,bE⟩
     ·refine Ak f Z bF (An (Aj (Ab f Z λa f=>Ai f Z Z AB λa f=>Ac f Z λa f=>Aa ?_)))
      obtain rfl:=sj bp
      exact⟨_,Z,_,_,_,_,_,Z,_,bl,bm,bD,(gt br bB),f.k Z,m,bs,bE⟩
    ·refine Ak f Z bu (AE Z ?_)
     obtain rfl:=sj bp
     obtain rfl:=bq _ rfl
     exact⟨_,_,_,_,Z,_,bl,bm,bn,br,f.k Z,m,bs,bt⟩
   ·rintro a w ⟨a6,a7,a8,a9,rfl,ba,bb,bc,bd,bU,f,m,bV,bW⟩
    refine Aj (Ab f Z λa f=>Ai f Z Z AB λa f=>Ac f Z λa f=>Aa ?_)
    obtain rfl:=sj aY
    exact⟨_,Z,_,_,_,_,_,Z,_,bb,bc,bd,(gt a0 bU),f.k Z,m,bV,bW⟩
  ·refine Ak f Z a3 (AE Z (have m:=m.fr 1;?_))
   obtain rfl:=sj aY
   obtain rfl:=aZ _ rfl
   exact⟨_,_,_,_,Z,_,aU,aV,aW,a0,f.k Z,m,a1,a2⟩
 ·rintro a w ⟨aF,aG,aH,aI,rfl,aJ,aK,aL,aM,bX,f,m,bY,bZ⟩
  refine Ae (Ab f Z λa f=>Ab f Z λa f=>have m:=m.fr 2;?_)
  obtain⟨b1,b2,m,b3⟩:=Ow.stamp (RSl.mono (RI.mono _)) bY m
  refine have bZ:=rd1 b2 bZ;Bd hd λb4 b5 hd=>A9 f Z call22 (Wk.A0 m b3 b5) λb6 b7 b8 w b9 m ca a f=> ?_
  obtain⟨cb,cc,rfl,rfl,cd⟩:=ca
  refine have bZ:=rd1 b9 bZ;Ab f Z λa f=>l_o f (AD (f.e Z) Z) λa f=>l_o f (AD (f.e Z) Z) λa f=>Bp (cs:=[sn]) zeroValue29 m f Z Z λce w a m f=>Ax 0 0 (ds:=[cb]) m sizeOf29 f Z Z Z (Af (Ow.one1 1 m cd Z) AG) Z (lb Z) Z λw m=>Ac f Z λa f=>AF (Ay 0 0 (ds:=[cb]) m Bh f Z Z Z Z Z λa f=>Ax 2 0 (ds:=[cb]) m sizeOf29 f Z Z Z (Af (Ow.one1 1 m cd Z) AG) Z (lb Z) Z λw m=>Aa (Ar (have cf:=Cs (P:=prog) 2 m Bh f (s:=4) rfl rfl rfl;have m:=m.fr 3;have m:=m.fr 2;have m:=m.eraseAt 3;have m:=m.eraseAt 2;?_)))
  obtain rfl:=sj hd
  exact⟨[(.agg #[cb])],⟨cf,trivial⟩,f.d,_,[cc,C8 b0 aH aI aM],(gt al (gt aw (gt bX (gt b2 b9)))),m,_,_,_,Z,Z,cd,bZ⟩
theorem Wk.D0 {b0:Nat}{aa ab:Value}{ac:LI}{ad ae:Int}{af:LL}(m:Mem W G w (C8 b0 ad ae aa::H))(ag:RSl (RI .u8) G aa ac)(ah:R2 G ab af){y:(LI)×(LI)×Int×Int}(hd:D.D0 ac ad ae af=some y):
  Calls prog 8 #[pb b0,(.agg #[ab])] w (Res W G H (λG' Ho v=>∃r0:Value,∃i0:Itm,∃r2:Value,Ho=[i0,C8 b0 y.2.2.1 y.2.2.2 r2]∧r0=v∧Ow R0 2 G' i0 r0 y.1∧RSl (RI .u8) G' r2 y.2.1)):=by
 refine Au (args:=[pb b0,(.agg #[ab])]) (N:=36) [.tmp 4] func8 Z Z (lb Z) Z λa f=> ?_
 unfold D.D0 at hd
 refine Ae (A3 (cs:=[ab]) m f Z Z Z λai w a m f=>Ac f Z λa f=>AF (AO (R:=R0) (xs:=([]:LI)) (RI.one _) m T35 f Z Z Z (by decide) (All2.nil _) λaj ak w a m al f=>Ac f Z λa f=>Aa (Ah (Ae (Ac f Z λa f=>Aa (Bd hd λam an hd=> ?_))))))
 refine AL (λa w=>∃ao:LI,∃ap:LI,∃aq:Int,∃ar:Int,(ao,ap,aq,ar)=am∧∃(au:GH) (av:Value) (aw:Itm) (ax:Value),GLe G au∧Fr a 36 [(5,av)]∧Mem W au w (C8 b0 aq ar ax::aw::H)∧Ow R0 2 au aw av ao∧RSl (RI .u8) au ax ap) ?_ ?_
 ·refine Al (have m:=m.fr 1;have m:=m.fr 2;AM (λay a w=>∃az:LI,∃aA:Int,∃aB:LI,∃aC:Int,∃aD:Int,(az,aA,aB,aC,aD)=ay∧∃(aE:GH) (aF:Value) (aG:Itm) (aH:Value),GLe G aE∧Fr a 36 [(0,pb b0),(3,pb ai),(5,aF),(6,iv aA)]∧Mem W aE w (C8 b0 aC aD aH::ib ai 29 [ab]::aG::H)∧Ow R0 2 aE aG aF az∧RSl (RI .u8) aE aH aB) an ⟨_,_,_,_,_,Z,_,ak,aj,aa,gr,f.k Z,m,al,ag⟩ ?_)
  clear an f m
  rintro ay aI aJ aK a w ⟨az,aA,aB,aC,aD,rfl,aE,aF,aG,aH,aL,f,m,aM,aN⟩
  refine have ah:=rd2 aL ah;Ah (Ae (Ab f Z λa f=>AQ underlying29 Z sizeOf27 f Z λa f=>Ao 1 0 m AW f Z Z Z Z λa f=>AN underlying27 f Z Z ah λa f=>Ai f Z Z AP λa f=>Aa ?_))
  rcases Ag aJ with⟨aO,aJ⟩|⟨aO,aJ⟩
  ·refine Am f Z aO (An (Ah (Al (Ae (Ab f Z λa f=>Ab f Z λa f=>Ai f Z Z AB λa f=>Bd aJ λaP aQ aJ=>A9 f Z call13 (Wk.l m aN aQ) λaR aS aT w aU m aV a f=> ?_)))))
   obtain⟨aW,rfl,rfl,aX⟩:=aV
   refine have aM:=od1 aU aM;Ac f Z λa f=>AF (AO (R:=R0) (xs:=([]:LI)) (RI.one _) m T35 f Z Z Z (by decide) (All2.nil _) λaY aZ w a m a0 f=>Ab f Z λa f=>Ab f Z λa f=>have m:=m.fr 3;?_)
   obtain⟨a1,a2,m,a3⟩:=Ow.stamp (RI.mono _) aM m
   refine have a0:=od1 a2 a0;have aX:=rd1 a2 aX;Bd aJ λa4 a5 aJ=>GY T35 f Z Z a3 (.inl ⟨Z,Z⟩) (.inr ⟨_,_,Z,Z⟩) a5 λa6 a a7 f=>Bd aJ λa8 a9 aJ=>A6 (RI.one _) 0 m a0 Z T35 Z (by decide) f Z Z Z (a7.src m) a9 λba bb w a m bc f=>Ac f Z λa f=>AF (Ab f Z λa f=>Ab f Z λa f=>AO (R:=R0) (xs:=([aA]:LI)) (RI.one _) m T35 f Z Z Z (by decide) (All2.cons Z (All2.nil _)) λbd be w a m bf f=>Bd aJ λbg bh aJ=>A6 (RI.one _) 1 m bc Z T35 Z (by decide) f Z Z Z (Ow.src (j:=0) bf m Z) bh λbi bj w a m bk f=>Ac f Z λa f=>Aa (Aj (Ab f Z λa f=>Ab f Z λa f=>Ab f Z λa f=>Bd aJ λbl bm aJ=>GY T35 f Z Z a3 (.inr ⟨_,_,Z,Z⟩) (.inl ⟨Z,Z⟩) bm λbn a bo f=>Bd aJ λbp bq aJ=>A6 (RI.one _) 1 m bk Z T35 Z (by decide) f Z Z Z (bo.src m) bq λbr bs w a m bt f=>Ac f Z λa f=>Aa (Aj (Ab f Z λa f=>Ai f Z Z AB λa f=>Ac f Z λa f=>Aa ?_)))))
   refine have m:=m.fr 1;have m:=m.fr 3;have m:=m.fr 3;have m:=m.eraseAt 3;?_
   obtain rfl:=sj aJ
   exact⟨_,Z,_,_,_,_,_,Z,_,bs,br,aW,(gt aL (gt aU a2)),f.k Z,m,bt,aX⟩
  ·refine Ak f Z aO (AE Z (have m:=m.fr 2;have m:=m.fr 1;have m:=m.eraseAt 2;?_))
   obtain rfl:=sj aJ
   obtain rfl:=aK _ rfl
   exact⟨_,_,_,_,Z,_,aF,aG,aH,aL,f.k Z,m,aM,aN⟩
 ·rintro a w ⟨ao,ap,aq,ar,rfl,au,av,aw,ax,bu,f,m,bv,bw⟩
  refine Ae (Ab f Z λa f=>Ac f Z λa f=>Aa (Ar (have m:=m.fr 1;?_)))
  obtain rfl:=sj hd
  exact⟨[av],f.g Z,f.d,_,[aw,C8 b0 aq ar ax],bu,m,_,_,_,Z,Z,bv,bw⟩
theorem Wk.d {aa:Value}{ab:LL}(m:Mem W G w (H))(ac:R2 G aa ab){y:Int}(hd:D.d ab=some y):
  Calls prog 83 #[(.agg #[aa])] w (Res W G H (λ_ Ho v=>Ho=[]∧v=(iv y))):=by
 refine Au (args:=[(.agg #[aa])]) (N:=6) [.tmp 2] func83 Z Z (lb Z) Z λa f=> ?_
 unfold D.d at hd
 refine Ae (A3 (cs:=[aa]) m f Z Z Z λad w a m f=>Ac f Z λa f=>AF (AQ underlying29 Z sizeOf27 f Z λa f=>Ao 0 0 m AW f Z Z Z Z λa f=>AN underlying27 f Z Z ac λa f=>Ac f Z λa f=>Aa (Ar (have m:=m.dp 1;?_))))
 obtain rfl:=sj hd
 exact⟨[(iv (ab.length:Int))],f.g Z,f.d,_,[],gr,m,Z,Z⟩
theorem Wk.f {v0:Value}{x0:LI}{x1:Int}(m:Mem W G w (H))(h0:R1 G v0 x0){y:Bool}(hd:D.f x0 x1=some y):
  Calls prog 27 #[v0,iv x1] w (Res W G H (λ_ Ho v=>Ho=[]∧v=(.bool y))):=by
 refine Au (args:=[v0,iv x1]) (N:=18) [.tmp 4] func27 Z Z (lb Z) Z λa f=> ?_
 unfold D.f at hd
 refine Ae (Ac f Z λa f=>Aa (Ah (Ae (Ac f Z λa f=>Aa (Bd hd λaa ab hd=> ?_)))))
 refine AL (λa w=>∃q_19':Unit,aa= .inl q_19'∧∃(ac:GH),GLe G ac∧Fr a 18 []∧Mem W ac w (H)) ?_ ?_
 ·refine Al (AM (λad a w=>∃ae:Int,ae=ad∧∃(af:GH),GLe G af∧Fr a 18 [(0,v0),(1,iv x1),(5,iv ae)]∧Mem W af w (H)) ab ⟨_,Z,_,gr,f.k Z,m⟩ ?_)
  clear ab f m
  rintro ad ag ah ai a w ⟨ae,rfl,af,aj,f,m⟩
  refine have h0:=rd1 aj h0;Ah (Ae (Ab f Z λa f=>Ab f Z λa f=>AN underlying35 f Z Z h0 λa f=>Ai f Z Z AP λa f=>Aa ?_))
  rcases Ag ah with⟨ak,ah⟩|⟨ak,ah⟩
  ·refine Am f Z ak (An (Ah (Al (Ae (Ab f Z λa f=>Ab f Z λa f=>Bd ah λal am ah=>AX T35 f Z Z Z h0 am λan ao a ap aq f=> ?_)))))
   subst aq
   refine Aw m Pl2 f Z Z ap λa f=>Ab f Z λa f=>Ai f Z Z Bf λa f=>Aa ?_
   rcases Ag ah with⟨ar,ah⟩|⟨ar,ah⟩
   ·refine Am f Z ar (Ae (Ac f Z λa f=>Aa (Ar ?_)))
    obtain rfl:=sj ah
    obtain rfl:=ai _ rfl
    obtain rfl:=sj hd
    exact⟨[(.bool true)],f.g Z,f.d,_,[],aj,m,Z,Z⟩
   ·refine Ak f Z ar (An (Aj (Ab f Z λa f=>Ai f Z Z AB λa f=>Ac f Z λa f=>Aa ?_)))
    obtain rfl:=sj ah
    exact⟨_,Z,_,Z,_,aj,f.k Z,m⟩
  ·refine Ak f Z ak (AE Z ?_)
   obtain rfl:=sj ah
   obtain rfl:=ai _ rfl
   exact⟨_,Z,_,aj,f.weak trivial,m⟩
 ·rintro a w ⟨_,rfl,ac,au,f,m⟩
  refine Ae (Ac f Z λa f=>Aa (Ar ?_))
  obtain rfl:=sj hd
  exact⟨[(.bool false)],f.g Z,f.d,_,[],au,m,Z,Z⟩
theorem Wk.r {aa:Value}{ab:LL}(m:Mem W G w (H))(ac:R2 G aa ab){y:Bool}(hd:D.r ab=some y):
  Calls prog 40 #[(.agg #[aa])] w (Res W G H (λ_ Ho v=>Ho=[]∧v=(.bool y))):=by
 refine Au (args:=[(.agg #[aa])]) (N:=64) [.tmp 2] func40 Z Z (lb Z) Z λa f=> ?_
 unfold D.r at hd
 refine Ae (A3 (cs:=[aa]) m f Z Z Z λad w a m f=>Ac f Z λa f=>AF (Ay 0 0 (ds:=[aa]) m Bh f Z Z Z Z Z λa f=>Bd hd λae af hd=>A2 f Z call83 (Wk.d m ac af) λag w ah m a f=>have ac:=rd2 ah ac;Ac f Z λa f=>Aa (Ah (Ae (Ab f Z λa f=>Bd hd λai aj hd=>A2 f Z call75 (Wk.b m aj) λak w al m a f=>have ac:=rd2 al ac;l_o f (Bj (f.e Z)) λa f=>Aa ?_)))))
 rcases Ag hd with⟨am,hd⟩|⟨am,hd⟩
 ·refine Am f Z am (Ae (Ac f Z λa f=>Aa (Ar (have m:=m.dp 1;?_))))
  obtain rfl:=sj hd
  exact⟨[(.bool false)],f.g Z,f.d,_,[],(gt ah al),m,Z,Z⟩
 ·refine Ak f Z am (An (Ah (Ae (Ac f Z λa f=>Aa (Bd hd λan ao hd=> ?_)))))
  refine AL (λa w=>∃q_138':Unit,an= .inl q_138'∧∃(ap:GH),GLe ak ap∧Fr a 64 [(1,pb ad),(3,iv ae)]∧Mem W ap w (ib ad 29 [aa]::H)) ?_ ?_
  ·refine Al (AM (λaq a w=>∃ar:Int,ar=aq∧∃(au:GH),GLe ak au∧Fr a 64 [(1,pb ad),(3,iv ae),(4,iv ar)]∧Mem W au w (ib ad 29 [aa]::H)) ao ⟨_,Z,_,gr,f.k Z,m⟩ ?_)
   clear ao f m
   rintro aq av aw ax a w ⟨ar,rfl,au,ay,f,m⟩
   refine have ac:=rd2 ay ac;Ah (Ae (Ab f Z λa f=>Ab f Z λa f=>Ai f Z Z AP λa f=>Aa ?_))
   rcases Ag aw with⟨az,aw⟩|⟨az,aw⟩
   ·refine Am f Z az (An (Ah (Al (Ae (AQ underlying29 Z sizeOf27 f Z λa f=>Ao 0 0 m AW f Z Z Z Z λa f=>Ab f Z λa f=>Bd aw λaA aB aw=>AX T27 f Z Z Z ac aB λaC aD a aE aF f=>Aw m AY f Z Z aE λa f=>Ab f Z λa f=>Bd aw λaG aH aw=>A2 f Z call79 (Wk.A m aF aH) λaI w aJ m a f=>have ac:=rd2 aJ ac;l_o f (Bj (f.e Z)) λa f=>Ab f Z λa f=>Bd aw λaK aL aw=> ?_)))))
    refine Bk 8 (λa w=>∃aM,GLe aI aM∧Mem W aM w (ib ad 29 [aa]::H)∧Fr a 64 [(1,pb ad),(3,iv ae),(4,iv ar),(14,(.bool (decide (ar<ae)))),(17,pb ad),(18,aa),(19,iv ar),(20,aC),(21,aD),(22,iv ae),(23,(.bool aG)),(24,(.bool (!aG))),(25,(.bool (!aG))),(33,(.bool aK))]) ?_ ?_
    ·rcases Ag aL with⟨aN,aL⟩|⟨aN,aL⟩
     ·refine Aq f aN λa f=>Aq f aN λa f=>Aq f aN λa f=>Aq f aN λa f=>Aq f aN λa f=>Aq f aN λa f=>Aq f aN λa f=>l_o f (AK (f.e Z) aN (f.e Z)) λa f=> ?_
      obtain rfl:=sj aL
      exact⟨_,gr,m,f.k Z⟩
     ·refine Ap f aN (AQ underlying29 Z sizeOf27 f Z λa f=>Ap f aN (Ao 0 0 m AW f Z Z Z Z λa f=>Ap f aN (Ab f Z λa f=>Ap f aN (Bd aL λaO aP aL=>AX T27 f Z Z Z ac aP λaQ aR a aS aT f=>Ap f aN (Aw m AY f Z Z aS λa f=>Ap f aN (Ab f Z λa f=>Ap f aN (Bd aL λaU aV aL=>A2 f Z call27 (Wk.f m aT aV) λaW w aX m a f=>l_o f (AI (f.e Z) aN (f.e Z)) λa f=> ?_)))))))
      obtain rfl:=sj aL
      exact⟨_,aX,m,f.k Z⟩
    ·rintro a w ⟨aM,aY,m,f⟩
     refine Aa ?_
     rcases Ag aw with⟨aZ,aw⟩|⟨aZ,aw⟩
     ·refine Am f Z aZ (Ae (Ac f Z λa f=>Aa (Ar (have m:=m.dp 1;?_))))
      obtain rfl:=sj aw
      obtain rfl:=ax _ rfl
      obtain rfl:=sj hd
      exact⟨[(.bool false)],f.g Z,f.d,_,[],(gt ah (gt al (gt ay (gt aJ aY)))),m,Z,Z⟩
     ·refine Ak f Z aZ (An (Aj (Ab f Z λa f=>Ai f Z Z AB λa f=>Ac f Z λa f=>Aa ?_)))
      obtain rfl:=sj aw
      exact⟨_,Z,_,Z,_,(gt ay (gt aJ aY)),f.k Z,m⟩
   ·refine Ak f Z az (AE Z ?_)
    obtain rfl:=sj aw
    obtain rfl:=ax _ rfl
    exact⟨_,Z,_,ay,f.k Z,m⟩
  ·rintro a w ⟨_,rfl,ap,a0,f,m⟩
   refine have ac:=rd2 a0 ac;Ah (Ae (Ac f Z λa f=>Aa (Bd hd λa1 a2 hd=> ?_)))
   refine AL (λa w=>∃q_545':Unit,a1= .inl q_545'∧∃(a3:GH),GLe ap a3∧Fr a 64 []∧Mem W a3 w (H)) ?_ ?_
   ·refine Al (AM (λa4 a w=>∃a5:Int,a5=a4∧∃(a6:GH),GLe ap a6∧Fr a 64 [(1,pb ad),(3,iv ae),(5,iv a5)]∧Mem W a6 w (ib ad 29 [aa]::H)) a2 ⟨_,Z,_,gr,f.k Z,m⟩ ?_)
    clear a2 f m
    rintro a4 a7 a8 a9 a w ⟨a5,rfl,a6,ba,f,m⟩
    refine have ac:=rd2 ba ac;Ah (Ae (Ab f Z λa f=>Ab f Z λa f=>Ai f Z Z AP λa f=>Aa ?_))
    rcases Ag a8 with⟨bb,a8⟩|⟨bb,a8⟩
    ·refine Am f Z bb (An (Ah (Al (Ae (Ac f Z λa f=>Aa (Bd a8 λbc bd a8=> ?_))))))
     refine AL (λa w=>∃q_759':Unit,bc= .inl q_759'∧∃(be:GH),GLe a6 be∧Fr a 64 [(1,pb ad),(3,iv ae),(5,iv a5)]∧Mem W be w (ib ad 29 [aa]::H)) ?_ ?_
     ·refine Al (AM (λbf a w=>∃bg:Int,bg=bf∧∃(bh:GH),GLe a6 bh∧Fr a 64 [(1,pb ad),(3,iv ae),(5,iv a5),(6,iv bg)]∧Mem W bh w (ib ad 29 [aa]::H)) bd ⟨_,Z,_,gr,f.k Z,m⟩ ?_)
      clear bd f m
      rintro bf bi bj bk a w ⟨bg,rfl,bh,bl,f,m⟩
      refine have ac:=rd2 bl ac;Ah (Ae (Ab f Z λa f=>AQ underlying29 Z sizeOf27 f Z λa f=>Ao 0 0 m AW f Z Z Z Z λa f=>Ab f Z λa f=>Bd bj λbm bn bj=>AX T27 f Z Z Z ac bn λbo bp a bq br f=>Aw m AY f Z Z bq λa f=>AN underlying35 f Z Z br λa f=>Ai f Z Z AP λa f=>Aa ?_))
      rcases Ag bj with⟨bs,bj⟩|⟨bs,bj⟩
      ·refine Am f Z bs (An (Ah (Al (Ah (Bg 15 AV (by kernel_rfl) m (Br 0 15 underlying29 Z sizeOf27 Z f Z λa f=>Bo 1 15 0 AW Z Z Z f Z λa f=>Br 2 15 underlying29 Z sizeOf27 Z f Z λa f=>Bo 3 15 0 AW Z Z Z f Z λa f=>As 4 15 Z f Z λa f=>Bd bj λbt bu bj=>Bb 5 15 T27 ac bu Z f Z Z λbv bw a bx bz f=>Ba 6 15 AY bx Z f Z λa f=>As 7 15 Z f Z λa f=>Bd bj λbA bB bj=>Bb 8 15 T35 bz bB Z f Z Z λbC bD a bE bF f=> ?_))))))
       subst bF
       refine Ba 9 15 Pl2 bE Z f Z λa f=>Bd bj λbG bH bj=>Bb 10 15 T27 ac bH Z f Z Z λbI bJ a bK bL f=>Ba 11 15 AY bK Z f Z λa f=>As 12 15 Z f Z λa f=>Bd bj λbM bN bj=>B4 (i:=13) 15 Z (by kernel_rfl) Z f Z Z Z call27 (λ_ _ w bO m=>Wk.f m (rd1 bO bL) bN) λa f=>q_p 14 15 Z f (λ_=>Bj (f.e Z)) λa f=>A4 λbP w bQ m=>Aa ?_
       rcases Ag bj with⟨bR,bj⟩|⟨bR,bj⟩
       ·refine Am f Z bR (Ae (Ac f Z λa f=>Aa (Ar (have m:=m.dp 1;?_))))
        obtain rfl:=sj bj
        obtain rfl:=bk _ rfl
        obtain rfl:=sj a8
        obtain rfl:=a9 _ rfl
        obtain rfl:=sj hd
        exact⟨[(.bool false)],f.g Z,f.d,_,[],(gt ah (gt al (gt a0 (gt ba (gt bl bQ))))),m,Z,Z⟩
       ·refine Ak f Z bR (An (Aj (Ab f Z λa f=>Ai f Z Z AB λa f=>Ac f Z λa f=>Aa ?_)))
        obtain rfl:=sj bj
        exact⟨_,Z,_,Z,_,(gt bl bQ),f.k Z,m⟩
      ·refine Ak f Z bs (AE Z ?_)
       obtain rfl:=sj bj
       obtain rfl:=bk _ rfl
       exact⟨_,Z,_,bl,f.k Z,m⟩
     ·rintro a w ⟨_,rfl,be,bS,f,m⟩
      refine Aj (Ab f Z λa f=>Ai f Z Z AB λa f=>Ac f Z λa f=>Aa ?_)
      obtain rfl:=sj a8
      exact⟨_,Z,_,Z,_,(gt ba bS),f.k Z,m⟩
    ·refine Ak f Z bb (AE Z (have m:=m.dp 1;?_))
     obtain rfl:=sj a8
     obtain rfl:=a9 _ rfl
     exact⟨_,Z,_,ba,f.weak trivial,m⟩
   ·rintro a w ⟨_,rfl,a3,bT,f,m⟩
    refine Ae (Ac f Z λa f=>Aa (Ar ?_))
    obtain rfl:=sj hd
    exact⟨[(.bool true)],f.g Z,f.d,_,[],(gt ah (gt al (gt a0 bT))),m,Z,Z⟩
theorem Wk.z1 {aa:Value}{ab:LL}{x1:Int}(m:Mem W G w (H))(ac:R2 G aa ab){y:Bool}(hd:D.z1 ab x1=some y):
  Calls prog 120 #[(.agg #[aa]),iv x1] w (Res W G H (λ_ Ho v=>Ho=[]∧v=(.bool y))):=by
 refine Au (args:=[(.agg #[aa]),iv x1]) (N:=10) [.tmp 4] func120 Z Z (lb Z) Z λa f=> ?_
 unfold D.z1 at hd
 refine Ae (A3 (cs:=[aa]) m f Z Z Z λad w a m f=>Ac f Z λa f=>AF (Ab f Z λa f=>Ay 0 0 (ds:=[aa]) m Bh f Z Z Z Z Z λa f=>Bd hd λae af hd=>A2 f Z call83 (Wk.d m ac af) λag w ah m a f=>Ai f Z Z CA λa f=>Bd hd λai aj hd=>A2 f Z call75 (Wk.b m aj) λak w al m a f=>Ac f Z λa f=>Aa (Ar (have m:=m.dp 1;?_))))
 obtain rfl:=sj hd
 exact⟨[(.bool ai)],f.g Z,f.d,_,[],(gt ah al),m,Z,Z⟩
theorem Wk.L1 {aa v1:Value}{ab:LL}{x1:LI}(m:Mem W G w (H))(ac:R2 G aa ab)(h1:R1 G v1 x1){y:Bool}(hd:D.L1 ab x1=some y):
  Calls prog 81 #[(.agg #[aa]),v1] w (Res W G H (λ_ Ho v=>Ho=[]∧v=(.bool y))):=by
 refine Au (args:=[(.agg #[aa]),v1]) (N:=34) [.tmp 4] func81 Z Z (lb Z) Z λa f=> ?_
 unfold D.L1 at hd
 refine Ae (A3 (cs:=[aa]) m f Z Z Z λad w a m f=>Ac f Z λa f=>Aa (Ah (Ae (Ab f Z λa f=>AN underlying35 f Z Z h1 λa f=>Ay 0 0 (ds:=[aa]) m Bh f Z Z Z Z Z λa f=>Bd hd λae af hd=>A2 f Z call83 (Wk.d m ac af) λag w ah m a f=>have ac:=rd2 ah ac;have h1:=rd1 ah h1;Ai f Z Z Cw λa f=>Aa ?_))))
 rcases Ag hd with⟨ai,hd⟩|⟨ai,hd⟩
 ·refine Am f Z ai (Ae (Ac f Z λa f=>Aa (Ar (have m:=m.dp 1;?_))))
  obtain rfl:=sj hd
  exact⟨[(.bool false)],f.g Z,f.d,_,[],ah,m,Z,Z⟩
 ·refine Ak f Z ai (An (Ah (Ae (Ac f Z λa f=>Aa (Bd hd λaj ak hd=> ?_)))))
  refine AL (λa w=>∃q_99':Unit,aj= .inl q_99'∧∃(al:GH),GLe ag al∧Fr a 34 []∧Mem W al w (H)) ?_ ?_
  ·refine Al (AM (λam a w=>∃an:Int,an=am∧∃(ao:GH),GLe ag ao∧Fr a 34 [(1,v1),(2,pb ad),(5,iv an)]∧Mem W ao w (ib ad 29 [aa]::H)) ak ⟨_,Z,_,gr,f.k Z,m⟩ ?_)
   clear ak f m
   rintro am ap aq ar a w ⟨an,rfl,ao,au,f,m⟩
   refine have h1:=rd1 au h1;have ac:=rd2 au ac;Ah (Ae (Ab f Z λa f=>Ab f Z λa f=>AN underlying35 f Z Z h1 λa f=>Ai f Z Z AP λa f=>Aa ?_))
   rcases Ag aq with⟨av,aq⟩|⟨av,aq⟩
   ·refine Am f Z av (An (Ah (Al (Ah (Bg 17 AV (by kernel_rfl) m (Bc (i:=0) (ds:=[aa]) 17 0 Bh Z Z Z Z (by kernel_rfl) Z f Z Z Z λa f=>As 1 17 Z f Z λa f=>As 2 17 Z f Z λa f=>Bd aq λaw ax aq=>Bb 3 17 T35 h1 ax Z f Z Z λay az a aA aB f=> ?_))))))
    subst aB
    refine Ba 4 17 Pl2 aA Z f Z λa f=>Bd aq λaC aD aq=>B4 (i:=5) 17 Z (by kernel_rfl) Z f Z Z Z call120 (λ_ _ w aE m=>Wk.z1 m (rd2 aE ac) aD) λa f=>q_p 6 17 Z f (λ_=>Bj (f.e Z)) λa f=>As 7 17 Z f Z λa f=>Bd aq λaF aG aq=>CW (fuel':=0) (listed':= #[true,true,true,true,true,true,true,true,true,true,true,true,true,true,true,true,true]) (λa=>Fr a 34 [(1,v1),(2,pb ad),(5,iv an),(14,(.bool (decide (an<(x1.length:Int))))),(17,(.agg #[aa])),(18,v1),(19,iv an),(20,ay),(21,iv aw),(22,(.bool aC)),(23,(.bool (!aC))),(24,(.bool (!aC))),(33,(.bool aF))]) ?_ ?_
    ·intro a f
     refine A4 λaH w aI m=>Aa ?_
     rcases Ag aq with⟨aJ,aq⟩|⟨aJ,aq⟩
     ·refine Am f Z aJ (Ae (Ac f Z λa f=>Aa (Ar (have m:=m.dp 1;?_))))
      obtain rfl:=sj aq
      obtain rfl:=ar _ rfl
      obtain rfl:=sj hd
      exact⟨[(.bool false)],f.g Z,f.d,_,[],(gt ah (gt au aI)),m,Z,Z⟩
     ·refine Ak f Z aJ (An (Aj (Ab f Z λa f=>Ai f Z Z AB λa f=>Ac f Z λa f=>Aa ?_)))
      obtain rfl:=sj aq
      exact⟨_,Z,_,Z,_,(gt au aI),f.k Z,m⟩
    ·intro aK
     rcases Ag aG with⟨aL,aG⟩|⟨aL,aG⟩
     ·refine AA 8 17 Z f aL λa f=>AA 9 17 Z f aL λa f=>AA 10 17 Z f aL λa f=>AA 11 17 Z f aL λa f=>AA 12 17 Z f aL λa f=>AA 13 17 Z f aL λa f=>AA 14 17 Z f aL λa f=>AA 15 17 Z f aL λa f=>q_p 16 17 Z f (λ_=>AK (f.e Z) aL (f.e Z)) λa f=> ?_
      obtain rfl:=sj aG
      exact aK _ (f.k Z)
     ·refine As (hw:=wo f aL) 8 17 Z f Z λa f=>As (hw:=wo f aL) 9 17 Z f Z λa f=>Bd aG λaM aN aG=>q_slice (i:=10) 17 T35 h1 aN Z (by kernel_rfl) Z f (Bs f Z Z Z aL) Z Z (.inl ⟨Z,Z⟩) (.inr ⟨_,_,Z,Z⟩) λaO a aP f=>As (hw:=wo f aL) 11 17 Z f Z λa f=>As (hw:=wo f aL) 12 17 Z f Z λa f=>Bd aG λaQ aR aG=>Bb (hw:=wo f aL) 13 17 T35 h1 aR Z f Z Z λaS aT a aU aV f=> ?_
      subst aV
      refine Ba (hw:=wo f aL) 14 17 Pl2 aU Z f Z λa f=>Bd aG λaW aX aG=>B4 (i:=15) 17 Z (by kernel_rfl) Z f (Bs f Z Z Z aL) Z Z call27 (λ_ _ w aY m=>Wk.f m (rd1 aY aP) aX) λa f=>q_p 16 17 Z f (λ_=>AI (f.e Z) aL (f.e Z)) λa f=> ?_
      obtain rfl:=sj aG
      exact aK _ (f.k Z)
   ·refine Ak f Z av (AE Z (have m:=m.dp 1;?_))
    obtain rfl:=sj aq
    obtain rfl:=ar _ rfl
    exact⟨_,Z,_,au,f.weak trivial,m⟩
  ·rintro a w ⟨_,rfl,al,aZ,f,m⟩
   refine Ae (Ac f Z λa f=>Aa (Ar ?_))
   obtain rfl:=sj hd
   exact⟨[(.bool true)],f.g Z,f.d,_,[],(gt ah aZ),m,Z,Z⟩
theorem Wk.j1 {aa v1:Value}{ab:LL}{x1:LI}(m:Mem W G w (H))(ac:R2 G aa ab)(h1:R1 G v1 x1){y:Bool}(hd:D.j1 ab x1=some y):
  Calls prog 23 #[(.agg #[aa]),v1] w (Res W G H (λ_ Ho v=>Ho=[]∧v=(.bool y))):=by
 refine Au (args:=[(.agg #[aa]),v1]) (N:=12) [.tmp 4] func23 Z Z (lb Z) Z λa f=> ?_
 unfold D.j1 at hd
 refine Ae (A3 (cs:=[aa]) m f Z Z Z λad w a m f=>Ac f Z λa f=>AF (Ay 0 0 (ds:=[aa]) m Bh f Z Z Z Z Z λa f=>Bd hd λae af hd=>A2 f Z call40 (Wk.r m ac af) λag w ah m a f=>have ac:=rd2 ah ac;have h1:=rd1 ah h1;Ab f Z λa f=>Bd hd λai aj hd=> ?_))
 refine Bk 4 (λa w=>∃ak,GLe ag ak∧Mem W ak w (ib ad 29 [aa]::H)∧Fr a 12 [(0,(.agg #[aa])),(1,v1),(2,pb ad),(5,(.agg #[aa])),(6,(.bool ae)),(7,(.bool ae)),(11,(.bool ai))]) ?_ ?_
 ·rcases Ag aj with⟨al,aj⟩|⟨al,aj⟩
  ·refine Ap f al (Ay 0 0 (ds:=[aa]) m Bh f Z Z Z Z Z λa f=>Ap f al (Ab f Z λa f=>Ap f al (Bd aj λam an aj=>A2 f Z call81 (Wk.L1 m ac h1 an) λao w ap m a f=>l_o f (AK (f.e Z) al (f.e Z)) λa f=> ?_)))
   obtain rfl:=sj aj
   exact⟨_,ap,m,f.k Z⟩
  ·refine Aq f al λa f=>Aq f al λa f=>Aq f al λa f=>l_o f (AI (f.e Z) al (f.e Z)) λa f=> ?_
   obtain rfl:=sj aj
   exact⟨_,gr,m,f.k Z⟩
 ·rintro a w ⟨ak,aq,m,f⟩
  refine Ac f Z λa f=>Aa (Ar (have m:=m.dp 1;?_))
  obtain rfl:=sj hd
  exact⟨[(.bool ai)],f.g Z,f.d,_,[],(gt ah aq),m,Z,Z⟩
theorem Wk.v1 {aa:Value}{ab:LL}(m:Mem W G w (H))(ac:R2 G aa ab){y:(LL)}(hd:D.v1 ab=some y):
  Calls prog 121 #[(.agg #[aa])] w (Res W G H (λG' Ho v=>∃r0:Value,∃i0:Itm,Ho=[i0]∧v=(.agg #[r0])∧Ow R1 35 G' i0 r0 y)):=by
 refine Au (args:=[(.agg #[aa])]) (N:=25) [.cell 2 29] func121 Z Z (lb Z) Z λa f=> ?_
 unfold D.v1 at hd
 refine Ae (A3 (cs:=[aa]) m f Z Z Z λad w a m f=>Bp (cs:=[sn]) zeroValue29 m f Z Z λae w a m f=>AF ?_)
 have af:∀w,(Instr.build 29 #[]).run prog w= .ok (.agg #[sn]) w:=by intro w;simp[Instr.build,Instr.fill,Cb,B5,BI,BQ,BA,B9,B3]
 refine CM f Z Z af λa f=>Bp (cs:=[sn]) zeroValue29 m f Z Z λag w a m f=>Ax 0 0 (ds:=[sn]) m sizeOf29 f Z Z Z (Af Z AG) Z (lb Z) Z λw m=>Aa (Ah (Ae (Ac f Z λa f=>Aa ?_)))
 obtain⟨ah,m,ai⟩:=Ow.nil R1 35 m
 have⟨aj,ak,hd⟩:=bind_some hd
 refine AL (λa w=>∃al:LL,al=aj∧∃(am:GH) (an:Value) (ao:Itm),GLe G am∧Fr a 25 [(2,pb ae),(3,pb ag)]∧Mem W am w (ib ae 29 [sn]::ib ag 29 [an]::ao::H)∧Ow R1 35 am ao an al) ?_ ?_
 ·refine Al (have m:=m.fr 1;have m:=m.fr 2;have m:=m.fr 3;AM (λap a w=>∃aq:Int,∃ar:LL,(aq,ar)=ap∧∃(au:GH) (av:Value) (aw:Itm),GLe G au∧Fr a 25 [(1,pb ad),(2,pb ae),(3,pb ag),(4,iv aq)]∧Mem W au w (ib ad 29 [aa]::ib ae 29 [sn]::ib ag 29 [av]::aw::H)∧Ow R1 35 au aw av ar) ak ⟨_,_,Z,_,sn,ah,gr,f.k Z,m,ai⟩ ?_)
  clear ak f m
  rintro ap ax ay az a w ⟨aq,ar,rfl,au,av,aw,aA,f,m,aB⟩
  refine have ac:=rd2 aA ac;Ah (Ae (Ab f Z λa f=>AQ underlying29 Z sizeOf27 f Z λa f=>Ao 0 0 m AW f Z Z Z Z λa f=>AN underlying27 f Z Z ac λa f=>Ai f Z Z AP λa f=>Aa ?_))
  rcases Ag ay with⟨aC,ay⟩|⟨aC,ay⟩
  ·refine Am f Z aC (An (Ah (Al (Bg 9 AV (by kernel_rfl) m (Br 0 9 underlying29 Z sizeOf27 Z f Z λa f=>Bo 1 9 2 AW Z Z Z f Z λa f=>Br 2 9 underlying29 Z sizeOf27 Z f Z λa f=>Bo 3 9 0 AW Z Z Z f Z λa f=>As 4 9 Z f Z λa f=>Bd ay λaD aE ay=>Bb 5 9 T27 ac aE Z f Z Z λaF aG a aH aI f=>Ba 6 9 AY aH Z f Z λa f=>Bw 7 Z λaJ w aK m aL aL=>have aI:=rd1 aK aI;have aB:=od3 aK aB;Bd ay λaM aN ay=>BK f Z call26 (Wk.e m aI aN) λaO aP aQ w aR m aS a f=>have aB:=od3 aR aB;Aa (aL aQ [aP] _ _ aR m (Bw 8 Z λaT w aU m aV aV=>have aS:=od1 aU aS;have aB:=od3 aU aB;?_)))))))
   obtain⟨aW,aX,m,aY⟩:=Ow.stamp (RI.mono _) aS m
   refine have aB:=od3 aX aB;AO (R:=R1) (xs:=([aM]:LL)) (RSl.one _) m T27 f Z Z Z (by decide) (All2.cons aY (All2.nil _)) λaZ a0 w a m a1 f=>Aa (aV aW [aZ] _ _ aX m (A4 λa2 w a3 m=>have a1:=od3 a3 a1;have aB:=od3 a3 aB;Bd ay λa4 a5 ay=>A6 (RSl.one _) 4 m aB Z T27 Z (by decide) f Z Z Z (Ow.src (j:=0) a1 m Z) a5 λa6 a7 w a m a8 f=>AQ underlying29 Z sizeOf27 f Z λa f=>Ax 3 0 (ds:=[a7]) m sizeOf27 f Z Z (Ow.cells 4 m a8 Z) (Af (Ow.one1 4 m a8 Z) AG) Z (lb Z) Z λw m=>Aa (Aj (Ab f Z λa f=>Ai f Z Z AB λa f=>Ac f Z λa f=>Aa (have m:=m.fr 4;have m:=m.fr 4;have m:=m.fr 4;have m:Mem W a2 w (ib ad 29 [aa]::ib ae 29 [sn]::ib ag 29 [a7]::a6::aZ::H):=m.fr 4;have m:=m.eraseAt 4;?_)))))
   obtain rfl:=sj ay
   exact⟨_,Z,_,_,Z,_,a7,a6,(gt aA (gt aK (gt aR (gt aU (gt aX a3))))),f.k Z,m,a8⟩
  ·refine Ak f Z aC (AE Z (have m:=m.fr 3;have m:=m.fr 3;have m:=m.fr 3;have m:=m.eraseAt 3;?_))
   obtain rfl:=sj ay
   obtain rfl:=az _ rfl
   exact⟨_,Z,_,av,aw,aA,f.k Z,m,aB⟩
 ·rintro a w ⟨al,rfl,am,an,ao,a9,f,m,ba⟩
  refine Ae (Ay 1 0 (ds:=[an]) m Bh f Z Z Z Z Z λa f=>Ax 0 0 (ds:=[an]) m sizeOf29 f Z Z Z (Af (Ow.one1 2 m ba Z) AG) Z (lb Z) Z λw m=>Aa (Ar (have bb:=Cs (P:=prog) 0 m Bh f (s:=2) rfl rfl rfl;have m:=m.fr 2;have m:=m.eraseAt 2;have m:=m.eraseAt 1;?_)))
  obtain rfl:=sj hd
  exact⟨[(.agg #[an])],⟨bb,trivial⟩,f.d,_,[ao],a9,m,_,_,Z,Z,ba⟩
theorem Wk.u0 {aa v2:Value}{ab:LL}{x1:Int}{x2:(List Bool)}(m:Mem W G w (H))(ac:R2 G aa ab)(h2:RSl RB G v2 x2){y:(LI)}(hd:D.u0 ab x1 x2=some y):
  Calls prog 84 #[(.agg #[aa]),iv x1,v2] w (Res W G H (λG' Ho v=>∃r0:Value,∃i0:Itm,Ho=[i0]∧r0=v∧Ow R0 2 G' i0 r0 y)):=by
 refine Au (args:=[(.agg #[aa]),iv x1,v2]) (N:=44) [.tmp 6] func84 Z Z (lb Z) Z λa f=> ?_
 unfold D.u0 at hd
 refine Ae (A3 (cs:=[aa]) m f Z Z Z λad w a m f=>Ac f Z λa f=>AF (AO (R:=R0) (xs:=([]:LI)) (RI.one _) m T35 f Z Z Z (by decide) (All2.nil _) λae af w a m ag f=>Ac f Z λa f=>Aa (Ah (Ae (Ac f Z λa f=>Aa (Bd hd λah ai hd=> ?_))))))
 refine AL (λa w=>∃aj:LI,aj=ah∧∃(ak:GH) (al:Value) (am:Itm),GLe G ak∧Fr a 44 [(7,al)]∧Mem W ak w (am::H)∧Ow R0 2 ak am al aj) ?_ ?_
 ·refine Al (have m:=m.fr 1;AM (λan a w=>∃ao:LI,∃ap:Int,(ao,ap)=an∧∃(aq:GH) (ar:Value) (au:Itm),GLe G aq∧Fr a 44 [(1,iv x1),(2,v2),(3,pb ad),(7,ar),(8,iv ap)]∧Mem W aq w (ib ad 29 [aa]::au::H)∧Ow R0 2 aq au ar ao) ai ⟨_,_,Z,_,af,ae,gr,f.k Z,m,ag⟩ ?_)
  clear ai f m
  rintro an av aw ax a w ⟨ao,ap,rfl,aq,ar,au,ay,f,m,az⟩
  refine have h2:=RSl.mono RB.mono _ _ _ _ ay h2;have ac:=rd2 ay ac;Ah (Ae (Ab f Z λa f=>AQ underlying29 Z sizeOf27 f Z λa f=>Ao 0 0 m AW f Z Z Z Z λa f=>Ab f Z λa f=>Bd aw λaA aB aw=>AX T27 f Z Z Z ac aB λaC aD a aE aF f=>Aw m AY f Z Z aE λa f=>AN underlying35 f Z Z aF λa f=>Ai f Z Z AP λa f=>Aa ?_))
  rcases Ag aw with⟨aG,aw⟩|⟨aG,aw⟩
  ·refine Am f Z aG (An (Ah (Al (Ae (Ab f Z λa f=>AQ underlying29 Z sizeOf27 f Z λa f=>Ao 0 0 m AW f Z Z Z Z λa f=>Ab f Z λa f=>Bd aw λaH aI aw=>AX T27 f Z Z Z ac aI λaJ aK a aL aM f=>Aw m AY f Z Z aL λa f=>Ab f Z λa f=>Bd aw λaN aO aw=>AX T35 f Z Z Z aM aO λaP aQ a aR aS f=> ?_)))))
   subst aS
   refine Aw m Pl2 f Z Z aR λa f=>Bd aw λaT aU aw=>AX T118 f Z Z Z h2 aU λaV aW a aX aY f=> ?_
   subst aY
   refine Aw m Pl4 f Z Z aX λa f=>l_o f (Bj (f.e Z)) λa f=>Aa ?_
   rcases Ag aw with⟨aZ,aw⟩|⟨aZ,aw⟩
   ·refine Am f Z aZ (Aj (Ab f Z λa f=>AQ underlying29 Z sizeOf27 f Z λa f=>Ao 0 0 m AW f Z Z Z Z λa f=>Ab f Z λa f=>Bd aw λa0 a1 aw=>AX T27 f Z Z Z ac a1 λa2 a3 a a4 a5 f=>Aw m AY f Z Z a4 λa f=>Ab f Z λa f=>Bd aw λa6 a7 aw=>AX T35 f Z Z Z a5 a7 λa8 a9 a ba bb f=> ?_))
    subst bb
    refine Aw m Pl2 f Z Z ba λa f=>AO (R:=R0) (xs:=([a6]:LI)) (RI.one _) m T35 f Z Z Z (by decide) (All2.cons Z (All2.nil _)) λbc bd w a m be f=>Bd aw λbf bg aw=>A6 (RI.one _) 2 m az Z T35 Z (by decide) f Z Z Z (Ow.src (j:=0) be m Z) bg λbh bi w a m bj f=>Ac f Z λa f=>Aa (Aj (Ab f Z λa f=>Ai f Z Z AB λa f=>Ac f Z λa f=>Aa (have m:=m.fr 2;have m:=m.fr 2;have m:=m.eraseAt 2;?_)))
    obtain rfl:=sj aw
    exact⟨_,Z,_,_,Z,_,bi,bh,ay,f.k Z,m,bj⟩
   ·refine Ak f Z aZ (An (Aj (Ab f Z λa f=>Ai f Z Z AB λa f=>Ac f Z λa f=>Aa ?_)))
    obtain rfl:=sj aw
    exact⟨_,Z,_,_,Z,_,ar,au,ay,f.k Z,m,az⟩
  ·refine Ak f Z aG (AE Z (have m:=m.fr 1;have m:=m.eraseAt 1;?_))
   obtain rfl:=sj aw
   obtain rfl:=ax _ rfl
   exact⟨_,Z,_,ar,au,ay,f.k Z,m,az⟩
 ·rintro a w ⟨aj,rfl,ak,al,am,bk,f,m,bl⟩
  refine Ae (Ab f Z λa f=>Ac f Z λa f=>Aa (Ar ?_))
  obtain rfl:=sj hd
  exact⟨[al],f.g Z,f.d,_,[am],bk,m,_,_,Z,Z,bl⟩
theorem Wk.B0 {aa:Value}{ab:Itm}{v1:Value}{ac:LL}{x1:LI}(m:Mem W G w (ab::H))(ad:Ow R1 35 G ab aa ac)(h1:R1 G v1 x1){y:(LL)}(hd:D.B0 ac x1=some y):
  Calls prog 122 #[(.agg #[aa]),v1] w (Res W G H (λG' Ho v=>∃i0:Itm,Ho=[i0]∧v=(.agg #[aa])∧Ow R1 35 G' i0 aa y)):=by
 refine Au (args:=[(.agg #[aa]),v1]) (N:=29) [.cell 4 29] func122 Z Z (lb Z) Z λa f=> ?_
 unfold D.B0 at hd
 refine Ae (A3 (cs:=[aa]) m f Z Z Z λae w a m f=>Bp (cs:=[sn]) zeroValue29 m f Z Z λaf w a m f=>Aa (Ah (Ae (Ac f Z λa f=>Aa (Bd hd λag ah hd=> ?_)))))
 refine AL (λa w=>∃ai:LL,ai=ag∧∃(aj:GH) (ak:Itm),GLe G aj∧Fr a 29 [(2,pb ae),(4,pb af)]∧Mem W aj w (ib ae 29 [aa]::ib af 29 [sn]::ak::H)∧Ow R1 35 aj ak aa ai) ?_ ?_
 ·refine Al (have m:=m.fr 1;AM (λal a w=>∃am:LL,∃an:Int,(am,an)=al∧∃(ao:GH) (ap:Itm),GLe G ao∧Fr a 29 [(1,v1),(2,pb ae),(4,pb af),(5,iv an)]∧Mem W ao w (ib ae 29 [aa]::ib af 29 [sn]::ap::H)∧Ow R1 35 ao ap aa am) ah ⟨_,_,Z,_,ab,gr,f.k Z,m,ad⟩ ?_)
  clear ah f m
  rintro al aq ar au a w ⟨am,an,rfl,ao,ap,av,f,m,aw⟩
  refine have h1:=rd1 av h1;Ah (Ae (Ab f Z λa f=>Ab f Z λa f=>AN underlying35 f Z Z h1 λa f=>Ai f Z Z AP λa f=>Aa ?_))
  rcases Ag ar with⟨ax,ar⟩|⟨ax,ar⟩
  ·refine Am f Z ax (An (Ah (Al (Ae (Ac f Z λa f=>Aa (Bd ar λay az ar=> ?_))))))
   refine AL (λa w=>∃aA:LL,aA=ay∧∃(aB:GH) (aC:Itm),GLe ao aB∧Fr a 29 [(1,v1),(2,pb ae),(4,pb af),(5,iv an)]∧Mem W aB w (ib ae 29 [aa]::ib af 29 [sn]::aC::H)∧Ow R1 35 aB aC aa aA) ?_ ?_
   ·refine Al (AM (λaD a w=>∃aE:LL,∃aF:Int,(aE,aF)=aD∧∃(aG:GH) (aH:Itm),GLe ao aG∧Fr a 29 [(1,v1),(2,pb ae),(4,pb af),(5,iv an),(6,iv aF)]∧Mem W aG w (ib ae 29 [aa]::ib af 29 [sn]::aH::H)∧Ow R1 35 aG aH aa aE) az ⟨_,_,Z,_,ap,gr,f.k Z,m,aw⟩ ?_)
    clear az f m
    rintro aD aI aJ aK a w ⟨aE,aF,rfl,aG,aH,aL,f,m,aM⟩
    refine have h1:=rd1 aL h1;Ah (Ae (Ab f Z λa f=>Ab f Z λa f=>Ai f Z Z AP λa f=>Aa ?_))
    rcases Ag aJ with⟨aN,aJ⟩|⟨aN,aJ⟩
    ·refine Am f Z aN (An (Ah (Al (Bg 9 AV (by kernel_rfl) m (Bc (i:=0) (ds:=[aa]) 9 0 Bh Z Z Z Z (by kernel_rfl) Z f Z Z Z λa f=>As 1 9 Z f Z λa f=>As 2 9 Z f Z λa f=>Bd aJ λaO aP aJ=>Bb 3 9 T35 h1 aP Z f Z Z λaQ aR a aS aT f=> ?_)))))
     subst aT
     refine Ba 4 9 Pl2 aS Z f Z λa f=>As 5 9 Z f Z λa f=>As 6 9 Z f Z λa f=>Bd aJ λaU aV aJ=>Bb 7 9 T35 h1 aV Z f Z Z λaW aX a aY aZ f=> ?_
     subst aZ
     refine Ba 8 9 Pl2 aY Z f Z λa f=>A4 λa0 w a1 m=>have aM:=od3 a1 aM;have m:=m.fr 2;Bd aJ λa2 a3 aJ=>A9 f Z call80 (Wk.j0 m aM a3) λa4 a5 a6 w a7 m a8 a f=> ?_
     obtain⟨a9,rfl,rfl,ba⟩:=a8
     refine Ax 1 0 (ds:=[aa]) m sizeOf29 f Z Z Z (Af (Ow.one1 0 m ba Z) AG) Z (lb Z) Z λw m=>Aa (Aj (Ab f Z λa f=>Ai f Z Z AB λa f=>Ac f Z λa f=>Aa (have m:=m.fr 2;have m:=m.fr 2;?_)))
     obtain rfl:=sj aJ
     exact⟨_,Z,_,_,Z,_,a9,(gt aL (gt a1 a7)),f.k Z,m,ba⟩
    ·refine Ak f Z aN (AE Z ?_)
     obtain rfl:=sj aJ
     obtain rfl:=aK _ rfl
     exact⟨_,Z,_,aH,aL,f.k Z,m,aM⟩
   ·rintro a w ⟨aA,rfl,aB,aC,bb,f,m,bc⟩
    refine Aj (Ab f Z λa f=>Ai f Z Z AB λa f=>Ac f Z λa f=>Aa ?_)
    obtain rfl:=sj ar
    exact⟨_,Z,_,_,Z,_,aC,(gt av bb),f.k Z,m,bc⟩
  ·refine Ak f Z ax (AE Z ?_)
   obtain rfl:=sj ar
   obtain rfl:=au _ rfl
   exact⟨_,Z,_,ap,av,f.k Z,m,aw⟩
 ·rintro a w ⟨ai,rfl,aj,ak,bd,f,m,be⟩
  refine Ae (Ay 0 0 (ds:=[aa]) m Bh f Z Z Z Z Z λa f=>Ax 1 0 (ds:=[aa]) m sizeOf29 f Z Z Z (Af (Ow.one1 2 m be Z) AG) Z (lb Z) Z λw m=>Aa (Ar (have bf:=Cs (P:=prog) 1 m Bh f (s:=4) rfl rfl rfl;have m:=m.fr 2;have m:=m.eraseAt 2;have m:=m.eraseAt 1;?_)))
  obtain rfl:=sj hd
  exact⟨[(.agg #[aa])],⟨bf,trivial⟩,f.d,_,[ak],bd,m,_,Z,Z,be⟩
theorem Wk.L0 {aa v1:Value}{ab:LL}{x1:LI}(m:Mem W G w (H))(ac:R2 G aa ab)(h1:R1 G v1 x1){y:(LL)}(hd:D.L0 ab x1=some y):
  Calls prog 82 #[(.agg #[aa]),v1] w (Res W G H (λG' Ho v=>∃r0:Value,∃i0:Itm,Ho=[i0]∧v=(.agg #[r0])∧Ow R1 35 G' i0 r0 y)):=by
 refine Au (args:=[(.agg #[aa]),v1]) (N:=35) [.cell 4 29] func82 Z Z (lb Z) Z λa f=> ?_
 unfold D.L0 at hd
 refine Ae (A3 (cs:=[aa]) m f Z Z Z λad w a m f=>Bp (cs:=[sn]) zeroValue29 m f Z Z λae w a m f=>AF (Ay 1 0 (ds:=[aa]) m Bh f Z Z Z Z Z λa f=>Bd hd λaf ag hd=>A9 f Z call121 (Wk.v1 m ac ag) λah ai aj w ak m al a f=> ?_))
 obtain⟨am,an,rfl,rfl,ao⟩:=al
 refine have ac:=rd2 ak ac;have h1:=rd1 ak h1;Bp (cs:=[sn]) zeroValue29 m f Z Z λap w a m f=>Ax 0 0 (ds:=[am]) m sizeOf29 f Z Z Z (Af (Ow.one1 1 m ao Z) AG) Z (lb Z) Z λw m=>AF (Ay 3 0 (ds:=[aa]) m Bh f Z Z Z Z Z λa f=>Bd hd λaq ar hd=>A2 f Z call83 (Wk.d m ac ar) λau w av m a f=>have h1:=rd1 av h1;have ao:=od3 av ao;Bd hd λaw ax hd=>Cy (R:=RB) m T118 Z (by decide) Z f Z Z Z ax λay az w a m aA f=>Ac f Z λa f=>Aa (Ah (Ae (Ac f Z λa f=>Aa (Bd hd λaB aC hd=> ?_)))))
 refine AL (λa w=>∃aD:LL,aD=aB∧∃(aE:GH) (aF:Itm),GLe au aE∧Fr a 35 [(4,pb ae),(5,pb ap)]∧Mem W aE w (ib ae 29 [sn]::ib ap 29 [am]::aF::H)∧Ow R1 35 aE aF am aD) ?_ ?_
 ·refine Al (have m:=m.fr 1;have m:=m.fr 3;have m:=m.eraseAt 4;AM (λaG a w=>∃aH:List Bool,∃aI:Int,∃aJ:LL,(aH,aI,aJ)=aG∧∃(aK:GH) (aL:Itm) (aM:Itm),GLe au aK∧Fr a 35 [(1,v1),(4,pb ae),(5,pb ap),(6,az),(7,iv aI)]∧Mem W aK w (ib ae 29 [sn]::ib ap 29 [am]::aL::aM::H)∧Ow RB 4 aK aL az aH∧Ow R1 35 aK aM am aJ) aC ⟨_,_,_,Z,_,ay,an,gr,f.k Z,m,aA,ao⟩ ?_)
  clear aC f m
  rintro aG aN aO aP a w ⟨aH,aI,aJ,rfl,aK,aL,aM,aQ,f,m,aR,aS⟩
  refine have h1:=rd1 aQ h1;Ah (Ae (Ab f Z λa f=>Ab f Z λa f=>AN underlying35 f Z Z h1 λa f=>Ai f Z Z AP λa f=>Aa ?_))
  rcases Ag aO with⟨aT,aO⟩|⟨aT,aO⟩
  ·refine Am f Z aT (An (Ah (Al (Ae (Ab f Z λa f=>Ab f Z λa f=>Ab f Z λa f=>Bd aO λaU aV aO=>AX T35 f Z Z Z h1 aV λaW aX a aY aZ f=> ?_)))))
   subst aZ
   refine Aw m Pl2 f Z Z aY λa f=>Bd aO λa2 a3 aO=>Bm 2 m aR Z T118 f Z Z Z a3 λa4 a a5 f=>Ci 2 m aR Z sizeOf4 f Z Z a5 a3 Z Z Z λa6 w m a7=>Aa (Bg 8 AV (by kernel_rfl) m (Bc (i:=0) (ds:=[am]) 8 1 Bh Z Z Z Z (by kernel_rfl) Z f Z Z Z λa f=>Bc (i:=1) (ds:=[am]) 8 1 Bh Z Z Z Z (by kernel_rfl) Z f Z Z Z λa f=>As 2 8 Z f Z λa f=>As 3 8 Z f Z λa f=>Bd aO λa8 a9 aO=>Bb 4 8 T35 h1 a9 Z f Z Z λba bb a bc bd f=> ?_))
   subst bd
   refine Ba 5 8 Pl2 bc Z f Z λa f=>As 6 8 Z f Z λa f=>Bw 7 Z λbe w bf m bg bg=>have a7:=Ow.mono RB.mono bf a7;have aS:=od3 bf aS;Bd aO λbh bi aO=>BK f Z call84 (Ow.lendCall (RSl.mono (RI.mono _)) 3 aS m Z (λbj bk m bl=>(Ow.lendCall RB.mono 2 (Ow.mono RB.mono bk a7) m Z (λbm bn m bo=>Wk.u0 m (rd2 bn bl) bo bi) (λ_ G' _ _ ⟨a0,a1,e1,e2,o0⟩=>⟨a0,a1,e1,e2,Ow.free (RI.free _) G' o0⟩))) (λ_ G' _ _ ⟨a0,a1,e1,e2,o0⟩=>⟨a0,a1,e1,e2,Ow.free (RI.free _) G' o0⟩)) λbp bq br w bs m bt a f=>have a7:=Ow.mono RB.mono bs a7;have aS:=od3 bs aS;Aa (bg br [bq] _ _ bs m (A4 λbu w bv m=>have bt:=od1 bv bt;have a7:=Ow.mono RB.mono bv a7;have aS:=od3 bv aS;?_))
   obtain⟨bw,bx,m,bz⟩:=Ow.stamp (RI.mono _) bt m
   refine have a7:=Ow.mono RB.mono bx a7;have aS:=od3 bx aS;have m:=m.fr 3;Bd aO λbA bB aO=>A9 f Z call122 (Wk.B0 m aS bz bB) λbC bD bE w bF m bG a f=> ?_
   obtain⟨bH,rfl,rfl,bI⟩:=bG
   refine have a7:=Ow.mono RB.mono bF a7;Ax 2 0 (ds:=[am]) m sizeOf29 f Z Z Z (Af (Ow.one1 0 m bI Z) AG) Z (lb Z) Z λw m=>Aa (Aj (Ab f Z λa f=>Ai f Z Z AB λa f=>Ac f Z λa f=>Aa (have m:=m.fr 3;have m:=m.fr 3;have m:=m.fr 3;?_)))
   obtain rfl:=sj aO
   exact⟨_,Z,_,_,_,Z,_,a6,bH,(gt aQ (gt bf (gt bs (gt bv (gt bx bF))))),f.k Z,m,a7,bI⟩
  ·refine Ak f Z aT (AE Z (have m:=m.fr 3;have m:=m.fr 2;have m:=m.fr 2;have m:=m.eraseAt 3;?_))
   obtain rfl:=sj aO
   obtain rfl:=aP _ rfl
   exact⟨_,Z,_,aM,aQ,f.k Z,m,aS⟩
 ·rintro a w ⟨aD,rfl,aE,aF,bJ,f,m,bK⟩
  refine Ae (Ay 1 0 (ds:=[am]) m Bh f Z Z Z Z Z λa f=>Ax 0 0 (ds:=[am]) m sizeOf29 f Z Z Z (Af (Ow.one1 2 m bK Z) AG) Z (lb Z) Z λw m=>Aa (Ar (have bL:=Cs (P:=prog) 0 m Bh f (s:=4) rfl rfl rfl;have m:=m.fr 2;have m:=m.eraseAt 2;have m:=m.eraseAt 1;?_)))
  obtain rfl:=sj hd
  exact⟨[(.agg #[am])],⟨bL,trivial⟩,f.d,_,[aF],(gt ak (gt av bJ)),m,_,_,Z,Z,bK⟩
end Go.Proofs.YtljcmdbpfeffcaaGreatDoor
