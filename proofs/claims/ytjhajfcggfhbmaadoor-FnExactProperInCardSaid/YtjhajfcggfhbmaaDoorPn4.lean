/- Parts. -/
import Derived.Test.YtjhajfcggfhbmaaDoorPn3
import Derived.Lib.TrailingZeros
import Derived.KernelRfl
set_option linter.unusedVariables false
set_option linter.unusedSimpArgs false
set_option linter.unusedSectionVars false
namespace Go.Sx
theorem Dh (n:Int):IntKind.u32.wrap n=n%4294967296:=by simp[IntKind.wrap,IntKind.signed,IntKind.bits]
def VS (s:Int):Prop:=0≤s∧s<4294967296
def has (s:Int)(v:Nat):Bool:=s.toNat.testBit v
theorem VS.nat {s:Int}(h:VS s):∃n:Nat,s=n∧n<4294967296:=⟨s.toNat,by have:=h.1;omega,by have:=h.1;have:=h.2;omega⟩
theorem VS.zero :VS 0:=⟨by omega,by omega⟩
theorem VS.wrap (n:Int):VS (IntKind.u32.wrap n):=by rw[Dh];exact⟨by omega,by omega⟩
theorem VS.ofNat {n:Nat}(h:n<4294967296):VS (n:Int):=⟨by omega,by omega⟩
theorem Bd (n v:Nat):has (n:Int) v=n.testBit v:=by simp[has]
theorem Ba (v:Nat):has 0 v=false:=by simp[has]
theorem CE (n:Nat)(h:n<4294967296):(BitVec.ofInt 32 (n:Int)).toNat=n:=by
 rw[BitVec.toNat_ofInt]
 omega
theorem ior_nat {a b:Nat}(ha:a<4294967296)(hb:b<4294967296):ior .u32 (a:Int) (b:Int)=((a|||b:Nat):Int):=by
 have hw:a|||b<4294967296:=Nat.or_lt_two_pow (n:=32) ha hb
 show IntKind.u32.wrap (((BitVec.ofInt 32 (a:Int)|||BitVec.ofInt 32 (b:Int)).toNat:Nat):Int)=_
 rw[BitVec.toNat_or,CE a ha,CE b hb,Dh];omega
theorem Da {a b:Nat}(ha:a<4294967296)(hb:b<4294967296):iand .u32 (a:Int) (b:Int)=((a&&&b:Nat):Int):=by
 have hw:a&&&b<4294967296:=Nat.and_lt_two_pow (n:=32) _ hb
 show IntKind.u32.wrap (((BitVec.ofInt 32 (a:Int)&&&BitVec.ofInt 32 (b:Int)).toNat:Nat):Int)=_
 rw[BitVec.toNat_and,CE a ha,CE b hb,Dh];omega
theorem VS.ior (a b:Int):VS (ior .u32 a b):=VS.wrap _
theorem VS.iand (a b:Int):VS (iand .u32 a b):=VS.wrap _
theorem VS.iandNot (a b:Int):VS (iandNot .u32 a b):=VS.wrap _
theorem VS.ishl (a b:Int):VS (ishl .u32 a b):=VS.wrap _
theorem Bu {a b:Int}(ha:VS a)(hb:VS b)(v:Nat):has (ior .u32 a b) v=(has a v||has b v):=by
 obtain⟨m,rfl,hm⟩:=ha.nat;obtain⟨n,rfl,hn⟩:=hb.nat
 rw[ior_nat hm hn];simp only[Bd,Nat.testBit_or]
theorem B6 {a b:Int}(ha:VS a)(hb:VS b)(v:Nat):has (iand .u32 a b) v=(has a v&&has b v):=by
 obtain⟨m,rfl,hm⟩:=ha.nat;obtain⟨n,rfl,hn⟩:=hb.nat
 rw[Da hm hn];simp only[Bd,Nat.testBit_and]
theorem A6 {a b:Int}(ha:VS a)(hb:VS b)(v:Nat):has (iandNot .u32 a b) v=(has a v&& !has b v):=by
 obtain⟨m,rfl,hm⟩:=ha.nat;obtain⟨n,rfl,hn⟩:=hb.nat
 have e:iandNot .u32 (m:Int) (n:Int)=(((BitVec.ofInt 32 (m:Int)&&& ~~~(BitVec.ofInt 32 (n:Int))).toNat:Nat):Int):=by
  have hw:=(BitVec.ofInt 32 (m:Int)&&& ~~~(BitVec.ofInt 32 (n:Int))).isLt
  show IntKind.u32.wrap (((BitVec.ofInt 32 (m:Int)&&& ~~~(BitVec.ofInt 32 (n:Int))).toNat:Nat):Int)=_
  rw[Dh];omega
 rw[e,Bd,Bd,Bd]
 have h1:∀i,(BitVec.ofInt 32 (m:Int)).getLsbD i=m.testBit i:=λi=>by rw[BitVec.getLsbD,CE m hm]
 have h2:∀i,(BitVec.ofInt 32 (n:Int)).getLsbD i=n.testBit i:=λi=>by rw[BitVec.getLsbD,CE n hn]
 rw[←BitVec.getLsbD,BitVec.getLsbD_and,BitVec.getLsbD_not,h1,h2]
 by_cases hv:v<32
 ·simp[hv]
 ·have:m.testBit v=false:=Nat.testBit_lt_two_pow (Nat.lt_of_lt_of_le hm (Nat.pow_le_pow_right (n:=2) (by omega) (show 32≤v by omega)))
  simp[this]
theorem CP {a:Int}(ha:VS a){v:Nat}(hv:32≤v):has a v=false:=by
 obtain⟨m,rfl,hm⟩:=ha.nat
 rw[Bd]
 exact Nat.testBit_lt_two_pow (Nat.lt_of_lt_of_le hm (Nat.pow_le_pow_right (n:=2) (by omega) hv))
theorem VS.ext {a b:Int}(ha:VS a)(hb:VS b)(h:∀v,v<32→has a v=has b v):a=b:=by
 have:∀v,has a v=has b v:=λv=>by
  by_cases hv:v<32
  ·exact h v hv
  ·rw[CP ha (by omega),CP hb (by omega)]
 obtain⟨m,rfl,hm⟩:=ha.nat;obtain⟨n,rfl,hn⟩:=hb.nat
 congr 1
 apply Nat.eq_of_testBit_eq
 intro v
 have:=this v
 rwa [Bd,Bd] at this
theorem VS.eq_zero {a:Int}(ha:VS a):a=0↔∀v,v<32→has a v=false:=
 ⟨λh v _=>by rw[h,Ba],λh=>ha.ext VS.zero (λv hv=>by rw[h v hv,Ba])⟩
theorem one_eq {v:Nat}(hv:v<32):ishl .u32 1 (v:Int)=((2^v:Nat):Int):=by
 have h:(2:Nat)^v<2^32:=Nat.pow_lt_pow_right (by omega) hv
 have h':(2:Nat)^32=4294967296:=by decide
 rw[h'] at h
 show IntKind.u32.wrap (1*2^(min ((v:Int)).toNat 32))=_
 rw[Dh,show min ((v:Int)).toNat 32=v by simp;omega,Int.one_mul]
 have e:((2^v:Nat):Int)=(2:Int)^v:=by simp
 rw[←e]
 generalize 2^v=p at h ⊢
 omega
theorem Bg {v:Nat}(hv:v<32)(u:Nat):has (ishl .u32 1 (v:Int)) u=decide (u=v):=by
 rw[one_eq hv,Bd,Nat.testBit_two_pow]
 simp[eq_comm]
theorem shr_eq (s:Int)(v:Nat)(h:VS s)(hv:v<32):BH .u32 s (v:Int)=((s.toNat>>>v:Nat):Int):=by
 obtain⟨m,rfl,hm⟩:=h.nat
 show Int.fdiv (m:Int) (2^(min ((v:Int)).toNat 32))=_
 rw[show min ((v:Int)).toNat 32=v by simp;omega]
 have e:((2^v:Nat):Int)=(2:Int)^v:=by simp
 rw[←e,Int.fdiv_eq_ediv_of_nonneg _ (Int.natCast_nonneg _),Nat.shiftRight_eq_div_pow]
 simp
def Am (s:Int):LI:=((List.range 32).filter (has s)).map Int.ofNat
theorem mem_elems {s:Int}{x:Int}:x∈Am s↔∃v:Nat,v<32∧has s v=true∧x=v:=by
 unfold Am
 rw[List.mem_map]
 constructor
 ·rintro⟨v,hv,rfl⟩
  rw[List.mem_filter,List.mem_range] at hv
  exact⟨v,hv.1,hv.2,rfl⟩
 ·rintro⟨v,h1,h2,rfl⟩
  exact⟨v,List.mem_filter.2 ⟨List.mem_range.2 h1,h2⟩,rfl⟩
theorem AY {s:Int}(h:VS s){v:Nat}:(v:Int)∈Am s↔has s v=true:=by
 rw[mem_elems]
 constructor
 ·rintro⟨u,_,h2,h3⟩;obtain rfl:v=u:=by omega
  exact h2
 ·intro h2
  refine⟨v,?_,h2,rfl⟩
  by_cases hv:v<32
  ·exact hv
  ·rw[CP h (by omega)] at h2;cases h2
theorem Bh (s:Int):(Am s).length≤32:=by
 unfold Am
 rw[List.length_map]
 exact Nat.le_trans (List.length_filter_le _ _) (by simp)
def Inc (l:LI):Prop:=l.Pairwise (·<·)
theorem Bf (s:Int):Inc (Am s):=by
 unfold Am Inc
 rw[List.pairwise_map]
 refine List.Pairwise.filter _ ?_
 refine List.Pairwise.imp ?_ (List.pairwise_lt_range (n:=32))
 intro a b h
 show (a:Int)<(b:Int)
 omega
theorem Inc.ext :∀{l l':LI},Inc l→Inc l'→(∀x,x∈l↔x∈l')→l=l'
 |[],[],_,_,_=>rfl
 |[],y::l',_,_,h=>by have:=(h y).2 (by simp);simp at this
 |x::l,[],_,_,h=>by have:=(h x).1 (by simp);simp at this
 |x::l,y::l',h1,h2,h=>by
  have h1':=List.pairwise_cons.1 h1;have h2':=List.pairwise_cons.1 h2
  have e:x=y:=by
   rcases List.mem_cons.1 ((h x).1 (by simp)) with e|e
   ·exact e
   ·rcases List.mem_cons.1 ((h y).2 (by simp)) with e'|e'
    ·exact e'.symm
    ·have:=h2'.1 x e;have:=h1'.1 y e';omega
  subst e
  have:l=l':=by
   refine Inc.ext h1'.2 h2'.2 (λz=> ?_)
   constructor
   ·intro hz
    rcases List.mem_cons.1 ((h z).1 (List.mem_cons_of_mem _ hz)) with e|e
    ·have:=h1'.1 z hz;omega
    ·exact e
   ·intro hz
    rcases List.mem_cons.1 ((h z).2 (List.mem_cons_of_mem _ hz)) with e|e
    ·have:=h2'.1 z hz;omega
    ·exact e
  rw[this]
theorem least_spec {s:Int}(h:VS s)(h0:s≠0):∃k:Nat,k<32∧has s k=true∧(∀v,v<k→has s v=false)∧
  iand .u32 s (IntKind.u32.wrap (0-s))=((2^k:Nat):Int)∧(∀v,has (iand .u32 s (IntKind.u32.wrap (s-1))) v=(has s v&& !decide (v=k))):=by
 obtain⟨m,rfl,hm⟩:=h.nat
 have hm0:m≠0:=by omega
 obtain⟨q,hq,hk⟩:=Lib.ctzFrom_spec 32 m (by omega) hm
 have hc:Lib.ctz 32 m=Lib.ctzFrom 32 m:=by unfold Lib.ctz;rw[if_neg hm0]
 obtain⟨hl,_⟩:=Lib.lowest_bit 32 m hm0 hm
 rw[hc] at hl
 generalize Lib.ctzFrom 32 m=k at*
 have hpos:0<2^k:=Nat.pow_pos (by omega)
 have hb:∀v,m.testBit v=(decide (v≥k)&&(2*q+1).testBit (v-k)):=λv=>by rw[hq,Nat.mul_comm,Nat.testBit_mul_two_pow,Bool.and_comm]
 refine⟨k,hk,?_,λv hv=> ?_,?_,λv=> ?_⟩
 ·rw[Bd,hb];simp
 ·rw[Bd,hb];simp;intro hc;omega
 ·have e:IntKind.u32.wrap (0-(m:Int))=((4294967296-m:Nat):Int):=by rw[Dh];omega
  rw[e,Da hm (by omega)]
  rw[←hl]
 ·have e:IntKind.u32.wrap ((m:Int)-1)=((m-1:Nat):Int):=by rw[Dh];omega
  rw[e,Da hm (by omega),Bd,Bd,Nat.testBit_and]
  have hm1:m-1=2^k*(2*q)+(2^k-1):=by rw[hq,Nat.mul_add];omega
  have hb1:(m-1).testBit v=if v<k then true else(2*q).testBit (v-k):=by
   rw[hm1,Nat.testBit_two_pow_mul_add _ (by omega)]
   split
   ·rename_i hv;rw[Nat.testBit_two_pow_sub_one];simp[hv]
   ·rfl
  rw[hb1,hb]
  by_cases hv:v<k
  ·simp[hv];intro hc;omega
  ·rw[if_neg hv]
   by_cases hvk:v=k
   ·subst hvk;simp
   ·obtain⟨t,ht⟩:∃t,v-k=t+1:=⟨v-k-1,by omega⟩
    rw[ht,Nat.testBit_succ,Nat.testBit_succ]
    have e1:(2*q+1)/2=q:=by omega
    have e2:2*q/2=q:=by omega
    rw[e1,e2]
    simp[hvk]
theorem elems_least {s t:Int}{k:Nat}(hk:k<32)(h1:has s k=true)(h2:∀v,v<k→has s v=false)(h3:∀v,has t v=(has s v&& !decide (v=k))):
  Am s=(k:Int)::Am t:=by
 refine Inc.ext (Bf s) ?_ (λx=> ?_)
 ·refine List.pairwise_cons.2 ⟨λx hx=> ?_,Bf t⟩
  obtain⟨v,hv,h4,rfl⟩:=mem_elems.1 hx
  rw[h3] at h4
  simp at h4
  by_cases hc:v<k
  ·rw[h2 v hc] at h4;simp at h4
  ·omega
 ·rw[List.mem_cons,mem_elems,mem_elems]
  constructor
  ·rintro⟨v,hv,h4,rfl⟩
   by_cases e:v=k
   ·left;omega
   ·right;exact⟨v,hv,by rw[h3,h4];simp[e],rfl⟩
  ·rintro(rfl|⟨v,hv,h4,rfl⟩)
   ·exact⟨k,hk,h1,rfl⟩
   ·rw[h3] at h4;simp at h4
    exact⟨v,hv,h4.1,rfl⟩
theorem C4 :Am 0=[]:=by
 unfold Am
 rw[List.filter_eq_nil_iff.2 (λv _=>by simp[Ba])];rfl
theorem tz_table :∀k:Nat,k<32→idx tab32 (BH .u32 (IntKind.u32.wrap (((2^k:Nat):Int)*125613361)) 27)=some (k:Int):=by decide+kernel
def Out (l:LI)(a0 b0 a b:Int):Prop:=∀i j,a0≤i→i<j→j<b0→¬(a≤i∧j<b)→at' l i≤at' l j
theorem Out.keep {a0 a b b0:Int}{l l':LI}(h:Rg a b l l')(h0:0≤a0)(ha:a0≤a)(hb:b≤b0)(c:Out l a0 b0 a b):Out l' a0 b0 a b:=by
 intro i j h1 h2 h3 h4
 by_cases hi:a≤i∧i<b
 ·rw[h.out j (by omega) (by omega)]
  exact h.all (λx=>x≤at' l j) (λk k1 k2=>c k j (by omega) (by omega) h3 (by omega)) i hi.1 hi.2
 ·rw[h.out i (by omega) (by omega)]
  by_cases hj:a≤j∧j<b
  ·exact h.all (λx=>at' l i≤x) (λk k1 k2=>c i k (by omega) (by omega) (by omega) (by omega)) j hj.1 hj.2
  ·rw[h.out j (by omega) (by omega)];exact c i j h1 h2 h3 h4
end Go.Sx



namespace Go.Sx
def Sh {α:Type}(xs:List α):Prop:=xs.length≤4294967296
theorem l1In_eq (a b c:Int):D.a0 a b c=some (decide (b≤a)&&decide (a≤c)):=rfl
theorem inRange_eq (a b c:Int):D.O0 a b c=some (decide (b≤a)&&decide (a≤c)):=rfl
theorem any_beq (xs:LI)(n:Int):xs.any (λx=>x==n)=decide (n∈xs):=by
 rw[Bool.eq_iff_iff,List.any_eq_true];simp
theorem CS (xs:LI)(n:Int)(h:Sh xs):D.b xs n=some (decide (n∈xs)):=by
 unfold Sh at h
 unfold D.b
 refine(loop_anyb xs.length (λi=>xs.getD i 0==n) true (λi hi=> ?_) ?_ rfl rfl).trans ?_
 ·simp only[dlt hi,cond_true,Aw hi,bs,wi' hi (by omega),As hi]
  cases xs[i]==n<;>rfl
 ·simp only[Bm,cond_false]
 ·rw[range_any_list xs (λx=>x==n) _ (λi hi=>by rw[As hi]),any_beq]
theorem Ed (xs:LI)(n:Int)(h:Sh xs):D.R xs n=some (decide (n∈xs)):=by
 unfold Sh at h
 unfold D.R D.V0
 have e:Ao (σ:=Int) (ρ:=(Unit) ⊕ (Int)) (fun(x_26:Int)=>cond (decide (x_26<(xs.length:Int))) ((idx xs x_26).bind λe_39=>cond (n==e_39) (some (.inr (.inr x_26))) (some (.inl (IntKind.i64.wrap (x_26+1))))) (some (.inr (.inl ())))) 0=
   some (((List.range xs.length).findSome? (λi=>if xs.getD i 0==n then some (Sum.inr (i:Int)) else none)).getD (.inl ())):=by
  refine C1 xs.length _ _ (λi hi=> ?_) ?_
  ·simp only[dlt hi,cond_true,Aw hi,bs,wi' hi (by omega),As hi]
   rw[show (n==xs[i])=(xs[i]==n) from Bool.beq_comm ..]
   cases xs[i]==n<;>rfl
  ·simp only[Bm,cond_false]
 rw[e,bs]
 cases hf:(List.range xs.length).findSome? (λi=>if xs.getD i 0==n then some (Sum.inr (i:Int):Unit ⊕ Int) else none) with
 |none=>
  have:n∉xs:=λhm=>by
   obtain⟨i,hi,e⟩:=List.getElem_of_mem hm
   have:=(List.findSome?_eq_none_iff.1 hf) i (List.mem_range.2 hi)
   rw[As hi,e] at this
   simp at this
  simp[this]
 |some r=>
  obtain⟨i,hi,hr⟩:=List.exists_of_findSome?_eq_some hf
  have hi':=List.mem_range.1 hi
  rw[As hi'] at hr
  split at hr
  ·rename_i hc
   cases hr
   have:n∈xs:=by rw[←(beq_iff_eq.1 hc)];exact List.getElem_mem _
   simp[this]
  ·cases hr
def SetOf (xs:LI)(n:Int):Prop:=Inc xs∧∀x∈xs,0≤x∧x<n
theorem SetOf.len :∀{xs:LI} {n a:Int},Inc xs→(∀x∈xs,a≤x∧x<n)→xs=[]∨(xs.length:Int)≤n-a
 |[],_,_,_,_=> .inl rfl
 |x::xs,n,a,h,hr=>by
  right
  have h':=List.pairwise_cons.1 h
  have hx:=hr x (by simp)
  rcases SetOf.len (a:=x+1) (n:=n) h'.2 (λy hy=>⟨by have:=h'.1 y hy;omega,(hr y (by simp[hy])).2⟩) with e|e
  ·subst e;simp;omega
  ·simp;omega
theorem SetOf.length_le {xs:LI}{n:Int}(h:SetOf xs n)(hn:0≤n):(xs.length:Int)≤n:=by
 rcases SetOf.len h.1 h.2 with e|e
 ·subst e;simpa using hn
 ·omega
theorem inc_iff (xs:LI):Inc xs↔∀i (hi:i+1<xs.length),xs[i]<xs[i+1]:=by
 unfold Inc
 constructor
 ·intro h i hi
  exact List.pairwise_iff_getElem.1 h i (i+1) (by omega) hi (by omega)
 ·intro h
  rw[List.pairwise_iff_getElem]
  intro i j hi hj hij
  have key:∀k,∀hk:i+k+1<xs.length,xs[i]<xs[i+k+1]:=by
   intro k
   induction k with
   |zero=>intro hk;exact h i hk
   |succ k ih=>intro hk;have:=ih (by omega);have:=h (i+k+1) hk;exact Int.lt_trans (ih (by omega)) this
  obtain⟨k,rfl⟩:∃k,j=i+k+1:=⟨j-i-1,by omega⟩
  exact key k hj
def setB (xs:LI)(n:Int):Bool:=(List.range xs.length).all λi=>(decide (0≤xs.getD i 0)&&decide (xs.getD i 0≤n-1))&& !(decide (0<i)&&decide (xs.getD i 0≤xs.getD (i-1) 0))
theorem DP (xs:LI)(n:Int):setB xs n=true↔SetOf xs n:=by
 unfold setB SetOf
 rw[C8,inc_iff]
 constructor
 ·intro h
  refine⟨λi hi=> ?_,λx hx=> ?_⟩
  ·have:=h (i+1) hi
   simp[hi,show i<xs.length by omega] at this
   omega
  ·obtain⟨i,hi,rfl⟩:=List.getElem_of_mem hx
   have:=h i hi
   simp[hi] at this
   omega
 ·rintro⟨h1,h2⟩ i hi
  have h3:=h2 _ (List.getElem_mem hi)
  simp[hi]
  refine⟨by omega,?_⟩
  rcases Nat.eq_zero_or_pos i with h0|h0
  ·exact .inl h0
  ·right
   have:=h1 (i-1) (by omega)
   have e:i-1+1=i:=by omega
   simp only[e] at this
   have e2:xs[i-1]?.getD 0=xs[i-1]:=by rw[List.getElem?_eq_getElem (by omega)];rfl
   rw[e2];exact this
theorem increasing_eq (xs:LI)(n:Int)(h:Sh xs)(h0:0≤n)(hn:n≤4294967296):D.B0 xs n=some (setB xs n):=by
 unfold Sh at h
 unfold D.B0
 refine CF xs.length _ false (λi hi=> ?_) ?_ rfl rfl
 ·simp only[dlt hi,cond_true,Aw hi,bs,wi' hi (by omega),As hi,inRange_eq]
  rw[w64 (x:=n-1) (by omega) (by omega)]
  cases (decide (0≤xs[i])&&decide (xs[i]≤n-1))
  ·simp
  ·by_cases h0:0<i
   ·have e1:IntKind.i64.wrap ((i:Int)-1)=((i-1:Nat):Int):=by rw[w64 (by omega) (by omega)];omega
    have hd:decide ((0:Int)<(i:Int))=true:=by simp;omega
    simp only[Bool.not_true,cond_false,hd,cond_true,e1,Aw (show i-1<xs.length by omega),bs,As (show i-1<xs.length by omega),h0,decide_true,Bool.true_and]
    cases decide (xs[i]≤xs[i-1])<;>rfl
   ·have hd:decide ((0:Int)<(i:Int))=false:=by simp;omega
    simp only[Bool.not_true,cond_false,hd,bs,h0,decide_false,Bool.false_and,Bool.not_false,Bool.and_true,if_true]
 ·simp only[Bm,cond_false]
theorem l1Set_eq (xs:LI)(n:Int)(h:Sh xs)(h0:0≤n)(hn:n≤4294967296):D.s0 xs n=some (setB xs n):=by
 have hh:=h
 unfold Sh at h
 unfold D.s0
 by_cases hl:n<xs.length
 ·have:setB xs n=false:=by
   cases hb:setB xs n
   ·rfl
   ·have:=((DP xs n).1 hb).length_le h0;omega
  simp[hl,this]
 ·simp only[hl,decide_false,cond_false]
  refine CF xs.length _ false (λi hi=> ?_) ?_ rfl rfl
  ·simp only[dlt hi,cond_true,Aw hi,bs,wi' hi (by omega),As hi,l1In_eq]
   rw[w64 (x:=n-1) (by omega) (by omega)]
   cases (decide (0≤xs[i])&&decide (xs[i]≤n-1))
   ·simp
   ·by_cases h0:0<i
    ·have e1:IntKind.i64.wrap ((i:Int)-1)=((i-1:Nat):Int):=by rw[w64 (by omega) (by omega)];omega
     have hd:decide ((0:Int)<(i:Int))=true:=by simp;omega
     simp only[Bool.not_true,cond_false,hd,cond_true,e1,Aw (show i-1<xs.length by omega),bs,As (show i-1<xs.length by omega),h0,decide_true,Bool.true_and]
     cases decide (xs[i]≤xs[i-1])<;>rfl
    ·have hd:decide ((0:Int)<(i:Int))=false:=by simp;omega
     simp only[Bool.not_true,cond_false,hd,bs,h0,decide_false,Bool.false_and,Bool.not_false,Bool.and_true,if_true]
  ·simp only[Bm,cond_false]
def row (g:LL)(v:Nat):LI:=g.getD v []
theorem row_eq {g:LL}{v:Nat}(h:v<g.length):row g v=g[v]:=As h _
def adj (g:LL)(u v:Nat):Prop:=(v:Int)∈row g u
structure GOk (g:LL):Prop where
 n1:1≤g.length
 n16:g.length≤16
 rows:∀v,v<g.length→SetOf (row g v) g.length
 irr:∀v,v<g.length→¬adj g v v
 sym:∀u v,u<g.length→adj g u v→adj g v u
theorem GOk.mem {g:LL}(h:GOk g){u:Nat}(hu:u<g.length){x:Int}(hx:x∈row g u):∃v:Nat,x=v∧v<g.length∧adj g u v:=by
 have:=(h.rows u hu).2 x hx
 refine⟨x.toNat,by omega,by omega,?_⟩
 unfold adj
 rw[show ((x.toNat:Nat):Int)=x by omega];exact hx
theorem GOk.row_len {g:LL}(h:GOk g){u:Nat}(hu:u<g.length):(row g u).length≤16:=by
 have:=(h.rows u hu).length_le (by omega)
 have:=h.n16
 omega
theorem GOk.lt {g:LL}(h:GOk g){u v:Nat}(hu:u<g.length)(ha:adj g u v):v<g.length:=by
 obtain⟨w,h1,h2,_⟩:=h.mem hu ha
 omega
def Sh2 (g:LL):Prop:=Sh g∧∀r∈g,Sh r
theorem Sh2.row {g:LL}(h:Sh2 g){v:Nat}(hv:v<g.length):Sh (row g v):=by
 rw[row_eq hv];exact h.2 _ (List.getElem_mem hv)
theorem BR {g:LL}{v:Nat}(h:v<g.length):idx g (v:Int)=some (row g v):=by rw[row_eq h,Aw h]
def gB1 (g:LL):Bool:=(List.range g.length).all λv=>setB (row g v) g.length&& !decide ((v:Int)∈row g v)
def gB2 (g:LL):Bool:=(List.range g.length).all λv=>(row g v).all λx=>decide ((v:Int)∈row g x.toNat)
def gB (g:LL):Bool:=decide (1≤g.length)&&decide (g.length≤16)&&gB1 g&&gB2 g
theorem gB_iff (g:LL):gB g=true↔GOk g:=by
 unfold gB gB1 gB2
 simp only[Bool.and_eq_true,decide_eq_true_eq,DP,Bool.not_eq_true',decide_eq_false_iff_not,List.all_eq_true,List.mem_range]
 constructor
 ·rintro⟨⟨⟨h1,h2⟩,h3⟩,h4⟩
  refine⟨h1,h2,λv hv=>(h3 v hv).1,λv hv=>(h3 v hv).2,λu v hu ha=> ?_⟩
  have:=h4 u hu v ha
  unfold adj
  simpa using this
 ·intro h
  refine⟨⟨⟨h.n1,h.n16⟩,λv hv=>⟨h.rows v hv,h.irr v hv⟩⟩,λv hv x hx=> ?_⟩
  obtain⟨u,rfl,hu,ha⟩:=h.mem hv hx
  have:=h.sym v u hv ha
  simpa [adj] using this
theorem BS (g:LL)(h:Sh2 g):D.o g=some (gB g):=by
 have hl:g.length≤4294967296:=h.1
 unfold D.o D.d
 simp only[bs,l1In_eq]
 by_cases hn:1≤g.length∧g.length≤16
 ·have e:(decide ((1:Int)≤(g.length:Int))&&decide ((g.length:Int)≤16))=true:=by simp;omega
  simp only[e,Bool.not_true,cond_false]
  refine(D7 g.length (λv=>setB (row g v) g.length&& !decide ((v:Int)∈row g v)) (.inl ()) (.inr false) (λv hv=> ?_) ?_).trans ?_
  rotate_left
  ·simp only[Bm,cond_false]
  ·show cond (gB1 g) _ _=_
   have e4:gB g=(gB1 g&&gB2 g):=by unfold gB;simp[hn.1,hn.2]
   rw[e4]
   cases hc:gB1 g with
   |false=>rfl
   |true=>
    rw[cond_true,Bool.true_and]
    refine CF g.length _ false (λv hv=> ?_) ?_ rfl rfl
    ·have hset:SetOf (row g v) g.length:=by
      have:=(C8 _ _).1 hc v hv
      simp only[Bool.and_eq_true] at this
      exact(DP _ _).1 this.1
     simp only[dlt hv,cond_true]
     refine(D7 (row g v).length (λi=>decide ((v:Int)∈row g ((row g v).getD i 0).toNat)) (.inl ()) (.inr false) (λi hi=> ?_) ?_).trans ?_
     ·have hx:=hset.2 _ (List.getElem_mem hi)
      have e5:idx g (row g v)[i]=some (row g ((row g v)[i]).toNat):=by
       have:=BR (g:=g) (v:=((row g v)[i]).toNat) (by omega)
       rwa [show ((((row g v)[i]).toNat:Nat):Int)=(row g v)[i] by omega] at this
      have hs:=h.row (v:=((row g v)[i]).toNat) (by omega)
      simp only[BR hv,bs,dlt hi,cond_true,Aw hi,e5,CS _ _ hs,wi (show i<4611686018427387904 by have:=h.row hv;unfold Sh at this;omega),As hi]
      cases decide ((v:Int)∈row g ((row g v)[i]).toNat)<;>rfl
     ·simp only[BR hv,bs,Bm,cond_false]
     ·rw[DE (row g v) (λx=>decide ((v:Int)∈row g x.toNat)) _ (λi hi=>by rw[As hi]),wi' hv (by omega)]
      cases (row g v).all λx=>decide ((v:Int)∈row g x.toNat)<;>rfl
    ·simp only[Bm,cond_false]
  ·simp only[dlt hv,cond_true,BR hv,bs,l1Set_eq _ _ (h.row hv) (show (0:Int)≤(g.length:Int) by omega) (by omega),CS _ _ (h.row hv),wi' hv (by omega)]
   cases setB (row g v) g.length
   ·rfl
   ·cases decide ((v:Int)∈row g v)<;>rfl
 ·have e:(decide ((1:Int)≤(g.length:Int))&&decide ((g.length:Int)≤16))=false:=by
   rw[Bool.eq_false_iff];simp;omega
  simp only[e,Bool.not_false,cond_true]
  unfold gB
  congr 1
  symm
  rw[Bool.eq_false_iff]
  simp
  omega
theorem BT (g:LL)(h:Sh2 g):D.z g=some (gB g):=by
 have hl:g.length≤4294967296:=h.1
 unfold D.z
 by_cases hn:1≤g.length∧g.length≤16
 ·have e:(decide ((g.length:Int)<(1:Int))||decide ((16:Int)<(g.length:Int)))=false:=by simp;omega
  simp only[e,cond_false]
  refine(D7 g.length (λv=>setB (row g v) g.length&& !decide ((v:Int)∈row g v)) (.inl ()) (.inr false) (λv hv=> ?_) ?_).trans ?_
  rotate_left
  ·simp only[Bm,cond_false]
  ·show cond (gB1 g) _ _=_
   have e4:gB g=(gB1 g&&gB2 g):=by unfold gB;simp[hn.1,hn.2]
   rw[e4]
   cases hc:gB1 g with
   |false=>rfl
   |true=>
    rw[cond_true,Bool.true_and]
    refine CF g.length _ false (λv hv=> ?_) ?_ rfl rfl
    ·have hset:SetOf (row g v) g.length:=by
      have:=(C8 _ _).1 hc v hv
      simp only[Bool.and_eq_true] at this
      exact(DP _ _).1 this.1
     simp only[dlt hv,cond_true,BR hv,bs]
     refine(D7 (row g v).length (λi=>decide ((v:Int)∈row g ((row g v).getD i 0).toNat)) (.inl ()) (.inr false) (λi hi=> ?_) ?_).trans ?_
     ·have hx:=hset.2 _ (List.getElem_mem hi)
      have e5:idx g (row g v)[i]=some (row g ((row g v)[i]).toNat):=by
       have:=BR (g:=g) (v:=((row g v)[i]).toNat) (by omega)
       rwa [show ((((row g v)[i]).toNat:Nat):Int)=(row g v)[i] by omega] at this
      have hs:=h.row (v:=((row g v)[i]).toNat) (by omega)
      simp only[bs,dlt hi,cond_true,Aw hi,e5,Ed _ _ hs,wi (show i<4611686018427387904 by have:=h.row hv;unfold Sh at this;omega),As hi]
      cases decide ((v:Int)∈row g ((row g v)[i]).toNat)<;>rfl
     ·simp only[Bm,cond_false]
     ·rw[DE (row g v) (λx=>decide ((v:Int)∈row g x.toNat)) _ (λi hi=>by rw[As hi]),wi' hv (by omega)]
      cases (row g v).all λx=>decide ((v:Int)∈row g x.toNat)<;>rfl
    ·simp only[Bm,cond_false]
  ·simp only[dlt hv,cond_true,BR hv,bs,increasing_eq _ _ (h.row hv) (show (0:Int)≤(g.length:Int) by omega) (by omega),Ed _ _ (h.row hv),wi' hv (by omega)]
   cases setB (row g v) g.length
   ·rfl
   ·cases decide ((v:Int)∈row g v)<;>rfl
 ·have e:(decide ((g.length:Int)<(1:Int))||decide ((16:Int)<(g.length:Int)))=true:=by
   simp;omega
  simp only[e,cond_true]
  unfold gB
  congr 1
  symm
  rw[Bool.eq_false_iff]
  simp
  omega
structure OOk (g:LL)(o:LI):Prop where
 len:o.length=g.length
 rng:∀x∈o,0≤x∧x<g.length
 nd:o.Nodup
theorem mem_take_iff {α:Type}{l:List α}{i:Nat}{x:α}:x∈l.take i↔∃j,∃h:j<l.length,j<i∧l[j]=x:=by
 rw[List.mem_take_iff_getElem]
 constructor
 ·rintro⟨j,h,e⟩;exact⟨j,by omega,by omega,e⟩
 ·rintro⟨j,h,h2,e⟩;exact⟨j,by omega,e⟩
theorem nodup_iff {l:LI}:l.Nodup↔∀i (hi:i<l.length),l[i]∉l.take i:=by
 constructor
 ·intro h i hi hm
  obtain⟨j,hj,hji,e⟩:=mem_take_iff.1 hm
  have:=(List.pairwise_iff_getElem.1 h) j i hj hi hji
  exact this e
 ·intro h
  refine List.pairwise_iff_getElem.2 (λi j hi hj hij e=>h j hj (mem_take_iff.2 ⟨i,hi,hij,e⟩))
theorem Cn (v:Nat):D.e (v:Int)=some (ishl .u32 1 (v:Int)):=by
 unfold D.e
 have:decide ((v:Int)<0)=false:=by simp
 rw[this];rfl
theorem impl_one_eq' {x:Int}(h:0≤x):D.e x=some (ishl .u32 1 x):=by
 have:=Cn x.toNat
 rwa [show ((x.toNat:Nat):Int)=x by omega] at this
def mk (xs:LI):Int:=xs.foldl (λs v=>ior .u32 s (ishl .u32 1 v)) 0
theorem maskOf_eq (xs:LI)(h:Sh xs)(h0:∀x∈xs,0≤x):D.z0 xs=some (mk xs):=by
 unfold Sh at h
 unfold D.z0
 refine(loop_listb xs (λs i=>(s,i)) (λs v=>ior .u32 s (ishl .u32 1 v)) (λs=>s) (λ_=>True) 0 trivial (λs i hi _=>⟨?_,trivial⟩) (λs _=> ?_)).trans rfl
 ·simp only[dlt hi,cond_true,Aw hi,bs,wi' hi (by omega),impl_one_eq' (h0 _ (List.getElem_mem hi))]
 ·simp only[Bm,cond_false]
theorem DV :∀(xs:LI) (s:Int),VS s→VS (xs.foldl (λs v=>ior .u32 s (ishl .u32 1 v)) s)
 |[],s,h=>h
 |x::xs,s,_=>DV xs _ (VS.ior _ _)
theorem VS.mk (xs:LI):VS (mk xs):=DV xs 0 VS.zero
theorem DS (u:Nat):∀(xs:LI) (s:Int),VS s→(∀x∈xs,0≤x∧x<32)→has (xs.foldl (λs v=>ior .u32 s (ishl .u32 1 v)) s) u=(has s u||decide ((u:Int)∈xs))
 |[],s,_,_=>by simp
 |x::xs,s,hs,h=>by
  have hx:=h x (by simp)
  rw[List.foldl_cons,DS u xs _ (VS.ior _ _) (λy hy=>h y (by simp[hy])),Bu hs (VS.ishl _ _)]
  obtain⟨k,rfl⟩:∃k:Nat,x=k:=⟨x.toNat,by omega⟩
  rw[Bg (by omega)]
  by_cases hu:u=k
  ·subst hu;simp
  ·have:¬(u:Int)=(k:Int):=by omega
   simp[hu,this]
theorem CK {xs:LI}(h:∀x∈xs,0≤x∧x<32)(u:Nat):has (mk xs) u=decide ((u:Int)∈xs):=by
 unfold mk;rw[DS u xs 0 VS.zero h,Ba,Bool.false_or]
theorem GOk.mem0 {g:LL}(hg:GOk g){r:LI}(hr:r∈g):r.length≤16∧∀x∈r,0≤x∧x<g.length:=by
 obtain⟨v,hv,rfl⟩:=List.getElem_of_mem hr
 rw[←row_eq hv]
 exact⟨hg.row_len hv,(hg.rows v hv).2⟩
theorem CZ (g:LL)(hg:GOk g):D.C g=some (g.map mk):=by
 have h16:=hg.n16
 unfold D.C
 refine(DO g (λs i=>(s,i)) mk (by omega) (λs i hi _=> ?_) (λs=> ?_)).trans rfl
 ·obtain⟨h1,h2⟩:=hg.mem0 (List.getElem_mem hi)
  simp only[dlt hi,cond_true,Aw hi,bs,wi' hi (by omega),maskOf_eq g[i] (by unfold Sh;omega) (λx hx=>(h2 x hx).1)]
 ·simp only[Bm,cond_false]
theorem wide_eq (xs:LI)(h:Sh xs):D.V xs=some xs:=by
 unfold Sh at h
 unfold D.V
 rw[makeD_zero (by omega) (by omega),bs]
 refine(DO xs (λs i=>(s,i)) (λx=>x) h (λs i hi _=> ?_) (λs=> ?_)).trans (by simp)
 ·simp only[dlt hi,cond_true,Aw hi,bs,wi' hi (by omega)]
 ·simp only[Bm,cond_false]
theorem least_eq {s:Int}(h:VS s)(h0:s≠0):∃k:Nat,k<32∧D.c0 s=some (k:Int)∧has s k=true∧(∀v,v<k→has s v=false)∧
  (∀v,has (iand .u32 s (IntKind.u32.wrap (s-1))) v=(has s v&& !decide (v=k))):=by
 obtain⟨k,h1,h2,h3,h4,h5⟩:=least_spec h h0
 refine⟨k,h1,?_,h2,h3,h5⟩
 unfold D.c0 D.N0
 have e:(s==0)=false:=by simpa using h0
 simp only[e,cond_false,h4,tz_table k h1,bs]
 rw[w64 (by omega) (by omega)]
theorem Cy (s:Int)(h:VS s):D.f s=some (Am s):=by
 unfold D.f
 have key:∀(n:Nat) (x:Int) (l:LI),VS x→(Am x).length=n→l.length+n≤32→
   Ao (σ:=Int×LI) (ρ:=(LI)) (fun(s_52:Int×LI)=>match s_52 with|(x_55,l_56)=>cond (x_55 !=0) ((D.c0 x_55).bind λy_88=>(AM l_56 ([y_88]:LI)).bind λl_99=>some (.inl ((iand .u32 x_55 (IntKind.u32.wrap (x_55-1))),l_99))) (some (.inr l_56))) (x,l)=some (l++Am x):=by
  intro n
  induction n with
  |zero=>
   intro x l hx hn _
   have e:Am x=[]:=List.eq_nil_of_length_eq_zero hn
   have e0:x=0:=hx.eq_zero.2 λv hv=>by
    cases hc:has x v
    ·rfl
    ·have:=mem_elems.2 ⟨v,hv,hc,rfl⟩;rw[e] at this;simp at this
   rw[e]
   refine AH ?_
   have:(x !=0)=false:=by simp[e0]
   simp only[this,cond_false,List.append_nil]
  |succ n ih=>
   intro x l hx hn hl
   have h0:x≠0:=by rintro rfl;rw[C4] at hn;simp at hn
   obtain⟨k,h1,h2,h3,h4,h5⟩:=least_eq hx h0
   have e:=elems_least h1 h3 h4 h5
   have en:(Am (iand .u32 x (IntKind.u32.wrap (x-1)))).length=n:=by rw[e] at hn;simpa using hn
   have hstep:=ih (iand .u32 x (IntKind.u32.wrap (x-1))) (l++[(k:Int)]) (VS.iand _ _) en (by simp;omega)
   have e1:(x !=0)=true:=by simpa using h0
   rw[A9 (s':=(iand .u32 x (IntKind.u32.wrap (x-1)),l++[(k:Int)]))]
   ·rw[hstep,e];simp
   ·simp only[e1,cond_true,h2,bs,Bi (xs:=l) (ys:=[(k:Int)]) (by simp;omega)]
 have:=key (Am s).length s [] h rfl (by simpa using Bh s)
 rw[this];simp
theorem elems_sh (s:Int):Sh (Am s):=by have:=Bh s;unfold Sh;omega
theorem numbers_eq (s:Int)(h:VS s):D.T s=some (Am s):=by
 unfold D.T
 rw[Cy s h,bs,wide_eq _ (elems_sh s)];rfl
theorem results_eq (xs:LI)(h:Sh xs)(hv:∀s∈xs,VS s):D.X0 xs=some (xs.map Am):=by
 unfold Sh at h
 unfold D.X0
 refine(DO xs (λs i=>(s,i)) Am h (λs i hi _=> ?_) (λs=> ?_)).trans rfl
 ·simp only[dlt hi,cond_true,Aw hi,bs,wi' hi (by omega),numbers_eq _ (hv _ (List.getElem_mem hi))]
 ·simp only[Bm,cond_false]
theorem l1Copy_eq (xs:LI)(h:Sh xs):D.p xs=some xs:=by
 unfold Sh at h
 unfold D.p
 rw[Bi (by simpa using h)];rfl
def opn (g:LL)(l:LI)(v:Int):Prop:=∃y∈row g v.toNat,y∉l
end Go.Sx



namespace Go.Sx
structure DK (b:LI)(i:Int):Prop where
 byte:∀x∈b,0≤x∧x≤255
 len:b.length≤4096
 i0:0≤i
 i1:i≤b.length
end Go.Sx



namespace Go.Sx
theorem ext_getD {a b:LI}(hl:a.length=b.length)(h:∀j,j<a.length→a.getD j 0=b.getD j 0):a=b:=by
 apply List.ext_getElem hl
 intro j h1 h2
 have:=h j h1
 rwa [As h1,As h2] at this
theorem getD_set (l:LI)(i j:Nat)(x:Int)(hi:i<l.length):(l.set i x).getD j 0=if j=i then x else l.getD j 0:=by
 simp only[List.getD_eq_getElem?_getD,List.getElem?_set]
 by_cases h:j=i
 ·subst h;simp[hi]
 ·rw[if_neg (λe=>h e.symm),if_neg h]
def nb (F:LI)(u w:Nat):Bool:=has (F.getD u 0) w
structure FOk (F:LI)(n:Nat):Prop where
 len:F.length=n
 vs:∀u,u<n→VS (F.getD u 0)
 lt:∀u w,u<n→nb F u w=true→w<n
 irr:∀u,u<n→nb F u u=false
 sym:∀u w,u<n→nb F u w=true→nb F w u=true
theorem FOk.ext {F F':LI}{n:Nat}(h:F.length=n)(h':F'.length=n)(v:∀u,u<n→VS (F.getD u 0))(v':∀u,u<n→VS (F'.getD u 0))(e:∀u w,u<n→nb F u w=nb F' u w):F=F':=by
 refine ext_getD (by omega) (λj hj=> ?_)
 exact(v j (by omega)).ext (v' j (by omega)) (λw _=>e j w (by omega))
theorem CX (g:LL)(u:Nat):(g.map mk).getD u 0=mk (row g u):=by
 unfold row
 simp only[List.getD_eq_getElem?_getD,List.getElem?_map]
 cases g[u]? with
 |none=>simp[mk]
 |some r=>rfl
theorem B9 {g:LL}(hg:GOk g){u w:Nat}(hu:u<g.length):nb (g.map mk) u w=true↔adj g u w:=by
 have h16:=hg.n16
 unfold nb
 rw[CX,CK (λx hx=>by have:=(hg.rows u hu).2 x hx;omega)]
 simp[adj]
theorem FOk.of {g:LL}(hg:GOk g):FOk (g.map Sx.mk) g.length:=by
 refine⟨by simp,λu _=>by rw[CX];exact VS.mk _,λu w hu h=>hg.lt hu ((B9 hg hu).1 h),λu hu=> ?_,λu w hu h=> ?_⟩
 ·cases h:nb (g.map Sx.mk) u u
  ·rfl
  ·exact absurd ((B9 hg hu).1 h) (hg.irr u hu)
 ·have ha:=(B9 hg hu).1 h
  exact(B9 hg (hg.lt hu ha)).2 (hg.sym u w hu ha)
def grow (F:LI):LL:=F.map Am
theorem row_grow (F:LI)(u:Nat):row (grow F) u=Am (F.getD u 0):=by
 unfold row grow
 simp only[List.getD_eq_getElem?_getD,List.getElem?_map]
 cases F[u]? with
 |none=>simp[C4]
 |some r=>rfl
theorem Dg {F:LI}{n u w:Nat}(h:FOk F n)(hu:u<n):adj (grow F) u w↔nb F u w=true:=by
 unfold adj nb
 rw[row_grow,AY (h.vs u hu)]
theorem GOk.grow {F:LI}{n:Nat}(h:FOk F n)(h1:1≤n)(h16:n≤16):GOk (grow F):=by
 have hl:(Sx.grow F).length=n:=by unfold Sx.grow;rw[List.length_map,h.len]
 refine⟨by omega,by omega,λv hv=> ?_,λv hv ha=> ?_,λu v hu ha=> ?_⟩
 ·rw[row_grow,hl]
  refine⟨Bf _,λx hx=> ?_⟩
  obtain⟨w,_,h2,rfl⟩:=mem_elems.1 hx
  have:=h.lt v w (by omega) h2
  omega
 ·rw[Dg h (by omega)] at ha
  rw[h.irr v (by omega)] at ha;cases ha
 ·rw[Dg h (by omega)] at ha
  have:=h.lt u v (by omega) ha
  rw[Dg h (by omega)]
  exact h.sym u v (by omega) ha
theorem mk_elems {s:Int}(h:VS s):mk (Am s)=s:=by
 refine(VS.mk _).ext h (λv hv=> ?_)
 rw[CK (λx hx=>by obtain⟨w,h1,_,rfl⟩:=mem_elems.1 hx;omega),Bool.eq_iff_iff,decide_eq_true_eq,AY h]
theorem all_mask :∀n:Fin 17,∀v:Fin 32,has (IntKind.u32.wrap (ishl .u32 1 (n.val:Int)-1)) v.val=decide (v.val<n.val):=by decide+kernel
theorem Ee (F:LI)(h:F.length≤16):∃s,D.r F=some s∧VS s∧∀v,has s v=decide (v<F.length):=by
 refine⟨IntKind.u32.wrap (ishl .u32 1 (F.length:Int)-1),?_,VS.wrap _,λv=> ?_⟩
 ·unfold D.r D.t
  have:decide ((F.length:Int)<0)=false:=by simp
  rw[this];rfl
 ·by_cases hv:v<32
  ·exact all_mask ⟨F.length,by omega⟩ ⟨v,hv⟩
  ·rw[CP (VS.wrap _) (by omega)];symm;simp;omega
def PEO (F:LI)(o:LI):Prop:=∀(j:Nat) (v u w:Nat),o[j]? =some (v:Int)→nb F v u=true→nb F v w=true→(u:Int)∉o.take (j+1)→(w:Int)∉o.take (j+1)→u≠w→nb F u w=true
def Lat (F L:LI)(o:LI)(i:Nat):Prop:=∀(j:Nat) (v:Nat),j<i→o[j]? =some (v:Int)→∀w,nb L v w=(nb F v w&&decide ((w:Int)∉o.take (j+1)))
inductive Via (F:LI)(gone:Nat→Prop)(u:Nat):Nat→Prop
 |me:Via F gone u u
 |step {x y:Nat}:Via F gone u x→nb F x y=true→gone y→Via F gone u y
theorem Via.mono {F:LI}{g g':Nat→Prop}{u x:Nat}(h:Via F g u x)(hg:∀y,g y→g' y):Via F g' u x:=by
 induction h with
 |me=>exact .me
 |step _ h1 h2 ih=>exact .step ih h1 (hg _ h2)
theorem Via.end_ {F:LI}{g:Nat→Prop}{u x:Nat}(h:Via F g u x):x=u∨g x:=by
 cases h with
 |me=>exact .inl rfl
 |step _ _ h2=>exact .inr h2
theorem Via.lt {F:LI}{n:Nat}(hF:FOk F n){g:Nat→Prop}{u x:Nat}(hu:u<n)(h:Via F g u x):x<n:=by
 induction h with
 |me=>exact hu
 |step _ h1 _ ih=>exact hF.lt _ _ ih h1
theorem Via.back {F:LI}{n:Nat}(hF:FOk F n){g g':Nat→Prop}(hg:∀y,g y→g' y){v x:Nat}(hv:v<n)(hgv:g' v)(h:Via F g v x):∀z,Via F g' z x→Via F g' z v:=by
 induction h with
 |me=>exact λz h=>h
 |step hx h1 h2 ih=>
  intro z hz
  have hxn:=Via.lt hF hv hx
  refine ih z (.step hz (hF.sym _ _ hxn h1) ?_)
  rcases hx.end_ with e|e
  ·rw[e];exact hgv
  ·exact hg _ e
def Bhd (F:LI)(gone:Nat→Prop)(v w:Nat):Prop:=∃x,Via F gone v x∧nb F x w=true
structure EInv (n:Nat)(F0 o:LI)(i:Nat)(F L:LI)(left:Int):Prop where
 f:FOk F n
 lenL:L.length=n
 vsL:∀u,u<n→VS (L.getD u 0)
 vsl:VS left
 left:∀v,has left v=decide (v<n∧(v:Int)∉o.take i)
 mono:∀u w,u<n→nb F0 u w=true→nb F u w=true
 lat:Lat F L o i
 peo:∀(j:Nat) (v u w:Nat),j<i→o[j]? =some (v:Int)→nb F v u=true→nb F v w=true→(u:Int)∉o.take (j+1)→(w:Int)∉o.take (j+1)→u≠w→nb F u w=true
 same:PEO F0 o→F=F0
 via:∀u w:Nat,u<n→(u:Int)∉o.take i→(w:Int)∉o.take i→u≠w→(nb F u w=true↔Bhd F0 (λx=>(x:Int)∈o.take i) u w)
 latb:∀(j:Nat) (v:Nat),j<i→o[j]? =some (v:Int)→∀w:Nat,nb L v w=true↔(w:Int)∉o.take (j+1)∧Bhd F0 (λx=>(x:Int)∈o.take j) v w
theorem CC {o:LI}{j i:Nat}(h:j≤i){x:Int}(hx:x∈o.take j):x∈o.take i:=by
 rw[mem_take_iff] at hx ⊢
 obtain⟨k,h1,h2,h3⟩:=hx
 exact⟨k,h1,by omega,h3⟩
theorem EInv.step {n:Nat}{F0 o F L:LI}{i v:Nat}{left:Int}(h16:n≤16)(h0:FOk F0 n)(hn:∀x∈o,0≤x∧x<n)(hnd:o.Nodup)(hi:i<o.length)(hv:o[i]=(v:Int))(h:EInv n F0 o i F L left){F':LI}
  (hl':F'.length=n) (hv':∀u,u<n→VS (F'.getD u 0)) (h':∀u w,u<n→nb F' u w=(nb F u w||(has (iand .u32 (F.getD v 0) (iandNot .u32 left (ishl .u32 1 (v:Int)))) u&&has (iand .u32 (F.getD v 0) (iandNot .u32 left (ishl .u32 1 (v:Int)))) w&&decide (w≠u)))):
  EInv n F0 o (i+1) F' (L.set v (iand .u32 (F.getD v 0) (iandNot .u32 left (ishl .u32 1 (v:Int))))) (iandNot .u32 left (ishl .u32 1 (v:Int))):=by
 have hvn:v<n:=by have:=hn _ (List.getElem_mem hi);omega
 have hvt:(v:Int)∉o.take i:=by rw[←hv];exact nodup_iff.1 hnd i hi
 have htk:∀x:Nat,((x:Int)∈o.take (i+1))↔((x:Int)∈o.take i∨x=v):=λx=>by
  rw[List.take_succ_eq_append_getElem hi,List.mem_append,hv];simp[Int.natCast_inj]
 have hleft:∀w,has (iandNot .u32 left (ishl .u32 1 (v:Int))) w=decide (w<n∧(w:Int)∉o.take (i+1)):=λw=>by
  rw[A6 h.vsl (VS.ishl _ _),Bg (by omega),h.left,Bool.eq_iff_iff]
  simp only[Bool.and_eq_true,decide_eq_true_eq,Bool.not_eq_true',decide_eq_false_iff_not,htk]
  constructor
  ·rintro⟨⟨a,b⟩,c⟩;exact⟨a,λhh=>hh.elim b c⟩
  ·rintro⟨a,b⟩;exact⟨⟨a,λhh=>b (.inl hh)⟩,λhh=>b (.inr hh)⟩
 have hS:∀w,has (iand .u32 (F.getD v 0) (iandNot .u32 left (ishl .u32 1 (v:Int)))) w=(nb F v w&&decide ((w:Int)∉o.take (i+1))):=λw=>by
  rw[B6 (h.f.vs v hvn) (VS.iandNot _ _),hleft,Bool.eq_iff_iff]
  show (nb F v w&&_)=true↔_
  simp only[Bool.and_eq_true,decide_eq_true_eq]
  exact⟨fun⟨a,b,c⟩=>⟨a,c⟩,fun⟨a,c⟩=>⟨a,h.f.lt v w hvn a,c⟩⟩
 have hlV:VS (iandNot .u32 left (ishl .u32 1 (v:Int))):=VS.iandNot _ _
 generalize iandNot .u32 left (ishl .u32 1 (v:Int))=left' at*
 generalize hSS:iand .u32 (F.getD v 0) left'=S at*
 have hSV:VS S:=by rw[←hSS];exact VS.iand _ _
 have hSlt:∀w,has S w=true→w<n∧(w:Int)∉o.take (i+1):=λw hw=>by
  rw[hS] at hw
  simp only[Bool.and_eq_true,decide_eq_true_eq] at hw
  exact⟨h.f.lt v w hvn hw.1,hw.2⟩
 have hmono:∀u w,u<n→nb F u w=true→nb F' u w=true:=λu w hu hh=>by rw[h' u w hu,hh];rfl
 have hold:∀x:Nat,x<n→(x:Int)∈o.take (i+1)→∀w,nb F' x w=nb F x w:=λx hx hm w=>by
  rw[h' x w hx]
  have:has S x=false:=by
   cases hc:has S x
   ·rfl
   ·exact absurd hm (hSlt x hc).2
  simp[this]
 have hf':FOk F' n:=by
  refine⟨hl',hv',λu w hu hh=> ?_,λu hu=> ?_,λu w hu hh=> ?_⟩
  ·rw[h' u w hu] at hh
   simp only[Bool.or_eq_true,Bool.and_eq_true] at hh
   rcases hh with hh|⟨⟨_,hh⟩,_⟩
   ·exact h.f.lt u w hu hh
   ·exact(hSlt w hh).1
  ·rw[h' u u hu,h.f.irr u hu];simp
  ·rw[h' u w hu] at hh
   simp only[Bool.or_eq_true,Bool.and_eq_true,decide_eq_true_eq] at hh
   rcases hh with hh|⟨⟨h1,h2⟩,h3⟩
   ·exact hmono w u (h.f.lt u w hu hh) (h.f.sym u w hu hh)
   ·rw[h' w u (hSlt w h2).1,h1,h2]
    have:decide (u≠w)=true:=by simpa using λe=>h3 e.symm
    simp[this]
 have hjv:∀j (x:Nat),o[j]? =some (x:Int)→j<o.length∧x<n∧(x:Int)∈o.take (j+1):=λj x hx=>by
  obtain⟨h1,h2⟩:=List.getElem?_eq_some_iff.1 hx
  have:=hn _ (List.getElem_mem h1)
  refine⟨h1,by omega,?_⟩
  rw[mem_take_iff];exact⟨j,h1,by omega,h2⟩
 refine⟨hf',by simp[h.lenL],λu hu=> ?_,hlV,hleft,λu w hu hh=>hmono u w hu (h.mono u w hu hh),λj x hj hx w=> ?_,λj x u w hj hx h1 h2 h3 h4 h5=> ?_,λhp=> ?_,λu w hu k1 k2 huw=> ?_,λj x hj hx w=> ?_⟩
 ·rw[getD_set _ _ _ _ (by rw[h.lenL];exact hvn)]
  split
  ·exact hSV
  ·exact h.vsL u hu
 ·obtain⟨k1,k2,k3⟩:=hjv j x hx
  have k4:=CC (show j+1≤i+1 by omega) k3
  rw[hold x k2 k4 w]
  unfold nb
  rw[getD_set _ _ _ _ (by rw[h.lenL];exact hvn)]
  by_cases hji:j=i
  ·subst hji
   rw[List.getElem?_eq_getElem hi,hv] at hx
   have:x=v:=by
    have:(v:Int)=(x:Int):=by simpa using hx
    omega
   subst this
   rw[if_pos rfl,hS];rfl
  ·have hne:x≠v:=λe=>by
    subst e
    exact hvt (CC (show j+1≤i by omega) k3)
   rw[if_neg hne]
   exact h.lat j x (by omega) hx w
 ·obtain⟨k1,k2,k3⟩:=hjv j x hx
  have k4:=CC (show j+1≤i+1 by omega) k3
  rw[hold x k2 k4] at h1 h2
  by_cases hji:j=i
  ·subst hji
   rw[List.getElem?_eq_getElem hi,hv] at hx
   have:x=v:=by
    have:(v:Int)=(x:Int):=by simpa using hx
    omega
   subst this
   have hu:has S u=true:=by rw[hS,h1];simpa using h3
   have hw:has S w=true:=by rw[hS,h2];simpa using h4
   rw[h' u w (hSlt u hu).1,hu,hw]
   have:decide (w≠u)=true:=by simpa using λe=>h5 e.symm
   simp[this]
  ·exact hmono u w (h.f.lt x u k2 h1) (h.peo j x u w (by omega) hx h1 h2 h3 h4 h5)
 ·have hFF:=h.same hp
  subst hFF
  refine FOk.ext hl' h.f.len hv' h.f.vs (λu w hu=> ?_)
  rw[h' u w hu,Bool.eq_iff_iff]
  simp only[Bool.or_eq_true,Bool.and_eq_true,decide_eq_true_eq]
  constructor
  ·rintro(hh|⟨⟨h1,h2⟩,h3⟩)
   ·exact hh
   ·have k1:=(hSlt u h1).2;have k2:=(hSlt w h2).2
    rw[hS] at h1 h2
    simp only[Bool.and_eq_true] at h1 h2
    exact hp i v u w (by rw[List.getElem?_eq_getElem hi,hv]) h1.1 h2.1 k1 k2 (λe=>h3 e.symm)
  ·exact .inl
 ·have q1:(u:Int)∉o.take i:=λe=>k1 ((htk u).2 (.inl e))
  have q2:(w:Int)∉o.take i:=λe=>k2 ((htk w).2 (.inl e))
  have huv:u≠v:=λe=>k1 ((htk u).2 (.inr e))
  have hwv:w≠v:=λe=>k2 ((htk w).2 (.inr e))
  have hgg:∀y:Nat,(y:Int)∈o.take i→(y:Int)∈o.take (i+1):=λy hy=>(htk y).2 (.inl hy)
  rw[h' u w hu]
  simp only[Bool.or_eq_true,Bool.and_eq_true,decide_eq_true_eq]
  constructor
  ·rintro(hh|⟨⟨a1,a2⟩,_⟩)
   ·obtain⟨x,hx,e⟩:=(h.via u w hu q1 q2 huw).1 hh
    exact⟨x,hx.mono hgg,e⟩
   ·rw[hS] at a1 a2
    simp only[Bool.and_eq_true,decide_eq_true_eq] at a1 a2
    obtain⟨x,hx,ex⟩:=(h.via v u hvn hvt q1 (λe=>huv e.symm)).1 a1.1
    obtain⟨y,hy,ey⟩:=(h.via v w hvn hvt q2 (λe=>hwv e.symm)).1 a2.1
    have hvg:(v:Int)∈o.take (i+1):=(htk v).2 (.inr rfl)
    have hxn:=Via.lt h0 hvn hx
    have hxg:(x:Int)∈o.take (i+1):=by
     rcases hx.end_ with e|e
     ·rw[e];exact hvg
     ·exact hgg x e
    have hux:Via F0 (λx=>(x:Int)∈o.take (i+1)) u x:= .step .me (h0.sym x u hxn ex) hxg
    have huv':=Via.back h0 (g':=λx=>(x:Int)∈o.take (i+1)) hgg hvn hvg hx u hux
    have hgo:∀y,Via F0 (λx=>(x:Int)∈o.take i) v y→Via F0 (λx=>(x:Int)∈o.take (i+1)) u y:=λy hy=>by
     induction hy with
     |me=>exact huv'
     |step _ b1 b2 ih=>exact .step ih b1 (hgg _ b2)
    exact⟨y,hgo y hy,ey⟩
  ·rintro⟨x,hx,ex⟩
   have hcl:∀x,Via F0 (λx=>(x:Int)∈o.take (i+1)) u x→Via F0 (λx=>(x:Int)∈o.take i) u x∨(Bhd F0 (λx=>(x:Int)∈o.take i) u v∧Via F0 (λx=>(x:Int)∈o.take i) v x):=λx hx=>by
    induction hx with
    |me=>exact .inl .me
    | @step a b _ b1 b2 ih=>
     rcases(htk b).1 b2 with b2|b2
     ·rcases ih with ih|⟨ih1,ih2⟩
      ·exact .inl (.step ih b1 b2)
      ·exact .inr ⟨ih1,.step ih2 b1 b2⟩
     ·rcases ih with ih|⟨ih1,ih2⟩
      ·subst b2;exact .inr ⟨⟨a,ih,b1⟩,.me⟩
      ·subst b2;exact .inr ⟨ih1,.me⟩
   rcases hcl x hx with hx|⟨hx1,hx2⟩
   ·exact .inl ((h.via u w hu q1 q2 huw).2 ⟨x,hx,ex⟩)
   ·right
    have a1:=(h.via u v hu q1 hvt huv).2 hx1
    have a2:=(h.via v w hvn hvt q2 (λe=>hwv e.symm)).2 ⟨x,hx2,ex⟩
    refine⟨⟨?_,?_⟩,λe=>huw e.symm⟩
    ·rw[hS,h.f.sym u v hu a1];simpa using k1
    ·rw[hS,a2];simpa using k2
 ·obtain⟨k1,k2,k3⟩:=hjv j x hx
  unfold nb
  rw[getD_set _ _ _ _ (by rw[h.lenL];exact hvn)]
  by_cases hji:j=i
  ·subst hji
   rw[List.getElem?_eq_getElem hi,hv] at hx
   have:x=v:=by
    have:(v:Int)=(x:Int):=by simpa using hx
    omega
   subst this
   rw[if_pos rfl,hS,Bool.and_eq_true,decide_eq_true_eq]
   constructor
   ·rintro⟨b1,b2⟩
    have b3:(w:Int)∉o.take j:=λe=>b2 ((htk w).2 (.inl e))
    have b4:x≠w:=λe=>b2 ((htk w).2 (.inr e.symm))
    exact⟨b2,(h.via x w hvn hvt b3 b4).1 b1⟩
   ·rintro⟨b2,b1⟩
    have b3:(w:Int)∉o.take j:=λe=>b2 ((htk w).2 (.inl e))
    have b4:x≠w:=λe=>b2 ((htk w).2 (.inr e.symm))
    exact⟨(h.via x w hvn hvt b3 b4).2 b1,b2⟩
  ·have hne:x≠v:=λe=>by
    subst e
    exact hvt (CC (show j+1≤i by omega) k3)
   rw[if_neg hne]
   exact h.latb j x (by omega) hx w
def cnt (n k:Nat):Nat:=((List.range k).filter (λi=>n.testBit i)).length
theorem cnt_add (n a b:Nat):cnt n (a+b)=cnt n a+cnt (n>>>a) b:=by
 unfold cnt
 rw[List.range_add,List.filter_append,List.length_append,List.filter_map,List.length_map]
 congr 2
 apply List.filter_congr
 intro i _
 simp[Nat.testBit_shiftRight]
theorem cnt_mod (n k:Nat):cnt (n%2^k) k=cnt n k:=by
 unfold cnt
 congr 1
 apply List.filter_congr
 intro i hi
 have:=List.mem_range.1 hi
 rw[Nat.testBit_mod_two_pow];simp[this]
theorem elems_length (n:Nat):(Am (n:Int)).length=cnt n 32:=by
 unfold Am cnt
 rw[List.length_map]
 rfl
theorem pop_all :∀b:Fin 256,Ds DD (b.val:Int)=some ((cnt b.val 8:Nat):Int):=by decide+kernel
theorem pop_at {b:Nat}(h:b<256):Ds DD (b:Int)=some ((cnt b 8:Nat):Int):=pop_all ⟨b,h⟩
theorem cnt_le (n k:Nat):cnt n k≤k:=by
 unfold cnt
 exact Nat.le_trans (List.length_filter_le _ _) (by simp)
theorem wrap8 {x:Int}(h0:0≤x)(h:x<256):IntKind.u8.wrap x=x:=by
 simp[IntKind.wrap,IntKind.signed,IntKind.bits];omega
theorem OnesCount32_eq {s:Int}(h:VS s):D.n0 s=some ((Am s).length:Int):=by
 obtain⟨n,rfl,hn⟩:=h.nat
 have s24:BH .u32 (n:Int) 24=((n>>>24:Nat):Int):=shr_eq (n:Int) 24 h (by omega)
 have s16:BH .u32 (n:Int) 16=((n>>>16:Nat):Int):=shr_eq (n:Int) 16 h (by omega)
 have s8:BH .u32 (n:Int) 8=((n>>>8:Nat):Int):=shr_eq (n:Int) 8 h (by omega)
 have lt:∀k,n>>>k<4294967296:=λk=>by
  rw[Nat.shiftRight_eq_div_pow];exact Nat.lt_of_le_of_lt (Nat.div_le_self _ _) hn
 have a255:∀m:Nat,m<4294967296→iand .u32 (m:Int) 255=((m%256:Nat):Int):=λm hm=>by
  have:=Da hm (show (255:Nat)<4294967296 by omega)
  rw[show ((255:Nat):Int)=255 from rfl] at this
  rw[this]
  congr 1
  exact Nat.and_two_pow_sub_one_eq_mod (n:=8) m
 have h24:n>>>24<256:=by rw[Nat.shiftRight_eq_div_pow];exact Nat.div_lt_of_lt_mul (by simpa using hn)
 have ec:cnt n 32=cnt (n%256) 8+cnt (n>>>8%256) 8+cnt (n>>>16%256) 8+cnt (n>>>24) 8:=by
  rw[show (32:Nat)=8+(8+(8+8)) from rfl,cnt_add n 8,cnt_add _ 8,cnt_add _ 8]
  have e1:=cnt_mod n 8;have e2:=cnt_mod (n>>>8) 8;have e3:=cnt_mod (n>>>16) 8
  simp only[show (2:Nat)^8=256 from rfl] at e1 e2 e3
  rw[e1,e2,e3]
  simp only[←Nat.shiftRight_add,Nat.reduceAdd]
  omega
 unfold D.n0
 rw[s24,s16,s8,a255 _ (lt 16),a255 _ (lt 8),a255 n hn,pop_at h24,pop_at (Nat.mod_lt _ (by omega)),pop_at (Nat.mod_lt _ (by omega)),pop_at (Nat.mod_lt _ (by omega))]
 simp only[bs]
 have c1:=cnt_le (n>>>24) 8;have c2:=cnt_le (n>>>16%256) 8;have c3:=cnt_le (n>>>8%256) 8;have c4:=cnt_le (n%256) 8
 generalize cnt (n>>>24) 8=a at*;generalize cnt (n>>>16%256) 8=b at*;generalize cnt (n>>>8%256) 8=c at*;generalize cnt (n%256) 8=d at*
 rw[wrap8 (x:=(a:Int)+b) (by omega) (by omega),wrap8 (x:=(a:Int)+b+c) (by omega) (by omega),wrap8 (x:=(a:Int)+b+c+d) (by omega) (by omega),w64 (by omega) (by omega),elems_length,ec]
 congr 1
 omega
theorem size_eq {s:Int}(h:VS s):D.A0 s=some ((Am s).length:Int):=by
 unfold D.A0;rw[OnesCount32_eq h];rfl
def cz :LI→LI→Int
 |[],[]=>0
 |[],_::_=> -1
 |_::_,[]=>1
 |a::x,b::y=>if a<b then-1 else if b<a then 1 else cz x y
theorem cz_range :∀x y,cz x y= -1∨cz x y=0∨cz x y=1
 |[],[]=> .inr (.inl rfl)
 |[],_::_=> .inl rfl
 |_::_,[]=> .inr (.inr rfl)
 |a::x,b::y=>by
  unfold cz
  split
  ·exact .inl rfl
  ·split
   ·exact .inr (.inr rfl)
   ·exact cz_range x y
theorem cmp_int (a b:Int):D.h0 a b=some (if a<b then-1 else if b<a then 1 else 0):=by
 unfold D.h0 D.f0
 simp only[bne_self_eq_false,bs,cond_false]
 by_cases h:a<b
 ·simp[h]
 ·by_cases h2:b<a<;>simp[h,h2]
theorem compare_eq (x y:LI)(hx:Sh x)(hy:Sh y):D.u0 x y=some (cz x y):=by
 unfold Sh at hx hy
 unfold D.u0
 have key:∀(K:Unit ⊕ Int→Option Int),K (.inl ())=cond (decide ((x.length:Int)<(y.length:Int))) (some (-1)) (some 0)→(∀z,K (.inr z)=some z)→∀(k i:Nat),i+k=x.length→(i≤y.length)→(Ao (σ:=Int) (ρ:=(Unit) ⊕ (Int)) (fun(x_54:Int)=>cond (decide (x_54<(x.length:Int))) ((idx x x_54).bind λe_81=>cond (decide ((y.length:Int)≤x_54)) (some (.inr (.inr 1))) ((idx y x_54).bind λe_88=>(D.h0 e_81 e_88).bind λy_94=>cond (y_94 !=0) (some (.inr (.inr y_94))) (some (.inl (IntKind.i64.wrap (x_54+1)))))) (some (.inr (.inl ())))) (i:Int)).bind K=some (cz (x.drop i) (y.drop i)):=by
  intro K hK1 hK2 k
  induction k with
  |zero=>
   intro i hi hiy
   obtain rfl:i=x.length:=by omega
   rw[AH (r:=Sum.inl ()) (by simp only[Bm,cond_false])]
   simp only[bs,List.drop_length,hK1]
   by_cases h:x.length<y.length
   ·have e:decide ((x.length:Int)<(y.length:Int))=true:=by simp;omega
    rw[e,cond_true,List.drop_eq_getElem_cons h];rfl
   ·have e:decide ((x.length:Int)<(y.length:Int))=false:=by simp;omega
    rw[e,cond_false,List.drop_eq_nil_of_le (by omega)];rfl
  |succ k ih=>
   intro i hi hiy
   have hix:i<x.length:=by omega
   by_cases h:i<y.length
   ·have e:decide ((y.length:Int)≤(i:Int))=false:=by simp;omega
    rw[List.drop_eq_getElem_cons hix,List.drop_eq_getElem_cons h]
    by_cases h1:x[i]<y[i]
    ·rw[AH (r:=Sum.inr (-1)) (by simp only[dlt hix,cond_true,Aw hix,Aw h,bs,e,cond_false,cmp_int,h1,if_true];rfl),bs,hK2]
     simp[cz,h1]
    ·by_cases h2:y[i]<x[i]
     ·rw[AH (r:=Sum.inr 1) (by simp only[dlt hix,cond_true,Aw hix,Aw h,bs,e,cond_false,cmp_int,h1,h2,if_true,if_false];rfl),bs,hK2]
      simp[cz,h1,h2]
     ·rw[A9 (s':=((i+1:Nat):Int)) (by simp only[dlt hix,cond_true,Aw hix,Aw h,bs,e,cond_false,cmp_int,h1,h2,if_false,wq i];rfl),ih (i+1) (by omega) (by omega)]
      simp[cz,h1,h2]
   ·obtain rfl:i=y.length:=by omega
    have e:decide ((y.length:Int)≤(y.length:Int))=true:=by simp
    rw[AH (r:=Sum.inr 1) (by simp only[dlt hix,cond_true,Aw hix,bs,e]),bs,hK2]
    simp only[List.drop_length]
    rw[List.drop_eq_getElem_cons hix];rfl
 exact key _ rfl (λ_=>rfl) x.length 0 (by omega) (by omega)
def lk :Nat→LI→Int
 |0,_=>0
 |_+1,[]=>0
 |d+1,a::l=>(a+1)*33^d+lk d l
theorem pow33 (d:Nat):(1:Int)≤33^d:=by
 have:(0:Int)<33^d:=Int.pow_pos (by omega)
 omega
theorem Db :∀(d:Nat) (l:LI),(∀x∈l,0≤x∧x<32)→0≤lk d l∧lk d l<33^d
 |0,l,_=>by simp[lk]
 |d+1,[],_=>by have:=pow33 (d+1);simp only[lk];omega
 |d+1,a::l,h=>by
  have h1:=Db d l (λx hx=>h x (List.mem_cons_of_mem _ hx))
  have ha:=h a (by simp)
  have hp:=pow33 d
  simp only[lk]
  generalize hq:(33:Int)^d=p at*
  have e:(33:Int)^(d+1)=p*33:=by rw[←hq,Int.pow_succ]
  rw[e]
  have h2:(a+1)*p≤32*p:=Int.mul_le_mul_of_nonneg_right (by omega) (by omega)
  have h3:0≤(a+1)*p:=Int.mul_nonneg (by omega) (by omega)
  omega
theorem lk_cmp :∀(d:Nat) (x y:LI),x.length≤d→y.length≤d→(∀z∈x,0≤z∧z<32)→(∀z∈y,0≤z∧z<32)→(cz x y<0↔lk d x<lk d y)
 |d,[],[],_,_,_,_=>by cases d<;>simp[cz,lk]
 |0,_::_,_,h,_,_,_=>by simp at h
 |0,_,_::_,_,h,_,_=>by simp at h
 |d+1,[],b::y,_,h,_,hy=>by
  have h1:=Db d y (λx hx=>hy x (List.mem_cons_of_mem _ hx))
  have hb:=hy b (by simp)
  have hp:=pow33 d
  simp only[cz,lk]
  have h3:1*(33:Int)^d≤(b+1)*33^d:=Int.mul_le_mul_of_nonneg_right (by omega) (by omega)
  constructor
  ·intro _;omega
  ·intro _;omega
 |d+1,a::x,[],h,_,hx,_=>by
  have h1:=Db d x (λz hz=>hx z (List.mem_cons_of_mem _ hz))
  have ha:=hx a (by simp)
  have hp:=pow33 d
  simp only[cz,lk]
  have h3:1*(33:Int)^d≤(a+1)*33^d:=Int.mul_le_mul_of_nonneg_right (by omega) (by omega)
  constructor
  ·intro hc;omega
  ·intro hc;omega
 |d+1,a::x,b::y,hlx,hly,hx,hy=>by
  have ih:=lk_cmp d x y (by simpa using hlx) (by simpa using hly) (λz hz=>hx z (List.mem_cons_of_mem _ hz)) (λz hz=>hy z (List.mem_cons_of_mem _ hz))
  have h1:=Db d x (λz hz=>hx z (List.mem_cons_of_mem _ hz))
  have h2:=Db d y (λz hz=>hy z (List.mem_cons_of_mem _ hz))
  have hp:=pow33 d
  simp only[cz,lk]
  by_cases hab:a<b
  ·rw[if_pos hab]
   have h3:(a+1+1)*(33:Int)^d≤(b+1)*33^d:=Int.mul_le_mul_of_nonneg_right (by omega) (by omega)
   have h4:(a+1+1)*(33:Int)^d=(a+1)*33^d+33^d:=by rw[Int.add_mul (a+1) 1,Int.one_mul]
   constructor
   ·intro _;omega
   ·intro _;omega
  ·by_cases hba:b<a
   ·rw[if_neg hab,if_pos hba]
    have h3:(b+1+1)*(33:Int)^d≤(a+1)*33^d:=Int.mul_le_mul_of_nonneg_right (by omega) (by omega)
    have h4:(b+1+1)*(33:Int)^d=(b+1)*33^d+33^d:=by rw[Int.add_mul (b+1) 1,Int.one_mul]
    constructor
    ·intro hc;omega
    ·intro hc;omega
   ·rw[if_neg hab,if_neg hba]
    obtain rfl:a=b:=by omega
    rw[ih];omega
theorem cz_zero :∀x y,cz x y=0↔x=y
 |[],[]=>by simp[cz]
 |[],_::_=>by simp[cz]
 |_::_,[]=>by simp[cz]
 |a::x,b::y=>by
  unfold cz
  by_cases h:a<b
  ·simp[h];omega
  ·by_cases h2:b<a
   ·simp[h,h2];omega
   ·obtain rfl:a=b:=by omega
    simp[cz_zero x y]
theorem cz_anti :∀x y,cz y x= -cz x y
 |[],[]=>rfl
 |[],_::_=>rfl
 |_::_,[]=>rfl
 |a::x,b::y=>by
  unfold cz
  by_cases h:a<b
  ·have h2:¬b<a:=by omega
   simp[h,h2]
  ·by_cases h2:b<a
   ·simp[h,h2]
   ·simp[h,h2,cz_anti x y]
theorem lk_inj {d:Nat}{x y:LI}(hx:x.length≤d)(hy:y.length≤d)(h1:∀z∈x,0≤z∧z<32)(h2:∀z∈y,0≤z∧z<32)(h:lk d x=lk d y):x=y:=by
 have a:=lk_cmp d x y hx hy h1 h2
 have b:=lk_cmp d y x hy hx h2 h1
 rw[cz_anti x y] at b
 rw[←cz_zero]
 rcases cz_range x y with e|e|e<;>omega
theorem Dq (s:Int):∀z∈Am s,0≤z∧z<32:=λz hz=>by
 obtain⟨v,h1,_,rfl⟩:=mem_elems.1 hz;omega
def lkey (s:Int):Int:=lk 32 (Am s)
theorem elems_inj {s t:Int}(hs:VS s)(ht:VS t)(h:Am s=Am t):s=t:=by rw[←mk_elems hs,←mk_elems ht,h]
theorem lkey_inj {s t:Int}(hs:VS s)(ht:VS t)(h:lkey s=lkey t):s=t:=
 elems_inj hs ht (lk_inj (Bh s) (Bh t) (Dq s) (Dq t) h)
theorem compareSets_eq {s t:Int}(hs:VS s)(ht:VS t):D.a s t=some (cz (Am s) (Am t)):=by
 unfold D.a
 rw[Cy s hs,bs,Cy t ht,bs,compare_eq _ _ (elems_sh s) (elems_sh t)]
 rfl
noncomputable abbrev byLex :Gs.Srtd Int where
 dflt:=0
 key:=lkey
 good:=VS
 cmp:=D.a
 law:=λs t hs ht=>⟨_,compareSets_eq hs ht,by rw[decide_eq_decide];exact lk_cmp 32 _ _ (Bh s) (Bh t) (Dq s) (Dq t)⟩
theorem Ec {k:Int→Int}:∀{l l':LI},l.Pairwise (λa b=>k a<k b)→l'.Pairwise (λa b=>k a<k b)→(∀x,x∈l↔x∈l')→l=l'
 |[],[],_,_,_=>rfl
 |[],y::l',_,_,h=>by have:=(h y).2 (by simp);simp at this
 |x::l,[],_,_,h=>by have:=(h x).1 (by simp);simp at this
 |x::l,y::l',h1,h2,h=>by
  have h1':=List.pairwise_cons.1 h1;have h2':=List.pairwise_cons.1 h2
  have e:x=y:=by
   rcases List.mem_cons.1 ((h x).1 (by simp)) with e|e
   ·exact e
   ·rcases List.mem_cons.1 ((h y).2 (by simp)) with e'|e'
    ·exact e'.symm
    ·have:=h2'.1 x e;have:=h1'.1 y e';omega
  subst e
  have:l=l':=by
   refine Ec h1'.2 h2'.2 (λz=> ?_)
   constructor
   ·intro hz
    rcases List.mem_cons.1 ((h z).1 (List.mem_cons_of_mem _ hz)) with e|e
    ·subst e;have:=h1'.1 z hz;omega
    ·exact e
   ·intro hz
    rcases List.mem_cons.1 ((h z).2 (List.mem_cons_of_mem _ hz)) with e|e
    ·subst e;have:=h2'.1 z hz;omega
    ·exact e
  rw[this]
theorem sorted_rise (I:Gs.Srtd Int)(hinj:∀x y,I.good x→I.good y→I.key x=I.key y→x=y)(l:LI)(hG:∀x∈l,I.good x)(hn:l.Nodup)(hlen:l.length≤1000000):
  ∃l',DG.Sort I.cmp l=some l'∧List.Perm l' l∧l'.Pairwise (λa b=>I.key a<I.key b):=by
 obtain⟨l',e,hp,hs⟩:= @Gs.sort_spec Int I l hG hlen
 refine⟨l',e,hp,?_⟩
 rw[List.pairwise_iff_getElem]
 intro i j hi hj hij
 have h:=hs i j (by omega) (by omega) (by omega)
 unfold Gs.at' Gs.el at h
 rw[Int.toNat_natCast,Int.toNat_natCast,As hi,As hj] at h
 have hne:l'[i]≠l'[j]:=λe=>by
  have hn':=hp.nodup_iff.2 hn
  have:=(List.nodup_iff_pairwise_ne.1 hn')
  exact(List.pairwise_iff_getElem.1 this) i j hi hj hij e
 have g1:=hG _ (hp.mem_iff.1 (List.getElem_mem hi))
 have g2:=hG _ (hp.mem_iff.1 (List.getElem_mem hj))
 have hk:I.key l'[i]≠I.key l'[j]:=λe=>hne (hinj _ _ g1 g2 e)
 omega
theorem B8 :D.F0=DG.insertionSort D.a:=by kernel_rfl
theorem Cp :D.Q0=DG.heapSort D.a:=by kernel_rfl
theorem B7 :D.S0=DG.breakPatterns D.a:=by kernel_rfl
theorem Cc :D.P0=DG.choosePivot D.a:=by kernel_rfl
theorem Cb :D.K0=DG.reverseRange D.a:=by kernel_rfl
theorem B1 :D.I0=DG.partialInsertionSort D.a:=by kernel_rfl
theorem B5 :D.L0=DG.partitionEqual D.a:=by kernel_rfl
theorem Cm :D.M0=DG.partition D.a:=by kernel_rfl
theorem BM :∀(n:Nat) x a b c,D.E n x a b c=DG.pdqsortR D.a n x a b c
 |0,_,_,_,_=>rfl
 |n+1,x,a,b,c=>by
  unfold D.E DG.pdqsortR
  rw[B8,Cp,B7,Cc,Cb,B1,B5,Cm,funext (λx=>funext λa=>funext λb=>funext λc=>BM n x a b c)]
  kernel_rfl
theorem CM (x):D.q0 x=DG.Sort D.a x:=by
 unfold D.q0 DG.Sort D.j DG.pdqsort
 simp only[BM]
theorem BE :∀{l m:LI},l.Nodup→(∀x∈l,x∈m)→l.length≤m.length
 |[],_,_,_=>by simp
 |x::l,m,h,hs=>by
  have h':=List.nodup_cons.1 h
  have hx:=hs x (by simp)
  have:=BE (l:=l) (m:=m.erase x) h'.2 (λy hy=>by
   have hne:y≠x:=λe=>h'.1 (e▸hy)
   exact(List.mem_erase_of_ne hne).2 (hs y (by simp[hy])))
  rw[List.length_erase_of_mem hx] at this
  have hp:0<m.length:=List.length_pos_of_mem hx
  simp;omega
theorem nodup_all {l m:LI}(hl:l.Nodup)(hm:m.Nodup)(h:∀x∈l,x∈m)(h':∀x∈m,x∈l):l.length=m.length:=
 Nat.le_antisymm (BE hl h) (BE hm h')
theorem Inc.nodup {l:LI}(h:Inc l):l.Nodup:=List.Pairwise.imp (λh e=>by omega) h
theorem l1All_eq (n:Nat)(hn:n≤4294967295):D.x (n:Int)=some ((List.range n).map Int.ofNat):=by
 unfold D.x
 refine(CN (λi=>((List.range i).map Int.ofNat,(i:Int))) n ((List.range n).map Int.ofNat) (by simp) (λi hi=> ?_) ?_).trans rfl
 ·simp only[dlt hi,cond_true,wq i]
  rw[Bi (by simp;omega),bs,List.range_succ,List.map_append];rfl
 ·simp only[Bm,cond_false]
theorem l8Meet_eq (a b:LI)(ha:Sh a)(hb:Sh b):D.B a b=some (a.filter λx=>decide (x∈b)):=by
 unfold Sh at ha
 unfold D.B
 have key:∀(k i:Nat),i+k=a.length→∃y,(Ao (σ:=LI×Int) (ρ:=(LI)) (fun(s_78:LI×Int)=>match s_78 with|(l_81,x_86)=>cond (decide (x_86<(a.length:Int))) ((idx a x_86).bind λe_127=>(D.b b e_127).bind λy_133=>cond y_133 ((idx a x_86).bind λe_141=>(AM l_81 ([e_141]:LI)).bind λl_151=>some (.inl (l_151,(IntKind.i64.wrap (x_86+1))))) (some (.inl (l_81,(IntKind.i64.wrap (x_86+1)))))) (some (.inr l_81))) ((a.take i).filter (λx=>decide (x∈b)),(i:Int)))=some y∧y=a.filter λx=>decide (x∈b):=by
  intro k
  induction k with
  |zero=>
   intro i hi
   obtain rfl:i=a.length:=by omega
   rw[List.take_length]
   exact⟨_,AH (by simp only[Bm,cond_false]),rfl⟩
  |succ k ih=>
   intro i hi
   have hil:i<a.length:=by omega
   obtain⟨y,h1,h2⟩:=ih (i+1) (by omega)
   refine⟨y,?_,h2⟩
   rw[A9]
   ·exact h1
   ·have hlen:((a.take i).filter (λx=>decide (x∈b))).length≤i:=Nat.le_trans (List.length_filter_le _ _) (by simp;omega)
    rw[List.take_succ_eq_append_getElem hil,List.filter_append]
    simp only[dlt hil,cond_true,Aw hil,bs,CS b _ hb,wq i]
    by_cases hc:a[i]∈b
    ·simp only[hc,decide_true,cond_true,List.filter_cons,if_true,List.filter_nil]
     rw[Bi (by simp;omega)];rfl
    ·simp[hc]
 obtain⟨y,h1,rfl⟩:=key a.length 0 (by omega)
 simp only[List.take_zero,List.filter_nil] at h1
 rw[show ((0:Nat):Int)=0 from rfl] at h1
 rw[h1];rfl
def withV (bags:LL)(v:Int):LI:=((List.range bags.length).filter λb=>decide (v∈bags.getD b [])).map Int.ofNat
def Lk (links:LL)(x y:Int):Prop:=[x,y]∈links∨[y,x]∈links
structure Closed (links:LL)(sel m:LI):Prop where
 sub:∀x∈m,x∈sel
 first:∀x,sel.head? =some x→x∈m
 step:∀x∈m,∀y∈sel,Lk links x y→y∈m
def Conn (links:LL)(sel:LI):Prop:=∀m,Closed links sel m→∀x∈sel,x∈m
def LinkIn (n:Nat)(l:LI):Prop:=∃a b:Nat,l=[(a:Int),(b:Int)]∧a<b∧b<n
structure TB (g bags links:LL):Prop where
 n1:1≤bags.length
 n16:bags.length≤16
 many:links.length+1=bags.length
 lks:∀l∈links,LinkIn bags.length l
 sets:∀b∈bags,SetOf b g.length
 tree:Conn links ((List.range bags.length).map Int.ofNat)
 edges:∀u v:Nat,u<g.length→adj g u v→∃b∈bags,(u:Int)∈b∧(v:Int)∈b
 some:∀v,v<g.length→withV bags v≠[]
 conn:∀v,v<g.length→Conn links (withV bags v)
theorem GOk.sh2 {g:LL}(hg:GOk g):Sh2 g:=by
 have h16:=hg.n16
 exact⟨by unfold Sh;omega,λr hr=>by have:=(hg.mem0 hr).1;unfold Sh;omega⟩
theorem Co {g:LL}(hg:GOk g):gB g=true:=(gB_iff g).2 hg
theorem OOk.sh {g:LL}{o:LI}(hg:GOk g)(ho:OOk g o):Sh o:=by
 have:=hg.n16;have:=ho.len;unfold Sh;omega
structure Fill (g:LL)(o F L:LI):Prop where
 elim:D.h1 (g.map mk) o=some (F,L)
 f:FOk F g.length
 lenL:L.length=g.length
 vsL:∀u,u<g.length→VS (L.getD u 0)
 mono:∀u w,u<g.length→adj g u w→nb F u w=true
 lat:Lat F L o g.length
 peo:PEO F o
 same:PEO (g.map mk) o→F=g.map mk
 latb:∀(j:Nat) (v:Nat),o[j]? =some (v:Int)→∀w:Nat,nb L v w=true↔(w:Int)∉o.take (j+1)∧Bhd (g.map mk) (λx=>(x:Int)∈o.take j) v w
theorem grow_len (F:LI):(grow F).length=F.length:=by simp[grow]
theorem place' {g:LL}{o:LI}(ho:OOk g o){v:Nat}(hv:v<g.length):∃i:Nat,i<g.length∧o[i]? =some (v:Int):=by
 have hsub:∀x∈o,x∈(List.range g.length).map Int.ofNat:=λx hx=>by
  have:=ho.rng x hx
  exact List.mem_map.2 ⟨x.toNat,List.mem_range.2 (by omega),by show ((x.toNat:Nat):Int)=x;omega⟩
 by_cases hm:(v:Int)∈o
 ·obtain⟨i,hi,e⟩:=List.getElem_of_mem hm
  exact⟨i,by have:=ho.len;omega,by rw[List.getElem?_eq_getElem hi,e]⟩
 ·exfalso
  have h1:((v:Int)::o).length≤((List.range g.length).map Int.ofNat).length:=BE (List.nodup_cons.2 ⟨hm,ho.nd⟩) (λx hx=>by
   rcases List.mem_cons.1 hx with rfl|hx
   ·exact List.mem_map.2 ⟨v,List.mem_range.2 hv,rfl⟩
   ·exact hsub x hx)
  have:=ho.len
  simp at h1
  omega
theorem least_of {P:Nat→Prop}(h:∃j,P j):∃j,P j∧∀i,i<j→¬P i:=by
 obtain⟨j,hj⟩:=h
 induction j using Nat.strongRecOn with
 |ind j ih=>
  by_cases hc:∃i,i<j∧P i
  ·obtain⟨i,h1,h2⟩:=hc;exact ih i h1 h2
  ·exact⟨j,hj,λi hi hp=>hc ⟨i,hi,hp⟩⟩
theorem El {α:Type}(p:α→Bool){l:List α}{i:Nat}(hi:i<l.length):(l.take (i+1)).filter p=(l.take i).filter p++(if p l[i] then [l[i]] else []):=by
 rw[List.take_succ_eq_append_getElem hi,List.filter_append]
 congr 1
 rw[List.filter_cons,List.filter_nil]
def lft (g:LL)(v:Nat)(gone:List Bool):LI:=(row g v).filter λx=> !gone.getD x.toNat false
theorem l7Left_eq (g:LL)(hg:GOk g){v:Nat}(hv:v<g.length)(gone:List Bool)(hl:gone.length=g.length):D.S g (v:Int) gone=some (lft g v gone):=by
 have hr:=hg.row_len hv
 unfold D.S lft
 refine(CN (λi=>(((row g v).take i).filter (λx=> !gone.getD x.toNat false),(i:Int))) (row g v).length ((row g v).filter λx=> !gone.getD x.toNat false) (by simp) (λi hi=> ?_) ?_).trans rfl
 ·obtain⟨w,e1,h1,_⟩:=hg.mem hv (List.getElem_mem hi)
  have hlen:(((row g v).take i).filter (λx=> !gone.getD x.toNat false)).length≤16:=Nat.le_trans (List.length_filter_le _ _) (by simp;omega)
  simp only[BR hv,bs,dlt hi,cond_true,Aw hi,e1,Aw (show w<gone.length by omega),wq i]
  have e3:=El (λx:Int=> !gone.getD x.toNat false) hi
  rw[e1] at e3
  simp only[Int.toNat_natCast,As (show w<gone.length by omega)] at e3
  rw[e3]
  cases hc:gone[w]
  ·rw[Bool.not_false,cond_true,Bi (by rw[List.length_singleton];omega),bs];rfl
  ·rw[Bool.not_true,cond_false];simp
 ·simp only[BR hv,bs,Bm,cond_false,List.take_length]
theorem l1Edge_eq (g:LL)(hg:GOk g){u:Nat}(hu:u<g.length)(w:Int):D.m0 g (u:Int) w=some (decide (w∈row g u)):=by
 unfold D.m0
 rw[BR hu,bs,CS _ _ (hg.sh2.row hu)];rfl
def Clq (g:LL)(l:LI)(n:Nat):Prop:=∀i k,i<n→k<i→adj g (l.getD k 0).toNat (l.getD i 0).toNat
theorem l7Missing_ok (g:LL)(hg:GOk g)(l:LI)(hl:l.length≤16)(hr:∀x∈l,0≤x∧x<g.length):
  ∃y,D.Q g l=some y∧(0≤y∧y≤256∧(y=0↔Clq g l l.length)):=by
 unfold D.Q
 refine AU (λs=>∃i:Nat,s.2=(i:Int)∧i≤l.length∧0≤s.1∧s.1≤16*i∧(s.1=0↔Clq g l i)) (λs=>l.length-s.2.toNat) (λr=>0≤r∧r≤256∧(r=0↔Clq g l l.length)) ?_ ⟨0,rfl,by omega,by simp,by simp,by simp[Clq]⟩ (λr h=>⟨r,rfl,h⟩)
 rintro⟨m,_⟩ ⟨i,rfl,hi,h0,h1,h2⟩
 dsimp only at h0 h1 h2 ⊢
 by_cases hlt:i<l.length
 ·simp only[dlt hlt,cond_true]
  refine AU (λs=>∃k:Nat,s.2=(k:Int)∧k≤i∧0≤s.1∧s.1≤16*i+k∧(s.1=0↔(Clq g l i∧∀k',k'<k→adj g (l.getD k' 0).toNat (l.getD i 0).toNat))) (λs=>i-s.2.toNat)
   (λr=>0≤r∧r≤16*i+i∧(r=0↔Clq g l (i+1))) ?_ ⟨0,rfl,by omega,h0,by omega,by simpa using h2⟩ ?_
  ·rintro⟨m,_⟩ ⟨k,rfl,hk,h0,h1,h2⟩
   dsimp only at h0 h1 h2 ⊢
   by_cases hkl:k<i
   ·have hkk:k<l.length:=by omega
    have r1:=hr _ (List.getElem_mem hkk)
    obtain⟨a,ea⟩:∃a:Nat,l[k]=(a:Int):=⟨l[k].toNat,by omega⟩
    have r2:=hr _ (List.getElem_mem hlt)
    obtain⟨b,eb⟩:∃b:Nat,l[i]=(b:Int):=⟨l[i].toNat,by omega⟩
    have hA:adj g (l.getD k 0).toNat (l.getD i 0).toNat↔(b:Int)∈row g a:=by
     rw[As hkk,As hlt,ea,eb];rfl
    simp only[dlt hkl,cond_true,Aw hkk,Aw hlt,bs,ea,eb,l1Edge_eq g hg (show a<g.length by omega),wq k]
    have hsplit:(∀k',k'<k+1→adj g (l.getD k' 0).toNat (l.getD i 0).toNat)↔((∀k',k'<k→adj g (l.getD k' 0).toNat (l.getD i 0).toNat)∧(b:Int)∈row g a):=by
     rw[←hA]
     constructor
     ·intro h;exact⟨λk' hk'=>h k' (by omega),h k (by omega)⟩
     ·rintro⟨h3,h4⟩ k' hk'
      rcases Nat.lt_or_ge k' k with hc|hc
      ·exact h3 k' hc
      ·obtain rfl:k'=k:=by omega
       exact h4
    by_cases hm:(b:Int)∈row g a
    ·simp only[decide_eq_true hm,Bool.not_true,cond_false]
     refine⟨_,rfl,⟨k+1,rfl,by omega,h0,by dsimp only;omega,?_⟩,by dsimp only;omega⟩
     dsimp only
     rw[hsplit,h2]
     exact⟨fun⟨p,q⟩=>⟨p,q,hm⟩,fun⟨p,q,_⟩=>⟨p,q⟩⟩
    ·simp only[decide_eq_false hm,Bool.not_false,cond_true]
     rw[w64 (show (-9223372036854775808:Int)≤m+1 by omega) (by omega)]
     refine⟨_,rfl,⟨k+1,rfl,by omega,by dsimp only;omega,by dsimp only;omega,?_⟩,by dsimp only;omega⟩
     dsimp only
     rw[hsplit]
     constructor
     ·intro h;omega
     ·rintro⟨_,_,h⟩;exact absurd h hm
   ·obtain rfl:k=i:=by omega
    simp only[Bm,cond_false]
    refine⟨_,rfl,h0,by omega,?_⟩
    rw[h2]
    constructor
    ·rintro⟨h3,h4⟩ i' k' hi' hk'
     rcases Nat.lt_or_ge i' k with hc|hc
     ·exact h3 i' k' hc hk'
     ·obtain rfl:i'=k:=by omega
      exact h4 k' hk'
    ·intro h
     exact⟨λi' k' hi' hk'=>h i' k' (by omega) hk',λk' hk'=>h k k' (by omega) hk'⟩
  ·rintro m ⟨h3,h4,h5⟩
   rw[wq i]
   exact⟨_,rfl,⟨i+1,rfl,by omega,h3,by dsimp only;omega,h5⟩,by dsimp only;omega⟩
 ·obtain rfl:i=l.length:=by omega
  simp only[Bm,cond_false]
  exact⟨_,rfl,h0,by omega,h2⟩
theorem l8Clique_ok (g:LL)(hg:GOk g)(l:LI)(hl:l.length≤16)(hr:∀x∈l,0≤x∧x<g.length):∃b,D.c g l=some b∧(b=true↔Clq g l l.length):=by
 obtain⟨y,e,_,_,h⟩:=l7Missing_ok g hg l hl hr
 unfold D.c
 rw[e,bs]
 exact⟨_,rfl,by rw[beq_iff_eq];exact h⟩
theorem lft_len {g:LL}(hg:GOk g){v:Nat}(hv:v<g.length)(gone:List Bool):(lft g v gone).length≤16:=Nat.le_trans (List.length_filter_le _ _) (hg.row_len hv)
theorem lft_rng {g:LL}(hg:GOk g){v:Nat}(hv:v<g.length)(gone:List Bool):∀x∈lft g v gone,0≤x∧x<g.length:=λx hx=>(hg.rows v hv).2 x (List.mem_filter.1 hx).1
theorem lft_inc {g:LL}(hg:GOk g){v:Nat}(hv:v<g.length)(gone:List Bool):Inc (lft g v gone):=List.Pairwise.filter _ (hg.rows v hv).1
def PEOg (g:LL)(o:LI):Prop:=∀(j:Nat) (v u w:Nat),o[j]? =some (v:Int)→adj g v u→adj g v w→(u:Int)∉o.take (j+1)→(w:Int)∉o.take (j+1)→u≠w→adj g u w
def Bq (f:Nat→Nat):Nat→Nat
 |0=>0
 |n+1=>Bq f n+f n
theorem BZ {f g:Nat→Nat}:∀{n:Nat},(∀i,i<n→f i=g i)→Bq f n=Bq g n
 |0,_=>rfl
 |n+1,h=>by simp only[Bq];rw[BZ (n:=n) (λi hi=>h i (by omega)),h n (by omega)]
theorem DL (f g:Nat→Nat):∀n,Bq (λi=>f i+g i) n=Bq f n+Bq g n
 |0=>rfl
 |n+1=>by simp only[Bq];rw[DL f g n];omega
theorem D4 :∀n,Bq (λ_=>0) n=0
 |0=>rfl
 |n+1=>by simp only[Bq];rw[D4 n]
theorem sumN_swap (f:Nat→Nat→Nat)(m:Nat):∀n,Bq (λi=>Bq (f i) m) n=Bq (λj=>Bq (λi=>f i j) n) m
 |0=>by simp only[Bq];rw[D4]
 |n+1=>by simp only[Bq];rw[sumN_swap f m n,←DL]
def bit (b:Bool):Nat:=if b then 1 else 0
theorem DN (p:Nat→Bool):∀n,((List.range n).filter p).length=Bq (λi=>bit (p i)) n
 |0=>rfl
 |n+1=>by
  rw[List.range_succ,List.filter_append,List.length_append,DN p n]
  simp only[Bq,bit]
  cases h:p n<;>simp[h]
theorem sumN_tail {f : Nat → Nat} {n m : Nat} (h : n ≤ m) (hz : ∀ i, n ≤ i → f i = 0) : Bq f m = Bq f n := by
  induction m with
  | zero => obtain rfl : n = 0 := by omega
            rfl
  | succ m ih =>
    by_cases hm : n = m + 1
    · rw [hm]
    · simp only [Bq]; rw [ih (by omega), hz m (by omega)]; rfl
theorem elems_sum {s:Int}{n:Nat}(hn:n≤32)(h:∀v,has s v=true→v<n):(Am s).length=Bq (λv=>bit (has s v)) n:=by
 unfold Am
 rw[List.length_map,DN]
 refine sumN_tail hn (λi hi=> ?_)
 unfold bit
 cases hc:has s i
 ·rfl
 ·have:=h i hc;omega
def S2 (n:Nat)(p:Nat→Nat→Bool):Nat:=Bq (λu=>Bq (λw=>bit (p u w)) n) n
theorem S2_congr {n:Nat}{p q:Nat→Nat→Bool}(h:∀u w,u<n→w<n→p u w=q u w):S2 n p=S2 n q:=
 BZ λu hu=>BZ λw hw=>by rw[h u w hu hw]
theorem S2_swap (n:Nat)(p:Nat→Nat→Bool):S2 n p=S2 n (λu w=>p w u):=by
 unfold S2
 rw[sumN_swap]
theorem S2_or (n:Nat)(p q:Nat→Nat→Bool)(h:∀u w,u<n→w<n→p u w=true→q u w=true→False):S2 n (λu w=>p u w||q u w)=S2 n p+S2 n q:=by
 unfold S2
 rw[←DL]
 refine BZ λu hu=> ?_
 rw[←DL]
 refine BZ λw hw=> ?_
 have:=h u w hu hw
 unfold bit
 cases h1:p u w<;>cases h2:q u w<;>simp_all
theorem S2_half {n:Nat}{A:Nat→Nat→Bool}{lt:Nat→Nat→Bool}(hs:∀u w,u<n→w<n→A u w=A w u)(h1:∀u w,u<n→w<n→A u w=true→(lt u w=true∨lt w u=true))(h2:∀u w,u<n→w<n→lt u w=true→lt w u=true→False):
  S2 n A=2*S2 n (λu w=>A u w&&lt u w):=by
 have e1:S2 n A=S2 n (λu w=>(A u w&&lt u w)||(A u w&&lt w u)):=S2_congr λu w hu hw=>by
  have:=h1 u w hu hw
  cases ha:A u w
  ·simp
  ·rcases this ha with h|h<;>simp[h]
 have e2:S2 n (λu w=>A u w&&lt w u)=S2 n (λu w=>A u w&&lt u w):=by
  rw[S2_swap]
  exact S2_congr λu w hu hw=>by rw[hs u w hu hw]
 rw[e1,S2_or,e2]
 ·omega
 ·intro u w hu hw h3 h4
  simp only[Bool.and_eq_true] at h3 h4
  exact h2 u w hu hw h3.2 h4.2
theorem En {s:Int}{n:Nat}(hn:n≤32)(h:∀v,has s v=true→v<n)(p:Int→Bool):((Am s).filter p).length=Bq (λv=>bit (has s v&&p (v:Int))) n:=by
 unfold Am
 rw[List.filter_map,List.length_map,List.filter_filter,DN]
 have e:Bq (λi=>bit ((p∘Int.ofNat) i&&has s i)) 32=Bq (λv=>bit (has s v&&p (v:Int))) 32:=BZ λi _=>by
  rw[Bool.and_comm];rfl
 rw[e]
 refine sumN_tail hn (λi hi=> ?_)
 cases hc:has s i
 ·rfl
 ·have:=h i hc;omega
def els (s:Int)(i:Nat):LI:=((List.range i).filter (has s)).map Int.ofNat
theorem els_succ (s:Int)(i:Nat):els s (i+1)=if has s i then els s i++[(i:Int)] else els s i:=by
 unfold els
 rw[List.range_succ,List.filter_append,List.map_append]
 cases h:has s i<;>simp[h]
theorem els_all {s:Int}{n:Nat}(hn:n≤32)(h:∀v,has s v=true→v<n):els s n=Am s:=by
 unfold els Am
 obtain⟨k,hk⟩:∃k,32=n+k:=⟨32-n,by omega⟩
 rw[hk,List.range_add,List.filter_append]
 have:((List.range k).map (λx=>n+x)).filter (has s)=[]:=by
  rw[List.filter_eq_nil_iff]
  intro x hx hc
  obtain⟨y,_,rfl⟩:=List.mem_map.1 hx
  have:=h _ hc;omega
 rw[this,List.append_nil]
theorem elems_rm {s:Int}{b:Nat}(h:VS s)(hb:has s b=true):(Am s).length=(Am (iandNot .u32 s (ishl .u32 1 (b:Int)))).length+1:=by
 have hb32:b<32:=by
  by_cases hv:b<32
  ·exact hv
  ·rw[CP h (by omega)] at hb;cases hb
 have hm:∀x,x∈Am s↔x∈(b:Int)::Am (iandNot .u32 s (ishl .u32 1 (b:Int))):=λx=>by
  rw[List.mem_cons,mem_elems,mem_elems]
  constructor
  ·rintro⟨v,h1,h2,rfl⟩
   by_cases e:v=b
   ·left;omega
   ·right;exact⟨v,h1,by rw[A6 h (VS.ishl _ _),Bg hb32,h2];simp[e],rfl⟩
  ·rintro(rfl|⟨v,h1,h2,rfl⟩)
   ·exact⟨b,hb32,hb,rfl⟩
   ·rw[A6 h (VS.ishl _ _),Bool.and_eq_true] at h2
    exact⟨v,h1,h2.1,rfl⟩
 have hn:((b:Int)::Am (iandNot .u32 s (ishl .u32 1 (b:Int)))).Nodup:=by
  refine List.nodup_cons.2 ⟨λhc=> ?_,(Bf _).nodup⟩
  rw[AY (VS.iandNot _ _),A6 h (VS.ishl _ _),Bg hb32] at hc
  simp at hc
 have:=nodup_all (Bf s).nodup hn (λx hx=>(hm x).1 hx) (λx hx=>(hm x).2 hx)
 simpa using this
def full (n:Nat):Int:=IntKind.u32.wrap (ishl .u32 1 (n:Int)-1)
theorem CD (n:Nat):VS (full n):=VS.wrap _
theorem BA {n:Nat}(h:n≤16)(v:Nat):has (full n) v=decide (v<n):=by
 by_cases hv:v<32
 ·exact all_mask ⟨n,by omega⟩ ⟨v,hv⟩
 ·rw[CP (CD n) (by omega)];symm;simp;omega
theorem nets_all_full (F:LI):D.r F=some (full F.length):=by
 unfold D.r D.t
 have:decide ((F.length:Int)<0)=false:=by simp
 rw[this];rfl
def BB (n:Nat)(s:Int):List Bool:=(List.range n).map λv=> !has s v
theorem DM (n:Nat)(s:Int):(BB n s).length=n:=by simp[BB]
theorem D3 {n:Nat}{s:Int}{v:Nat}(h:v<n){h':v<(BB n s).length}:(BB n s)[v]= !has s v:=by
 simp[BB]
theorem DF {n:Nat}{s:Int}{v:Nat}(h:v<n):(BB n s).getD v false= !has s v:=by
 unfold BB
 rw[As (by simpa using h)];simp
theorem goneOf_idx {n:Nat}{s:Int}{v:Nat}(h:v<n):idx (BB n s) (v:Int)=some (!has s v):=by
 rw[Aw (by rw[DM];exact h),←DF h,As (by rw[DM];exact h)]
theorem goneOf_set {n b:Nat}{s:Int}(hs:VS s)(hb:b<n)(hn:n≤32):(BB n s).set b true=BB n (iandNot .u32 s (ishl .u32 1 (b:Int))):=by
 apply List.ext_getElem
 ·simp[BB]
 ·intro i h1 h2
  have hi:i<n:=by simpa [BB] using h2
  rw[List.getElem_set,D3 hi,D3 hi,A6 hs (VS.ishl _ _),Bg (by omega)]
  by_cases e:b=i
  ·subst e;simp
  ·rw[if_neg e]
   have:decide (i=b)=false:=by simp;omega
   simp[this]
theorem goneOf_full {n:Nat}(h:n≤16):List.replicate n false=BB n (full n):=by
 apply List.ext_getElem
 ·simp[BB]
 ·intro i h1 h2
  have hi:i<n:=by simpa [BB] using h2
  rw[List.getElem_replicate,D3 hi,BA h]
  simp[hi]
theorem lft_gone {g:LL}(hg:GOk g){s:Int}(hs:VS s){v:Nat}(hv:v<g.length):lft g v (BB g.length s)=Am (iand .u32 (mk (row g v)) s):=by
 have h16:=hg.n16
 refine Inc.ext (lft_inc hg hv _) (Bf _) (λx=> ?_)
 unfold lft
 rw[List.mem_filter,mem_elems]
 constructor
 ·rintro⟨h1,h2⟩
  obtain⟨w,rfl,hw,ha⟩:=hg.mem hv h1
  rw[Int.toNat_natCast,DF hw,Bool.not_not] at h2
  refine⟨w,by omega,?_,rfl⟩
  rw[B6 (VS.mk _) hs,h2,CK (λx hx=>by have:=(hg.rows v hv).2 x hx;omega)]
  simpa using h1
 ·rintro⟨w,_,h2,rfl⟩
  rw[B6 (VS.mk _) hs,CK (λx hx=>by have:=(hg.rows v hv).2 x hx;omega)] at h2
  simp only[Bool.and_eq_true,decide_eq_true_eq] at h2
  have hw:w<g.length:=by have:=(hg.rows v hv).2 _ h2.1;omega
  exact⟨h2.1,by rw[Int.toNat_natCast,DF hw,h2.2];rfl⟩
section
variable {g : LL} {o : LI} (hg : GOk g) (ho : OOk g o)
include hg ho
end
end Go.Sx

namespace Go.Sx
section
variable {g : LL} {o : LI} (hg : GOk g) (ho : OOk g o)
include hg ho
theorem place {v:Nat}(hv:v<g.length):∃i,∃h:i<o.length,o[i]=(v:Int):=by
 have hsub:∀x∈o,x∈(List.range g.length).map Int.ofNat:=λx hx=>by
  have:=ho.rng x hx
  exact List.mem_map.2 ⟨x.toNat,List.mem_range.2 (by omega),by show ((x.toNat:Nat):Int)=x;omega⟩
 have hm:(v:Int)∈o:=by
  apply Classical.byContradiction
  intro hn
  have h1:((v:Int)::o).Nodup:=List.nodup_cons.2 ⟨hn,ho.nd⟩
  have:=BE h1 (m:=(List.range g.length).map Int.ofNat) (λx hx=>by
   rcases List.mem_cons.1 hx with rfl|hx
   ·exact List.mem_map.2 ⟨v,List.mem_range.2 hv,rfl⟩
   ·exact hsub x hx)
  have:=ho.len
  simp at*
  omega
 obtain⟨i,hi,e⟩:=List.getElem_of_mem hm
 exact⟨i,hi,e⟩
def mx (f:Nat→Int):Nat→Int
 |0=>0
 |n+1=>max (mx f n) (f n)
end
end Go.Sx

namespace Go.Sx
def dg (g:LL)(s:Int)(v:Int):Int:=((Am (iand .u32 (mk (row g v.toNat)) s)).length:Int)
structure SQ (n:Nat)(s:Int)(k:Nat):Prop where
 vs:VS s
 lt:∀v,has s v=true→v<n
 card:(Am s).length=k
theorem SQ.full {n:Nat}(h:n≤16):SQ n (full n) n:=by
 refine⟨CD n,λv hv=>by rw[BA h] at hv;exact of_decide_eq_true hv,?_⟩
 rw[←els_all (n:=n) (by omega) (λv hv=>by rw[BA h] at hv;exact of_decide_eq_true hv)]
 unfold els
 rw[List.length_map,List.filter_eq_self.2 (λv hv=>by rw[BA h];exact decide_eq_true (List.mem_range.1 hv)),List.length_range]
theorem SQ.rm {n k b:Nat}{s:Int}(h:SQ n s (k+1))(hb:has s b=true):SQ n (iandNot .u32 s (ishl .u32 1 (b:Int))) k:=by
 refine⟨VS.iandNot _ _,λv hv=> ?_,?_⟩
 ·rw[A6 h.vs (VS.ishl _ _),Bool.and_eq_true] at hv
  exact h.lt v hv.1
 ·have:=elems_rm h.vs hb
  have:=h.card
  omega
theorem SQ.ne {n k:Nat}{s:Int}(h:SQ n s (k+1)):Am s≠[]:=λe=>by have:=h.card;rw[e] at this;simp at this
theorem SQ.nz {n k:Nat}{s:Int}(h:SQ n s (k+1)):s≠0:=λe=>by have:=h.ne;rw[e,C4] at this;exact this rfl
theorem SQ.z {n:Nat}{s:Int}(h:SQ n s 0):s=0:=by
 rw[h.vs.eq_zero]
 intro v hv
 cases hc:has s v
 ·rfl
 ·have:(v:Int)∈Am s:=(AY h.vs).2 hc
  have h0:=h.card
  rw[List.length_eq_zero_iff] at h0
  rw[h0] at this;simp at this
theorem graph_ext {g g':LL}(hg:GOk g)(hg':GOk g')(hl:g.length=g'.length)(h:∀a b:Nat,a<g.length→(adj g a b↔adj g' a b)):g=g':=by
 apply List.ext_getElem hl
 intro i h1 h2
 rw[←row_eq h1,←row_eq h2]
 refine Inc.ext (hg.rows i h1).1 (hg'.rows i h2).1 (λx=> ?_)
 constructor
 ·intro hx
  obtain⟨w,rfl,_,ha⟩:=hg.mem h1 hx
  exact(h i w h1).1 ha
 ·intro hx
  obtain⟨w,rfl,_,ha⟩:=hg'.mem h2 hx
  exact(h i w h1).2 ha
theorem grow_of {g:LL}(hg:GOk g):grow (g.map mk)=g:=by
 have hf:=FOk.of hg
 refine graph_ext (GOk.grow hf hg.n1 hg.n16) hg (by rw[grow_len,hf.len]) (λa b ha=> ?_)
 rw[grow_len,hf.len] at ha
 rw[Dg hf ha,B9 hg ha]
noncomputable def elimF (F:LI)(s b:Int):LI:=(D.e1 F s b).getD []
structure GQ (n i:Nat)(F o:LI)(s:Int):Prop where
 f:FOk F n
 left:SQ n s (n-i)
 len:o.length=i
 rng:∀x∈o,∃v:Nat,x=v∧v<n∧has s v=false
 nd:o.Nodup
theorem idx_F {F:LI}{n v:Nat}(h:FOk F n)(hv:v<n):idx F (v:Int)=some (F.getD v 0):=by
 have:=h.len
 rw[Aw (by omega),As (by omega)]
def CQ (F:LI)(K:Int):Prop:=∀u w,has K u=true→has K w=true→u≠w→nb F u w=true
def MX (F:LI)(n:Nat)(K:Int):Prop:=CQ F K∧∀w,w<n→has K w=false→∃u,has K u=true∧nb F u w=false
def In (n:Nat)(K:Int):Prop:=VS K∧∀w,has K w=true→w<n
structure Tgt (F:LI)(n:Nat)(C O K:Int):Prop where
 ok:In n K
 mx:MX F n K
 sup:∀w,has C w=true→has K w=true
 sub:∀w,has K w=true→has C w=true∨has O w=true
theorem In.lt {n:Nat}{K:Int}(h:In n K)(hn:n≤16):0≤K∧K<65536:=by
 obtain⟨m,rfl,hm⟩:=h.1.nat
 refine⟨by omega,?_⟩
 have:m<2^16:=by
  apply Nat.lt_pow_two_of_testBit
  intro i hi
  cases hc:m.testBit i
  ·rfl
  ·have:=h.2 i (by rw[Bd];exact hc)
   omega
 omega
theorem Dn {n:Nat}{l:LI}(hn:n≤16)(h:∀K∈l,In n K)(hd:l.Nodup):l.length≤65536:=by
 have:=BE (m:=(List.range 65536).map Int.ofNat) hd (λK hK=>by
  have:=(h K hK).lt hn
  exact List.mem_map.2 ⟨K.toNat,List.mem_range.2 (by omega),by show ((K.toNat:Nat):Int)=K;omega⟩)
 simpa using this
structure BK (F:LI)(n:Nat)(C O S:Int):Prop where
 c:In n C
 o:In n O
 s:In n S
 cq:CQ F C
 cn:∀w,w<n→((has O w=true∨has S w=true)↔∀u,has C u=true→nb F u w=true)
 dis:∀w,has O w=true→has S w=false
theorem BK.notin {F:LI}{n:Nat}{C O S:Int}(hF:FOk F n)(h:BK F n C O S){w:Nat}(hw:has O w=true):has C w=false:=by
 cases hc:has C w
 ·rfl
 ·have:=(h.cn w (h.o.2 w hw)).1 (.inl hw) w hc
  rw[hF.irr w (h.o.2 w hw)] at this;cases this
theorem grow_ok {F:LI}{n:Nat}(hn:n≤16)(hF:FOk F n):∀(fuel:Nat) (C O S:Int) (x4:LI),(Am O).length<fuel→BK F n C O S→x4.Nodup→(∀K∈x4,In n K)→(∀K∈x4,¬Tgt F n C O K)→
  ∃y,D.L fuel F C O S x4=some y∧∃R,y=x4++R∧(x4++R).Nodup∧∀K,K∈R↔Tgt F n C O K
 |0,_,_,_,_,h,_,_,_,_=>by omega
 |fuel+1,C,O,S,x4,hf,hB,hd,hi,ht=>by
  have hlen:=hF.len
  have hx4:=Dn hn hi hd
  unfold D.L
  by_cases hO:O=0
  ·subst hO
   have e0:((0:Int)==0)=true:=rfl
   rw[e0,cond_true]
   by_cases hS:S=0
   ·subst hS
    rw[e0,cond_true,Bi (by simp;omega)]
    have hT:Tgt F n C 0 C:=⟨hB.c,⟨hB.cq,λw hw hc=>by
     apply Classical.byContradiction
     intro hne
     have:=(hB.cn w hw).2 (λu hu=>by
      cases h:nb F u w
      ·exact absurd ⟨u,hu,h⟩ hne
      ·rfl)
     simp[Ba] at this⟩,λw h=>h,λw h=> .inl h⟩
    refine⟨_,rfl,[C],rfl,?_,λK=> ?_⟩
    ·rw[List.nodup_append]
     refine⟨hd,by simp,λa ha b hb e=> ?_⟩
     rw[List.mem_singleton] at hb
     subst hb;subst e
     exact ht a ha hT
    ·rw[List.mem_singleton]
     constructor
     ·rintro rfl;exact hT
     ·intro h
      refine h.ok.1.ext hB.c.1 (λv _=> ?_)
      rw[Bool.eq_iff_iff]
      refine⟨λhv=> ?_,h.sup v⟩
      rcases h.sub v hv with h|h
      ·exact h
      ·rw[Ba] at h;cases h
   ·have e1:(S==0)=false:=by simpa using hS
    rw[e1,cond_false]
    refine⟨_,rfl,[],by simp,by simpa using hd,λK=> ?_⟩
    simp only[List.not_mem_nil,false_iff]
    intro h
    have hK:K=C:=by
     refine h.ok.1.ext hB.c.1 (λv _=> ?_)
     rw[Bool.eq_iff_iff]
     refine⟨λhv=> ?_,h.sup v⟩
     rcases h.sub v hv with h|h
     ·exact h
     ·rw[Ba] at h;cases h
    subst hK
    apply hS
    rw[hB.s.1.eq_zero]
    intro w hw
    cases hc:has S w
    ·rfl
    ·have hwn:=hB.s.2 w hc
     have hcn:=(hB.cn w hwn).1 (.inr hc)
     have hKw:has K w=false:=by
      cases hk:has K w
      ·rfl
      ·have:=hcn w hk
       rw[hF.irr w hwn] at this;cases this
     obtain⟨u,h1,h2⟩:=h.mx.2 w hwn hKw
     rw[hcn u h1] at h2;cases h2
  ·have e1:(O==0)=false:=by simpa using hO
   rw[e1,cond_false,Cy O hB.o.1,bs]
   have hel:=Bh O
   refine AU (λst=>∃i:Nat,st.2.2.2=(i:Int)∧i≤(Am O).length∧VS st.1∧VS st.2.1∧(∀w:Nat,has st.1 w=(has O w&&decide ((w:Int)∉(Am O).take i)))∧(∀w:Nat,has st.2.1 w=(has S w||decide ((w:Int)∈(Am O).take i)))∧
     ∃R,st.2.2.1=x4++R∧(x4++R).Nodup∧∀K,K∈R↔Tgt F n C O K∧∃w:Nat,(w:Int)∈(Am O).take i∧has K w=true) (λst=>(Am O).length-st.2.2.2.toNat)
    (λr=>∃R,r=x4++R∧(x4++R).Nodup∧∀K,K∈R↔Tgt F n C O K) ?_ ⟨0,rfl,by omega,hB.o.1,hB.s.1,λw=>by simp,λw=>by simp,[],by simp,by simpa using hd,λK=>by simp⟩ (λr hr=>⟨r,rfl,hr⟩)
   rintro⟨o,s,acc,_⟩ ⟨i,rfl,hil,ho,hs,hho,hhs,R,rfl,hRn,hR⟩
   dsimp only at ho hs hho hhs hRn hR ⊢
   by_cases hlt:i<(Am O).length
   ·obtain⟨v,hv32,hv1,hv2⟩:=mem_elems.1 (List.getElem_mem hlt)
    have hvn:=hB.o.2 v hv1
    have hvC:=hB.notin hF hv1
    have htk:∀w:Nat,((w:Int)∈(Am O).take (i+1))↔((w:Int)∈(Am O).take i∨w=v):=λw=>by
     rw[List.take_succ_eq_append_getElem hlt,List.mem_append,hv2];simp[Int.natCast_inj]
    have hvt:(v:Int)∉(Am O).take i:=by rw[←hv2];exact nodup_iff.1 (Bf O).nodup i hlt
    have hle:∀w:Nat,(w:Int)∈(Am O).take i→has O w=true:=λw hw=>(AY hB.o.1).1 (List.mem_of_mem_take hw)
    simp only[dlt hlt,cond_true,Aw hlt,hv2,bs,Cn,idx_F hF hvn]
    have hC':∀w,has (ior .u32 C (ishl .u32 1 (v:Int))) w=(has C w||decide (w=v)):=λw=>by rw[Bu hB.c.1 (VS.ishl _ _),Bg hv32]
    have hO':∀w,has (iand .u32 o (F.getD v 0)) w=(has o w&&nb F v w):=λw=>B6 ho (hF.vs v hvn) w
    have hS':∀w,has (iand .u32 s (F.getD v 0)) w=(has s w&&nb F v w):=λw=>B6 hs (hF.vs v hvn) w
    have hB':BK F n (ior .u32 C (ishl .u32 1 (v:Int))) (iand .u32 o (F.getD v 0)) (iand .u32 s (F.getD v 0)):=by
     have hcnv:=(hB.cn v hvn).1 (.inl hv1)
     refine⟨⟨VS.ior _ _,λw hw=> ?_⟩,⟨VS.iand _ _,λw hw=> ?_⟩,⟨VS.iand _ _,λw hw=> ?_⟩,λu w hu hw huw=> ?_,λw hw=> ?_,λw hw=> ?_⟩
     ·rw[hC',Bool.or_eq_true,decide_eq_true_eq] at hw
      rcases hw with h|rfl
      ·exact hB.c.2 w h
      ·exact hvn
     ·rw[hO',Bool.and_eq_true] at hw;exact hF.lt v w hvn hw.2
     ·rw[hS',Bool.and_eq_true] at hw;exact hF.lt v w hvn hw.2
     ·rw[hC',Bool.or_eq_true,decide_eq_true_eq] at hu hw
      rcases hu with hu|rfl
      ·rcases hw with hw|rfl
       ·exact hB.cq u w hu hw huw
       ·exact hcnv u hu
      ·rcases hw with hw|rfl
       ·exact hF.sym w u (hB.c.2 w hw) (hcnv w hw)
       ·exact absurd rfl huw
     ·rw[hO',hS',hho,hhs]
      simp only[Bool.and_eq_true,Bool.or_eq_true,decide_eq_true_eq]
      constructor
      ·intro h u hu
       rw[hC',Bool.or_eq_true,decide_eq_true_eq] at hu
       have hos:has O w=true∨has S w=true:=by
        rcases h with⟨⟨h,_⟩,_⟩|⟨h|h,_⟩
        ·exact .inl h
        ·exact .inr h
        ·exact .inl (hle w h)
       have hvw:nb F v w=true:=by rcases h with⟨_,h⟩|⟨_,h⟩<;>exact h
       rcases hu with hu|rfl
       ·exact(hB.cn w hw).1 hos u hu
       ·exact hvw
      ·intro h
       have hvw:nb F v w=true:=h v (by rw[hC'];simp)
       have hos:=(hB.cn w hw).2 (λu hu=>h u (by rw[hC',hu];rfl))
       by_cases hm:(w:Int)∈(Am O).take i
       ·exact .inr ⟨.inr hm,hvw⟩
       ·rcases hos with hos|hos
        ·exact .inl ⟨⟨hos,hm⟩,hvw⟩
        ·exact .inr ⟨.inl hos,hvw⟩
     ·rw[hO',hho] at hw
      simp only[Bool.and_eq_true,decide_eq_true_eq] at hw
      rw[hS',hhs,hB.dis w hw.1.1,decide_eq_false hw.1.2];rfl
    have hfu:(Am (iand .u32 o (F.getD v 0))).length<fuel:=by
     have h1:((v:Int)::Am (iand .u32 o (F.getD v 0))).length≤(Am O).length:=by
      refine BE (List.nodup_cons.2 ⟨λhc=> ?_,(Bf _).nodup⟩) (λx hx=> ?_)
      ·rw[AY (VS.iand _ _),hO',hF.irr v hvn] at hc;simp at hc
      ·rcases List.mem_cons.1 hx with rfl|hx
       ·exact(AY hB.o.1).2 hv1
       ·obtain⟨w,_,h2,rfl⟩:=mem_elems.1 hx
        rw[hO',hho] at h2
        simp only[Bool.and_eq_true] at h2
        exact(AY hB.o.1).2 h2.1.1
     rw[List.length_cons] at h1;omega
    have hsubT:∀K,Tgt F n (ior .u32 C (ishl .u32 1 (v:Int))) (iand .u32 o (F.getD v 0)) K→Tgt F n C O K∧has K v=true∧∀w:Nat,(w:Int)∈(Am O).take i→has K w=false:=λK hK=>by
     refine⟨⟨hK.ok,hK.mx,λw hw=>hK.sup w (by rw[hC',hw];rfl),λw hw=> ?_⟩,hK.sup v (by rw[hC'];simp),λw hw=> ?_⟩
     ·rcases hK.sub w hw with h|h
      ·rw[hC',Bool.or_eq_true,decide_eq_true_eq] at h
       rcases h with h|rfl
       ·exact .inl h
       ·exact .inr hv1
      ·rw[hO',hho] at h
       simp only[Bool.and_eq_true] at h
       exact .inr h.1.1
     ·cases hk:has K w
      ·rfl
      ·exfalso
       rcases hK.sub w hk with h|h
       ·rw[hC',Bool.or_eq_true,decide_eq_true_eq] at h
        rcases h with h|rfl
        ·rw[hB.notin hF (hle w hw)] at h;cases h
        ·exact hvt hw
       ·rw[hO',hho] at h
        simp only[Bool.and_eq_true,decide_eq_true_eq] at h
        exact h.1.2 hw
    have hRi:∀K∈x4++R,In n K:=λK hK=>by
     rcases List.mem_append.1 hK with h|h
     ·exact hi K h
     ·exact((hR K).1 h).1.ok
    obtain⟨y,e2,R2,rfl,hn2,hm2⟩:=grow_ok hn hF fuel _ _ _ (x4++R) hfu hB' hRn hRi (λK hK hT=>by
     obtain⟨k1,k2,k3⟩:=hsubT K hT
     rcases List.mem_append.1 hK with h|h
     ·exact ht K h k1
     ·obtain⟨_,w,hw1,hw2⟩:=(hR K).1 h
      rw[k3 w hw1] at hw2;cases hw2)
    rw[e2,bs,wq i]
    refine⟨_,rfl,⟨i+1,rfl,by omega,VS.iandNot _ _,VS.ior _ _,λw=> ?_,λw=> ?_,R++R2,by rw[List.append_assoc],by rw[←List.append_assoc];exact hn2,λK=> ?_⟩,by dsimp only;omega⟩
    ·dsimp only
     rw[A6 ho (VS.ishl _ _),Bg hv32,hho]
     have:decide ((w:Int)∉(Am O).take (i+1))=(decide ((w:Int)∉(Am O).take i)&& !decide (w=v)):=by
      rw[Bool.eq_iff_iff];simp only[decide_eq_true_eq,Bool.and_eq_true,Bool.not_eq_true',decide_eq_false_iff_not,htk,not_or]
     rw[this,Bool.and_assoc]
    ·dsimp only
     rw[Bu hs (VS.ishl _ _),Bg hv32,hhs]
     have:decide ((w:Int)∈(Am O).take (i+1))=(decide ((w:Int)∈(Am O).take i)||decide (w=v)):=by
      rw[Bool.eq_iff_iff];simp only[decide_eq_true_eq,Bool.or_eq_true,htk]
     rw[this,Bool.or_assoc]
    ·rw[List.mem_append,hR,hm2]
     constructor
     ·rintro(⟨h1,w,hw1,hw2⟩|h)
      ·exact⟨h1,w,(htk w).2 (.inl hw1),hw2⟩
      ·obtain⟨k1,k2,_⟩:=hsubT K h
       exact⟨k1,v,(htk v).2 (.inr rfl),k2⟩
     ·rintro⟨h1,w,hw1,hw2⟩
      by_cases hex:∃w:Nat,(w:Int)∈(Am O).take i∧has K w=true
      ·exact .inl ⟨h1,hex⟩
      ·right
       have hno:∀w:Nat,(w:Int)∈(Am O).take i→has K w=false:=λw hw=>by
        cases hk:has K w
        ·rfl
        ·exact absurd ⟨w,hw,hk⟩ hex
       have hKv:has K v=true:=by
        rcases(htk w).1 hw1 with h|rfl
        ·rw[hno w h] at hw2;cases hw2
        ·exact hw2
       refine⟨h1.ok,h1.mx,λu hu=> ?_,λu hu=> ?_⟩
       ·rw[hC',Bool.or_eq_true,decide_eq_true_eq] at hu
        rcases hu with hu|rfl
        ·exact h1.sup u hu
        ·exact hKv
       ·rw[hC',hO',hho]
        simp only[Bool.or_eq_true,Bool.and_eq_true,decide_eq_true_eq]
        by_cases huv:u=v
        ·exact .inl (.inr huv)
        ·rcases h1.sub u hu with h|h
         ·exact .inl (.inl h)
         ·refine .inr ⟨⟨h,λhm=> ?_⟩,h1.mx.1 v u hKv hu (λe=>huv e.symm)⟩
          rw[hno u hm] at hu;cases hu
   ·obtain rfl:i=(Am O).length:=by omega
    simp only[Bm,cond_false]
    refine⟨_,rfl,R,rfl,hRn,λK=> ?_⟩
    rw[hR,List.take_length]
    constructor
    ·exact λh=>h.1
    ·intro h
     refine⟨h,?_⟩
     obtain⟨b,hb32,hb1,hb2,_⟩:=least_spec hB.o.1 hO
     have hbn:=hB.o.2 b hb1
     apply Classical.byContradiction
     intro hne
     have hKC:∀w,has K w=true→has C w=true:=λw hw=>by
      rcases h.sub w hw with h|h
      ·exact h
      ·exact absurd ⟨w,(AY hB.o.1).2 h,hw⟩ hne
     have hKb:has K b=false:=by
      cases hk:has K b
      ·rfl
      ·have:=hB.notin hF hb1
       rw[hKC b hk] at this;cases this
     obtain⟨u,h1,h2⟩:=h.mx.2 b hbn hKb
     have:=(hB.cn b hbn).1 (.inl hb1) u (hKC u h1)
     rw[this] at h2;cases h2
theorem C2 :33≤Bn:=by have:=Eg;omega
theorem cliquesOf_ok {F:LI}{n:Nat}(h1:1≤n)(hn:n≤16)(hF:FOk F n):∃l,D.v F=some l∧l.Pairwise (λa b=>lkey a<lkey b)∧∀K,K∈l↔In n K∧MX F n K:=by
 have hlen:=hF.len
 unfold D.v D.l
 rw[nets_all_full,bs,hlen]
 have hel:=Bh (full n)
 have h33:=C2
 obtain⟨y,e,R,hy,hd,hR⟩:=grow_ok hn hF Bn 0 (full n) 0 [] (by omega) ⟨⟨VS.zero,λw hw=>by rw[Ba] at hw;cases hw⟩,⟨CD n,λw hw=>by rw[BA hn] at hw;exact of_decide_eq_true hw⟩,⟨VS.zero,λw hw=>by rw[Ba] at hw;cases hw⟩,
  λu w hu=>(by rw[Ba] at hu;cases hu),λw hw=>⟨λ_ u hu=>(by rw[Ba] at hu;cases hu),λ_=> .inl (by rw[BA hn];exact decide_eq_true hw)⟩,λw _=>Ba w⟩ (by simp) (by simp) (by simp)
 rw[List.nil_append] at hd hy
 subst hy
 have hT:∀K,Tgt F n 0 (full n) K↔In n K∧MX F n K:=λK=>⟨λh=>⟨h.ok,h.mx⟩,fun⟨h1,h2⟩=>⟨h1,h2,λw hw=>(by rw[Ba] at hw;cases hw),λw hw=> .inr (by rw[BA hn];exact decide_eq_true (h1.2 w hw))⟩⟩
 rw[e,bs,CM]
 obtain⟨l',e2,hp,hs⟩:=sorted_rise byLex (λx y=>lkey_inj) y (λK hK=>((hT K).1 ((hR K).1 hK)).1.1) hd (by
  have:=Dn hn (λK hK=>((hT K).1 ((hR K).1 hK)).1) hd
  omega)
 refine⟨l',by rw[show DG.Sort D.a y=some l' from e2];rfl,hs,λK=> ?_⟩
 rw[hp.mem_iff,hR,hT]
theorem rise_nodup {k:Int→Int}{l:LI}(h:l.Pairwise (λa b=>k a<k b)):l.Nodup:=List.Pairwise.imp (λh e=>by subst e;omega) h
def Dw {α:Type}(b:LI)(P:α→Prop)(e:Option (α×LI×Int×Int)):Prop:=∃y,e=some y∧(P y.1∧y.2.1=b∧DK b y.2.2.1)
theorem Dw.then {α β:Type}{b:LI}{P:α→Prop}{e:Option (α×LI×Int×Int)}{k:α×LI×Int×Int→Option β}{Q:β→Prop}(h:Dw b P e)
  (hk:∀a i z,P a→DK b i→∃y,k (a,b,i,z)=some y∧Q y):∃y,e.bind k=some y∧Q y:=by
 obtain⟨⟨a,b',i,z⟩,rfl,h1,h2,h3⟩:=h
 dsimp only at h1 h2 h3
 subst h2
 exact hk a i z h1 h3
def Few (g:LL):Prop:=g.length≤17∧∀r∈g,r.length≤17
theorem Few.sh2 {g:LL}(h:Few g):Sh2 g:=⟨by have:=h.1;unfold Sh;omega,λr hr=>by have:=h.2 r hr;unfold Sh;omega⟩
theorem Few.set {g:LL}(h:Few g)(k:Nat){r:LI}(hr:r.length≤17):Few (g.set k r):=by
 refine⟨by have:=h.1;simpa using this,λx hx=> ?_⟩
 rcases List.mem_or_eq_of_mem_set hx with hx|rfl
 ·exact h.2 x hx
 ·exact hr
theorem elems_mk {n:Nat}{x:LI}(hn:n≤16)(hi:Inc x)(hr:∀z∈x,0≤z∧z<n):Am (mk x)=x:=by
 have h32:∀z∈x,0≤z∧z<32:=λz hz=>by have:=hr z hz;omega
 refine Inc.ext (Bf _) hi (λz=> ?_)
 rw[mem_elems]
 constructor
 ·rintro⟨v,_,h,rfl⟩
  rw[CK h32] at h
  exact of_decide_eq_true h
 ·intro hz
  have:=h32 z hz
  refine⟨z.toNat,by omega,?_,by omega⟩
  rw[CK h32,show ((z.toNat:Nat):Int)=z by omega]
  exact decide_eq_true hz
theorem cz_app :∀s a b:LI,cz (s++a) (s++b)=cz a b
 |[],_,_=>rfl
 |c::s,a,b=>by
  rw[List.cons_append,List.cons_append,cz,if_neg (by omega),if_neg (by omega),cz_app s a b]
theorem cz_head {a b:Int}(x y:LI)(h:a<b):cz (a::x) (b::y)<0:=by
 rw[cz,if_pos h];decide
theorem cz_nodup {L:LL}(h:L.Pairwise λa b=>cz a b<0):L.Nodup:=List.Pairwise.imp (λh e=>by
 subst e
 rw[(cz_zero _ _).2 rfl] at h;omega) h
def Cq (g:LL)(x:LI):Prop:=∀u w:Nat,(u:Int)∈x→(w:Int)∈x→u≠w→adj g u w
structure Fin' (g:LL)(x:LI):Prop where
 inc:Inc x
 rng:∀z∈x,0≤z∧z<g.length
 cq:Cq g x
 mx:∀w,w<g.length→∃u:Nat,(u:Int)∈x∧¬adj g u w
def Sol (g:LL)(set left x:LI):Prop:=∃y,x=set++y∧(∀z∈y,z∈left)∧Fin' g x
structure SK (g:LL)(set left out:LI):Prop where
 inc:Inc (set++left)
 r1:∀z∈set++left,0≤z∧z<g.length
 r2:∀z∈out,0≤z∧z<g.length
 cq:Cq g set
 cn:∀w:Nat,w<g.length→(((w:Int)∈left∨(w:Int)∈out)↔∀u:Nat,(u:Int)∈set→adj g u w)
 len:out.length+left.length≤16
theorem inc_len {n:Nat}{x:LI}(hi:Inc x)(hr:∀z∈x,0≤z∧z<n):x.length≤n:=by
 have:=BE (m:=(List.range n).map Int.ofNat) hi.nodup (λz hz=>by
  have:=hr z hz
  exact List.mem_map.2 ⟨z.toNat,List.mem_range.2 (by omega),by show ((z.toNat:Nat):Int)=z;omega⟩)
 simpa using this
theorem sols_len {g:LL}(hn:g.length≤16){L:LL}(h:∀x∈L,Fin' g x)(hp:L.Pairwise λa b=>cz a b<0):L.length≤65536:=by
 have h1:(L.map mk).Nodup:=by
  unfold List.Nodup
  rw[List.pairwise_map]
  refine List.Pairwise.imp_of_mem (fun{a b} ha hb hab e=>hab ?_) (cz_nodup hp)
  rw[←elems_mk hn (h a ha).inc (h a ha).rng,←elems_mk hn (h b hb).inc (h b hb).rng,e]
 have h2:=Dn (n:=g.length) (l:=L.map mk) hn (λK hK=>by
  obtain⟨x,hx,rfl⟩:=List.mem_map.1 hK
  refine⟨VS.mk _,λw hw=> ?_⟩
  rw[CK (λz hz=>by have:=(h x hx).rng z hz;omega)] at hw
  have:=(h x hx).rng _ (of_decide_eq_true hw)
  omega) h1
 simpa using h2
theorem SK.next {g:LL}(hg:GOk g){set left out:LI}(h:SK g set left out){i v:Nat}(hi:i<left.length)(hv:left[i]=(v:Int)):
  SK g (set++[(v:Int)]) ((left.drop (i+1)).filter λx=>decide (x∈row g v)) ((out++left.take i).filter λx=>decide (x∈row g v))∧
  (∀x,Sol g (set++[(v:Int)]) ((left.drop (i+1)).filter λx=>decide (x∈row g v)) x↔∃y,x=set++(v:Int)::y∧(∀z∈y,z∈left)∧Fin' g x):=by
 have hvm:(v:Int)∈left:=by rw[←hv];exact List.getElem_mem hi
 have hvr:=h.r1 _ (List.mem_append.2 (.inr hvm))
 have hvn:v<g.length:=by omega
 have hinc:=List.pairwise_append.1 h.inc
 have hsplit:left=left.take i++(v:Int)::left.drop (i+1):=by
  rw[←hv,List.getElem_cons_drop,List.take_append_drop]
 have hdrop:∀z,z∈left.drop (i+1)↔z∈left∧(v:Int)<z:=λz=>by
  have h2:=hinc.2.1
  rw[hsplit] at h2
  have h3:=List.pairwise_append.1 h2
  have h4:=List.pairwise_cons.1 h3.2.1
  constructor
  ·intro hz
   exact⟨List.mem_of_mem_drop hz,h4.1 z hz⟩
  ·rintro⟨h5,h6⟩
   rw[hsplit] at h5
   rcases List.mem_append.1 h5 with h5|h5
   ·have:=h3.2.2 z h5 (v:Int) (by simp);omega
   ·rcases List.mem_cons.1 h5 with rfl|h5
    ·omega
    ·exact h5
 refine⟨⟨?_,?_,?_,?_,?_,?_⟩,λx=> ?_⟩
 ·rw[List.append_assoc]
  refine List.pairwise_append.2 ⟨hinc.1,?_,λa ha b hb=> ?_⟩
  ·rw[List.singleton_append]
   refine List.pairwise_cons.2 ⟨λz hz=>((hdrop z).1 (List.mem_filter.1 hz).1).2,?_⟩
   exact List.Pairwise.filter _ (List.Pairwise.sublist (List.drop_sublist _ _) hinc.2.1)
  ·refine hinc.2.2 a ha b ?_
   rw[List.singleton_append] at hb
   rcases List.mem_cons.1 hb with rfl|hb
   ·exact hvm
   ·exact((hdrop b).1 (List.mem_filter.1 hb).1).1
 ·intro z hz
  rcases List.mem_append.1 hz with hz|hz
  ·rcases List.mem_append.1 hz with hz|hz
   ·exact h.r1 z (List.mem_append.2 (.inl hz))
   ·simp at hz;subst hz;exact hvr
  ·exact h.r1 z (List.mem_append.2 (.inr ((hdrop z).1 (List.mem_filter.1 hz).1).1))
 ·intro z hz
  rcases List.mem_append.1 (List.mem_filter.1 hz).1 with hz|hz
  ·exact h.r2 z hz
  ·exact h.r1 z (List.mem_append.2 (.inr (List.mem_of_mem_take hz)))
 ·intro u w hu hw hne
  have key:∀a:Nat,(a:Int)∈set→adj g a v:=λa ha=>(h.cn v hvn).1 (.inl hvm) a ha
  rcases List.mem_append.1 hu with hu1|hu1<;>rcases List.mem_append.1 hw with hw1|hw1
  ·exact h.cq u w hu1 hw1 hne
  ·have e:w=v:=by simp at hw1;omega
   rw[e];exact key u hu1
  ·have e:u=v:=by simp at hu1;omega
   rw[e]
   have:=h.r1 _ (List.mem_append.2 (.inl hw1))
   exact hg.sym w v (by omega) (key w hw1)
  ·simp at hu1 hw1;omega
 ·intro w hw
  have h1:=h.cn w hw
  have hself:(w:Int)∈row g v→w≠v:=λha e=>by subst e;exact hg.irr w hw ha
  constructor
  ·intro hm u hu
   have hm':((w:Int)∈left∨(w:Int)∈out)∧(w:Int)∈row g v:=by
    rcases hm with hm|hm
    ·obtain⟨a1,a2⟩:=List.mem_filter.1 hm
     exact⟨.inl ((hdrop _).1 a1).1,of_decide_eq_true a2⟩
    ·obtain⟨a1,a2⟩:=List.mem_filter.1 hm
     refine⟨?_,of_decide_eq_true a2⟩
     rcases List.mem_append.1 a1 with a1|a1
     ·exact .inr a1
     ·exact .inl (List.mem_of_mem_take a1)
   rcases List.mem_append.1 hu with hu|hu
   ·exact h1.1 hm'.1 u hu
   ·have:u=v:=by simp at hu;omega
    subst this;exact hm'.2
  ·intro hA
   have hav:(w:Int)∈row g v:=hA v (by simp)
   have hne:=hself hav
   rcases h1.2 (λu hu=>hA u (List.mem_append.2 (.inl hu))) with hm|hm
   ·rw[hsplit] at hm
    rcases List.mem_append.1 hm with hm|hm
    ·exact .inr (List.mem_filter.2 ⟨List.mem_append.2 (.inr hm),decide_eq_true hav⟩)
    ·rcases List.mem_cons.1 hm with hm|hm
     ·omega
     ·exact .inl (List.mem_filter.2 ⟨hm,decide_eq_true hav⟩)
   ·exact .inr (List.mem_filter.2 ⟨List.mem_append.2 (.inl hm),decide_eq_true hav⟩)
 ·have a1:((left.drop (i+1)).filter λx=>decide (x∈row g v)).length≤(left.drop (i+1)).length:=List.length_filter_le _ _
  have a2:((out++left.take i).filter λx=>decide (x∈row g v)).length≤(out++left.take i).length:=List.length_filter_le _ _
  have:=h.len
  simp only[List.length_drop,List.length_append,List.length_take] at a1 a2
  omega
 ·constructor
  ·rintro⟨y,rfl,hy,hf⟩
   exact⟨y,by simp,λz hz=>((hdrop z).1 (List.mem_filter.1 (hy z hz)).1).1,hf⟩
  ·rintro⟨y,rfl,hy,hf⟩
   refine⟨y,by simp,λz hz=> ?_,hf⟩
   have hz2:=hf.rng z (by simp[hz])
   have h6:=(List.pairwise_cons.1 (List.pairwise_append.1 hf.inc).2.1).1 z hz
   refine List.mem_filter.2 ⟨(hdrop z).2 ⟨hy z hz,h6⟩,decide_eq_true ?_⟩
   have:=hf.cq v z.toNat (by simp) (by rw[show ((z.toNat:Nat):Int)=z by omega];simp[hz]) (by omega)
   unfold adj at this
   rwa [show ((z.toNat:Nat):Int)=z by omega] at this
theorem l8R_ok {g:LL}(hg:GOk g):∀(fuel:Nat) (set left out:LI),left.length<fuel→SK g set left out→
  ∃L,D.O fuel g set left out=some L∧(∀x,x∈L↔Sol g set left x)∧L.Pairwise λa b=>cz a b<0
 |0,_,left,_,h,_=>by omega
 |fuel+1,set,left,out,hfu,h=>by
  have h16:=hg.n16
  unfold D.O
  have hsl:=inc_len (n:=g.length) h.inc h.r1
  rw[List.length_append] at hsl
  have hol:=h.len
  by_cases hb:left=[]∧out=[]
  ·obtain⟨rfl,rfl⟩:=hb
   refine⟨[set],rfl,λx=> ?_,by simp⟩
   rw[List.mem_singleton]
   have hf:Fin' g set:=by
    refine⟨by have:=h.inc;rwa [List.append_nil] at this,λz hz=>h.r1 z (by simp[hz]),h.cq,λw hw=> ?_⟩
    apply Classical.byContradiction
    intro hc
    have:=(h.cn w hw).2 (λu hu=>Classical.byContradiction λhn=>hc ⟨u,hu,hn⟩)
    simp at this
   constructor
   ·rintro rfl;exact⟨[],by simp,by simp,hf⟩
   ·rintro⟨y,rfl,hy,_⟩
    cases y with
    |nil=>simp
    |cons z y=>have:=hy z (by simp);simp at this
  ·have e0:(((left.length:Int)==0)&&((out.length:Int)==0))=false:=by
    rw[Bool.eq_false_iff]
    intro hc
    simp only[Bool.and_eq_true,beq_iff_eq] at hc
    exact hb ⟨List.length_eq_zero_iff.1 (by omega),List.length_eq_zero_iff.1 (by omega)⟩
   rw[e0,cond_false]
   have hnot:∀x,Sol g set left x↔∃j,∃hj:j<left.length,∃y,x=set++left[j]::y∧(∀z∈y,z∈left)∧Fin' g x:=λx=>by
    constructor
    ·rintro⟨y,rfl,hy,hf⟩
     cases y with
     |nil=>
      exfalso
      have hex:∃w:Nat,w<g.length∧((w:Int)∈left∨(w:Int)∈out):=by
       cases hl:left with
       |cons a l=>
        have:=h.r1 a (by simp[hl])
        exact⟨a.toNat,by omega,.inl (by rw[show ((a.toNat:Nat):Int)=a by omega];simp)⟩
       |nil=>
        cases ho:out with
        |nil=>exact absurd ⟨hl,ho⟩ hb
        |cons a l=>
         have:=h.r2 a (by simp[ho])
         exact⟨a.toNat,by omega,.inr (by rw[show ((a.toNat:Nat):Int)=a by omega];simp)⟩
      obtain⟨w,hw,hm⟩:=hex
      obtain⟨u,hu,hn⟩:=hf.mx w hw
      rw[List.append_nil] at hu
      exact hn ((h.cn w hw).1 hm u hu)
     |cons z y=>
      obtain⟨j,hj,e⟩:=List.getElem_of_mem (hy z (by simp))
      exact⟨j,hj,y,by rw[e],λt ht=>hy t (by simp[ht]),hf⟩
    ·rintro⟨j,hj,y,rfl,hy,hf⟩
     refine⟨_,rfl,λz hz=> ?_,hf⟩
     rcases List.mem_cons.1 hz with rfl|hz
     ·exact List.getElem_mem hj
     ·exact hy z hz
   refine AU (λs=>∃i:Nat,s.2=(i:Int)∧i≤left.length∧(∀x,x∈s.1↔∃j,∃hj:j<left.length,j<i∧∃y,x=set++left[j]::y∧(∀z∈y,z∈left)∧Fin' g x)∧s.1.Pairwise λa b=>cz a b<0)
    (λs=>left.length-s.2.toNat) (λL=>(∀x,x∈L↔Sol g set left x)∧L.Pairwise λa b=>cz a b<0) ?_ ⟨0,rfl,by omega,λx=>⟨λhx=>by simp at hx,fun⟨j,_,hj,_⟩=>by omega⟩,by simp⟩ (λL hL=>⟨L,rfl,hL⟩)
   rintro⟨fd,_⟩ ⟨i,rfl,hi,hfd,hpw⟩
   dsimp only at hfd hpw ⊢
   by_cases hil:i<left.length
   ·have hr:=h.r1 _ (List.mem_append.2 (.inr (List.getElem_mem hil)))
    obtain⟨v,hv⟩:∃v:Nat,left[i]=(v:Int):=⟨left[i].toNat,by omega⟩
    have hvn:v<g.length:=by omega
    obtain⟨hsk,hsol⟩:=h.next hg hil hv
    have hdl:((left.drop (i+1)).filter λx=>decide (x∈row g v)).length≤(left.drop (i+1)).length:=List.length_filter_le _ _
    rw[List.length_drop] at hdl
    obtain⟨L,e1,hL,hLp⟩:=l8R_ok hg fuel _ _ _ (by omega) hsk
    have hrow:=hg.row_len hvn
    have hS:∀l:LI,l.length≤64→Sh l:=λl hl=>by unfold Sh;omega
    have c1:D.p set=some set:=l1Copy_eq _ (hS _ (by omega))
    have c2:D.p out=some out:=l1Copy_eq _ (hS _ (by omega))
    have c3:AM set [(v:Int)]=some (set++[(v:Int)]):=Bi (by simp;omega)
    have c4:AM out (left.take i)=some (out++left.take i):=Bi (by simp;omega)
    have c5:=l8Meet_eq (left.drop (i+1)) (row g v) (hS _ (by simp;omega)) (hS _ (by omega))
    have c6:=l8Meet_eq (out++left.take i) (row g v) (hS _ (by simp;omega)) (hS _ (by omega))
    have hfdF:∀x∈fd,Fin' g x:=λx hx=>by
     obtain⟨_,_,_,_,_,_,hf⟩:=(hfd x).1 hx
     exact hf
    have hLF:∀x∈L,Fin' g x:=λx hx=>by
     obtain⟨_,_,_,hf⟩:=(hL x).1 hx
     exact hf
    have n1:=sols_len h16 hfdF hpw
    have n2:=sols_len h16 hLF hLp
    have c7:AM fd L=some (fd++L):=Bi (by omega)
    simp only[dlt hil,cond_true,Aw hil,hv,bs,wq i,sliceD_post (show i+1≤left.length by omega),sliceD_pre (show i≤left.length by omega),BR hvn,c1,c2,c3,c4,c5,c6,e1,c7]
    refine⟨_,rfl,⟨i+1,rfl,by omega,λx=> ?_,?_⟩,by dsimp only;omega⟩
    ·dsimp only
     rw[List.mem_append,hfd,hL,hsol]
     constructor
     ·rintro(⟨j,hj,hji,hx⟩|hx)
      ·exact⟨j,hj,by omega,hx⟩
      ·exact⟨i,hil,by omega,by rw[hv];exact hx⟩
     ·rintro⟨j,hj,hji,hx⟩
      by_cases he:j=i
      ·subst he
       rw[hv] at hx
       exact .inr hx
      ·exact .inl ⟨j,hj,by omega,hx⟩
    ·dsimp only
     refine List.pairwise_append.2 ⟨hpw,hLp,λa ha b hb'=> ?_⟩
     obtain⟨j,hj,hji,y,rfl,_⟩:=(hfd a).1 ha
     obtain⟨y',rfl,_⟩:=(hsol b).1 ((hL b).1 hb')
     rw[cz_app]
     refine cz_head _ _ ?_
     rw[←hv]
     exact List.pairwise_iff_getElem.1 (List.pairwise_append.1 h.inc).2.1 j i hj hil hji
   ·obtain rfl:i=left.length:=by omega
    simp only[Bm,cond_false]
    refine⟨_,rfl,λx=> ?_,hpw⟩
    rw[hfd,hnot]
    exact⟨fun⟨j,hj,_,hx⟩=>⟨j,hj,hx⟩,fun⟨j,hj,hx⟩=>⟨j,hj,hj,hx⟩⟩
theorem fin_mx {g:LL}(hg:GOk g){x:LI}(h:Fin' g x):In g.length (mk x)∧MX (g.map mk) g.length (mk x):=by
 have h16:=hg.n16
 have hm:∀w:Nat,has (mk x) w=true↔(w:Int)∈x:=λw=>by
  rw[CK (λz hz=>by have:=h.rng z hz;omega)];simp
 have hl:∀w:Nat,(w:Int)∈x→w<g.length:=λw hw=>by have:=h.rng _ hw;omega
 refine⟨⟨VS.mk _,λw hw=>hl w ((hm w).1 hw)⟩,λu w hu hw hne=> ?_,λw hw _=> ?_⟩
 ·exact(B9 hg (hl u ((hm u).1 hu))).2 (h.cq u w ((hm u).1 hu) ((hm w).1 hw) hne)
 ·obtain⟨u,hu,hn⟩:=h.mx w hw
  refine⟨u,(hm u).2 hu,?_⟩
  rw[Bool.eq_false_iff]
  intro hc
  exact hn ((B9 hg (hl u hu)).1 hc)
theorem mx_fin {g:LL}(hg:GOk g){K:Int}(hI:In g.length K)(h:MX (g.map mk) g.length K):Fin' g (Am K):=by
 have hm:∀w:Nat,(w:Int)∈Am K↔has K w=true:=λw=>AY hI.1
 refine⟨Bf _,λz hz=> ?_,λu w hu hw hne=> ?_,λw hw=> ?_⟩
 ·obtain⟨v,_,h2,rfl⟩:=mem_elems.1 hz
  have:=hI.2 v h2
  omega
 ·have hu':=(hm u).1 hu
  exact(B9 hg (hI.2 u hu')).1 (h.1 u w hu' ((hm w).1 hw) hne)
 ·cases hc:has K w
  ·obtain⟨u,hu,hn⟩:=h.2 w hw hc
   refine⟨u,(hm u).2 hu,λha=> ?_⟩
   rw[(B9 hg (hI.2 u hu)).2 ha] at hn;cases hn
  ·exact⟨w,(hm w).2 hc,hg.irr w hw⟩
structure GC (g:LL)(l:LI):Prop where
 up:l.Pairwise λa b=>lkey a<lkey b
 mem:∀K,K∈l↔In g.length K∧MX (g.map mk) g.length K
theorem CliquesOf_all {g:LL}(hg:GOk g):∃l,D.v (g.map mk)=some l∧l.length≤65536∧D.b1 g=some (l.map Am)∧D.i0 g=some (l.map Am)∧GC g l:=by
 have h16:=hg.n16
 obtain⟨l,e1,hup,hmem⟩:=cliquesOf_ok hg.n1 h16 (FOk.of hg)
 have hGC:GC g l:=⟨hup,hmem⟩
 have hvs:∀s∈l,VS s:=λs hs=>((hmem s).1 hs).1.1
 have hll:=Dn h16 (λK hK=>((hmem K).1 hK).1) (rise_nodup hup)
 refine⟨l,e1,by omega,?_,?_,hGC⟩
 ·unfold D.b1
  rw[BT g hg.sh2,Co hg,bs,Bool.not_true,cond_false,CZ g hg,bs,e1,bs,results_eq l (by unfold Sh;omega) hvs];rfl
 ·unfold D.i0 D.d D.i
  rw[BS g hg.sh2,Co hg,bs,Bool.not_true,cond_false,bs,l1All_eq g.length (by omega),bs]
  have hrg:∀z,z∈(List.range g.length).map Int.ofNat↔0≤z∧z<g.length:=λz=>by
   rw[List.mem_map]
   constructor
   ·rintro⟨v,hv,rfl⟩
    have:=List.mem_range.1 hv
    exact⟨Int.natCast_nonneg v,by show (v:Int)<_;omega⟩
   ·intro h
    exact⟨z.toNat,List.mem_range.2 (by omega),by show ((z.toNat:Nat):Int)=z;omega⟩
  have hinc:Inc ((List.range g.length).map Int.ofNat):=by
   unfold Inc
   rw[List.pairwise_map]
   exact List.Pairwise.imp (fun{a b} h=>by show (a:Int)<(b:Int);omega) List.pairwise_lt_range
  have h33:=C2
  obtain⟨L,e2,hL,hLp⟩:=l8R_ok hg Bn [] ((List.range g.length).map Int.ofNat) [] (by simp;omega) ⟨hinc,λz hz=>(hrg z).1 hz,by simp,λu w hu=>by simp at hu,λw hw=>⟨λ_ u hu=>by simp at hu,λ_=> .inl ((hrg _).2 (by omega))⟩,by simp;omega⟩
  have hLF:∀x,x∈L↔Fin' g x:=λx=>by
   rw[hL]
   constructor
   ·rintro⟨y,rfl,_,hf⟩;exact hf
   ·intro hf
    exact⟨x,rfl,λz hz=>(hrg z).2 (hf.rng z hz),hf⟩
  have hem:∀x∈L,Am (mk x)=x:=λx hx=>elems_mk h16 ((hLF x).1 hx).inc ((hLF x).1 hx).rng
  have hLm:L.map mk=l:=by
   refine Ec (k:=lkey) ?_ hup (λK=> ?_)
   ·rw[List.pairwise_map]
    refine List.Pairwise.imp_of_mem (fun{a b} ha hb hab=> ?_) hLp
    have fa:=(hLF a).1 ha;have fb:=(hLF b).1 hb
    have la:=inc_len fa.inc fa.rng;have lb:=inc_len fb.inc fb.rng
    unfold lkey
    rw[hem a ha,hem b hb]
    exact(lk_cmp 32 a b (by omega) (by omega) (λz hz=>by have:=fa.rng z hz;omega) (λz hz=>by have:=fb.rng z hz;omega)).1 hab
   ·rw[List.mem_map,hmem]
    constructor
    ·rintro⟨x,hx,rfl⟩
     exact fin_mx hg ((hLF x).1 hx)
    ·rintro⟨hI,hM⟩
     exact⟨Am K,(hLF _).2 (mx_fin hg hI hM),mk_elems hI.1⟩
  have hLe:L=l.map Am:=by
   rw[←hLm,List.map_map]
   have:L.map (Am∘mk)=L.map id:=List.map_congr_left (λx hx=>hem x hx)
   rw[this,List.map_id]
  rw[e2,bs,bs,hLe]
def BJ (f:Int→Nat):LI→Nat
 |[]=>0
 |x::l=>f x+BJ f l
theorem isum_app (f:Int→Nat):∀l l',BJ f (l++l')=BJ f l+BJ f l'
 |[],l'=>by simp[BJ]
 |x::l,l'=>by simp only[List.cons_append,BJ];rw[isum_app f l l'];omega
theorem D2 (f:Int→Nat)(l:LI)(x:Int):BJ f (l++[x])=BJ f l+f x:=by rw[isum_app];simp[BJ]
theorem isum_els (f:Int→Nat)(s:Int):∀n,BJ f (els s n)=Bq (λv=>if has s v then f (v:Int) else 0) n
 |0=>rfl
 |n+1=>by
  rw[els_succ]
  simp only[Bq]
  rw[←isum_els f s n]
  cases has s n
  ·simp
  ·simp only[if_true];rw[D2]
theorem C6 (f:Int→Nat){s:Int}{n:Nat}(hn:n≤32)(h:∀v,has s v=true→v<n):BJ f (Am s)=Bq (λv=>if has s v then f (v:Int) else 0) n:=by
 rw[←els_all hn h,isum_els]
theorem isum_le (f:Int→Nat)(b:Nat):∀(l:LI),(∀x∈l,f x≤b)→BJ f l≤l.length*b
 |[],_=>by simp[BJ]
 |x::l,h=>by
  have h1:=isum_le f b l (λy hy=>h y (List.mem_cons_of_mem _ hy))
  have h2:=h x (by simp)
  simp only[BJ,List.length_cons,Nat.succ_mul]
  omega
theorem sum_bit (c:Bool)(p:Nat→Bool)(n:Nat):Bq (λw=>bit (c&&p w)) n=if c then Bq (λw=>bit (p w)) n else 0:=by
 cases c
 ·simp only[Bool.false_and];exact D4 n
 ·simp
def mis (F:LI)(n:Nat)(S:Int):Nat:=S2 n (λu w=>has S u&&(has S w&&(decide (w<u)&& !nb F w u)))
theorem Dp {F:LI}{n:Nat}{S:Int}(h16:n≤16)(h:FOk F n)(hS:VS S)(hlt:∀v,has S v=true→v<n):D.y F S=some (mis F n S:Int):=by
 have hel:=Bh S
 have hf:∀(S':Int),(Am S').length≤32:=Bh
 have hb:∀i,BJ (λu=>(Am (iandNot .u32 (iandNot .u32 S (F.getD u.toNat 0)) (ishl .u32 1 u))).length) ((Am S).take i)≤1024:=λi=>by
  have:=isum_le (λu=>(Am (iandNot .u32 (iandNot .u32 S (F.getD u.toNat 0)) (ishl .u32 1 u))).length) 32 ((Am S).take i) (λx _=>hf _)
  have h2:((Am S).take i).length≤32:=by rw[List.length_take];omega
  have:=Nat.mul_le_mul_right 32 h2
  omega
 have hsum:BJ (λu=>(Am (iandNot .u32 (iandNot .u32 S (F.getD u.toNat 0)) (ishl .u32 1 u))).length) (Am S)=2*mis F n S:=by
  rw[C6 _ (n:=n) (by omega) hlt]
  have e1:S2 n (λu w=>has S u&&(has S w&&(!nb F u w&&decide (w≠u))))=Bq (λv=>if has S v then(Am (iandNot .u32 (iandNot .u32 S (F.getD v 0)) (ishl .u32 1 (v:Int)))).length else 0) n:=by
   unfold S2
   refine BZ λu hu=> ?_
   rw[sum_bit]
   have hh:∀w,has (iandNot .u32 (iandNot .u32 S (F.getD u 0)) (ishl .u32 1 (u:Int))) w=(has S w&&(!nb F u w&&decide (w≠u))):=λw=>by
    rw[A6 (VS.iandNot _ _) (VS.ishl _ _),A6 hS (h.vs u hu),Bg (by omega)]
    unfold nb
    by_cases e:w=u<;>simp[e]
   rw[elems_sum (n:=n) (by omega) (λv hv=>by rw[hh,Bool.and_eq_true] at hv;exact hlt v hv.1)]
   simp only[hh]
  have e2:(λv:Nat=>if has S v then(λu:Int=>(Am (iandNot .u32 (iandNot .u32 S (F.getD u.toNat 0)) (ishl .u32 1 u))).length) (v:Int) else 0)=(λv:Nat=>if has S v then(Am (iandNot .u32 (iandNot .u32 S (F.getD v 0)) (ishl .u32 1 (v:Int)))).length else 0):=by
   funext v;simp only[Int.toNat_natCast]
  rw[e2,←e1]
  rw[S2_half (n:=n) (A:=λu w=>has S u&&(has S w&&(!nb F u w&&decide (w≠u)))) (lt:=λu w=>decide (w<u)) ?_ ?_ ?_]
  ·congr 1
   unfold mis
   refine S2_congr λu w hu hw=> ?_
   have hsym:nb F u w=nb F w u:=by
    rw[Bool.eq_iff_iff]
    exact⟨h.sym u w hu,h.sym w u hw⟩
   rw[hsym]
   by_cases e:w<u
   ·have:decide (w≠u)=true:=by simp;omega
    simp[e,this]
   ·simp[e]
  ·intro u w hu hw
   have hsym:nb F u w=nb F w u:=by
    rw[Bool.eq_iff_iff]
    exact⟨h.sym u w hu,h.sym w u hw⟩
   rw[hsym]
   by_cases e:w=u
   ·subst e;rfl
   ·have e':¬u=w:=λx=>e x.symm
    cases has S u<;>cases has S w<;>simp[e,e']
  ·intro u w hu hw ha
   simp only[Bool.and_eq_true,decide_eq_true_eq] at ha ⊢
   omega
  ·intro u w hu hw h1 h2
   simp only[decide_eq_true_eq] at h1 h2
   omega
 unfold D.y
 rw[Cy S hS,bs]
 refine(CN (λi=>(((BJ (λu=>(Am (iandNot .u32 (iandNot .u32 S (F.getD u.toNat 0)) (ishl .u32 1 u))).length) ((Am S).take i):Nat):Int),(i:Int))) (Am S).length ((BJ (λu=>(Am (iandNot .u32 (iandNot .u32 S (F.getD u.toNat 0)) (ishl .u32 1 u))).length) (Am S):Nat):Int) (by simp[BJ]) (λi hi=> ?_) ?_).trans ?_
 ·obtain⟨v,_,q1,q2⟩:=mem_elems.1 (List.getElem_mem hi)
  have hb1:=hb i
  have hb2:=hf (iandNot .u32 (iandNot .u32 S (F.getD v 0)) (ishl .u32 1 (v:Int)))
  rw[List.take_succ_eq_append_getElem hi,D2,q2]
  simp only[dlt hi,cond_true,Aw hi,q2,bs,idx_F h (hlt v q1),Cn,size_eq (VS.iandNot _ _),wq i,Int.toNat_natCast]
  rw[w64 (by omega) (by omega)]
  rfl
 ·simp only[Bm,cond_false,List.take_length]
 ·have:=hb (Am S).length
  rw[List.take_length,hsum] at this
  rw[hsum]
  congr 1
  rw[Int.tdiv_eq_ediv_of_nonneg (by omega)]
  have e:((2*mis F n S:Nat):Int)/2=(mis F n S:Int):=by omega
  rw[e,w64 (by omega) (by omega)]
theorem take_less {l:LI}(h:Inc l){i:Nat}(hi:i<l.length)(q:Int→Bool):(l.take i).filter q=l.filter (λy=>decide (y<l[i])&&q y):=by
 have e:=List.take_append_drop i l
 have h1:∀y∈l.take i,y<l[i]:=λy hy=>by
  obtain⟨k,hk,hki,rfl⟩:=mem_take_iff.1 hy
  exact(List.pairwise_iff_getElem.1 h) k i hk hi hki
 have h2:∀y∈l.drop i,¬y<l[i]:=λy hy=>by
  obtain⟨k,hk,rfl⟩:=List.getElem_of_mem hy
  rw[List.getElem_drop]
  rw[List.length_drop] at hk
  by_cases hk0:k=0
  ·subst hk0;simp
  ·have:=(List.pairwise_iff_getElem.1 h) i (i+k) hi (by omega) (by omega)
   omega
 have h3:l.filter (λy=>decide (y<l[i])&&q y)=(l.take i).filter (λy=>decide (y<l[i])&&q y)++(l.drop i).filter (λy=>decide (y<l[i])&&q y):=by
  rw[←List.filter_append,e]
 have h4:(l.drop i).filter (λy=>decide (y<l[i])&&q y)=[]:=List.filter_eq_nil_iff.2 (λy hy=>by simp[h2 y hy])
 rw[h3,h4,List.append_nil]
 exact List.filter_congr λy hy=>by simp[h1 y hy]
theorem Er {F:LI}{n:Nat}{S:Int}(h1:1≤n)(h16:n≤16)(h:FOk F n)(hS:VS S)(hlt:∀v,has S v=true→v<n):D.Q (grow F) (Am S)=some (mis F n S:Int):=by
 have hel:=Bh S
 have hG:=GOk.grow h h1 h16
 have hGl:(grow F).length=n:=by rw[grow_len,h.len]
 have hsum:BJ (λx=>((Am S).filter λy=>decide (y<x)&& !decide (x∈row (grow F) y.toNat)).length) (Am S)=mis F n S:=by
  rw[C6 _ (n:=n) (by omega) hlt]
  unfold mis S2
  refine BZ λu hu=> ?_
  rw[sum_bit]
  by_cases hu':has S u=true
  ·rw[if_pos hu',if_pos hu',En (n:=n) (by omega) hlt]
   refine BZ λw hw=> ?_
   congr 2
   have e1:decide ((w:Int)<(u:Int))=decide (w<u):=by simp
   have e2:decide ((u:Int)∈row (grow F) ((w:Int).toNat))=nb F w u:=by
    rw[Bool.eq_iff_iff,decide_eq_true_eq,Int.toNat_natCast]
    exact Dg h hw
   rw[e1,e2]
  ·rw[if_neg hu',if_neg hu']
 have hb:∀i,BJ (λx=>((Am S).filter λy=>decide (y<x)&& !decide (x∈row (grow F) y.toNat)).length) ((Am S).take i)≤1024:=λi=>by
  have:=isum_le (λx=>((Am S).filter λy=>decide (y<x)&& !decide (x∈row (grow F) y.toNat)).length) 32 ((Am S).take i) (λx _=>Nat.le_trans (List.length_filter_le _ _) hel)
  have h2:((Am S).take i).length≤32:=by rw[List.length_take];omega
  have:=Nat.mul_le_mul_right 32 h2
  omega
 unfold D.Q
 refine(CN (λi=>(((BJ (λx=>((Am S).filter λy=>decide (y<x)&& !decide (x∈row (grow F) y.toNat)).length) ((Am S).take i):Nat):Int),(i:Int))) (Am S).length (mis F n S:Int) (by simp[BJ]) (λi hi=> ?_) ?_).trans rfl
 ·obtain⟨u,_,q1,q2⟩:=mem_elems.1 (List.getElem_mem hi)
  have hb1:=hb i
  simp only[dlt hi,cond_true]
  refine(CN (λk=>(((BJ (λx=>((Am S).filter λy=>decide (y<x)&& !decide (x∈row (grow F) y.toNat)).length) ((Am S).take i)+(((Am S).take k).filter (λy=> !decide ((Am S)[i]∈row (grow F) y.toNat))).length:Nat):Int),(k:Int))) i ((BJ (λx=>((Am S).filter λy=>decide (y<x)&& !decide (x∈row (grow F) y.toNat)).length) ((Am S).take (i+1)):Nat):Int) (by simp) (λk hk=> ?_) ?_).trans ?_
  ·have hkl:k<(Am S).length:=by omega
   obtain⟨w,_,p1,p2⟩:=mem_elems.1 (List.getElem_mem hkl)
   have hlen:(((Am S).take k).filter (λy=> !decide ((Am S)[i]∈row (grow F) y.toNat))).length≤32:=Nat.le_trans (List.length_filter_le _ _) (by rw[List.length_take];omega)
   rw[List.take_succ_eq_append_getElem hkl,List.filter_append,List.length_append]
   simp only[dlt hk,cond_true,Aw hkl,Aw hi,p2,q2,bs,l1Edge_eq (grow F) hG (show w<(grow F).length by rw[hGl];exact hlt w p1),wq k,List.filter_cons,List.filter_nil,Int.toNat_natCast]
   rw[q2] at hlen
   by_cases hm:(u:Int)∈row (grow F) w
   ·simp only[hm,decide_true,Bool.not_true,cond_false,Bool.false_eq_true,if_false,List.length_nil,Nat.add_zero]
   ·simp only[hm,decide_false,Bool.not_false,cond_true,if_true,List.length_singleton]
    rw[w64 (by omega) (by omega)]
    rfl
  ·simp only[Bm,cond_false]
   rw[take_less (Bf S) hi,List.take_succ_eq_append_getElem hi,D2]
  ·rw[wq i]
 ·simp only[Bm,cond_false,List.take_length,hsum]
def cd (F:LI)(s v:Int):Int:=((Am (iand .u32 (F.getD v.toNat 0) s)).length:Int)
def cf (n:Nat)(F:LI)(s v:Int):Int:=(mis F n (iand .u32 (F.getD v.toNat 0) s):Int)
section
variable {g : LL} (hg : GOk g)
include hg
theorem near_lt {F:LI}{s:Int}{v:Nat}(h:FOk F g.length)(hs:VS s)(hv:v<g.length):∀w,has (iand .u32 (F.getD v 0) s) w=true→w<g.length:=λw hw=>by
 rw[B6 (h.vs v hv) hs,Bool.and_eq_true] at hw
 exact h.lt v w hv hw.1
theorem OOk.shl {o:LI}(ho:OOk g o):Sh o:=ho.sh hg
end
end Go.Sx

namespace Go.Sx
def S16 (s:Int):Prop:=0≤s∧s<65536
theorem S16.vs {s:Int}(h:S16 s):VS s:=⟨h.1,by have:=h.2;omega⟩
theorem S16.nat {s:Int}(h:S16 s):∃n:Nat,s=n∧n<65536:=⟨s.toNat,by have:=h.1;omega,by have:=h.1;have:=h.2;omega⟩
theorem S16.lt {s:Int}(h:S16 s){v:Nat}(hv:has s v=true):v<16:=by
 obtain⟨n,rfl,hn⟩:=h.nat
 rw[Bd] at hv
 have:=Nat.ge_two_pow_of_testBit hv
 apply Classical.byContradiction
 intro hc
 have h2:2^16≤2^v:=Nat.pow_le_pow_right (by omega) (by omega)
 omega
theorem In.s16 {n:Nat}{K:Int}(h:In n K)(hn:n≤16):S16 K:=h.lt hn
theorem In.of {n i:Nat}(h:i<2^n)(hn:n≤16):In n (i:Int):=by
 have:2^n≤2^16:=Nat.pow_le_pow_right (by omega) hn
 refine⟨⟨by omega,by omega⟩,λw hw=> ?_⟩
 rw[Bd] at hw
 have:=Nat.ge_two_pow_of_testBit hw
 apply Classical.byContradiction
 intro hc
 have h2:2^n≤2^w:=Nat.pow_le_pow_right (by omega) (by omega)
 omega
theorem CW (n:Nat)(h:n<18446744073709551616):(BitVec.ofInt 64 (n:Int)).toNat=n:=by
 rw[BitVec.toNat_ofInt];omega
theorem and64 {a b:Nat}(ha:a<4294967296)(hb:b<4294967296):iand .i64 (a:Int) (b:Int)=((a&&&b:Nat):Int):=by
 have hw:a&&&b<4294967296:=Nat.and_lt_two_pow (n:=32) _ hb
 show IntKind.i64.wrap (((BitVec.ofInt 64 (a:Int)&&&BitVec.ofInt 64 (b:Int)).toNat:Nat):Int)=_
 rw[BitVec.toNat_and,CW a (by omega),CW b (by omega),w64 (by omega) (by omega)]
theorem or64 {a b:Nat}(ha:a<4294967296)(hb:b<4294967296):ior .i64 (a:Int) (b:Int)=((a|||b:Nat):Int):=by
 have hw:a|||b<4294967296:=Nat.or_lt_two_pow (n:=32) ha hb
 show IntKind.i64.wrap (((BitVec.ofInt 64 (a:Int)|||BitVec.ofInt 64 (b:Int)).toNat:Nat):Int)=_
 rw[BitVec.toNat_or,CW a (by omega),CW b (by omega),w64 (by omega) (by omega)]
theorem and6432 {a b:Int}(ha:VS a)(hb:VS b):iand .i64 a b=iand .u32 a b:=by
 obtain⟨m,rfl,hm⟩:=ha.nat;obtain⟨n,rfl,hn⟩:=hb.nat
 rw[and64 hm hn,Da hm hn]
theorem or6432 {a b:Int}(ha:VS a)(hb:VS b):ior .i64 a b=ior .u32 a b:=by
 obtain⟨m,rfl,hm⟩:=ha.nat;obtain⟨n,rfl,hn⟩:=hb.nat
 rw[or64 hm hn,ior_nat hm hn]
theorem shl64 {v:Nat}(hv:v<32):ishl .i64 1 (v:Int)=ishl .u32 1 (v:Int):=by
 rw[one_eq hv]
 have h:(2:Nat)^v<2^32:=Nat.pow_lt_pow_right (by omega) hv
 have h':(2:Nat)^32=4294967296:=by decide
 rw[h'] at h
 show IntKind.i64.wrap (1*2^(min ((v:Int)).toNat 64))=_
 rw[show min ((v:Int)).toNat 64=v by simp;omega,Int.one_mul]
 have e:((2^v:Nat):Int)=(2:Int)^v:=by simp
 rw[←e]
 generalize 2^v=p at h ⊢
 rw[w64 (by omega) (by omega)]
theorem uw {v:Nat}(hv:v<1000):IntKind.u64.wrap (v:Int)=(v:Int):=wu64 (by omega) (by omega)
theorem unneg (v:Nat):decide ((v:Int)<0)=false:=by simp
theorem clq_pairs {g:LL}(hg:GOk g){l:LI}(hr:∀x∈l,0≤x∧x<g.length)(h:Clq g l l.length):∀u w:Nat,(u:Int)∈l→(w:Int)∈l→u≠w→adj g u w:=by
 intro u w hu hw hne
 obtain⟨i,hi,ei⟩:=List.getElem_of_mem hu
 obtain⟨k,hk,ek⟩:=List.getElem_of_mem hw
 have ru:=hr _ hu;have rw':=hr _ hw
 rcases Nat.lt_trichotomy i k with c|c|c
 ·have:=h k i hk c
  rw[As hi,As hk,ei,ek,Int.toNat_natCast,Int.toNat_natCast] at this
  exact this
 ·subst c;rw[ei] at ek;omega
 ·have:=h i k hi c
  rw[As hi,As hk,ei,ek,Int.toNat_natCast,Int.toNat_natCast] at this
  exact hg.sym w u (by omega) this
theorem Ea {g:LL}(hg:GOk g):∃y,D.Y g=some y∧(y.2=true→OOk g y.1∧PEOg g y.1):=by
 have h16:=hg.n16
 unfold D.Y D.d
 rw[BS g hg.sh2,Co hg]
 simp only[bs,Bool.not_true,cond_false]
 rw[Dj (by omega) (by omega),bs]
 refine AU
  (λs=>s.1.length=g.length∧s.2.length≤g.length∧s.2.Nodup∧(∀x∈s.2,0≤x∧x<g.length)∧(∀v,v<g.length→(s.1.getD v false=true↔(v:Int)∈s.2))∧PEOg g s.2) (λs=>g.length-s.2.length)
  (λr=>(∃l,r= .inl l∧OOk g l∧PEOg g l)∨∃l,r= .inr (l,false)) ?_ ?_ ?_
 ·rintro⟨gone,out⟩ ⟨hgl,hol,hnd,hrg,hm,hpe⟩
  dsimp only at hgl hol hnd hrg hm hpe ⊢
  by_cases hlt:out.length<g.length
  ·simp only[dlt hlt,cond_true]
   refine AU (λx=>∃v:Nat,x=(v:Int)∧v≤g.length) (λx=>g.length-x.toNat) (λr=>∃v:Nat,r=(v:Int)∧v≤g.length∧(v<g.length→gone.getD v false=false∧Clq g (lft g v gone) (lft g v gone).length)) ?_ ⟨0,rfl,by omega⟩ ?_
   ·rintro _ ⟨v,rfl,hv⟩
    by_cases hvn:v<g.length
    ·have hgv:gone[v]'(by omega)=gone.getD v false:=(As (by omega) _).symm
     simp only[dlt hvn,cond_true,Aw (show v<gone.length by omega),bs,wq v]
     cases hc:gone[v]'(by omega)
     ·rw[cond_false,l7Left_eq g hg hvn gone hgl,bs]
      obtain⟨b,e1,h1⟩:=l8Clique_ok g hg (lft g v gone) (lft_len hg hvn _) (lft_rng hg hvn _)
      rw[e1,bs]
      cases b
      ·rw[Bool.not_false,cond_true]
       exact⟨_,rfl,⟨v+1,rfl,by omega⟩,by simp;omega⟩
      ·rw[Bool.not_true,cond_false]
       exact⟨_,rfl,v,rfl,by omega,λ_=>⟨by rw[←hgv,hc],h1.1 rfl⟩⟩
     ·rw[cond_true]
      exact⟨_,rfl,⟨v+1,rfl,by omega⟩,by simp;omega⟩
    ·obtain rfl:v=g.length:=by omega
     simp only[Bm,cond_false]
     exact⟨_,rfl,_,rfl,by omega,λh=>by omega⟩
   ·rintro _ ⟨v,rfl,hvl,hv⟩
    by_cases hvn:v<g.length
    ·obtain⟨hgf,hq⟩:=hv hvn
     have hvo:(v:Int)∉out:=λhc=>by
      have:=(hm v hvn).2 hc
      rw[hgf] at this;cases this
     have e1:(((v:Nat):Int)==(g.length:Int))=false:=by simp;omega
     rw[e1,cond_false,Aw (show v<gone.length by omega),bs,Bi (by simp;omega),bs]
     refine⟨_,rfl,⟨by simp[hgl],by simp;omega,?_,?_,λx hx=> ?_,?_⟩,by simp;omega⟩
     ·rw[List.nodup_append]
      exact⟨hnd,by simp,λa ha b hb=>by simp at hb;subst hb;exact λe=>hvo (e▸ha)⟩
     ·intro x hx
      rcases List.mem_append.1 hx with hx|hx
      ·exact hrg x hx
      ·simp at hx;omega
     ·rw[Int.toNat_natCast,List.mem_append,List.mem_singleton]
      by_cases hxv:x=v
      ·subst hxv;simp[List.getD_eq_getElem?_getD,hgl,hx]
      ·have:(gone.set v true).getD x false=gone.getD x false:=by
        simp only[List.getD_eq_getElem?_getD,List.getElem?_set]
        rw[if_neg (λe=>hxv e.symm)]
       rw[this,hm x hx]
       exact⟨.inl,λh=>h.elim id (λe=>absurd (by omega) hxv)⟩
     ·intro j a u w hj hau haw hu hw hne
      dsimp only at hj hu hw
      by_cases hjl:j<out.length
      ·rw[List.getElem?_append_left hjl] at hj
       rw[List.take_append_of_le_length (by omega)] at hu hw
       exact hpe j a u w hj hau haw hu hw hne
      ·have hje:j=out.length:=by
        have:=(List.getElem?_eq_some_iff.1 hj).1
        simp at this;omega
       subst hje
       have hav:a=v:=by
        rw[List.getElem?_append_right (by omega)] at hj
        simp at hj;omega
       subst hav
       rw[List.take_of_length_le (by simp)] at hu hw
       have hin:∀x:Nat,adj g a x→(x:Int)∉out++[(a:Int)]→(x:Int)∈lft g a gone:=λx hx hxo=>by
        have hxn:=hg.lt hvn hx
        refine List.mem_filter.2 ⟨hx,?_⟩
        rw[Int.toNat_natCast]
        cases hc:gone.getD x false
        ·rfl
        ·exact absurd (List.mem_append.2 (.inl ((hm x hxn).1 hc))) hxo
       exact clq_pairs hg (lft_rng hg hvn gone) hq u w (hin u hau hu) (hin w haw hw) hne
    ·obtain rfl:v=g.length:=by omega
     simp only[beq_self_eq_true,cond_true]
     exact⟨_,rfl,.inr ⟨_,rfl⟩⟩
  ·have e1:decide ((out.length:Int)<(g.length:Int))=false:=decide_eq_false (by omega)
   rw[e1,cond_false]
   exact⟨_,rfl,.inl ⟨_,rfl,⟨by omega,hrg,hnd⟩,hpe⟩⟩
 ·refine⟨by simp,by simp,by simp,by simp,λv hv=> ?_,λj a u w hj=>by simp at hj⟩
  simp[List.getD_eq_getElem?_getD,List.getElem?_replicate,hv]
 ·rintro _ (⟨l,rfl,h1,h2⟩|⟨l,rfl⟩)
  ·exact⟨_,rfl,λ_=>⟨h1,h2⟩⟩
  ·exact⟨_,rfl,λh=>by cases h⟩
theorem chordal_few {g:LL}{o l:LI}(hg:GOk g)(ho:OOk g o)(hp:PEOg g o)(hl:GC g l):l.length≤g.length:=by
 classical
 have h16:=hg.n16
 let Bp:Nat→Nat→Prop:=λj w=>o[j]? =some (w:Int)∨∃v:Nat,o[j]? =some (v:Int)∧adj g v w∧(w:Int)∉o.take (j+1)
 let B:Nat→Int:=λj=>mk (((List.range g.length).filter λw=>decide (Bp j w)).map Int.ofNat)
 have hB:∀j w,has (B j) w=decide (w<g.length∧Bp j w):=λj w=>by
  show has (mk _) w=_
  rw[CK]
  ·rw[Bool.eq_iff_iff,decide_eq_true_eq,decide_eq_true_eq,List.mem_map]
   constructor
   ·rintro⟨x,hx,e⟩
    have e':(x:Int)=(w:Int):=e
    obtain rfl:x=w:=by omega
    have:=List.mem_filter.1 hx
    exact⟨List.mem_range.1 this.1,of_decide_eq_true this.2⟩
   ·rintro⟨h1,h2⟩
    exact⟨w,List.mem_filter.2 ⟨List.mem_range.2 h1,decide_eq_true h2⟩,rfl⟩
  ·intro z hz
   obtain⟨x,hx,rfl⟩:=List.mem_map.1 hz
   have:=List.mem_range.1 (List.mem_filter.1 hx).1
   exact⟨Int.natCast_nonneg x,by show (x:Int)<32;omega⟩
 have key:=BE (m:=(List.range g.length).map B) (rise_nodup hl.up) (λK hK=>by
  obtain⟨hI,hM⟩:=(hl.mem K).1 hK
  have hne:∃v,has K v=true:=by
   cases hc:has K 0
   ·obtain⟨u,hu,_⟩:=hM.2 0 (by have:=hg.n1;omega) hc
    exact⟨u,hu⟩
   ·exact⟨0,hc⟩
  obtain⟨j,⟨v,hj,hv⟩,hmin⟩:=least_of (P:=λj=>∃v:Nat,o[j]? =some (v:Int)∧has K v=true) (by
   obtain⟨v,hv⟩:=hne
   obtain⟨i,_,e⟩:=place' ho (hI.2 v hv)
   exact⟨i,v,e,hv⟩)
  have hjl:j<g.length:=by
   have:=(List.getElem?_eq_some_iff.1 hj).1
   have:=ho.len
   omega
  have hvn:=hI.2 v hv
  have hlate:∀w,has K w=true→w≠v→(w:Int)∉o.take (j+1):=λw hw hwv hm=>by
   obtain⟨i,hi,hij,e⟩:=mem_take_iff.1 hm
   rcases Nat.lt_or_ge i j with c|c
   ·exact hmin i c ⟨w,by rw[List.getElem?_eq_getElem hi,e],hw⟩
   ·obtain rfl:i=j:=by omega
    rw[List.getElem?_eq_getElem hi,e] at hj
    have:(w:Int)=v:=Option.some.inj hj
    omega
  refine List.mem_map.2 ⟨j,List.mem_range.2 hjl,(VS.ext (VS.mk _) hI.1 (λw _=> ?_))⟩
  show has (B j) w=_
  rw[hB,Bool.eq_iff_iff,decide_eq_true_eq]
  constructor
  ·rintro⟨hwn,hb⟩
   rcases hb with hb|⟨v',hj',ha,hn⟩
   ·rw[hb] at hj
    have:(w:Int)=v:=Option.some.inj hj
    obtain rfl:w=v:=by omega
    exact hv
   ·rw[hj'] at hj
    have:(v':Int)=v:=Option.some.inj hj
    obtain rfl:v'=v:=by omega
    cases hc:has K w
    ·exfalso
     obtain⟨u,hu,hnu⟩:=hM.2 w hwn hc
     have hun:=hI.2 u hu
     have hadj:adj g u w:=by
      by_cases huv:u=v'
      ·rw[huv];exact ha
      ·have h1:=(B9 hg hvn).1 (hM.1 v' u hv hu (λe=>huv e.symm))
       exact hp j v' u w hj' h1 ha (hlate u hu huv) hn (λe=>by subst e;rw[hc] at hu;cases hu)
     rw[(B9 hg hun).2 hadj] at hnu;cases hnu
    ·rfl
  ·intro hw
   refine⟨hI.2 w hw,?_⟩
   by_cases hwv:w=v
   ·subst hwv;exact .inl hj
   ·exact .inr ⟨v,hj,(B9 hg hvn).1 (hM.1 v w hv hw (λe=>hwv e.symm)),hlate w hw hwv⟩)
 simpa using key
def ch (cs:LI)(i v:Nat):Bool:=has (cs.getD i 0) v
def Opn (cs:LI)(p:Int)(v:Nat):Prop:=(∃i,i<cs.length∧has p i=true∧ch cs i v=true)∧∃i,i<cs.length∧has p i=false∧ch cs i v=true
def Ft (cs:LI)(p:Int)(k:Nat):Prop:=k<cs.length∧has p k=false∧∀v,Opn cs p v→ch cs k v=true
inductive Ends (cs:LI):Int→Prop
 |all {p:Int}:(∀i,i<cs.length→has p i=true)→Ends cs p
 |go {p:Int} {k:Nat}:Ft cs p k→Ends cs (ior .u32 p (ishl .u32 1 (k:Int)))→Ends cs p
def Goes (cs:LI):Int→LI→Prop
 |p,[]=>∀i,i<cs.length→has p i=true
 |p,x::l=>∃k:Nat,x=(k:Int)∧Ft cs p k∧Goes cs (ior .u32 p (ishl .u32 1 (k:Int))) l
theorem Goes.ends {cs:LI}:∀{l:LI} {p:Int},Goes cs p l→Ends cs p
 |[],_,h=> .all h
 |_::_,_,⟨_,_,h1,h2⟩=> .go h1 h2.ends
theorem firstOf_eq (n:Nat):D.t (n:Int)=some (full n):=by
 unfold D.t full
 have:decide ((n:Int)<0)=false:=by simp
 rw[this,cond_false]
theorem Dx {f:Int→Int}(v:Nat):∀(xs:LI) (a:Int),VS a→(∀x∈xs,VS (f x))→VS (xs.foldl (λa x=>ior .u32 a (f x)) a)∧(has (xs.foldl (λa x=>ior .u32 a (f x)) a) v=true↔has a v=true∨∃x∈xs,has (f x) v=true)
 |[],a,ha,_=>⟨ha,by simp⟩
 |x::xs,a,ha,hf=>by
  have hx:=hf x (by simp)
  obtain⟨h1,h2⟩:=Dx v xs (ior .u32 a (f x)) (VS.ior _ _) (λy hy=>hf y (by simp[hy]))
  refine⟨h1,?_⟩
  rw[List.foldl_cons,h2,Bu ha hx,Bool.or_eq_true]
  simp only[List.mem_cons,exists_eq_or_imp,or_assoc]
section
variable {cs : LI} (hvs : ∀ s ∈ cs, VS s) (hm : cs.length ≤ 16)
include hvs hm
theorem clUnion_ok {p:Int}(hp:In cs.length p):∃u,D.J0 cs p=some u∧VS u∧∀v,has u v=true↔∃i,i<cs.length∧has p i=true∧ch cs i v=true:=by
 have hel:∀x∈Am p,∃i:Nat,x=(i:Int)∧i<cs.length∧has p i=true:=λx hx=>by
  obtain⟨i,_,h2,rfl⟩:=mem_elems.1 hx
  exact⟨i,rfl,hp.2 i h2,h2⟩
 have hvx:∀x∈Am p,VS (cs.getD x.toNat 0):=λx hx=>by
  obtain⟨i,rfl,hi,_⟩:=hel x hx
  rw[Int.toNat_natCast,As hi]
  exact hvs _ (List.getElem_mem hi)
 have hlen:=Bh p
 have hl:=loop_list (step:=D.W0 cs (Am p)) (Am p) (λa i=>(a,i)) (λa x=>ior .u32 a (cs.getD x.toNat 0)) (λa=>a) (λ_=>True) 0 trivial
  (λs i hi _=>by
   refine⟨?_,trivial⟩
   obtain⟨k,e,hk,_⟩:=hel _ (List.getElem_mem hi)
   unfold D.W0
   simp only[dlt hi,cond_true,Aw hi,bs,e,Aw hk,Int.toNat_natCast,wq i,As hk])
  (λs _=>by unfold D.W0;simp only[Bm,cond_false])
 refine⟨_,?_,(Dx 0 (Am p) 0 VS.zero hvx).1,λv=> ?_⟩
 ·unfold D.J0
  rw[Cy p hp.1,bs]
  exact hl.1
 ·rw[(Dx v (Am p) 0 VS.zero hvx).2,Ba]
  constructor
  ·rintro(h|⟨x,hx,h⟩)
   ·cases h
   ·obtain⟨i,rfl,hi,hpi⟩:=hel x hx
    exact⟨i,hi,hpi,by simpa [ch] using h⟩
  ·rintro⟨i,hi,hpi,h⟩
   exact .inr ⟨(i:Int),(AY hp.1).2 hpi,by simpa [ch] using h⟩
theorem DI {p:Int}(hp:In cs.length p):p=full cs.length↔∀i,i<cs.length→has p i=true:=by
 constructor
 ·rintro rfl i hi
  rw[BA (by omega)];exact decide_eq_true hi
 ·intro h
  refine VS.ext hp.1 (CD _) (λv _=> ?_)
  rw[BA (by omega)]
  by_cases hv:v<cs.length
  ·rw[h v hv];simp[hv]
  ·have:has p v=false:=by
    cases hh:has p v
    ·rfl
    ·exact absurd (hp.2 v hh) hv
   rw[this];simp[hv]
theorem Ft.in {p:Int}{k:Nat}(hp:In cs.length p)(h:Ft cs p k):In cs.length (ior .u32 p (ishl .u32 1 (k:Int)))∧∀v,has (ior .u32 p (ishl .u32 1 (k:Int))) v=(has p v||decide (v=k)):=by
 have hk:=h.1
 have he:∀v,has (ior .u32 p (ishl .u32 1 (k:Int))) v=(has p v||decide (v=k)):=λv=>by
  rw[Bu hp.1 (VS.ishl _ _),Bg (by omega)]
 refine⟨⟨VS.ior _ _,λv hv=> ?_⟩,he⟩
 rw[he,Bool.or_eq_true,decide_eq_true_eq] at hv
 rcases hv with hv|rfl
 ·exact hp.2 v hv
 ·exact hk
theorem clGrow_ok :∀(d fuel:Nat) (p:Int),d≤1000→In cs.length p→(Am (iandNot .u32 (full cs.length) p)).length≤d→d<fuel→∃r,D.h fuel cs p=some r∧(r=none→¬Ends cs p)∧∀l,r=some l→Goes cs p l∧l.length≤d:=by
 intro d
 induction d with
 |zero=>
  intro fuel p hd32 hp hd hf
  obtain⟨f,rfl⟩:∃f,fuel=f+1:=⟨fuel-1,by omega⟩
  have:p=full cs.length:=by
   rw[DI hvs hm hp]
   intro i hi
   cases hh:has p i
   ·have:(i:Int)∈Am (iandNot .u32 (full cs.length) p):=(AY (VS.iandNot _ _)).2 (by rw[A6 (CD _) hp.1,BA (by omega),hh];simp[hi])
    have:=List.length_pos_of_mem this
    omega
   ·rfl
  refine⟨some [],?_,by simp,λl hl=> ?_⟩
  ·unfold D.h
   rw[firstOf_eq,bs,this]
   simp
  ·obtain rfl:=Option.some.inj hl
   exact⟨(DI hvs hm hp).1 this,by simp⟩
 |succ d ih=>
  intro fuel p hd32 hp hd hf
  obtain⟨f,rfl⟩:∃f,fuel=f+1:=⟨fuel-1,by omega⟩
  unfold D.h
  rw[firstOf_eq,bs]
  by_cases hall:p=full cs.length
  ·have:(p==full cs.length)=true:=by simpa using hall
   rw[this,cond_true]
   refine⟨_,rfl,by simp,λl hl=> ?_⟩
   obtain rfl:=Option.some.inj hl
   exact⟨(DI hvs hm hp).1 hall,by simp⟩
  ·have:(p==full cs.length)=false:=by simpa using hall
   rw[this,cond_false]
   have hfv:=CD cs.length
   have hq:In cs.length (iandNot .u32 (full cs.length) p):=⟨VS.iandNot _ _,λv hv=>by
    rw[A6 hfv hp.1,BA (by omega),Bool.and_eq_true,decide_eq_true_eq] at hv
    exact hv.1⟩
   have hqh:∀i,i<cs.length→(has (iandNot .u32 (full cs.length) p) i=true↔has p i=false):=λi hi=>by
    rw[A6 hfv hp.1,BA (by omega)];simp[hi]
   obtain⟨a,e1,va,ha⟩:=clUnion_ok hvs hm hp
   obtain⟨b,e2,vb,hb⟩:=clUnion_ok hvs hm hq
   rw[e1,bs,e2,bs,Cy _ hq.1,bs]
   have hopn:∀v,has (iand .u32 a b) v=true↔Opn cs p v:=λv=>by
    rw[B6 va vb,Bool.and_eq_true,ha,hb]
    unfold Opn
    refine and_congr Iff.rfl ⟨?_,?_⟩
    ·rintro⟨i,h1,h2,h3⟩;exact⟨i,h1,(hqh i h1).1 h2,h3⟩
    ·rintro⟨i,h1,h2,h3⟩;exact⟨i,h1,(hqh i h1).2 h2,h3⟩
   generalize hus:Am (iandNot .u32 (full cs.length) p)=us at hd ⊢
   have hmem:∀x,x∈us↔∃i:Nat,x=(i:Int)∧i<cs.length∧has p i=false:=λx=>by
    rw[←hus,mem_elems]
    constructor
    ·rintro⟨i,_,h2,rfl⟩;exact⟨i,rfl,hq.2 i h2,(hqh i (hq.2 i h2)).1 h2⟩
    ·rintro⟨i,rfl,h1,h2⟩;exact⟨i,by omega,(hqh i h1).2 h2,rfl⟩
   have hul:us.length≤32:=by rw[←hus];exact Bh _
   have key:∀(m i:Nat),i+m=us.length→(∀j (hj:j<us.length),j<i→∀k:Nat,us[j]=(k:Int)→Ft cs p k→¬Ends cs (ior .u32 p (ishl .u32 1 (k:Int))))→
     ∃r,Ao (D.F (D.h f cs) cs (iand .u32 a b) p us) (i:Int)=some r∧(r=none→¬Ends cs p)∧∀l,r=some l→Goes cs p l∧l.length≤d+1:=by
    intro m
    induction m with
    |zero=>
     intro i hi hno
     obtain rfl:i=us.length:=by omega
     refine⟨none,AH (by unfold D.F;simp only[Bm,cond_false]),λ_ he=> ?_,by simp⟩
     cases he with
     |all h=>exact hall ((DI hvs hm hp).2 h)
     | @go _ k h1 h2=>
      obtain⟨j,hj,e⟩:=List.getElem_of_mem ((hmem _).2 ⟨k,rfl,h1.1,h1.2.1⟩)
      exact hno j hj hj k e h1 h2
    |succ m ihm=>
     intro i hi hno
     have hil:i<us.length:=by omega
     obtain⟨k,ek,hk,hpk⟩:=(hmem _).1 (List.getElem_mem hil)
     have vk:VS (cs.getD k 0):=by rw[As hk];exact hvs _ (List.getElem_mem hk)
     have hnext:(¬Ft cs p k∨¬Ends cs (ior .u32 p (ishl .u32 1 (k:Int))))→∃r,Ao (D.F (D.h f cs) cs (iand .u32 a b) p us) ((i+1:Nat):Int)=some r∧(r=none→¬Ends cs p)∧∀l,r=some l→Goes cs p l∧l.length≤d+1:=λhh=>
      ihm (i+1) (by omega) (λj hj hji k' e' hF hE=>by
       by_cases hji':j<i
       ·exact hno j hj hji' k' e' hF hE
       ·obtain rfl:j=i:=by omega
        have:k'=k:=by rw[e'] at ek;omega
        subst this
        exact hh.elim (λh=>h hF) (λh=>h hE))
     have hstep0:D.F (D.h f cs) cs (iand .u32 a b) p us (i:Int)=cond (iandNot .u32 (iand .u32 a b) (cs.getD k 0) !=0) (some (.inl ((i+1:Nat):Int))) ((D.h f cs (ior .u32 p (ishl .u32 1 (k:Int)))).bind λr=>D.Z0 (k:Int) (i:Int) r):=by
      unfold D.F
      simp only[dlt hil,cond_true,Aw hil,bs,ek,Aw hk,Cn,wq i,As hk]
     by_cases hfit:∀v,Opn cs p v→ch cs k v=true
     ·have hF:Ft cs p k:=⟨hk,hpk,hfit⟩
      have hz:(iandNot .u32 (iand .u32 a b) (cs.getD k 0) !=0)=false:=by
       have:iandNot .u32 (iand .u32 a b) (cs.getD k 0)=0:=by
        rw[VS.eq_zero (VS.iandNot _ _)]
        intro v _
        rw[A6 (VS.iand _ _) vk]
        by_cases ho:Opn cs p v
        ·have:=hfit v ho
         unfold ch at this
         rw[this];simp
        ·have:has (iand .u32 a b) v=false:=by
          cases hh:has (iand .u32 a b) v
          ·rfl
          ·exact absurd ((hopn v).1 hh) ho
         rw[this];rfl
       simpa using this
      obtain⟨hin,hhas⟩:=Ft.in hvs hm hp hF
      have hdd:(Am (iandNot .u32 (full cs.length) (ior .u32 p (ishl .u32 1 (k:Int))))).length≤d:=by
       have h1:∀x,x∈(k:Int)::Am (iandNot .u32 (full cs.length) (ior .u32 p (ishl .u32 1 (k:Int))))→x∈us:=λx hx=>by
        rcases List.mem_cons.1 hx with rfl|hx
        ·exact(hmem _).2 ⟨k,rfl,hk,hpk⟩
        ·obtain⟨w,_,h2,rfl⟩:=mem_elems.1 hx
         rw[A6 hfv (VS.ior _ _),BA (by omega),hhas] at h2
         simp at h2
         exact(hmem _).2 ⟨w,rfl,h2.1,h2.2.1⟩
       have h2:((k:Int)::Am (iandNot .u32 (full cs.length) (ior .u32 p (ishl .u32 1 (k:Int))))).Nodup:=by
        refine List.nodup_cons.2 ⟨λhx=> ?_,List.Pairwise.imp (λh e=>by omega) (Bf _)⟩
        rw[AY (VS.iandNot _ _),A6 hfv (VS.ior _ _),hhas] at hx
        simp at hx
       have:=BE h2 h1
       simp at this
       omega
      obtain⟨r,e,hr1,hr2⟩:=ih f _ (by omega) hin hdd (by omega)
      rw[hz,cond_false,e,bs] at hstep0
      cases r with
      |none=>
       rw[A9 (s':=((i+1:Nat):Int)) (by rw[hstep0];unfold D.Z0;rw[wq i])]
       exact hnext (.inr (hr1 rfl))
      |some l=>
       obtain⟨hg,hgl⟩:=hr2 l rfl
       refine⟨some ((k:Int)::l),AH (by rw[hstep0];show ((AM [(k:Int)] l).bind λl=>some (Sum.inr (α:=Int) (some l)))=_;rw[Bi (by simp;omega)];rfl),by simp,λl' hl'=> ?_⟩
       obtain rfl:=Option.some.inj hl'
       exact⟨⟨k,rfl,hF,hg⟩,by simp;omega⟩
     ·have hz:(iandNot .u32 (iand .u32 a b) (cs.getD k 0) !=0)=true:=by
       rw[bne_iff_ne]
       intro h0
       apply hfit
       intro v hv
       have h1:=(VS.eq_zero (VS.iandNot _ _)).1 h0
       unfold ch
       have hv32:v<32:=by
        by_cases h:v<32
        ·exact h
        ·have:=CP (VS.iand a b) (show 32≤v by omega)
         rw[(hopn v).2 hv] at this;cases this
       have h2:=h1 v hv32
       rw[A6 (VS.iand _ _) vk,(hopn v).2 hv] at h2
       simpa using h2
      rw[hz,cond_true] at hstep0
      rw[A9 hstep0]
      exact hnext (.inl (λh=>hfit h.2.2))
   exact key us.length 0 (by omega) (λj _ h=>by omega)
end
end Go.Sx

namespace Go.Sx
theorem Goes.mid {cs:LI}{v:Nat}:∀{l1:LI} {p:Int} {x:Nat} {l2:LI},cs.length≤16→In cs.length p→Goes cs p (l1++(x:Int)::l2)→((∃i,i<cs.length∧has p i=true∧ch cs i v=true)∨∃y:Nat,(y:Int)∈l1∧ch cs y v=true)→(∃z:Nat,(z:Int)∈l2∧ch cs z v=true)→ch cs x v=true
 |[],p,x,l2,hm,hp,⟨k,e,hF,hG⟩,h1,⟨z,hz,hzv⟩=>by
  obtain rfl:k=x:=by omega
  refine hF.2.2 v ⟨h1.elim id (fun⟨y,hy,_⟩=>by simp at hy),?_⟩
  have:∀(l:LI) (q:Int),In cs.length q→Goes cs q l→(z:Int)∈l→z<cs.length∧has q z=false:=by
   intro l
   induction l with
   |nil=>intro q _ _ h;simp at h
   |cons y l ih=>
    rintro q hq ⟨k',e',hF',hG'⟩ hzl
    rcases List.mem_cons.1 hzl with h|h
    ·obtain rfl:k'=z:=by omega
     exact⟨hF'.1,hF'.2.1⟩
    ·have hk':=hF'.1
     have he:∀w,has (ior .u32 q (ishl .u32 1 (k':Int))) w=(has q w||decide (w=k')):=λw=>by rw[Bu hq.1 (VS.ishl _ _),Bg (by omega)]
     have hin:In cs.length (ior .u32 q (ishl .u32 1 (k':Int))):=⟨VS.ior _ _,λw hw=>by
      rw[he,Bool.or_eq_true,decide_eq_true_eq] at hw
      rcases hw with hw|rfl
      ·exact hq.2 w hw
      ·exact hk'⟩
     obtain⟨a,b⟩:=ih _ hin hG' h
     rw[he,Bool.or_eq_false_iff] at b
     exact⟨a,b.1⟩
  obtain⟨h3,h4⟩:=this ((k:Int)::l2) p hp ⟨k,rfl,hF,hG⟩ (List.mem_cons_of_mem _ hz)
  exact⟨z,h3,h4,hzv⟩
 |y::l1,p,x,l2,hm,hp,⟨k,e,hF,hG⟩,h1,h2=>by
  subst e
  have hk:=hF.1
  have he:∀w,has (ior .u32 p (ishl .u32 1 (k:Int))) w=(has p w||decide (w=k)):=λw=>by rw[Bu hp.1 (VS.ishl _ _),Bg (by omega)]
  refine Goes.mid (l1:=l1) hm ⟨VS.ior _ _,λw hw=> ?_⟩ hG ?_ h2
  ·rw[he,Bool.or_eq_true,decide_eq_true_eq] at hw
   rcases hw with hw|rfl
   ·exact hp.2 w hw
   ·exact hk
  ·rcases h1 with⟨i,h3,h4,h5⟩|⟨i,h3,h5⟩
   ·exact .inl ⟨i,h3,by rw[he,h4];rfl,h5⟩
   ·rcases List.mem_cons.1 h3 with h|h
    ·obtain rfl:i=k:=by omega
     exact .inl ⟨i,hk,by rw[he];simp,h5⟩
    ·exact .inr ⟨i,h,h5⟩
theorem loop_first {ρ:Type}{step:Int→Option (Int ⊕ ρ)}(xs:LI)(p:Int→Bool)(mkr:Int→ρ)(fin:ρ)
  (hstep:∀i (h:i<xs.length),step (i:Int)=if p xs[i] then some (.inr (mkr xs[i])) else some (.inl ((i+1:Nat):Int))) (hend:step (xs.length:Int)=some (.inr fin)):
  Ao step 0=some (match xs.find? p with|some x=>mkr x|none=>fin):=by
 have key:∀(k i:Nat),i+k=xs.length→Ao step (i:Int)=some (match(xs.drop i).find? p with|some x=>mkr x|none=>fin):=by
  intro k
  induction k with
  |zero=>
   intro i hi
   obtain rfl:i=xs.length:=by omega
   rw[AH hend,List.drop_length];rfl
  |succ k ih=>
   intro i hi
   have hil:i<xs.length:=by omega
   rw[List.drop_eq_getElem_cons hil,List.find?_cons]
   by_cases hp:p xs[i]=true
   ·rw[AH (r:=mkr xs[i]) (by rw[hstep i hil,if_pos hp]),hp]
   ·rw[A9 (s':=((i+1:Nat):Int)) (by rw[hstep i hil,if_neg hp]),ih (i+1) (by omega)]
    have:p xs[i]=false:=by simpa using hp
    rw[this]
 exact key xs.length 0 (by omega)
def okv (F:LI)(n:Nat)(s v:Int):Bool:=decide (mis F n (iand .u32 (F.getD v.toNat 0) s)=0)
def pk (F:LI)(n:Nat):Nat→Int→Option LI
 |0,_=>some []
 |k+1,s=>match(Am s).find? (okv F n s) with
  |none=>none
  |some v=>(pk F n k (iandNot .u32 s (ishl .u32 1 v))).map (v::·)
theorem pk_len {F:LI}{n:Nat}:∀{k:Nat} {s:Int} {l:LI},pk F n k s=some l→l.length=k
 |0,s,l,h=>by simp[pk] at h;subst h;rfl
 |k+1,s,l,h=>by
  unfold pk at h
  split at h
  ·cases h
  ·rename_i v hv
   rw[Option.map_eq_some_iff] at h
   obtain⟨t,ht,rfl⟩:=h
   simp[pk_len ht]
section
variable {g : LL} (hg : GOk g)
include hg
theorem impl_pk :∀(k:Nat) (s:Int) (out:LI),SQ g.length s k→out.length+k≤1000000→
  Ao (σ:=LI×Int) (ρ:=(LI) ⊕ ((LI))) (fun(s_279:LI×Int)=>match s_279 with|(l_282,x_287)=>cond (x_287 !=0) ((D.f x_287).bind λy_425=>(Ao (σ:=Int) (ρ:=(Int)) (fun(x_487:Int)=>cond (decide (x_487<(y_425.length:Int))) ((idx y_425 x_487).bind λe_514=>(idx (g.map mk) e_514).bind λe_520=>(D.y (g.map mk) (iand .u32 e_520 x_287)).bind λy_526=>cond (y_526==0) (some (.inr e_514)) (some (.inl (IntKind.i64.wrap (x_487+1))))) (some (.inr (-1)))) 0).bind λx_511=>cond (decide (x_511<0)) (some (.inr (.inr ([]:LI)))) ((D.e x_511).bind λy_538=>(AM l_282 ([x_511]:LI)).bind λl_549=>some (.inl (l_549,(iandNot .u32 x_287 y_538))))) (some (.inr (.inl l_282)))) (out,s)=
  some (match pk (g.map mk) g.length k s with|none=> .inr []|some l=> .inl (out++l))
 |0,s,out,hs,_=>by
  rw[hs.z,AH (r:= .inl out) (by simp)];simp[pk]
 |k+1,s,out,hs,hk=>by
  have h16:=hg.n16
  have hnz:(s !=0)=true:=by simpa using hs.nz
  have hF:=FOk.of hg
  have hin:=loop_first (step:=fun(x_487:Int)=>cond (decide (x_487<((Am s).length:Int))) ((idx (Am s) x_487).bind λe_514=>(idx (g.map mk) e_514).bind λe_520=>(D.y (g.map mk) (iand .u32 e_520 s)).bind λy_526=>cond (y_526==0) (some (.inr e_514)) (some (.inl (IntKind.i64.wrap (x_487+1))))) (some (.inr (-1)))) (Am s) (okv (g.map mk) g.length s) (λx=>x) (-1) (λi hi=>by
   have hel:=Bh s
   obtain⟨v,_,h2,h3⟩:=mem_elems.1 (List.getElem_mem hi)
   have hvn:=hs.lt v h2
   have hidx:idx (g.map mk) (v:Int)=some ((g.map mk).getD v 0):=by rw[Aw (by simpa using hvn),As (by simpa using hvn)]
   simp only[dlt hi,cond_true,Aw hi,bs,h3,hidx,Dp h16 hF (VS.iand _ _) (λw hw=>near_lt hg hF hs.vs hvn w hw),wq i,okv,Int.toNat_natCast]
   by_cases hz:mis (g.map mk) g.length (iand .u32 ((g.map mk).getD v 0) s)=0
   ·have:((mis (g.map mk) g.length (iand .u32 ((g.map mk).getD v 0) s):Int)==0)=true:=by simpa using hz
    rw[this,cond_true,if_pos (decide_eq_true hz)]
   ·have:((mis (g.map mk) g.length (iand .u32 ((g.map mk).getD v 0) s):Int)==0)=false:=by simpa using hz
    rw[this,cond_false,if_neg (by simpa using hz)]) (by simp only[Bm,cond_false])
  unfold pk
  cases hf:(Am s).find? (okv (g.map mk) g.length s) with
  |none=>
   rw[hf] at hin
   rw[AH (r:= .inr [])]
   simp only[hnz,cond_true,Cy s hs.vs,bs,hin]
   rfl
  |some x=>
   rw[hf] at hin
   obtain⟨v,_,h2,rfl⟩:=mem_elems.1 (List.mem_of_find?_eq_some hf)
   have hn0:decide ((v:Int)<0)=false:=by simp
   rw[A9 (s':=(out++[(v:Int)],iandNot .u32 s (ishl .u32 1 (v:Int))))]
   ·rw[impl_pk k _ (out++[(v:Int)]) (hs.rm h2) (by simp;omega)]
    cases hq:pk (g.map mk) g.length k (iandNot .u32 s (ishl .u32 1 (v:Int))) with
    |none=>simp[hq]
    |some l=>simp[hq]
   ·simp only[hnz,cond_true,Cy s hs.vs,bs,hin,hn0,cond_false,Cn]
    rw[Bi (by simp;omega),bs]
theorem find_all {s:Int}{k:Nat}(hs:SQ g.length s k)(p:Int→Bool):((List.range g.length).map Int.ofNat).find? (λx=>has s x.toNat&&p x)=(Am s).find? p:=by
 have h16:=hg.n16
 have e:=els_all (s:=s) (n:=g.length) (by omega) hs.lt
 rw[←e]
 unfold els
 rw[List.find?_map,List.find?_map,List.find?_filter]
 congr 2
 funext a
 simp only[Function.comp]
 have:(Int.ofNat a).toNat=a:=by simp
 rw[this]
 cases has s a<;>simp
theorem spec_pk :∀(k:Nat) (s:Int) (out:LI),SQ g.length s k→out.length+k=g.length→
  Ao (σ:=(List Bool)×LI) (ρ:=(LI) ⊕ ((LI)×Bool)) (fun(s_529:(List Bool)×LI)=>match s_529 with|(l_532,l_535)=>(D.d g).bind λy_790=>cond (decide ((l_535.length:Int)<y_790)) ((Ao (σ:=Int) (ρ:=(Int)) (fun(x_903:Int)=>(D.d g).bind λy_956=>cond (decide (x_903<y_956)) ((idx l_532 x_903).bind λe_960=>cond e_960 (some (.inl (IntKind.i64.wrap (x_903+1)))) ((D.S g x_903 l_532).bind λy_970=>(D.c g y_970).bind λy_987=>cond (!y_987) (some (.inl (IntKind.i64.wrap (x_903+1)))) (some (.inr x_903)))) (some (.inr x_903))) 0).bind λx_954=>(D.d g).bind λy_1004=>cond (x_954==y_1004) (some (.inr (.inr (([]:LI),false)))) ((idx l_532 x_954).bind λe_1016=>(AM l_535 ([x_954]:LI)).bind λl_1026=>some (.inl ((l_532.set (Int.toNat x_954) true),l_1026)))) (some (.inr (.inl l_535)))) (BB g.length s,out)=
  some (match pk (g.map mk) g.length k s with|none=> .inr ([],false)|some l=> .inl (out++l))
 |0,s,out,hs,hk=>by
  have e:decide ((out.length:Int)<(g.length:Int))=false:=by simp;omega
  rw[AH (r:= .inl out) (by unfold D.d;simp only[bs,e,cond_false])];simp[pk]
 |k+1,s,out,hs,hk=>by
  have h16:=hg.n16;have hn1:=hg.n1
  have hF:=FOk.of hg
  have hlt:decide ((out.length:Int)<(g.length:Int))=true:=by simp;omega
  have hin:=loop_first (step:=fun(x_903:Int)=>(D.d g).bind λy_956=>cond (decide (x_903<y_956)) ((idx (BB g.length s) x_903).bind λe_960=>cond e_960 (some (.inl (IntKind.i64.wrap (x_903+1)))) ((D.S g x_903 (BB g.length s)).bind λy_970=>(D.c g y_970).bind λy_987=>cond (!y_987) (some (.inl (IntKind.i64.wrap (x_903+1)))) (some (.inr x_903)))) (some (.inr x_903))) ((List.range g.length).map Int.ofNat) (λx=>has s x.toNat&&okv (g.map mk) g.length s x) (λx=>x) (g.length:Int) (λi hi=>by
   have hin:i<g.length:=by simpa using hi
   have hgi:((List.range g.length).map Int.ofNat)[i]=(i:Int):=by simp
   rw[hgi]
   unfold D.d
   simp only[bs,dlt hin,cond_true,goneOf_idx hin,Int.toNat_natCast,wq i]
   by_cases hh:has s i=true
   case neg=>
    have hh:has s i=false:=by simpa using hh
    simp[hh]
   case pos=>
    simp only[hh,Bool.not_true,cond_false,Bool.true_and]
    rw[l7Left_eq g hg hin _ (by rw[DM]),bs,lft_gone hg hs.vs hin]
    have hmis:=Er hn1 h16 hF (VS.iand (mk (row g i)) s) (λw hw=>by
     have:=near_lt hg (v:=i) hF hs.vs hin w
     rw[CX] at this
     exact this hw)
    rw[grow_of hg] at hmis
    unfold D.c
    rw[hmis]
    simp only[bs]
    have eo:okv (g.map mk) g.length s (i:Int)=decide (mis (g.map mk) g.length (iand .u32 (mk (row g i)) s)=0):=by
     unfold okv;rw[Int.toNat_natCast,CX]
    rw[eo]
    by_cases hz:mis (g.map mk) g.length (iand .u32 (mk (row g i)) s)=0
    ·simp[hz]
    ·have:((mis (g.map mk) g.length (iand .u32 (mk (row g i)) s):Int)==0)=false:=by simpa using hz
     simp only[this,Bool.not_false,cond_true];simp[hz]) (by unfold D.d;simp)
  rw[find_all hg hs] at hin
  unfold pk
  cases hf:(Am s).find? (okv (g.map mk) g.length s) with
  |none=>
   rw[hf] at hin
   rw[AH (r:= .inr ([],false))]
   unfold D.d at hin ⊢
   simp only[bs] at hin
   simp only[bs,hlt,cond_true,hin,beq_self_eq_true]
  |some x=>
   rw[hf] at hin
   obtain⟨v,_,h2,rfl⟩:=mem_elems.1 (List.mem_of_find?_eq_some hf)
   have hvn:=hs.lt v h2
   have hne:(((v:Nat):Int)==(g.length:Int))=false:=by simp;omega
   rw[A9 (s':=(BB g.length (iandNot .u32 s (ishl .u32 1 (v:Int))),out++[(v:Int)]))]
   ·rw[spec_pk k _ (out++[(v:Int)]) (hs.rm h2) (by simp;omega)]
    cases hq:pk (g.map mk) g.length k (iandNot .u32 s (ishl .u32 1 (v:Int))) with
    |none=>simp[hq]
    |some l=>simp[hq]
   ·unfold D.d at hin ⊢
    simp only[bs] at hin
    simp only[bs,hlt,cond_true,hin,hne,cond_false,goneOf_idx hvn,Int.toNat_natCast,goneOf_set hs.vs hvn (show g.length≤32 by omega)]
    rw[Bi (by simp;omega),bs]
theorem DX :∃b,D.Y0 g=some b∧D.q g=some b:=by
 have h16:=hg.n16;have hn1:=hg.n1
 refine⟨(pk (g.map mk) g.length g.length (full g.length)).isSome,?_,?_⟩
 ·unfold D.Y0 D.N
  have hlm:(g.map mk).length=g.length:=by simp
  obtain⟨s,e1,hs1,hs2⟩:=Ee (g.map mk) (by omega)
  have hsf:s=full g.length:=hs1.ext (CD _) (λw _=>by rw[hs2,BA h16,hlm])
  rw[BT g hg.sh2,Co hg,bs,cond_true,CZ g hg,bs,e1,bs,hsf,impl_pk hg g.length (full g.length) [] (SQ.full h16) (by simp;omega),bs]
  cases hp:pk (g.map mk) g.length g.length (full g.length) with
  |none=>rfl
  |some l=>
   have:=pk_len hp
   cases l with
   |nil=>simp at this;omega
   |cons x t=>rfl
 ·unfold D.q D.Y
  rw[BS g hg.sh2,Co hg,bs,Bool.not_true,cond_false]
  have:=spec_pk hg g.length (full g.length) [] (SQ.full h16) (by simp)
  unfold D.d at this ⊢
  simp only[bs] at this ⊢
  rw[Dj (by omega) (by omega),bs,goneOf_full h16,this,bs]
  cases hp:pk (g.map mk) g.length g.length (full g.length) with
  |none=>rfl
  |some l=>rfl
end
end Go.Sx

namespace Go.Sx
theorem Eo {g:LL}(hg:GOk g):D.N (g.map mk)=some ((pk (g.map mk) g.length g.length (full g.length)).getD []):=by
 have h16:=hg.n16;have hn1:=hg.n1
 unfold D.N
 have hlm:(g.map mk).length=g.length:=by simp
 obtain⟨s,e1,hs1,hs2⟩:=Ee (g.map mk) (by omega)
 have hsf:s=full g.length:=hs1.ext (CD _) (λw _=>by rw[hs2,BA h16,hlm])
 rw[e1,bs,hsf,impl_pk hg g.length (full g.length) [] (SQ.full h16) (by simp;omega),bs]
 cases hp:pk (g.map mk) g.length g.length (full g.length) with
 |none=>rfl
 |some l=>
  have:=pk_len hp
  cases l with
  |nil=>simp at this;omega
  |cons x t=>rfl
structure Iv (g:LL)(L R:Nat→Int):Prop where
 le:∀v,v<g.length→L v≤R v
 ad:∀u v,u<g.length→v<g.length→(adj g u v↔u≠v∧L u≤R v∧L v≤R u)
section
variable {g : LL} (hg : GOk g)
include hg
variable {L R : Nat → Int} (hI : Iv g L R)
include hI
end
end Go.Sx

namespace Go.Sx
theorem Do {k:Nat}(h:k<32):D.g (k:Int)=some ((2^k:Nat):Int):=by
 unfold D.g
 rw[uw (by omega),unneg,cond_false,shl64 h,one_eq h]
theorem nat_or_add {n k:Nat}(hn:n<65536)(hk:k<16)(h:n.testBit k=false):n+2^k=n|||2^k:=by
 have hp:2^k<65536:=Nat.lt_of_lt_of_le (Nat.pow_lt_pow_right (by omega) hk) (by omega)
 have h0:BitVec.ofNat 32 n&&&BitVec.ofNat 32 (2^k)=0#32:=by
  apply BitVec.eq_of_toNat_eq
  simp only[BitVec.toNat_and,BitVec.toNat_ofNat]
  rw[Nat.mod_eq_of_lt (by omega),Nat.mod_eq_of_lt (by omega)]
  apply Nat.eq_of_testBit_eq
  intro i
  rw[Nat.testBit_and,Nat.testBit_two_pow]
  by_cases hi:k=i
  ·subst hi;simp[h]
  ·simp[hi]
 have e:=congrArg BitVec.toNat (BitVec.add_eq_or_of_and_eq_zero _ _ h0)
 simp only[BitVec.toNat_add,BitVec.toNat_or,BitVec.toNat_ofNat] at e
 rw[Nat.mod_eq_of_lt (show n<2^32 by omega),Nat.mod_eq_of_lt (show 2^k<2^32 by omega),Nat.mod_eq_of_lt (by omega)] at e
 exact e
theorem add_bit {p:Int}{k:Nat}(hp:S16 p)(hk:k<16)(h:has p k=false):p+((2^k:Nat):Int)=ior .u32 p (ishl .u32 1 (k:Int)):=by
 obtain⟨n,rfl,hn⟩:=hp.nat
 have hp:2^k<65536:=Nat.lt_of_lt_of_le (Nat.pow_lt_pow_right (by omega) hk) (by omega)
 rw[one_eq (by omega),ior_nat (by omega) (by omega),←nat_or_add hn hk (by rw[Bd] at h;exact h)]
 omega
theorem S16.or_bit {p:Int}{k:Nat}(hp:S16 p)(hk:k<16):S16 (ior .u32 p (ishl .u32 1 (k:Int))):=by
 have h:In 16 (ior .u32 p (ishl .u32 1 (k:Int))):=⟨VS.ior _ _,λv hv=>by
  rw[Bu hp.vs (VS.ishl _ _),Bg (by omega),Bool.or_eq_true,decide_eq_true_eq] at hv
  rcases hv with hv|rfl
  ·exact hp.lt hv
  ·exact hk⟩
 exact h.s16 (by omega)
theorem mask_loop {s:Int}(hs:S16 s):Ao (σ:=Int×Int) (ρ:=Int) (fun(q:Int×Int)=>match q with|(x_489,x_490)=>cond (decide (x_490<((Am s).length:Int))) ((idx (Am s) x_490).bind λe_534=>(D.g e_534).bind λy_540=>some (.inl ((IntKind.i64.wrap (x_489+y_540)),(IntKind.i64.wrap (x_490+1))))) (some (.inr x_489))) (0,0)=some s:=by
 have hlen:=Bh s
 have hel:∀j (hj:j<(Am s).length),∃v:Nat,(Am s)[j]=(v:Int)∧v<16∧has s v=true:=λj hj=>by
  obtain⟨v,_,h2,h3⟩:=mem_elems.1 (List.getElem_mem hj)
  exact⟨v,h3,hs.lt h2,h2⟩
 have key:=loop_nat (step:=fun(q:Int×Int)=>match q with|(x_489,x_490)=>cond (decide (x_490<((Am s).length:Int))) ((idx (Am s) x_490).bind λe_534=>(D.g e_534).bind λy_540=>some (.inl ((IntKind.i64.wrap (x_489+y_540)),(IntKind.i64.wrap (x_490+1))))) (some (.inr x_489)))
  (Am s).length (λa i=>(a,i)) (λa j=>a+((2^((Am s).getD j 0).toNat:Nat):Int)) (λa=>a) (λj a=>S16 a∧∀v:Nat,has a v=true↔(v:Int)∈(Am s).take j) 0 ⟨⟨by omega,by omega⟩,λv=>by rw[Ba];simp⟩
  (λa j hj ⟨ha,hm⟩=>by
   obtain⟨v,ev,hv,hsv⟩:=hel j hj
   have hnot:has a v=false:=by
    cases hh:has a v
    ·rfl
    ·have hmem:=(hm v).1 hh
     obtain⟨i,hi,e⟩:=List.mem_take_iff_getElem.1 hmem
     have hinc:=Bf s
     unfold Inc at hinc
     rw[List.pairwise_iff_getElem] at hinc
     have:=hinc i j (by omega) hj (by omega)
     omega
   have hab:=add_bit ha hv hnot
   have h16:=ha.or_bit hv
   have hb:=h16.2
   have hb0:=h16.1
   rw[As hj,ev,Int.toNat_natCast]
   refine⟨?_,by rw[hab];exact h16,λw=> ?_⟩
   ·simp only[dlt hj,cond_true,Aw hj,ev,bs,Do (show v<32 by omega),wq j]
    rw[w64 (by omega) (by omega)]
   ·rw[hab,Bu ha.vs (VS.ishl _ _),Bg (by omega),Bool.or_eq_true,decide_eq_true_eq,hm w,List.take_succ_eq_append_getElem hj,List.mem_append,ev]
    simp only[List.mem_singleton,Int.natCast_inj])
  (λa _=>by simp only[Bm,cond_false])
 rw[key.1]
 have h2:=key.2
 rw[List.take_length] at h2
 congr 1
 refine VS.ext h2.1.vs hs.vs (λv _=>Bool.eq_iff_iff.2 ?_)
 rw[h2.2 v,AY hs.vs]
theorem l14Masks_eq {cs:LI}(hs:∀s∈cs,S16 s)(hl:cs.length≤65536):D.v0 (cs.map Am)=some cs:=by
 unfold D.v0
 have:=DO (step:=fun(s_278:LI×Int)=>match s_278 with|(l_281,x_286)=>cond (decide (x_286<((cs.map Am).length:Int))) ((Ao (σ:=Int×Int) (ρ:=(Int)) (fun(s_486:Int×Int)=>match s_486 with|(x_489,x_490)=>(idx (cs.map Am) x_286).bind λe_521=>cond (decide (x_490<(e_521.length:Int))) ((idx (cs.map Am) x_286).bind λe_528=>(idx e_528 x_490).bind λe_534=>(D.g e_534).bind λy_540=>some (.inl ((IntKind.i64.wrap (x_489+y_540)),(IntKind.i64.wrap (x_490+1))))) (some (.inr x_489))) (0,0)).bind λx_519=>(AM l_281 ([x_519]:LI)).bind λl_551=>some (.inl (l_551,(IntKind.i64.wrap (x_286+1))))) (some (.inr l_281)))
  (k:=λl_420=>some l_420) cs (λl i=>(l,i)) (λx=>x) (by omega) (λl i hi _=>by
   have hd:decide ((i:Int)<((cs.map Am).length:Int))=true:=by simp;omega
   have hidx:idx (cs.map Am) (i:Int)=some (Am cs[i]):=by rw[Aw (by simpa using hi)];simp
   simp only[hd,cond_true,hidx,bs,mask_loop (hs _ (List.getElem_mem hi)),wq i])
  (λl=>by
   have hd:decide ((cs.length:Int)<((cs.map Am).length:Int))=false:=by simp
   simp only[hd,cond_false])
 rw[this,List.map_id']
structure Un (cs:LI)(m:Nat)(U:LI):Prop where
 len:U.length=2^m
 vs:∀b,b<2^m→VS (U.getD b 0)
 hs:∀b,b<2^m→∀v,has (U.getD b 0) v=true↔∃i,i<m∧b.testBit i=true∧ch cs i v=true
theorem l14Unions_ok {cs:LI}(hs:∀s∈cs,VS s)(hm:cs.length≤16):∃U,D.t0 cs=some U∧Un cs cs.length U:=by
 unfold D.t0
 have p16:∀i,i≤16→2^i≤65536:=λi hi=>Nat.le_trans (Nat.pow_le_pow_right (by omega) hi) (by omega)
 refine AU (fun(q:LI×Int)=>∃i:Nat,q.2=(i:Int)∧i≤cs.length∧Un cs i q.1) (λq=>cs.length-q.2.toNat) (λU=>Un cs cs.length U) ?_ ⟨0,rfl,by omega,⟨rfl,λb hb=> ?_,λb hb v=> ?_⟩⟩ (λr hr=>⟨r,rfl,hr⟩)
 ·rintro⟨l,_⟩ ⟨i,rfl,hi,hU⟩
  dsimp only at hU ⊢
  by_cases hlt:i<cs.length
  ·have hp:=p16 i (by omega)
   have hp1:=p16 (i+1) (by omega)
   have hpow:2^(i+1)=2^i+2^i:=by rw[Nat.pow_succ];omega
   have hll:=hU.len
   have hvc:VS cs[i]:=hs _ (List.getElem_mem hlt)
   simp only[dlt hlt,cond_true]
   rw[CN (k:=λl_563=>some (Sum.inl (β:=LI) (l_563,IntKind.i64.wrap ((i:Int)+1)))) (λk=>(l++(l.take k).map (λe=>ior .u32 e cs[i]),(k:Int))) l.length (l++l.map (λe=>ior .u32 e cs[i])) (by simp) (λk hk=>by
    have hel:VS l[k]:=by have:=hU.vs k (by omega);rwa [As hk] at this
    have hidx:idx (l++(l.take k).map (λe=>ior .u32 e cs[i])) (k:Int)=some l[k]:=by
     rw[Aw (by simp;omega)]
     congr 1
     rw[List.getElem_append_left hk]
    dsimp only
    simp only[dlt hk,cond_true,hidx,bs,Aw hlt,or6432 hel hvc,wq k]
    rw[Bi (by simp;omega),bs,List.take_succ_eq_append_getElem hk,List.map_append,List.append_assoc]
    rfl) (by dsimp only;rw[List.take_length];simp only[Bm,cond_false])]
   refine⟨_,rfl,⟨i+1,wi (by omega),by omega,⟨by simp;omega,λb hb=> ?_,λb hb v=> ?_⟩⟩,by dsimp only;rw[wi (by omega)];omega⟩
   ·dsimp only
    by_cases hbl:b<2^i
    ·have:=hU.vs b hbl
     rwa [As (show b<(l++l.map (λe=>ior .u32 e cs[i])).length by simp;omega),List.getElem_append_left (by omega),←As (by omega) 0]
    ·rw[As (show b<(l++l.map (λe=>ior .u32 e cs[i])).length by simp;omega),List.getElem_append_right (by omega),List.getElem_map]
     exact VS.ior _ _
   ·dsimp only
    by_cases hbl:b<2^i
    ·rw[As (show b<(l++l.map (λe=>ior .u32 e cs[i])).length by simp;omega),List.getElem_append_left (by omega),←As (by omega) 0,hU.hs b hbl]
     constructor
     ·rintro⟨j,h1,h2,h3⟩;exact⟨j,by omega,h2,h3⟩
     ·rintro⟨j,h1,h2,h3⟩
      by_cases hji:j=i
      ·subst hji
       rw[Nat.testBit_lt_two_pow hbl] at h2;cases h2
      ·exact⟨j,by omega,h2,h3⟩
    ·have hb':b-2^i<2^i:=by omega
     rw[As (show b<(l++l.map (λe=>ior .u32 e cs[i])).length by simp;omega),List.getElem_append_right (by omega),List.getElem_map]
     have hq:l[b-l.length]'(by omega)=l.getD (b-2^i) 0:=by rw[As (by omega)];congr 1;omega
     have heb:b=2^i+(b-2^i):=by omega
     rw[hq,Bu (hU.vs _ hb') hvc,Bool.or_eq_true,hU.hs _ hb']
     constructor
     ·rintro(⟨j,h1,h2,h3⟩|h)
      ·refine⟨j,by omega,?_,h3⟩
       rw[heb,Nat.testBit_two_pow_add_gt h1];exact h2
      ·refine⟨i,by omega,?_,by unfold ch;rw[As hlt];exact h⟩
       rw[heb,Nat.testBit_two_pow_add_eq,Nat.testBit_lt_two_pow hb'];rfl
     ·rintro⟨j,h1,h2,h3⟩
      by_cases hji:j=i
      ·subst hji
       right;unfold ch at h3;rw[As hlt] at h3;exact h3
      ·left
       refine⟨j,by omega,?_,h3⟩
       rw[heb,Nat.testBit_two_pow_add_gt (by omega)] at h2;exact h2
  ·obtain rfl:i=cs.length:=by omega
   simp only[Bm,cond_false]
   exact⟨_,rfl,hU⟩
 ·obtain rfl:b=0:=by simpa using hb
  exact VS.zero
 ·obtain rfl:b=0:=by simpa using hb
  simp[Ba]
theorem pow16 {m:Nat}(hm:m≤16):2^m≤65536:=Nat.le_trans (Nat.pow_le_pow_right (by omega) hm) (by omega)
theorem s16_nat {m b:Nat}(hm:m≤16)(hb:b<2^m):S16 (b:Int):=by
 have:=pow16 hm
 exact⟨by omega,by omega⟩
section
variable {cs U : LI} (hs : ∀ s ∈ cs, VS s) (hm : cs.length ≤ 16) (hU : Un cs cs.length U)
include hs hm hU
theorem l14Fits_ok {b k:Nat}(hb:b<2^cs.length)(hk:k<cs.length):∃r,D.s cs U (b:Int) (k:Int)=some r∧(r=true↔Ft cs (b:Int) k):=by
 have hp:=pow16 hm
 have hlen:=hU.len
 have hpk:2^k<65536:=Nat.lt_of_lt_of_le (Nat.pow_lt_pow_right (by omega) (show k<16 by omega)) (by omega)
 have e1:idx U (b:Int)=some (U.getD b 0):=by rw[Aw (by omega),As (by omega)]
 have ew:IntKind.i64.wrap (IntKind.i64.wrap ((U.length:Int)-1)-(b:Int))=((2^cs.length-(b+1):Nat):Int):=by
  rw[w64 (x:=(U.length:Int)-1) (by omega) (by omega),w64 (by omega) (by omega)];omega
 have e2:idx U ((2^cs.length-(b+1):Nat):Int)=some (U.getD (2^cs.length-(b+1)) 0):=by rw[Aw (by omega),As (by omega)]
 have v1:=hU.vs b hb
 have v2:=hU.vs (2^cs.length-(b+1)) (by omega)
 unfold D.s
 rw[e1,bs,ew,e2,bs,Do (by omega),bs,and64 (by omega) (by omega)]
 have hopn:∀v,has (iand .u32 (U.getD b 0) (U.getD (2^cs.length-(b+1)) 0)) v=true↔Opn cs (b:Int) v:=λv=>by
  rw[B6 v1 v2,Bool.and_eq_true,hU.hs b hb,hU.hs _ (by omega)]
  unfold Opn
  refine and_congr ?_ ?_
  ·refine exists_congr λi=>and_congr Iff.rfl (and_congr ?_ Iff.rfl)
   rw[Bd]
  ·refine exists_congr λi=> ?_
   rw[Nat.testBit_two_pow_sub_succ hb,Bd]
   constructor
   ·rintro⟨h1,h2,h3⟩
    simp at h2
    exact⟨h1,h2.2,h3⟩
   ·rintro⟨h1,h2,h3⟩
    exact⟨h1,by simp[h1,h2],h3⟩
 cases hbk:b.testBit k
 ·have hz:b&&&2^k=0:=by
   apply Nat.eq_of_testBit_eq
   intro i
   rw[Nat.testBit_and,Nat.testBit_two_pow]
   by_cases hi:k=i
   ·subst hi;simp[hbk]
   ·simp[hi]
  have hc:VS (cs.getD k 0):=by rw[As hk];exact hs _ (List.getElem_mem hk)
  have e3:idx cs (k:Int)=some (cs.getD k 0):=by rw[Aw hk,As hk]
  have hz':(((b&&&2^k:Nat):Int)==0)=true:=by rw[hz];rfl
  rw[hz',cond_true,e3,bs,bs,and6432 v1 v2,and6432 (VS.iand _ _) hc]
  refine⟨_,rfl,?_⟩
  rw[beq_iff_eq]
  unfold Ft
  constructor
  ·intro h
   refine⟨hk,by rw[Bd];exact hbk,λv hv=> ?_⟩
   have h1:=(hopn v).2 hv
   rw[←h,B6 (VS.iand _ _) hc,Bool.and_eq_true] at h1
   exact h1.2
  ·rintro⟨_,_,h⟩
   refine VS.ext (VS.iand _ _) (VS.iand _ _) (λv _=> ?_)
   rw[B6 (VS.iand _ _) hc]
   cases ho:has (iand .u32 (U.getD b 0) (U.getD (2^cs.length-(b+1)) 0)) v
   ·rfl
   ·have:=h v ((hopn v).1 ho)
    unfold ch at this
    rw[this];rfl
 ·have hz:¬(b&&&2^k=0):=λh=>by
   have:=congrArg (λx=>x.testBit k) h
   simp only[Nat.testBit_and,Nat.testBit_two_pow,hbk] at this
   simp at this
  have hz':(((b&&&2^k:Nat):Int)==0)=false:=by rw[beq_eq_false_iff_ne];omega
  rw[hz',cond_false]
  refine⟨false,rfl,?_⟩
  constructor
  ·intro h;cases h
  ·rintro⟨_,h,_⟩
   rw[Bd,hbk] at h;cases h
omit hs hU in
theorem ends_iff {p:Int}:Ends cs p↔(∀i,i<cs.length→has p i=true)∨∃k,Ft cs p k∧Ends cs (ior .u32 p (ishl .u32 1 (k:Int))):=by
 constructor
 ·intro h
  cases h with
  |all h=>exact .inl h
  | @go _ k h1 h2=>exact .inr ⟨k,h1,h2⟩
 ·rintro(h|⟨k,h1,h2⟩)
  ·exact .all h
  ·exact .go h1 h2
omit hs hU in
theorem next_nat {b k:Nat}(hb:b<2^cs.length)(hF:Ft cs (b:Int) k):ior .u32 (b:Int) (ishl .u32 1 (k:Int))=((b+2^k:Nat):Int)∧b+2^k<2^cs.length:=by
 have hk:=hF.1
 have h0:=hF.2.1
 have hp:=pow16 hm
 have e:=add_bit (s16_nat hm hb) (show k<16 by omega) h0
 rw[Bd] at h0
 refine⟨by rw[←e];omega,?_⟩
 rw[nat_or_add (by omega) (by omega) h0]
 exact Nat.or_lt_two_pow hb (Nat.pow_lt_pow_right (by omega) hk)
theorem l14Ends_ok :∃E:List Bool,D.l0 cs U=some E∧E.length=2^cs.length∧∀b,b<2^cs.length→(E.getD b false=true↔Ends cs (b:Int)):=by
 have hp:=pow16 hm
 have hpos:0<2^cs.length:=Nat.two_pow_pos _
 have hlen:=hU.len
 have ea:IntKind.i64.wrap ((U.length:Int)-1)=((2^cs.length-1:Nat):Int):=by rw[w64 (by omega) (by omega)];omega
 have eb:IntKind.i64.wrap (((2^cs.length-1:Nat):Int)+1)=((2^cs.length:Nat):Int):=by rw[w64 (by omega) (by omega)];omega
 have ec:IntKind.i64.wrap (((2^cs.length-1:Nat):Int)-1)=((2^cs.length-1:Nat):Int)-1:=by rw[w64 (by omega) (by omega)]
 unfold D.l0
 simp only[ea,eb,ec,Int.toNat_natCast]
 rw[Dj (by omega) (by omega),bs,Aw (by simp;omega),bs]
 refine AU (fun(q:List Bool×Int)=>∃j:Nat,q.2=(j:Int)-1∧j<2^cs.length∧q.1.length=2^cs.length∧(∀b,j≤b→b<2^cs.length→(q.1.getD b false=true↔Ends cs (b:Int)))∧∀b,b<j→q.1.getD b false=false)
  (λq=>(q.2+1).toNat) (λE=>E.length=2^cs.length∧∀b,b<2^cs.length→(E.getD b false=true↔Ends cs (b:Int))) ?_ ⟨2^cs.length-1,rfl,by omega,by simp,λb h1 h2=> ?_,λb hb=> ?_⟩ (λr hr=>⟨r,rfl,hr⟩)
 ·rintro⟨l,_⟩ ⟨j,rfl,hj,hl,hE,hfl⟩
  dsimp only at hl hE hfl ⊢
  by_cases hj0:j=0
  ·subst hj0
   have hd:decide ((0:Int)≤((0:Nat):Int)-1)=false:=by simp
   rw[hd,cond_false]
   exact⟨_,rfl,hl,λb hb=>hE b (by omega) hb⟩
  ·obtain⟨b,rfl⟩:∃b,j=b+1:=⟨j-1,by omega⟩
   have hd:decide ((0:Int)≤((b+1:Nat):Int)-1)=true:=by simp
   have hx:((b+1:Nat):Int)-1=(b:Int):=by omega
   rw[hd,cond_true,hx]
   have hbl:b<l.length:=by omega
   refine AU (fun(q:List Bool×Int)=>∃(k:Nat) (v:Bool),q.2=(k:Int)∧k≤cs.length∧q.1=l.set b v∧(v=true→Ends cs (b:Int))∧(v=false→∀k',k'<k→¬(Ft cs (b:Int) k'∧Ends cs (ior .u32 (b:Int) (ishl .u32 1 (k':Int))))))
    (λq=>cs.length-q.2.toNat) (λl'=>∃v:Bool,l'=l.set b v∧(v=true↔Ends cs (b:Int))) ?_ ⟨0,l[b],rfl,by omega,by rw[List.set_getElem_self],?_,?_⟩ ?_
   ·rintro⟨_,_⟩ ⟨k,v,rfl,hk,rfl,h1,h2⟩
    dsimp only
    have eq:idx (l.set b v) (b:Int)=some v:=by rw[Aw (by simpa using hbl),List.getElem_set_self]
    have hall:k=cs.length∨v=true→v=true∨(v=false∧¬Ends cs (b:Int)):=by
     intro h
     cases v
     ·right
      refine⟨rfl,λhe=> ?_⟩
      rcases(ends_iff hm).1 he with h|⟨k',g1,g2⟩
      ·
       have:b+1=2^cs.length:=by
        have hn:∀i,(b:Nat).testBit i=(2^cs.length-1).testBit i:=λi=>by
         rw[Nat.testBit_two_pow_sub_one]
         by_cases hi:i<cs.length
         ·have:=h i hi;rw[Bd] at this;simp[this,hi]
         ·have:b.testBit i=false:=Nat.testBit_lt_two_pow (Nat.lt_of_lt_of_le (show b<2^cs.length by omega) (Nat.pow_le_pow_right (by omega) (by omega)))
          simp[this,hi]
        have:=Nat.eq_of_testBit_eq hn
        omega
       omega
      ·rcases h with h|h
       ·exact h2 rfl k' (by have:=g1.1;omega) ⟨g1,g2⟩
       ·cases h
     ·exact .inl rfl
    by_cases hkm:k<cs.length
    ·simp only[dlt hkm,cond_true,eq,bs]
     cases v
     ·simp only[Bool.not_false,cond_true]
      obtain⟨r,er,hr⟩:=l14Fits_ok hs hm hU (show b<2^cs.length by omega) hkm
      rw[er,bs]
      cases r
      ·simp only[cond_false,bs,Int.toNat_natCast,List.set_set]
       refine⟨_,rfl,⟨k+1,false,wi (by omega),by omega,rfl,λh=>(by cases h),λ_ k' hk'=> ?_⟩,by dsimp only;rw[wi (by omega)];omega⟩
       by_cases hkk:k'=k
       ·subst hkk
        exact λh=>by have:=hr.2 h.1;cases this
       ·exact h2 rfl k' (by omega)
      ·have hF:=hr.1 rfl
       obtain⟨n1,n2⟩:=next_nat hm (show b<2^cs.length by omega) hF
       have hpk:0<2^k:=Nat.two_pow_pos _
       have ew:IntKind.i64.wrap ((b:Int)+((2^k:Nat):Int))=((b+2^k:Nat):Int):=by rw[w64 (by omega) (by omega)];omega
       have ei:idx (l.set b false) ((b+2^k:Nat):Int)=some (l.getD (b+2^k) false):=by
        rw[Aw (by simp;omega),List.getElem_set_ne (by omega),As (by omega)]
       simp only[cond_true,Do (show k<32 by omega),bs,ew,ei,Int.toNat_natCast,List.set_set]
       have hEk:=hE (b+2^k) (by omega) n2
       rw[←n1] at hEk
       refine⟨_,rfl,⟨k+1,_,wi (by omega),by omega,rfl,λh=> .go hF (hEk.1 h),λh k' hk'=> ?_⟩,by dsimp only;rw[wi (by omega)];omega⟩
       by_cases hkk:k'=k
       ·subst hkk
        exact λg=>by rw[hEk.2 g.2] at h;cases h
       ·exact h2 rfl k' (by omega)
     ·simp only[Bool.not_true,cond_false]
      exact⟨_,rfl,true,rfl,⟨λ_=>h1 rfl,λ_=>rfl⟩⟩
    ·obtain rfl:k=cs.length:=by omega
     simp only[Bm,cond_false,bs]
     refine⟨_,rfl,v,rfl,?_⟩
     rcases hall (.inl rfl) with h|⟨h,hn⟩
     ·exact⟨λ_=>h1 h,λ_=>h⟩
     ·exact⟨λh'=>(by rw[h] at h';cases h'),λh'=>absurd h' hn⟩
   ·have:=hfl b (by omega)
    rw[As hbl] at this
    intro h;rw[this] at h;cases h
   ·intro _ k' h;omega
   ·rintro _ ⟨v,rfl,hv⟩
    refine⟨_,rfl,⟨b,?_,by omega,by simpa using hl,λb' h1 h2=> ?_,λb' hb'=> ?_⟩,?_⟩
    ·dsimp only;rw[w64 (by omega) (by omega)]
    ·dsimp only
     rw[As (by simp;omega)]
     by_cases hbb:b'=b
     ·subst hbb
      rw[List.getElem_set_self];exact hv
     ·rw[List.getElem_set_ne (by omega),←As (by omega) false]
      exact hE b' (by omega) h2
    ·dsimp only
     rw[As (by simp;omega),List.getElem_set_ne (by omega),←As (by omega) false]
     exact hfl b' (by omega)
    ·dsimp only;rw[w64 (by omega) (by omega)];omega
 ·obtain rfl:b=2^cs.length-1:=by omega
  dsimp only
  rw[As (by simp;omega),List.getElem_set_self]
  refine⟨λ_=> .all (λi hi=> ?_),λ_=>rfl⟩
  rw[Bd,Nat.testBit_two_pow_sub_one];simp[hi]
 ·dsimp only
  rw[As (by simp;omega),List.getElem_set_ne (by omega)]
  simp
end
end Go.Sx

namespace Go.Sx
theorem loop_set {α S ρ β:Type}{step:S→Option (S ⊕ ρ)}{k:ρ→Option β}{s0:S}(xs ys:List α)(hl:xs.length=ys.length)(enc:List α→Int→S)(r:ρ)(h0:enc ys 0=s0)
  (hstep:∀l (i:Nat) (h:i<xs.length),l.length=xs.length→step (enc l i)=some (.inl (enc (l.set i xs[i]) ((i+1:Nat):Int))))
  (hend:step (enc xs xs.length)=some (.inr r)):(Ao step s0).bind k=k r:=by
 refine CN (λi=>enc (xs.take i++ys.drop i) (i:Int)) xs.length r (by simpa using h0) (λi hi=> ?_) ?_
 ·have e:(xs.take i++ys.drop i).set i xs[i]=xs.take (i+1)++ys.drop (i+1):=by
   rw[List.take_succ_eq_append_getElem hi,List.drop_eq_getElem_cons (show i<ys.length by omega),List.set_append_right _ _ (by simp;omega)]
   have e0:i-(xs.take i).length=0:=by rw[List.length_take];omega
   rw[e0,List.set_cons_zero,List.append_assoc];rfl
  rw[hstep _ i hi (by simp;omega),e]
 ·rw[←hend,List.take_length,hl,List.drop_length,List.append_nil]
theorem toS_eq (xs:LI)(h:Sh xs):D.m xs=some xs:=by
 unfold Sh at h
 unfold D.m
 rw[Dj (by omega) (by omega),bs]
 refine(loop_set xs (List.replicate xs.length 0) (by simp) (λl i=>(l,i)) xs rfl (λl i hi hl=> ?_) ?_).trans rfl
 ·simp only[dlt hi,cond_true,Aw hi,Aw (show i<l.length by omega),bs,wq i,Int.toNat_natCast]
 ·simp only[Bm,cond_false]
theorem toSS_eq (xs:LL)(h:Sh2 xs):D.p0 xs=some xs:=by
 obtain⟨h,h2⟩:=h
 unfold Sh at h
 unfold D.p0
 rw[Dj (by omega) (by omega),bs]
 refine(loop_set xs (List.replicate xs.length []) (by simp) (λl i=>(l,i)) xs rfl (λl i hi hl=> ?_) ?_).trans rfl
 ·simp only[dlt hi,cond_true,Aw hi,Aw (show i<l.length by omega),bs,wq i,Int.toNat_natCast,toS_eq _ (h2 _ (List.getElem_mem hi))]
 ·simp only[Bm,cond_false]
theorem toGraph_eq (g:LL)(h:Sh2 g):D.u g=some g:=by
 unfold D.u;rw[toSS_eq g h];rfl
theorem Ej {α:Type}[DecidableEq α](xs ys:List α)(d:α)(hl:xs.length=ys.length):(List.range xs.length).all (λi=>decide (xs.getD i d=ys.getD i d))=decide (xs=ys):=by
 rw[Bool.eq_iff_iff,C8,decide_eq_true_eq]
 constructor
 ·intro h
  apply List.ext_getElem hl
  intro i h1 h2
  have:=h i h1
  rw[As h1,As h2] at this
  exact of_decide_eq_true this
 ·rintro rfl i _;simp
theorem eqS_eq (xs ys:LI)(h:Sh xs):D.n xs ys=some (decide (xs=ys)):=by
 unfold Sh at h
 unfold D.n
 by_cases hl:xs.length=ys.length
 ·have e:((xs.length:Int) !=(ys.length:Int))=false:=by simp[hl]
  rw[e,cond_false,←Ej xs ys 0 hl]
  refine CF xs.length _ false (λi hi=> ?_) ?_ rfl rfl
  ·have hi':i<ys.length:=by omega
   simp only[dlt hi,cond_true,Aw hi,Aw hi',bs,wq i,As hi,As hi']
   by_cases hc:xs[i]=ys[i]
   ·simp[hc]
   ·have:(xs[i] !=ys[i])=true:=by simpa using hc
    simp[hc,this]
  ·simp only[Bm,cond_false]
 ·have e:((xs.length:Int) !=(ys.length:Int))=true:=by simp;omega
  have:xs≠ys:=by rintro rfl;exact hl rfl
  simp[e,this]
theorem eqSS_eq (xs ys:LL)(h:Sh2 xs):D.r0 xs ys=some (decide (xs=ys)):=by
 obtain⟨h,h2⟩:=h
 unfold Sh at h
 unfold D.r0
 by_cases hl:xs.length=ys.length
 ·have e:((xs.length:Int) !=(ys.length:Int))=false:=by simp[hl]
  rw[e,cond_false,←Ej xs ys [] hl]
  refine CF xs.length _ false (λi hi=> ?_) ?_ rfl rfl
  ·have hi':i<ys.length:=by omega
   simp only[dlt hi,cond_true,Aw hi,Aw hi',bs,wq i,As hi,As hi',eqS_eq _ _ (h2 _ (List.getElem_mem hi))]
   by_cases hc:xs[i]=ys[i]
   ·simp[hc]
   ·simp[hc]
  ·simp only[Bm,cond_false]
 ·have e:((xs.length:Int) !=(ys.length:Int))=true:=by simp;omega
  have:xs≠ys:=by rintro rfl;exact hl rfl
  simp[e,this]
theorem eqGraph_eq (xs ys:LL)(h:Sh2 xs):D.x0 xs ys=some (decide (xs=ys)):=by
 unfold D.x0;rw[eqSS_eq xs ys h,bs];cases decide (xs=ys)<;>rfl
def tot :LL→Int
 |[]=>0
 |x::xs=>x.length+tot xs
theorem C3 :∀xs,0≤tot xs
 |[]=>Int.le_refl _
 |x::xs=>by have:=C3 xs;simp only[tot];omega
theorem tot_app :∀xs ys,tot (xs++ys)=tot xs+tot ys
 |[],ys=>by simp[tot]
 |x::xs,ys=>by simp only[List.cons_append,tot,tot_app xs ys];omega
theorem tot_mem :∀{xs:LL} {x},x∈xs→(x.length:Int)≤tot xs
 |y::xs,x,h=>by
  have:=C3 xs
  simp only[tot]
  rcases List.mem_cons.1 h with rfl|h
  ·omega
  ·have:=tot_mem h;omega
theorem tot_take {xs:LL}{i:Nat}(h:i<xs.length):tot (xs.take (i+1))=tot (xs.take i)+xs[i].length:=by
 rw[List.take_succ_eq_append_getElem h,tot_app];simp[tot]
theorem Sh2.of_tot {xs:LL}(h:Sh xs)(h2:tot xs≤4294967296):Sh2 xs:=⟨h,λx hx=>by have:=tot_mem hx;unfold Sh;omega⟩
theorem szS_eq (xs:LI)(k:Int)(hx:(xs.length:Int)≤9223372036854775807)(h0:0≤k)(h1:k≤1048576):
  D.k xs k=some (if(xs.length:Int)≤k then k-xs.length else-1):=by
 unfold D.k
 rw[w64 (by omega) (by omega)]
 by_cases h:k-(xs.length:Int)<0
 ·rw[if_neg (by omega)];simp[h]
 ·rw[if_pos (by omega)];simp[h]
theorem szSS_eq (xs:LL)(k:Int)(hx:(xs.length:Int)≤9223372036854775807)(hx2:∀x∈xs,(x.length:Int)≤9223372036854775807)(h0:0≤k)(h1:k≤1048576):
  ∃y,D.k0 xs k=some y∧(y<0∨(y+xs.length+tot xs=k∧0≤y)):=by
 unfold D.k0
 rw[w64 (by omega) (by omega)]
 by_cases h:k-(xs.length:Int)<0
 ·simp only[h,decide_true,cond_true];exact⟨-1,rfl,.inl (by omega)⟩
 ·simp only[h,decide_false,cond_false]
  have key:∀(n i:Nat) (l:Int),i+n=xs.length→0≤l→l+tot (xs.take i)=k-xs.length→
    ∃r,Ao (σ:=Int×Int) (ρ:=(Int) ⊕ (Int)) (fun(s_39:Int×Int)=>match s_39 with|(x_42,x_43)=>cond (decide (x_43<(xs.length:Int))) ((idx xs x_43).bind λe_64=>(D.k e_64 x_42).bind λy_70=>cond (decide (y_70<0)) (some (.inr (.inr (-1)))) (some (.inl (y_70,(IntKind.i64.wrap (x_43+1)))))) (some (.inr (.inl x_42)))) (l,(i:Int))=some r∧
     (r= .inr (-1)∨∃y,r= .inl y∧y+xs.length+tot xs=k∧0≤y):=by
   intro n
   induction n with
   |zero=>
    intro i l hi hl he
    obtain rfl:i=xs.length:=by omega
    refine⟨.inl l,AH (by simp only[Bm,cond_false]),.inr ⟨l,rfl,?_,hl⟩⟩
    rw[List.take_length] at he;omega
   |succ n ih=>
    intro i l hi hl he
    have hil:i<xs.length:=by omega
    have ht:=C3 (xs.take i)
    have e1:=szS_eq xs[i] l (hx2 _ (List.getElem_mem hil)) hl (by omega)
    by_cases hc:(xs[i].length:Int)≤l
    ·rw[if_pos hc] at e1
     obtain⟨r,hr,hp⟩:=ih (i+1) (l-xs[i].length) (by omega) (by omega) (by rw[tot_take hil];omega)
     refine⟨r,?_,hp⟩
     rw[A9 (s':=(l-xs[i].length,((i+1:Nat):Int)))]
     ·exact hr
     ·have hd:decide (l-(xs[i].length:Int)<0)=false:=by simp;omega
      simp only[dlt hil,cond_true,Aw hil,bs,e1,hd,cond_false,wq i]
    ·rw[if_neg hc] at e1
     refine⟨.inr (-1),AH ?_,.inl rfl⟩
     have hd:decide ((-1:Int)<0)=true:=by decide
     simp only[dlt hil,cond_true,Aw hil,bs,e1,hd]
  obtain⟨r,hr,hp⟩:=key xs.length 0 (k-xs.length) (by omega) (by omega) (by simp[tot])
  rw[show ((0:Nat):Int)=0 from rfl] at hr
  rw[hr,bs]
  rcases hp with rfl|⟨y,rfl,h1,h2⟩
  ·exact⟨-1,rfl,.inl (by omega)⟩
  ·exact⟨y,rfl,.inr ⟨h1,h2⟩⟩
theorem szGraph_eq (xs:LL)(k:Int)(hx:(xs.length:Int)≤9223372036854775807)(hx2:∀x∈xs,(x.length:Int)≤9223372036854775807)(h0:0≤k)(h1:k≤1048576):
  ∃y,D.D0 xs k=some y∧(y<0∨(y+xs.length+tot xs=k∧0≤y)):=by
 obtain⟨y,e,h⟩:=szSS_eq xs k hx hx2 h0 h1
 unfold D.D0
 rw[e,bs]
 by_cases hy:y<0
 ·simp only[hy,decide_true,cond_true];exact⟨-1,rfl,.inl (by omega)⟩
 ·simp only[hy,decide_false,cond_false];exact⟨y,rfl,h⟩
structure PK (n:Nat)(o:LI):Prop where
 len:o.length=n
 rng:∀x∈o,0≤x∧x<n
 nd:o.Nodup
def pl (o:LI)(v:Nat):Nat:=o.idxOf (v:Int)
theorem PK.mem {n:Nat}{o:LI}(h:PK n o){v:Nat}(hv:v<n):(v:Int)∈o:=by
 by_cases hc:(v:Int)∈o
 ·exact hc
 ·have:=BE (l:=(v:Int)::o) (m:=(List.range n).map Int.ofNat) (List.nodup_cons.2 ⟨hc,h.nd⟩) (λx hx=>by
   have hx':0≤x∧x<n:=by
    rcases List.mem_cons.1 hx with rfl|hx
    ·omega
    ·exact h.rng x hx
   exact List.mem_map.2 ⟨x.toNat,List.mem_range.2 (by omega),by show ((x.toNat:Nat):Int)=x;omega⟩)
  have hl:=h.len
  simp at this;omega
theorem PK.pl_lt {n:Nat}{o:LI}(h:PK n o){v:Nat}(hv:v<n):pl o v<n:=by
 have:=List.idxOf_lt_length_iff.2 (h.mem hv)
 have hl:=h.len
 unfold pl;omega
theorem PK.pl_get {n:Nat}{o:LI}(h:PK n o){v:Nat}(hv:v<n)(hl:pl o v<o.length):o[pl o v]=(v:Int):=by
 unfold pl;exact List.getElem_idxOf _
theorem PK.pl_of {n:Nat}{o:LI}(h:PK n o){i v:Nat}(hi:i<o.length)(e:o[i]=(v:Int)):pl o v=i:=by
 have hv:v<n:=by have:=h.rng _ (List.getElem_mem hi);omega
 have hl:=h.pl_lt hv
 have h2:=h.pl_get hv (by rw[h.len];exact hl)
 have hl':pl o v<o.length:=by rw[h.len];exact hl
 have hnd:=List.pairwise_iff_getElem.1 h.nd
 rcases Nat.lt_trichotomy (pl o v) i with c|c|c
 ·exact absurd (h2.trans e.symm) (hnd _ _ hl' hi c)
 ·exact c
 ·exact absurd (h2.trans e.symm).symm (hnd _ _ hi hl' c)
theorem PK.at {n:Nat}{o:LI}(h:PK n o){i:Nat}(hi:i<o.length):∃v:Nat,o[i]=(v:Int)∧v<n∧pl o v=i:=by
 have:=h.rng _ (List.getElem_mem hi)
 have e:o[i]=((o[i].toNat:Nat):Int):=by omega
 exact⟨o[i].toNat,e,by omega,h.pl_of hi e⟩
structure Ris (n:Nat)(R:Int→Int→Prop)(rk:Int→Nat):Prop where
 up:∀x y,R x y→rk x<rk y
 lt:∀v:Nat,v<n→rk v<n
 tr:∀x y z,R x y→R y z→R x z
structure Ch (n:Nat)(R:Int→Int→Prop)(v:Int)(l:LI):Prop where
 hd:∃t,l=v::t
 pw:l.Pairwise R
 rng:∀x∈l,0≤x∧x<n
 mx:∀t:LI,(v::t).Pairwise R→(∀x∈t,0≤x∧x<n)→t.length+1≤l.length
theorem Ris.nodup {n:Nat}{R:Int→Int→Prop}{rk:Int→Nat}(h:Ris n R rk){l:LI}(hp:l.Pairwise R):l.Nodup:=
 List.Pairwise.imp (fun{x y} hxy e=>by subst e;have:=h.up x x hxy;omega) hp
theorem rng_len {n:Nat}{l:LI}(hd:l.Nodup)(hr:∀x∈l,0≤x∧x<n):l.length≤n:=by
 have:=BE (m:=(List.range n).map Int.ofNat) hd (λx hx=>by
  have:=hr x hx
  exact List.mem_map.2 ⟨x.toNat,List.mem_range.2 (by omega),by show ((x.toNat:Nat):Int)=x;omega⟩)
 simpa using this
theorem Ch.len {n:Nat}{R:Int→Int→Prop}{rk:Int→Nat}(h:Ris n R rk){v:Int}{l:LI}(hc:Ch n R v l):l.length≤n:=rng_len (h.nodup hc.pw) hc.rng
def Mon (ks ks':List (Option LI)):Prop:=∀(v:Nat) (l:LI),ks[v]? =some (some l)→ks'[v]? =some (some l)
theorem Mon.refl (ks:List (Option LI)):Mon ks ks:=λ_ _ h=>h
theorem CQ_ext {F:LI}{n:Nat}(hn:n≤16)(hF:FOk F n):∀(k:Nat) (K:Int),32-(Am K).length≤k→In n K→CQ F K→∃K',In n K'∧MX F n K'∧∀w,has K w=true→has K' w=true:=by
 intro k
 induction k with
 |zero=>
  intro K hk hI hC
  have:(Am K).length≤n:=rng_len (List.Pairwise.imp (λh e=>by omega) (Bf K)) (λx hx=>by
   obtain⟨w,_,h2,rfl⟩:=mem_elems.1 hx
   have:=hI.2 w h2;omega)
  omega
 |succ k ih=>
  intro K hk hI hC
  by_cases hM:MX F n K
  ·exact⟨K,hI,hM,λw h=>h⟩
  ·have:∃w,w<n∧has K w=false∧∀u,has K u=true→nb F u w=true:=by
    refine Classical.byContradiction λhc=>hM ⟨hC,λw hw hk=> ?_⟩
    refine Classical.byContradiction λhc2=>hc ⟨w,hw,hk,λu hu=> ?_⟩
    cases h:nb F u w
    ·exact absurd ⟨u,hu,h⟩ hc2
    ·rfl
   obtain⟨w,hw,hKw,hall⟩:=this
   have hh:∀u,has (ior .u32 K (ishl .u32 1 (w:Int))) u=(has K u||decide (u=w)):=λu=>by rw[Bu hI.1 (VS.ishl _ _),Bg (by omega)]
   obtain⟨K',h1,h2,h3⟩:=ih (ior .u32 K (ishl .u32 1 (w:Int))) (by
    have hnd:((w:Int)::Am K).Nodup:=List.nodup_cons.2 ⟨(λh=>by rw[AY hI.1,hKw] at h;cases h),List.Pairwise.imp (λh e=>by omega) (Bf K)⟩
    have:=BE (m:=Am (ior .u32 K (ishl .u32 1 (w:Int)))) hnd (λx hx=>by
     rcases List.mem_cons.1 hx with rfl|hx
     ·rw[AY (VS.ior _ _),hh];simp
     ·obtain⟨u,_,h2,rfl⟩:=mem_elems.1 hx
      rw[AY (VS.ior _ _),hh,h2];rfl)
    simp only[List.length_cons] at this
    omega) ⟨VS.ior _ _,λu hu=>by
     rw[hh,Bool.or_eq_true,decide_eq_true_eq] at hu
     rcases hu with hu|rfl
     ·exact hI.2 u hu
     ·exact hw⟩ (λu v hu hv huv=>by
     rw[hh,Bool.or_eq_true,decide_eq_true_eq] at hu hv
     rcases hu with hu|rfl
     ·rcases hv with hv|rfl
      ·exact hC u v hu hv huv
      ·exact hall u hu
     ·rcases hv with hv|rfl
      ·exact hF.sym v u (hI.2 v hv) (hall v hv)
      ·exact absurd rfl huv)
   exact⟨K',h1,h2,λu hu=>h3 u (by rw[hh,hu];rfl)⟩
structure CL (g:LL)(x:LI):Prop where
 nd:x.Nodup
 rng:∀z∈x,0≤z∧z<g.length
 cq:∀u w:Nat,(u:Int)∈x→(w:Int)∈x→u≠w→adj g u w
theorem Goes.nat {cs:LI}:∀{o:LI} {p:Int},Goes cs p o→∀x∈o,∃k:Nat,x=(k:Int)∧k<cs.length
 |[],_,_,x,hx=>by simp at hx
 |y::o,p,⟨k,e,hF,hG⟩,x,hx=>by
  rcases List.mem_cons.1 hx with rfl|hx
  ·exact⟨k,e,hF.1⟩
  ·exact Goes.nat hG x hx
theorem Goes.mem {cs:LI}(hm:cs.length≤16):∀{o:LI} {p:Int},VS p→Goes cs p o→∀i,i<cs.length→has p i=true∨(i:Int)∈o
 |[],_,_,h,i,hi=> .inl (h i hi)
 |y::o,p,hp,⟨k,e,hF,hG⟩,i,hi=>by
  have hk:=hF.1
  rcases Goes.mem hm (VS.ior _ _) hG i hi with h|h
  ·rw[Bu hp (VS.ishl _ _),Bg (by omega),Bool.or_eq_true,decide_eq_true_eq] at h
   rcases h with h|rfl
   ·exact .inl h
   ·exact .inr (by rw[e];simp)
  ·exact .inr (List.mem_cons_of_mem _ h)
def atp (cs o:LI)(k v:Nat):Bool:=ch cs (o.getD k 0).toNat v
theorem Goes.conv {cs o:LI}{v i j k:Nat}(hm:cs.length≤16)(h:Goes cs 0 o)(hij:i<j)(hjk:j<k)(hk:k<o.length)(h1:atp cs o i v=true)(h2:atp cs o k v=true):atp cs o j v=true:=by
 have hj:j<o.length:=by omega
 have hi:i<o.length:=by omega
 obtain⟨a,ea,_⟩:=h.nat _ (List.getElem_mem hi)
 obtain⟨b,eb,_⟩:=h.nat _ (List.getElem_mem hj)
 obtain⟨c,ec,_⟩:=h.nat _ (List.getElem_mem hk)
 unfold atp at*
 rw[As hi,ea,Int.toNat_natCast] at h1
 rw[As hk,ec,Int.toNat_natCast] at h2
 rw[As hj,eb,Int.toNat_natCast]
 have e:o=o.take j++(b:Int)::o.drop (j+1):=by
  rw[←eb,←List.drop_eq_getElem_cons hj,List.take_append_drop]
 rw[e] at h
 refine h.mid hm ⟨VS.zero,λv hv=>by rw[Ba] at hv;cases hv⟩ (.inr ⟨a,?_,h1⟩) ⟨c,?_,h2⟩
 ·rw[←ea]
  exact List.mem_take_iff_getElem.2 ⟨i,by omega,rfl⟩
 ·rw[←ec,List.mem_drop_iff_getElem]
  exact⟨k-(j+1),by omega,by congr 1;omega⟩
structure Told (cs o:LI)(v:Nat)(a b:Int):Prop where
 ex:∃i j:Nat,a=(i:Int)∧b=(j:Int)∧i≤j∧j<o.length∧atp cs o i v=true∧atp cs o j v=true∧∀k,k<o.length→atp cs o k v=true→i≤k∧k≤j
theorem Told.at {cs o:LI}{v:Nat}{a b:Int}(hm:cs.length≤16)(h:Goes cs 0 o)(ht:Told cs o v a b){k:Nat}(h1:a≤k)(h2:(k:Int)≤b):k<o.length∧atp cs o k v=true:=by
 obtain⟨i,j,rfl,rfl,hij,hj,hi1,hj1,_⟩:=ht.ex
 refine⟨by omega,?_⟩
 by_cases e1:k=i
 ·rw[e1];exact hi1
 by_cases e2:k=j
 ·rw[e2];exact hj1
 exact h.conv hm (show i<k by omega) (show k<j by omega) hj hi1 hj1
section
variable {g : LL} (hg : GOk g) {l o : LI} (hl : GC g l) (h16 : l.length ≤ 16) (ho : Goes l 0 o)
include hg hl
include h16 ho
end
end Go.Sx

namespace Go.Sx
theorem elems_more {n:Nat}{p:Int}{k:Nat}(hn:n≤16)(hp:In n p)(hk:k<n)(h:has p k=false):(Am (ior .u32 p (ishl .u32 1 (k:Int)))).length=(Am p).length+1:=by
 have h1:((k:Int)::Am p).Nodup:=List.nodup_cons.2 ⟨λhx=>(by rw[AY hp.1,h] at hx;cases hx),List.Pairwise.imp (λh e=>by omega) (Bf _)⟩
 have h2:(Am (ior .u32 p (ishl .u32 1 (k:Int)))).Nodup:=List.Pairwise.imp (λh e=>by omega) (Bf _)
 have he:∀w,has (ior .u32 p (ishl .u32 1 (k:Int))) w=(has p w||decide (w=k)):=λw=>by rw[Bu hp.1 (VS.ishl _ _),Bg (by omega)]
 have hperm:=(List.perm_ext_iff_of_nodup h2 h1).2 (λx=>by
  rw[mem_elems,List.mem_cons,mem_elems]
  constructor
  ·rintro⟨v,a,b,rfl⟩
   rw[he,Bool.or_eq_true,decide_eq_true_eq] at b
   rcases b with b|rfl
   ·exact .inr ⟨v,a,b,rfl⟩
   ·exact .inl rfl
  ·rintro(rfl|⟨v,a,b,rfl⟩)
   ·exact⟨k,by omega,by rw[he];simp,rfl⟩
   ·exact⟨v,a,by rw[he,b];rfl,rfl⟩)
 rw[hperm.length_eq];rfl
theorem full_len {n:Nat}{p:Int}(hn:n≤16)(hp:In n p)(h:∀i,i<n→has p i=true):(Am p).length=n:=by
 have h2:(Am p).Nodup:=List.Pairwise.imp (λh e=>by omega) (Bf _)
 have h1:((List.range n).map Int.ofNat).Nodup:=by
  refine List.Pairwise.map _ (λa b hab=> ?_) (List.nodup_range (n:=n))
  intro e;exact hab (Int.ofNat.inj e)
 have hperm:=(List.perm_ext_iff_of_nodup h2 h1).2 (λx=>by
  rw[mem_elems,List.mem_map]
  constructor
  ·rintro⟨v,a,b,rfl⟩
   exact⟨v,List.mem_range.2 (hp.2 v b),rfl⟩
  ·rintro⟨v,hv,rfl⟩
   have:=List.mem_range.1 hv
   exact⟨v,by omega,h v this,rfl⟩)
 rw[hperm.length_eq];simp
theorem in_nat {m b:Nat}(hm:m≤16)(hb:b<2^m):In m (b:Int):=by
 refine⟨(s16_nat hm hb).vs,λv hv=> ?_⟩
 rw[Bd] at hv
 apply Classical.byContradiction
 intro h
 rw[Nat.testBit_lt_two_pow (Nat.lt_of_lt_of_le hb (Nat.pow_le_pow_right (by omega) (by omega)))] at hv
 cases hv
open Classical in
theorem follow_ok {cs U:LI}{E:List Bool}(hs:∀s∈cs,VS s)(hm:cs.length≤16)(hU:Un cs cs.length U)(hEl:E.length=2^cs.length)(hE:∀b,b<2^cs.length→(E.getD b false=true↔Ends cs (b:Int)))(h0:Ends cs 0):
  ∃o,Ao (σ:=LI×Int) (ρ:=(LI)) (fun(s_771:LI×Int)=>match s_771 with|(l_774,x_779)=>cond (decide ((l_774.length:Int)<(cs.length:Int))) ((Ao (σ:=Int) (ρ:=(LI×Int)) (fun(x_1274:Int)=>cond (decide (x_1274<(cs.length:Int))) ((D.s cs U x_779 x_1274).bind λy_1361=>(cond y_1361 ((D.g x_1274).bind λy_1405=>(idx E (IntKind.i64.wrap (x_779+y_1405))).bind λe_1412=>some e_1412) (some false)).bind λb_1403=>cond b_1403 ((AM l_774 ([x_1274]:LI)).bind λl_1423=>(D.g x_1274).bind λy_1429=>some (.inr (l_1423,(IntKind.i64.wrap (x_779+y_1429))))) (some (.inl (IntKind.i64.wrap (x_1274+1))))) (some (.inr (l_774,x_779)))) 0).bind fun(l_1353,x_1358)=>some (.inl (l_1353,x_1358))) (some (.inr l_774))) (([]:LI),0)=some o:=by
 have hp:=pow16 hm
 have main:=AU (k:=λo=>some o) (Q:=λ_=>True) (step:=fun(s_771:LI×Int)=>match s_771 with|(l_774,x_779)=>cond (decide ((l_774.length:Int)<(cs.length:Int))) ((Ao (σ:=Int) (ρ:=(LI×Int)) (fun(x_1274:Int)=>cond (decide (x_1274<(cs.length:Int))) ((D.s cs U x_779 x_1274).bind λy_1361=>(cond y_1361 ((D.g x_1274).bind λy_1405=>(idx E (IntKind.i64.wrap (x_779+y_1405))).bind λe_1412=>some e_1412) (some false)).bind λb_1403=>cond b_1403 ((AM l_774 ([x_1274]:LI)).bind λl_1423=>(D.g x_1274).bind λy_1429=>some (.inr (l_1423,(IntKind.i64.wrap (x_779+y_1429))))) (some (.inl (IntKind.i64.wrap (x_1274+1))))) (some (.inr (l_774,x_779)))) 0).bind fun(l_1353,x_1358)=>some (.inl (l_1353,x_1358))) (some (.inr l_774)))
  (s:=(([]:LI),0)) (fun(q:LI×Int)=>∃b:Nat,q.2=(b:Int)∧b<2^cs.length∧Ends cs (b:Int)∧(Am (b:Int)).length=q.1.length) (λq=>cs.length-q.1.length) (λ_=>True) ?_ ⟨0,rfl,Nat.two_pow_pos _,h0,by show (Am 0).length=0;rw[C4];rfl⟩ (λr _=>⟨r,rfl,trivial⟩)
 ·obtain⟨y,hy,_⟩:=main
  cases hl:Ao (σ:=LI×Int) (ρ:=(LI)) (fun(s_771:LI×Int)=>match s_771 with|(l_774,x_779)=>cond (decide ((l_774.length:Int)<(cs.length:Int))) ((Ao (σ:=Int) (ρ:=(LI×Int)) (fun(x_1274:Int)=>cond (decide (x_1274<(cs.length:Int))) ((D.s cs U x_779 x_1274).bind λy_1361=>(cond y_1361 ((D.g x_1274).bind λy_1405=>(idx E (IntKind.i64.wrap (x_779+y_1405))).bind λe_1412=>some e_1412) (some false)).bind λb_1403=>cond b_1403 ((AM l_774 ([x_1274]:LI)).bind λl_1423=>(D.g x_1274).bind λy_1429=>some (.inr (l_1423,(IntKind.i64.wrap (x_779+y_1429))))) (some (.inl (IntKind.i64.wrap (x_1274+1))))) (some (.inr (l_774,x_779)))) 0).bind fun(l_1353,x_1358)=>some (.inl (l_1353,x_1358))) (some (.inr l_774))) (([]:LI),0) with
  |none=>rw[hl] at hy;cases hy
  |some o=>exact⟨o,rfl⟩
 ·rintro⟨l,_⟩ ⟨b,rfl,hb,hEb,hlen⟩
  dsimp only at hlen ⊢
  have hll:=Bh (b:Int)
  by_cases hlt:l.length<cs.length
  ·simp only[dlt hlt,cond_true]
   have hin:=in_nat hm hb
   rw[C1 cs.length (λk=>if Ft cs (b:Int) k∧Ends cs (ior .u32 (b:Int) (ishl .u32 1 (k:Int))) then some (l++[(k:Int)],((b+2^k:Nat):Int)) else none) (l,(b:Int)) (λk hk=>by
    obtain⟨r,er,hr⟩:=l14Fits_ok hs hm hU hb hk
    simp only[dlt hk,cond_true,er,bs,wq k]
    cases r
    ·rw[if_neg (λh=>by have:=hr.2 h.1;cases this)]
     simp only[cond_false,bs]
    ·have hF:=hr.1 rfl
     obtain⟨n1,n2⟩:=next_nat hm hb hF
     have hpk:0<2^k:=Nat.two_pow_pos _
     have ew:IntKind.i64.wrap ((b:Int)+((2^k:Nat):Int))=((b+2^k:Nat):Int):=by rw[w64 (by omega) (by omega)];omega
     have ei:idx E ((b+2^k:Nat):Int)=some (E.getD (b+2^k) false):=by rw[Aw (by omega),As (by omega)]
     have hEk:=hE _ n2
     rw[←n1] at hEk
     simp only[cond_true,Do (show k<32 by omega),bs,ew,ei]
     cases hv:E.getD (b+2^k) false
     ·rw[if_neg (λh=>by rw[hEk.2 h.2] at hv;cases hv)]
      simp only[cond_false]
     ·rw[if_pos ⟨hF,hEk.1 hv⟩,cond_true,Bi (by simp;omega),bs]) (by simp only[Bm,cond_false]),bs]
   cases hf:(List.range cs.length).findSome? (λk=>if Ft cs (b:Int) k∧Ends cs (ior .u32 (b:Int) (ishl .u32 1 (k:Int))) then some (l++[(k:Int)],((b+2^k:Nat):Int)) else none) with
   |none=>
    rw[List.findSome?_eq_none_iff] at hf
    rcases(ends_iff hm).1 hEb with h|⟨k,h1,h2⟩
    ·have:=full_len hm hin h
     omega
    ·have:=hf k (List.mem_range.2 h1.1)
     rw[if_pos ⟨h1,h2⟩] at this;cases this
   |some r=>
    obtain⟨k,hk,e⟩:=List.exists_of_findSome?_eq_some hf
    by_cases hg:Ft cs (b:Int) k∧Ends cs (ior .u32 (b:Int) (ishl .u32 1 (k:Int)))
    ·rw[if_pos hg] at e
     obtain rfl:=Option.some.inj e
     obtain⟨n1,n2⟩:=next_nat hm hb hg.1
     refine⟨_,rfl,⟨b+2^k,rfl,n2,by rw[←n1];exact hg.2,?_⟩,?_⟩
     ·rw[←n1,elems_more hm hin hg.1.1 hg.1.2.1,hlen];simp
     ·simp;omega
    ·rw[if_neg hg] at e;cases e
  ·have hd:decide ((l.length:Int)<(cs.length:Int))=false:=by simp;omega
   simp only[hd,cond_false]
   exact⟨_,rfl,trivial⟩
section
variable {g l : LL} {cs : LI} (hg : GOk g)
include hg
theorem Ef {b:Bool}{l:LI}(hc:D.q g=some b)(hb:b=true)(hl:GC g l):l.length≤g.length:=by
 obtain⟨y,e,hy⟩:=Ea hg
 unfold D.q at hc
 rw[e,bs] at hc
 obtain rfl:=Option.some.inj hc
 obtain⟨h1,h2⟩:=hy hb
 exact chordal_few hg h1 h2 hl
theorem spec_CO {b:Bool}{l:LI}(hc:D.q g=some b)(hcl:D.i0 g=some (l.map Am))(hl:GC g l):∃r,D.g0 g=some r∧(r.2=true↔b=true∧Ends l 0):=by
 have h16:=hg.n16
 unfold D.g0
 rw[BS g hg.sh2,Co hg,bs,Bool.not_true,cond_false,hc,bs,bs]
 cases b
 ·simp only[Bool.not_false,cond_true]
  exact⟨_,rfl,by simp⟩
 ·have hlen:=Ef hg hc rfl hl
  have hin:∀s∈l,In g.length s:=λs hs=>((hl.mem s).1 hs).1
  have hvs:∀s∈l,VS s:=λs hs=>(hin s hs).1
  obtain⟨U,eU,hU⟩:=l14Unions_ok hvs (show l.length≤16 by omega)
  obtain⟨E,eE,hEl,hE⟩:=l14Ends_ok hvs (by omega) hU
  have hpos:0<2^l.length:=Nat.two_pow_pos _
  have e0:idx E 0=some (E.getD 0 false):=by rw[show (0:Int)=((0:Nat):Int) from rfl,Aw (by omega),As (by omega)]
  simp only[Bool.not_true,cond_false,hcl,bs,l14Masks_eq (λs hs=>(hin s hs).s16 h16) (by omega),eU,eE,e0]
  have h0:=hE 0 hpos
  cases hv:E.getD 0 false
  ·simp only[Bool.not_false,cond_true]
   exact⟨_,rfl,λh=>(by cases h),λh=>(by rw[h0.2 h.2] at hv;cases hv)⟩
  ·simp only[Bool.not_true,cond_false]
   obtain⟨o,ho⟩:=follow_ok hvs (by omega) hU hEl hE (h0.1 hv)
   rw[ho,bs]
   exact⟨_,rfl,λ_=>⟨trivial,h0.1 hv⟩,λ_=>rfl⟩
theorem impl_cO {b:Bool}{l:LI}(hc:D.q g=some b)(hcl:D.v (g.map mk)=some l)(hl:GC g l):∃y,D.w0 (g.map mk)=some y∧((y.1=[]∧¬(b=true∧Ends l 0))∨(b=true∧Goes l 0 y.1∧y.2=l∧y.1≠[]∧y.1.length≤32)):=by
 have h16:=hg.n16
 have hn1:=hg.n1
 obtain⟨b',c1,c2⟩:=DX hg
 rw[hc] at c2
 obtain rfl:=Option.some.inj c2
 unfold D.Y0 at c1
 rw[BT g hg.sh2,Co hg,bs,cond_true,CZ g hg,bs] at c1
 unfold D.w0
 rw[Eo hg] at c1 ⊢
 simp only[bs] at c1 ⊢
 generalize (pk (g.map mk) g.length g.length (full g.length)).getD []=po at c1 ⊢
 have hpb:po.isEmpty= !b:=by
  have:=Option.some.inj c1
  rw[←this,Bool.not_not]
 rw[hpb]
 cases b
 ·simp only[Bool.not_false,cond_true]
  exact⟨_,rfl,.inl ⟨rfl,by simp⟩⟩
 ·have hlen:=Ef hg hc rfl hl
  have hvs:∀s∈l,VS s:=λs hs=>((hl.mem s).1 hs).1.1
  have hz:In l.length 0:=⟨VS.zero,λv hv=>by rw[Ba] at hv;cases hv⟩
  have h33:=C2
  obtain⟨r,e,h1,h2⟩:=clGrow_ok hvs (by omega) 32 Bn 0 (by omega) hz (Bh _) (by omega)
  simp only[Bool.not_true,cond_false,hcl,bs,e]
  cases r with
  |none=>exact⟨_,rfl,.inl ⟨rfl,λh=>h1 rfl h.2⟩⟩
  |some o=>
   obtain⟨hgo,hol⟩:=h2 o rfl
   have hne:o≠[]:=by
    rintro rfl
    obtain⟨K',g1,g2,_⟩:=CQ_ext h16 (FOk.of hg) 32 0 (by omega) ⟨VS.zero,λv hv=>by rw[Ba] at hv;cases hv⟩ (λu w hu=>by rw[Ba] at hu;cases hu)
    have:=List.length_pos_of_mem ((hl.mem K').2 ⟨g1,g2⟩)
    have:=hgo 0 this
    rw[Ba] at this;cases this
   refine⟨(o,l),?_,.inr ⟨trivial,hgo,rfl,hne,hol⟩⟩
   unfold D.a1
   cases o with
   |nil=>exact absurd rfl hne
   |cons x t=>rfl
theorem impl_CO {b:Bool}{l:LI}(hc:D.q g=some b)(hcl:D.v (g.map mk)=some l)(hl:GC g l):∃r,D.e0 g=some r∧(r.2=true↔b=true∧Ends l 0):=by
 obtain⟨y,e,hy⟩:=impl_cO hg hc hcl hl
 unfold D.e0
 rw[BT g hg.sh2,Co hg,bs,Bool.not_true,cond_false,CZ g hg,bs,e,bs]
 rcases hy with⟨h1,h2⟩|⟨h1,h2,_,h4,h5⟩
 ·rw[h1]
  exact⟨_,rfl,by simpa using h2⟩
 ·have:y.1.isEmpty=false:=by
   cases hh:y.1 with
   |nil=>exact absurd hh h4
   |cons x t=>rfl
  rw[this,cond_false,wide_eq _ (by unfold Sh;omega),bs]
  exact⟨_,rfl,λ_=>⟨h1,h2.ends⟩,λ_=>rfl⟩
theorem Interval_both :∃b,D.X g=some b∧D.b0 g=some b:=by
 obtain⟨b,c1,c2⟩:=DX hg
 obtain⟨l,m1,m2,m3,m4,hGC⟩:=CliquesOf_all hg
 obtain⟨r1,e1,h1⟩:=spec_CO hg c2 m4 hGC
 obtain⟨r2,e2,h2⟩:=impl_CO hg c2 m1 hGC
 refine⟨r2.2,?_,?_⟩
 ·unfold D.X;rw[e2];rfl
 ·unfold D.b0;rw[e1]
  show some r1.2=some r2.2
  congr 1
  exact Bool.eq_iff_iff.2 (h1.trans h2.symm)
end
end Go.Sx

namespace Go.Sx
inductive Pick (n:Nat):Nat→Nat→Int→Int→Prop
 |done {a:Nat} {c:Int}:Pick n a 0 c c
 |more {a k v:Nat} {c t:Int}:a≤v→v<n→Pick n (v+1) k (ior .u32 c (ishl .u32 1 (v:Int))) t→Pick n a (k+1) c t
theorem Pick.le {n a k:Nat}{c t:Int}(h:Pick n a k c t):k=0∨a+k≤n:=by
 induction h with
 |done=>exact .inl rfl
 |more h1 h2 _ ih=>right;rcases ih with h|h<;>omega
theorem chR_ok {f:Int→Int→Option (Bool×Int)}{n:Nat}(hn:n≤16)(F:Int→Bool)(hf:∀c s,VS c→(∀v,has c v=true→v<n)→f c s=some (F c,c)):
  ∀(k fuel a:Nat) (c s:Int),k<fuel→k≤16→VS c→(∀v,has c v=true→v<n)→a≤n+1→∃r,D.A f fuel (n:Int) (a:Int) (k:Int) c s=some r∧(r.1=true↔∃t,Pick n a k c t∧F t=true)∧(r.1=true→Pick n a k c r.2∧F r.2=true):=by
 intro k
 induction k with
 |zero=>
  intro fuel a c s hk _ hc hcn _
  obtain⟨m,rfl⟩:∃m,fuel=m+1:=⟨fuel-1,by omega⟩
  refine⟨(F c,c),?_,⟨λh=>⟨c,.done,h⟩,?_⟩,λh=>⟨.done,h⟩⟩
  ·unfold D.A
   simp only[Int.natCast_zero,beq_self_eq_true,cond_true,hf c s hc hcn]
  ·rintro⟨t,ht,h⟩
   cases ht
   exact h
 |succ k ih=>
  intro fuel a c s hk hk16 hc hcn ha
  obtain⟨m,rfl⟩:∃m,fuel=m+1:=⟨fuel-1,by omega⟩
  unfold D.A
  have h0:(((k+1:Nat):Int)==0)=false:=by rw[beq_eq_false_iff_ne];omega
  rw[h0,cond_false]
  have key:∀(d a:Nat) (s:Int),a+d=n+1→∃r,Ao (D.y0 (D.A f m) (n:Int) ((k+1:Nat):Int) c) (s,(a:Int))=some r∧(r.1=true↔∃t,Pick n a (k+1) c t∧F t=true)∧(r.1=true→Pick n a (k+1) c r.2∧F r.2=true):=by
   intro d
   induction d with
   |zero=>
    intro a s hd
    refine⟨(false,s),AH ?_,⟨by simp,?_⟩,by simp⟩
    ·unfold D.y0
     have:decide (IntKind.i64.wrap ((a:Int)+((k+1:Nat):Int))≤(n:Int))=false:=by rw[w64 (by omega) (by omega)];simp;omega
     simp only[this,cond_false]
    ·rintro⟨t,ht,_⟩
     have:=ht.le
     omega
   |succ d ihd=>
    intro a s hd
    by_cases hle:a+(k+1)≤n
    ·have hdec:decide (IntKind.i64.wrap ((a:Int)+((k+1:Nat):Int))≤(n:Int))=true:=by rw[w64 (by omega) (by omega)];simp;omega
     have hone:=Bg (v:=a) (by omega)
     have hc':VS (ior .u32 c (ishl .u32 1 (a:Int))):=VS.ior _ _
     have hcn':∀v,has (ior .u32 c (ishl .u32 1 (a:Int))) v=true→v<n:=λv hv=>by
      rw[Bu hc (VS.ishl _ _),hone,Bool.or_eq_true,decide_eq_true_eq] at hv
      rcases hv with hv|rfl
      ·exact hcn v hv
      ·omega
     obtain⟨r,e,hr1,hr2⟩:=ih m (a+1) _ s (by omega) (by omega) hc' hcn' (by omega)
     have ek:IntKind.i64.wrap (((k+1:Nat):Int)-1)=(k:Int):=by rw[w64 (by omega) (by omega)];omega
     have hst:D.y0 (D.A f m) (n:Int) ((k+1:Nat):Int) c (s,(a:Int))=cond r.1 (some (.inr (true,r.2))) (some (.inl (r.2,((a+1:Nat):Int)))):=by
      unfold D.y0
      simp only[hdec,cond_true,Cn,bs,wq a,ek,e]
     cases hb:r.1
     ·rw[hb,cond_false] at hst
      obtain⟨r',e',h1,h2⟩:=ihd (a+1) r.2 (by omega)
      refine⟨r',by rw[A9 hst,e'],?_,λhr=> ?_⟩
      ·rw[h1]
       constructor
       ·rintro⟨t,ht,hF⟩
        cases ht with
        |more p1 p2 p3=>exact⟨t,.more (by omega) p2 p3,hF⟩
       ·rintro⟨t,ht,hF⟩
        cases ht with
        | @more _ _ v _ _ p1 p2 p3=>
         by_cases hva:v=a
         ·subst hva
          have:=hr1.2 ⟨t,p3,hF⟩
          rw[hb] at this;cases this
         ·exact⟨t,.more (by omega) p2 p3,hF⟩
      ·obtain⟨p,hF⟩:=h2 hr
       cases p with
       |more p1 p2 p3=>exact⟨.more (by omega) p2 p3,hF⟩
     ·rw[hb,cond_true] at hst
      obtain⟨p,hF⟩:=hr2 hb
      exact⟨(true,r.2),AH hst,⟨λ_=>⟨r.2,.more (Nat.le_refl _) (by omega) p,hF⟩,λ_=>rfl⟩,λ_=>⟨.more (Nat.le_refl _) (by omega) p,hF⟩⟩
    ·refine⟨(false,s),AH ?_,⟨by simp,?_⟩,by simp⟩
     ·unfold D.y0
      have:decide (IntKind.i64.wrap ((a:Int)+((k+1:Nat):Int))≤(n:Int))=false:=by rw[w64 (by omega) (by omega)];simp;omega
      simp only[this,cond_false]
     ·rintro⟨t,ht,_⟩
      have:=ht.le
      omega
  exact key (n+1-a) a s (by omega)
theorem Pick.three {n:Nat}{t:Int}(hn:n≤16):Pick n 0 3 0 t↔∃a b c:Nat,a<b∧b<c∧c<n∧VS t∧∀v,has t v=true↔(v=a∨v=b∨v=c):=by
 have hh:∀{a b c:Nat},a<n→b<n→c<n→∀v,has (ior .u32 (ior .u32 (ior .u32 0 (ishl .u32 1 (a:Int))) (ishl .u32 1 (b:Int))) (ishl .u32 1 (c:Int))) v=true↔(v=a∨v=b∨v=c):=fun{a b c} ha hb hc v=>by
  rw[Bu (VS.ior _ _) (VS.ishl _ _),Bu (VS.ior _ _) (VS.ishl _ _),Bu VS.zero (VS.ishl _ _),Ba,Bg (by omega),Bg (by omega),Bg (by omega)]
  simp[or_assoc]
 constructor
 ·intro h
  cases h with
  | @more _ _ a _ _ h1 h2 h=>
   cases h with
   | @more _ _ b _ _ h3 h4 h=>
    cases h with
    | @more _ _ c _ _ h5 h6 h=>
     cases h
     exact⟨a,b,c,by omega,by omega,h6,VS.ior _ _,hh h2 h4 h6⟩
 ·rintro⟨a,b,c,hab,hbc,hc,ht,h⟩
  have:t=ior .u32 (ior .u32 (ior .u32 0 (ishl .u32 1 (a:Int))) (ishl .u32 1 (b:Int))) (ishl .u32 1 (c:Int)):=VS.ext ht (VS.ior _ _) (λv _=>by
   have:=h v;rw[←hh (by omega) (by omega) hc v] at this
   exact Bool.eq_iff_iff.2 this)
  subst this
  exact .more (by omega) (by omega) (.more (by omega) (by omega) (.more (by omega) (by omega) .done))
noncomputable def ef (g:LL)(o:LI):Nat→LI×LI×Int
 |0=>(g.map mk,List.replicate g.length 0,full g.length)
 |i+1=>(elimF (ef g o i).1 (ef g o i).2.2 (o.getD i 0),(ef g o i).2.1.set (o.getD i 0).toNat (iand .u32 ((ef g o i).1.getD (o.getD i 0).toNat 0) (iandNot .u32 (ef g o i).2.2 (ishl .u32 1 (o.getD i 0)))),
   iandNot .u32 (ef g o i).2.2 (ishl .u32 1 (o.getD i 0)))
section
variable {g : LL} {o : LI} (hg : GOk g) (ho : OOk g o)
include hg ho
end
end Go.Sx

namespace Go.Sx
def De (a b:Int):LI:=[min a b,max a b]
structure Net (A:LI)(n:Nat):Prop where
 len:A.length=n
 vs:∀u,u<n→VS (A.getD u 0)
 lt:∀u w,u<n→nb A u w=true→w<n
structure Rch (A:LI)(W:Int)(v:Nat)(S:Int):Prop where
 vs:VS S
 me:has S v=true
 step:∀x y,has S x=true→nb A x y=true→has W y=true→has S y=true
 least:∀T:Nat→Prop,T v→(∀x y,T x→nb A x y=true→has W y=true→T y)→∀x,has S x=true→T x
structure KOk (n:Nat)(K:LL):Prop where
 nd:K.Nodup
 lk:∀l∈K,LinkIn n l
theorem LinkIn.good {n:Nat}(hn:n≤1000){l:LI}(h:LinkIn n l):rowGood l:=by
 obtain⟨a,b,rfl,h1,h2⟩:=h
 refine⟨rfl,?_⟩
 simp only[List.getD_cons_zero,List.getD_cons_succ]
 omega
theorem KOk.len {n:Nat}(hn:n≤16){K:LL}(h:KOk n K):K.length≤256:=by
 have h1:(K.map rowKey).Nodup:=by
  unfold List.Nodup
  rw[List.pairwise_map]
  refine List.Pairwise.imp_of_mem (fun{a b} ha hb hab e=> ?_) h.nd
  exact hab (row_inj ((h.lk a ha).good (by omega)) ((h.lk b hb).good (by omega)) e)
 have h2:=BE (m:=(List.range 16).flatMap (λa=>(List.range 16).map λb=>((a:Nat):Int)*1048576+((b:Nat):Int))) h1 (λx hx=>by
  obtain⟨l,hl,rfl⟩:=List.mem_map.1 hx
  obtain⟨a,b,rfl,h3,h4⟩:=h.lk l hl
  exact List.mem_flatMap.2 ⟨a,List.mem_range.2 (by omega),List.mem_map.2 ⟨b,List.mem_range.2 (by omega),rfl⟩⟩)
 have h3:((List.range 16).flatMap (λa=>(List.range 16).map λb=>((a:Nat):Int)*1048576+((b:Nat):Int))).length=256:=by decide+kernel
 rw[h3,List.length_map] at h2
 exact h2
def WayP (K:LL)(a b:Int):Prop:=∀T:Int→Prop,T a→(∀x y,T x→Lk K x y→T y)→T b
theorem Lk.perm {K K':LL}(h:K.Perm K'){x y:Int}:Lk K x y↔Lk K' x y:=by
 unfold Lk;rw[h.mem_iff,h.mem_iff]
theorem WayP.perm {K K':LL}(h:K.Perm K'){a b:Int}:WayP K a b↔WayP K' a b:=by
 unfold WayP
 constructor
 ·intro hh T h1 h2;exact hh T h1 (λx y hx hl=>h2 x y hx ((Lk.perm h).1 hl))
 ·intro hh T h1 h2;exact hh T h1 (λx y hx hl=>h2 x y hx ((Lk.perm h).2 hl))
structure NetL (A:LI)(n:Nat)(K:LL):Prop where
 net:Net A n
 nb:∀x y,x<n→y<n→(nb A x y=true↔Lk K (x:Int) (y:Int))
end Go.Sx



namespace Go.Sx
theorem DY {i k:Nat}(h:i<k):De (i:Int) (k:Int)=[(i:Int),(k:Int)]:=by
 unfold De
 rw[show min (i:Int) (k:Int)=i by omega,show max (i:Int) (k:Int)=k by omega]
theorem KOk.add {n i k:Nat}{K:LL}(h:KOk n K)(hik:i<k)(hk:k<n)(hw:¬WayP K (i:Int) (k:Int)):KOk n (K++[De (i:Int) (k:Int)]):=by
 have hnot:De (i:Int) (k:Int)∉K:=λhm=>hw (λT h1 h2=>h2 _ _ h1 (.inl (by rw[DY hik] at hm;exact hm)))
 refine⟨?_,λl hl=> ?_⟩
 ·have hp:(K++[De (i:Int) (k:Int)]).Perm (De (i:Int) (k:Int)::K):=List.perm_append_comm
  exact hp.nodup_iff.2 (List.nodup_cons.2 ⟨hnot,h.nd⟩)
 ·rcases List.mem_append.1 hl with hl|hl
  ·exact h.lk l hl
  ·simp at hl;subst hl
   exact⟨i,k,DY hik,hik,hk⟩
theorem NetL.add {A A':LI}{n i k:Nat}{K:LL}(h:NetL A n K)(hik:i<k)(hk:k<n)(hA:Net A' n)(hnb:∀u w,u<n→Sx.nb A' u w=(Sx.nb A u w||(decide (u=i)&&decide (w=k))||(decide (u=k)&&decide (w=i)))):NetL A' n (K++[De (i:Int) (k:Int)]):=by
 refine⟨hA,λx y hx hy=> ?_⟩
 rw[hnb x y hx,DY hik]
 simp only[Bool.or_eq_true,Bool.and_eq_true,decide_eq_true_eq]
 rw[h.nb x y hx hy]
 unfold Lk
 simp only[List.mem_append,List.mem_singleton,List.cons.injEq,and_true,Int.natCast_inj]
 constructor
 ·rintro((h1|h1)|⟨h1,h2⟩)
  ·exact h1.elim (λh=> .inl (.inl h)) (λh=> .inr (.inl h))
  ·exact .inl (.inr h1)
  ·exact .inr (.inr ⟨h2,h1⟩)
 ·rintro((h1|h1)|(h1|⟨h1,h2⟩))
  ·exact .inl (.inl (.inl h1))
  ·exact .inl (.inr h1)
  ·exact .inl (.inl (.inr h1))
  ·exact .inr ⟨h2,h1⟩
section
variable {l : LI} (hn : l.length ≤ 16) (hvs : ∀ s ∈ l, VS s)
include hn hvs
end
section
variable {g : LL} (hg : GOk g)
include hg
end
end Go.Sx

namespace Go.Sx
def Claw (g:LL)(v:Nat):Prop:=∃a b c:Nat,a<b∧b<c∧adj g v a∧adj g v b∧adj g v c∧¬adj g a b∧¬adj g a c∧¬adj g b c
theorem mis_three {F:LI}{n a b c:Nat}{S:Int}(hn:n≤32)(hS:VS S)(hab:a<b)(hbc:b<c)(hc:c<n)(h:∀v,has S v=true↔(v=a∨v=b∨v=c)):mis F n S=bit (!nb F a b)+bit (!nb F a c)+bit (!nb F b c):=by
 have he:Am S=[(a:Int),(b:Int),(c:Int)]:=by
  refine Inc.ext (Bf S) (by simp[Inc];omega) (λx=> ?_)
  rw[mem_elems]
  constructor
  ·rintro⟨v,_,h2,rfl⟩
   rcases(h v).1 h2 with rfl|rfl|rfl<;>simp
  ·intro hx
   simp at hx
   rcases hx with rfl|rfl|rfl
   ·exact⟨a,by omega,(h a).2 (.inl rfl),rfl⟩
   ·exact⟨b,by omega,(h b).2 (.inr (.inl rfl)),rfl⟩
   ·exact⟨c,by omega,(h c).2 (.inr (.inr rfl)),rfl⟩
 have hlt:∀v,has S v=true→v<n:=λv hv=>by rcases(h v).1 hv with rfl|rfl|rfl<;>omega
 have hin:∀q:Nat→Bool,Bq (λw=>bit (has S w&&q w)) n=bit (q a)+bit (q b)+bit (q c):=λq=>by
  have e1:=C6 (λx:Int=>bit (q x.toNat)) hn hlt
  rw[he] at e1
  simp only[BJ,Int.toNat_natCast] at e1
  have e2:(λw=>bit (has S w&&q w))=(λv=>if has S v then bit (q v) else 0):=by
   funext w
   cases has S w<;>simp[bit]
  rw[e2]
  omega
 unfold mis S2
 have e3:(λu=>Bq (λw=>bit (has S u&&(has S w&&(decide (w<u)&& !nb F w u)))) n)=(λu=>if has S u then bit (decide (a<u)&& !nb F a u)+bit (decide (b<u)&& !nb F b u)+bit (decide (c<u)&& !nb F c u) else 0):=by
  funext u
  cases has S u
  ·simp only[Bool.false_and]
   have:=hin (λ_=>false)
   have e4:(λw:Nat=>bit false)=λw=>bit (has S w&&(λ_=>false) w):=by funext w;simp
   rw[e4,this];rfl
  ·simp only[Bool.true_and,if_true]
   exact hin (λw=>decide (w<u)&& !nb F w u)
 rw[e3]
 have e5:=C6 (λx:Int=>bit (decide (a<x.toNat)&& !nb F a x.toNat)+bit (decide (b<x.toNat)&& !nb F b x.toNat)+bit (decide (c<x.toNat)&& !nb F c x.toNat)) hn hlt
 simp only[Int.toNat_natCast] at e5
 rw[←e5,he]
 have d1:decide (a<a)=false:=by simp
 have d2:decide (b<a)=false:=by simp;omega
 have d3:decide (c<a)=false:=by simp;omega
 have d4:decide (a<b)=true:=by simp;omega
 have d5:decide (b<b)=false:=by simp
 have d6:decide (c<b)=false:=by simp;omega
 have d7:decide (a<c)=true:=by simp;omega
 have d8:decide (b<c)=true:=by simp;omega
 have d9:decide (c<c)=false:=by simp
 have d0:bit false=0:=rfl
 simp only[BJ,Int.toNat_natCast,d1,d2,d3,d4,d5,d6,d7,d8,d9,Bool.false_and,Bool.true_and,d0]
 omega
theorem D5 {β:Type}{step:Int→Option (Int ⊕ (Unit ⊕ β))}{n:Nat}(P:Nat→Prop)(Q:β→Prop)(hstep:∀i,i<n→(step (i:Int)=some (.inl ((i+1:Nat):Int))∧¬P i)∨∃z,step (i:Int)=some (.inr (.inr z))∧P i∧Q z)
  (hend:∀i,n≤i→step (i:Int)=some (.inr (.inl ()))):∀(d a:Nat),n≤a+d→(Ao step (a:Int)=some (.inl ())∧∀i,a≤i→i<n→¬P i)∨∃z,Ao step (a:Int)=some (.inr z)∧Q z∧∃i,a≤i∧i<n∧P i:=by
 intro d
 induction d with
 |zero=>
  intro a h
  exact .inl ⟨AH (hend a (by omega)),λi h1 h2=>by omega⟩
 |succ d ih=>
  intro a h
  by_cases ha:a<n
  ·rcases hstep a ha with⟨e,hn⟩|⟨z,e,hp,hq⟩
   ·rcases ih (a+1) (by omega) with⟨e2,h2⟩|⟨z,e2,hq,i,h3,h4,h5⟩
    ·refine .inl ⟨by rw[A9 e,e2],λi h3 h4=> ?_⟩
     by_cases hia:i=a
     ·rw[hia];exact hn
     ·exact h2 i (by omega) h4
    ·exact .inr ⟨z,by rw[A9 e,e2],hq,i,by omega,h4,h5⟩
   ·exact .inr ⟨z,AH e,hq,a,Nat.le_refl _,ha,hp⟩
  ·exact .inl ⟨AH (hend a (by omega)),λi h1 h2=>by omega⟩
section
variable {g : LL} (hg : GOk g)
include hg
theorem impl_Claw :∃r,D.J g=some r∧(r.2=true↔∃v,v<g.length∧Claw g v):=by
 have h16:=hg.n16
 have hF:=FOk.of hg
 have hlF:(g.map mk).length=g.length:=by simp
 unfold D.J
 rw[BT g hg.sh2,Co hg,bs,Bool.not_true,cond_false,CZ g hg,bs]
 have hrow:∀i,i<g.length→∃r,D.A (D.U0 (g.map mk) ((g.map mk).getD i 0)) Bn (((g.map mk).length:Nat):Int) 0 3 0 0=some r∧(r.1=true↔Claw g i)∧(r.1=true→VS r.2):=λi hi=>by
  have vn:=hF.vs i hi
  have h33:=C2
  obtain⟨r,e,h1,h2⟩:=chR_ok (f:=D.U0 (g.map mk) ((g.map mk).getD i 0)) h16 (λc=>(iandNot .u32 c ((g.map mk).getD i 0)==0)&&((mis (g.map mk) g.length c:Int)==3)) (λc s hc hlt=>by
   unfold D.U0
   cases hb:(iandNot .u32 c ((g.map mk).getD i 0)==0)
   ·simp only[cond_false,bs,Bool.false_and]
   ·simp only[cond_true,Dp h16 hF hc hlt,bs,Bool.true_and]) 3 Bn 0 0 0 (by omega) (by omega) VS.zero (λv hv=>by rw[Ba] at hv;cases hv) (by omega)
  rw[hlF]
  refine⟨r,e,?_,λhr=> ?_⟩
  ·rw[h1]
   constructor
   ·rintro⟨t,ht,hc⟩
    obtain⟨a,b,c,hab,hbc,hcn,vt,hh⟩:=(Pick.three h16).1 ht
    rw[Bool.and_eq_true,beq_iff_eq,beq_iff_eq] at hc
    have hsub:∀v,has t v=true→adj g i v:=λv hv=>by
     have hv32:v<32:=by rcases(hh v).1 hv with rfl|rfl|rfl<;>omega
     have:=(VS.eq_zero (VS.iandNot _ _)).1 hc.1 v hv32
     rw[A6 vt vn,hv] at this
     exact(B9 hg hi).1 (by simpa [nb] using this)
    have hm:=mis_three (F:=g.map mk) (n:=g.length) (by omega) vt hab hbc hcn hh
    have h3:mis (g.map mk) g.length t=3:=by omega
    rw[h3] at hm
    have hb:nb (g.map mk) a b=false∧nb (g.map mk) a c=false∧nb (g.map mk) b c=false:=by
     revert hm
     cases nb (g.map mk) a b<;>cases nb (g.map mk) a c<;>cases nb (g.map mk) b c<;>simp[bit]
    have hna:∀{x y:Nat},x<g.length→nb (g.map mk) x y=false→¬adj g x y:=λhx h ha=>by
     rw[(B9 hg hx).2 ha] at h;cases h
    exact⟨a,b,c,hab,hbc,hsub a ((hh a).2 (.inl rfl)),hsub b ((hh b).2 (.inr (.inl rfl))),hsub c ((hh c).2 (.inr (.inr rfl))),hna (by omega) hb.1,hna (by omega) hb.2.1,hna (by omega) hb.2.2⟩
   ·rintro⟨a,b,c,hab,hbc,ha,hb,hc,n1,n2,n3⟩
    have hcn:=hg.lt hi hc
    have hex:∀v,has (ior .u32 (ior .u32 (ishl .u32 1 (a:Int)) (ishl .u32 1 (b:Int))) (ishl .u32 1 (c:Int))) v=true↔(v=a∨v=b∨v=c):=λv=>by
     rw[Bu (VS.ior _ _) (VS.ishl _ _),Bu (VS.ishl _ _) (VS.ishl _ _),Bg (by omega),Bg (by omega),Bg (by omega)]
     simp[or_assoc]
    refine⟨_,(Pick.three h16).2 ⟨a,b,c,hab,hbc,hcn,VS.ior _ _,hex⟩,?_⟩
    rw[Bool.and_eq_true,beq_iff_eq,beq_iff_eq]
    constructor
    ·rw[VS.eq_zero (VS.iandNot _ _)]
     intro v _
     rw[A6 (VS.ior _ _) vn]
     cases hv:has (ior .u32 (ior .u32 (ishl .u32 1 (a:Int)) (ishl .u32 1 (b:Int))) (ishl .u32 1 (c:Int))) v
     ·rfl
     ·have hav:adj g i v:=by rcases(hex v).1 hv with rfl|rfl|rfl<;>assumption
      have:=(B9 hg hi).2 hav
      unfold nb at this
      rw[this];rfl
    ·have hm:=mis_three (F:=g.map mk) (n:=g.length) (by omega) (VS.ior _ _) hab hbc hcn hex
     have hna:∀{x y:Nat},x<g.length→¬adj g x y→nb (g.map mk) x y=false:=λhx h=>by
      cases hh:nb (g.map mk) _ _
      ·rfl
      ·exact absurd ((B9 hg hx).1 hh) h
     rw[hm,hna (by omega) n1,hna (by omega) n2,hna (by omega) n3];rfl
  ·obtain⟨hp,_⟩:=h2 hr
   obtain⟨_,_,_,_,_,_,vt,_⟩:=(Pick.three h16).1 hp
   exact vt
 have key:∀(d i:Nat),i+d=g.length→∃r,Ao (D.H0 (g.map mk)) (i:Int)=some r∧(r.2=true↔∃v,i≤v∧v<g.length∧Claw g v):=by
  intro d
  induction d with
  |zero=>
   intro i hi
   obtain rfl:i=g.length:=by omega
   refine⟨([],false),AH ?_,⟨λh=>(by cases h),fun⟨v,h1,h2,_⟩=>(by omega)⟩⟩
   unfold D.H0
   have:decide ((g.length:Int)<((g.map mk).length:Int))=false:=by simp
   simp only[this,cond_false]
  |succ d ih=>
   intro i hi
   have hil:i<g.length:=by omega
   obtain⟨r,e,h1,h2⟩:=hrow i hil
   have hd:decide ((i:Int)<((g.map mk).length:Int))=true:=by simp;omega
   have hidx:idx (g.map mk) (i:Int)=some ((g.map mk).getD i 0):=by rw[Aw (by simpa using hil),As (by simpa using hil)]
   have hst:D.H0 (g.map mk) (i:Int)=cond r.1 ((D.T r.2).bind λl=>(AM [(i:Int)] l).bind λo=>some (.inr (o,true))) (some (.inl ((i+1:Nat):Int))):=by
    unfold D.H0
    simp only[hd,cond_true,hidx,bs,e,wq i]
   cases hb:r.1
   ·rw[hb,cond_false] at hst
    obtain⟨r',e',h'⟩:=ih (i+1) (by omega)
    refine⟨r',by rw[A9 hst,e'],?_⟩
    rw[h']
    constructor
    ·rintro⟨v,a,b,c⟩;exact⟨v,by omega,b,c⟩
    ·rintro⟨v,a,b,c⟩
     by_cases hvi:v=i
     ·subst hvi
      rw[h1.2 c] at hb;cases hb
     ·exact⟨v,by omega,b,c⟩
   ·have hel:=Bh r.2
    rw[hb,cond_true,numbers_eq _ (h2 hb),bs,Bi (by simp;omega),bs] at hst
    exact⟨_,AH hst,λ_=>⟨i,Nat.le_refl _,hil,h1.1 hb⟩,λ_=>rfl⟩
 obtain⟨r,e,h⟩:=key g.length 0 (by omega)
 refine⟨r,e,?_⟩
 rw[h]
 exact exists_congr λv=>⟨λh=>h.2,λh=>⟨Nat.zero_le _,h⟩⟩
theorem spec_Claw :∃r,D.d0 g=some r∧(r.2=true↔∃v,v<g.length∧Claw g v):=by
 have h16:=hg.n16
 unfold D.d0
 rw[BS g hg.sh2,Co hg,bs,Bool.not_true,cond_false]
 have hat:∀{v i:Nat} (hv:v<g.length) (hi:i<(row g v).length),∃u:Nat,(row g v)[i]=(u:Int)∧u<g.length∧adj g v u:=λhv hi=>by
  obtain⟨u,e,h1,h2⟩:=hg.mem hv (List.getElem_mem hi)
  exact⟨u,e,h1,h2⟩
 have hplace:∀{v u:Nat},adj g v u→∃i,∃h:i<(row g v).length,(row g v)[i]=(u:Int):=λh=>by
  obtain⟨i,hi,e⟩:=List.getElem_of_mem h
  exact⟨i,hi,e⟩
 let P3:Nat→Nat→Nat→Nat→Prop:=λv i k m=>∃a b c:Nat,(row g v).getD i 0=(a:Int)∧(row g v).getD k 0=(b:Int)∧(row g v).getD m 0=(c:Int)∧¬adj g a b∧¬adj g a c∧¬adj g b c
 have main:=D5 (step:=fun(x_19056:Int)=>cond (decide (x_19056<(g.length:Int))) ((idx g x_19056).bind λe_28577=>(Ao (σ:=Int) (ρ:=(Unit) ⊕ ((LI)×Bool)) (fun(x_33340:Int)=>cond (decide (x_33340<(e_28577.length:Int))) ((Ao (σ:=Int) (ρ:=(Unit) ⊕ ((LI)×Bool)) (fun(x_36908:Int)=>cond (decide (x_36908<(e_28577.length:Int))) ((Ao (σ:=Int) (ρ:=(Unit) ⊕ ((LI)×Bool)) (fun(x_37800:Int)=>cond (decide (x_37800<(e_28577.length:Int))) ((idx e_28577 x_33340).bind λe_37949=>(idx g e_37949).bind λe_37955=>(idx e_28577 x_36908).bind λe_37961=>(D.b e_37955 e_37961).bind λy_37967=>(cond (!y_37967) ((idx e_28577 x_33340).bind λe_37995=>(idx g e_37995).bind λe_38001=>(idx e_28577 x_37800).bind λe_38007=>(D.b e_38001 e_38007).bind λy_38013=>some (!y_38013)) (some false)).bind λb_37993=>(cond b_37993 ((idx e_28577 x_36908).bind λe_38041=>(idx g e_38041).bind λe_38047=>(idx e_28577 x_37800).bind λe_38053=>(D.b e_38047 e_38053).bind λy_38059=>some (!y_38059)) (some false)).bind λb_38039=>cond b_38039 ((idx e_28577 x_33340).bind λe_38065=>(idx e_28577 x_36908).bind λe_38071=>(idx e_28577 x_37800).bind λe_38077=>some (.inr (.inr (([x_19056,e_38065,e_38071,e_38077]:LI),true)))) (some (.inl (IntKind.i64.wrap (x_37800+1))))) (some (.inr (.inl ())))) (IntKind.i64.wrap (x_36908+1))).bind λzz=>match zz with| .inl _=>(some (.inl (IntKind.i64.wrap (x_36908+1))))| .inr z=>(some (.inr (.inr z)))) (some (.inr (.inl ())))) (IntKind.i64.wrap (x_33340+1))).bind λzz=>match zz with| .inl _=>(some (.inl (IntKind.i64.wrap (x_33340+1))))| .inr z=>(some (.inr (.inr z)))) (some (.inr (.inl ())))) 0).bind λzz=>match zz with| .inl _=>(some (.inl (IntKind.i64.wrap (x_19056+1))))| .inr z=>(some (.inr (.inr z)))) (some (.inr (.inl ()))))
  (n:=g.length) (λv=>∃i,0≤i∧i<(row g v).length∧∃k,i+1≤k∧k<(row g v).length∧∃m,k+1≤m∧m<(row g v).length∧P3 v i k m) (λz=>z.2=true) (λv hv=>by
   have hsh:=hg.sh2.row hv
   have hrl:=hg.row_len hv
   simp only[dlt hv,cond_true,BR hv,bs,wq v]
   have h1:=D5 (n:=(row g v).length) (β:=LI×Bool) (step:=fun(x_33340:Int)=>cond (decide (x_33340<((row g v).length:Int))) ((Ao (σ:=Int) (ρ:=(Unit) ⊕ ((LI)×Bool)) (fun(x_36908:Int)=>cond (decide (x_36908<((row g v).length:Int))) ((Ao (σ:=Int) (ρ:=(Unit) ⊕ ((LI)×Bool)) (fun(x_37800:Int)=>cond (decide (x_37800<((row g v).length:Int))) ((idx (row g v) x_33340).bind λe_37949=>(idx g e_37949).bind λe_37955=>(idx (row g v) x_36908).bind λe_37961=>(D.b e_37955 e_37961).bind λy_37967=>(cond (!y_37967) ((idx (row g v) x_33340).bind λe_37995=>(idx g e_37995).bind λe_38001=>(idx (row g v) x_37800).bind λe_38007=>(D.b e_38001 e_38007).bind λy_38013=>some (!y_38013)) (some false)).bind λb_37993=>(cond b_37993 ((idx (row g v) x_36908).bind λe_38041=>(idx g e_38041).bind λe_38047=>(idx (row g v) x_37800).bind λe_38053=>(D.b e_38047 e_38053).bind λy_38059=>some (!y_38059)) (some false)).bind λb_38039=>cond b_38039 ((idx (row g v) x_33340).bind λe_38065=>(idx (row g v) x_36908).bind λe_38071=>(idx (row g v) x_37800).bind λe_38077=>some (.inr (.inr (([(v:Int),e_38065,e_38071,e_38077]:LI),true)))) (some (.inl (IntKind.i64.wrap (x_37800+1))))) (some (.inr (.inl ())))) (IntKind.i64.wrap (x_36908+1))).bind λzz=>match zz with| .inl _=>(some (.inl (IntKind.i64.wrap (x_36908+1))))| .inr z=>(some (.inr (.inr z)))) (some (.inr (.inl ())))) (IntKind.i64.wrap (x_33340+1))).bind λzz=>match zz with| .inl _=>(some (.inl (IntKind.i64.wrap (x_33340+1))))| .inr z=>(some (.inr (.inr z)))) (some (.inr (.inl ()))))
    (λi=>∃k,i+1≤k∧k<(row g v).length∧∃m,k+1≤m∧m<(row g v).length∧P3 v i k m) (λz=>z.2=true) (λi hi=>by
     simp only[dlt hi,cond_true,wq i]
     have h2:=D5 (n:=(row g v).length) (β:=LI×Bool) (step:=fun(x_36908:Int)=>cond (decide (x_36908<((row g v).length:Int))) ((Ao (σ:=Int) (ρ:=(Unit) ⊕ ((LI)×Bool)) (fun(x_37800:Int)=>cond (decide (x_37800<((row g v).length:Int))) ((idx (row g v) (i:Int)).bind λe_37949=>(idx g e_37949).bind λe_37955=>(idx (row g v) x_36908).bind λe_37961=>(D.b e_37955 e_37961).bind λy_37967=>(cond (!y_37967) ((idx (row g v) (i:Int)).bind λe_37995=>(idx g e_37995).bind λe_38001=>(idx (row g v) x_37800).bind λe_38007=>(D.b e_38001 e_38007).bind λy_38013=>some (!y_38013)) (some false)).bind λb_37993=>(cond b_37993 ((idx (row g v) x_36908).bind λe_38041=>(idx g e_38041).bind λe_38047=>(idx (row g v) x_37800).bind λe_38053=>(D.b e_38047 e_38053).bind λy_38059=>some (!y_38059)) (some false)).bind λb_38039=>cond b_38039 ((idx (row g v) (i:Int)).bind λe_38065=>(idx (row g v) x_36908).bind λe_38071=>(idx (row g v) x_37800).bind λe_38077=>some (.inr (.inr (([(v:Int),e_38065,e_38071,e_38077]:LI),true)))) (some (.inl (IntKind.i64.wrap (x_37800+1))))) (some (.inr (.inl ())))) (IntKind.i64.wrap (x_36908+1))).bind λzz=>match zz with| .inl _=>(some (.inl (IntKind.i64.wrap (x_36908+1))))| .inr z=>(some (.inr (.inr z)))) (some (.inr (.inl ()))))
      (λk=>∃m,k+1≤m∧m<(row g v).length∧P3 v i k m) (λz=>z.2=true) (λk hk=>by
       simp only[dlt hk,cond_true,wq k]
       obtain⟨a,ea,han,haa⟩:=hat hv hi
       obtain⟨b,eb,hbn,hba⟩:=hat hv hk
       have h3:=D5 (n:=(row g v).length) (β:=LI×Bool) (step:=fun(x_37800:Int)=>cond (decide (x_37800<((row g v).length:Int))) ((idx (row g v) (i:Int)).bind λe_37949=>(idx g e_37949).bind λe_37955=>(idx (row g v) (k:Int)).bind λe_37961=>(D.b e_37955 e_37961).bind λy_37967=>(cond (!y_37967) ((idx (row g v) (i:Int)).bind λe_37995=>(idx g e_37995).bind λe_38001=>(idx (row g v) x_37800).bind λe_38007=>(D.b e_38001 e_38007).bind λy_38013=>some (!y_38013)) (some false)).bind λb_37993=>(cond b_37993 ((idx (row g v) (k:Int)).bind λe_38041=>(idx g e_38041).bind λe_38047=>(idx (row g v) x_37800).bind λe_38053=>(D.b e_38047 e_38053).bind λy_38059=>some (!y_38059)) (some false)).bind λb_38039=>cond b_38039 ((idx (row g v) (i:Int)).bind λe_38065=>(idx (row g v) (k:Int)).bind λe_38071=>(idx (row g v) x_37800).bind λe_38077=>some (.inr (.inr (([(v:Int),e_38065,e_38071,e_38077]:LI),true)))) (some (.inl (IntKind.i64.wrap (x_37800+1))))) (some (.inr (.inl ()))))
        (λm=>P3 v i k m) (λz=>z.2=true) (λm hm=>by
         obtain⟨c,ec,hcn,hca⟩:=hat hv hm
         simp only[dlt hm,cond_true,Aw hi,Aw hk,Aw hm,ea,eb,ec,bs,BR han,BR hbn,CS _ _ (hg.sh2.row han),CS _ _ (hg.sh2.row hbn),wq m]
         have hP:P3 v i k m↔¬adj g a b∧¬adj g a c∧¬adj g b c:=by
          show (∃a b c:Nat,_)↔_
          rw[As hi,As hk,As hm,ea,eb,ec]
          constructor
          ·rintro⟨a',b',c',e1,e2,e3,h⟩
           obtain rfl:a=a':=by omega
           obtain rfl:b=b':=by omega
           obtain rfl:c=c':=by omega
           exact h
          ·intro h;exact⟨a,b,c,rfl,rfl,rfl,h⟩
         rw[hP]
         unfold adj
         by_cases q1:(b:Int)∈row g a
         ·left
          simp only[q1,decide_true,Bool.not_true,cond_false,bs,not_true,false_and,not_false_eq_true,and_self]
         ·by_cases q2:(c:Int)∈row g a
          ·left
           simp only[q1,q2,decide_true,decide_false,Bool.not_true,Bool.not_false,cond_true,cond_false,bs,not_true,not_false_eq_true,false_and,and_false,and_self]
          ·by_cases q3:(c:Int)∈row g b
           ·left
            simp only[q1,q2,q3,decide_true,decide_false,Bool.not_true,Bool.not_false,cond_true,cond_false,bs,not_true,not_false_eq_true,and_false,and_self]
           ·right
            simp only[q1,q2,q3,decide_false,Bool.not_false,cond_true,bs,not_false_eq_true,and_self]
            exact⟨_,rfl,trivial,rfl⟩)
        (λm hm=>by
         have:decide ((m:Int)<((row g v).length:Int))=false:=by simp;omega
         simp only[this,cond_false]) (row g v).length (k+1) (by omega)
       rcases h3 with⟨e,hn⟩|⟨z,e,hq,m,m1,m2,m3⟩
       ·left
        rw[e]
        exact⟨rfl,fun⟨m,m1,m2,m3⟩=>hn m m1 m2 m3⟩
       ·right
        rw[e]
        exact⟨z,rfl,⟨m,m1,m2,m3⟩,hq⟩)
      (λk hk=>by
       have:decide ((k:Int)<((row g v).length:Int))=false:=by simp;omega
       simp only[this,cond_false]) (row g v).length (i+1) (by omega)
     rcases h2 with⟨e,hn⟩|⟨z,e,hq,k,k1,k2,k3⟩
     ·left
      rw[e]
      exact⟨rfl,fun⟨k,k1,k2,k3⟩=>hn k k1 k2 k3⟩
     ·right
      rw[e]
      exact⟨z,rfl,⟨k,k1,k2,k3⟩,hq⟩)
    (λi hi=>by
     have:decide ((i:Int)<((row g v).length:Int))=false:=by simp;omega
     simp only[this,cond_false]) (row g v).length 0 (by omega)
   rcases h1 with⟨e,hn⟩|⟨z,e,hq,i,i1,i2,i3⟩
   ·left
    rw[Int.natCast_zero] at e
    rw[e]
    exact⟨rfl,fun⟨i,i1,i2,i3⟩=>hn i i1 i2 i3⟩
   ·right
    rw[Int.natCast_zero] at e
    rw[e]
    exact⟨z,rfl,⟨i,i1,i2,i3⟩,hq⟩)
  (λv hv=>by
   have:decide ((v:Int)<(g.length:Int))=false:=by simp;omega
   simp only[this,cond_false]) g.length 0 (by omega)
 have hcl:∀v,v<g.length→((∃i,0≤i∧i<(row g v).length∧∃k,i+1≤k∧k<(row g v).length∧∃m,k+1≤m∧m<(row g v).length∧P3 v i k m)↔Claw g v):=λv hv=>by
  have hinc:=(hg.rows v hv).1
  unfold Inc at hinc
  rw[List.pairwise_iff_getElem] at hinc
  constructor
  ·rintro⟨i,_,hi,k,ik,hk,m,km,hm,a,b,c,e1,e2,e3,n1,n2,n3⟩
   rw[As hi] at e1;rw[As hk] at e2;rw[As hm] at e3
   have o1:=hinc i k hi hk (by omega)
   have o2:=hinc k m hk hm (by omega)
   exact⟨a,b,c,by omega,by omega,by unfold adj;rw[←e1];exact List.getElem_mem hi,by unfold adj;rw[←e2];exact List.getElem_mem hk,by unfold adj;rw[←e3];exact List.getElem_mem hm,n1,n2,n3⟩
  ·rintro⟨a,b,c,hab,hbc,ha,hb,hc,n1,n2,n3⟩
   obtain⟨i,hi,ei⟩:=hplace ha
   obtain⟨k,hk,ek⟩:=hplace hb
   obtain⟨m,hm,em⟩:=hplace hc
   have hord:∀{x y:Nat} (hx:x<(row g v).length) (hy:y<(row g v).length),(row g v)[x]<(row g v)[y]→x<y:=fun{x y} hx hy h=>by
    rcases Nat.lt_trichotomy x y with h1|h1|h1
    ·exact h1
    ·subst h1;omega
    ·have:=hinc y x hy hx h1;omega
   exact⟨i,Nat.zero_le _,hi,k,hord hi hk (by omega),hk,m,hord hk hm (by omega),hm,a,b,c,by rw[As hi];exact ei,by rw[As hk];exact ek,by rw[As hm];exact em,n1,n2,n3⟩
 rcases main with⟨e,hn⟩|⟨z,e,hq,v,_,v2,v3⟩
 ·refine bind_eq e ?_
  exact⟨_,rfl,λh=>(by cases h),fun⟨v,v1,v2⟩=>absurd ((hcl v v1).2 v2) (hn v (Nat.zero_le _) v1)⟩
 ·refine bind_eq e ?_
  exact⟨z,rfl,λ_=>⟨v,v2,(hcl v v2).1 v3⟩,λ_=>hq⟩
theorem Proper_both :∃b,D.U g=some b∧D.M g=some b:=by
 obtain⟨r1,e1,h1⟩:=impl_Claw hg
 obtain⟨r2,e2,h2⟩:=spec_Claw hg
 obtain⟨b,i1,i2⟩:=Interval_both hg
 have:r1.2=r2.2:=Bool.eq_iff_iff.2 (h1.trans h2.symm)
 refine⟨b&& !r1.2,?_,?_⟩
 ·unfold D.U
  rw[e1,bs,i1,bs]
 ·unfold D.M
  rw[e2,bs,i2,bs,this]
end
theorem Proper_all (g:LL)(h1:Sh2 g):∃b,D.U g=some b∧D.M g=some b:=by
 cases hb:gB g
 ·refine⟨false,?_,?_⟩
  ·unfold D.U D.J D.X D.e0
   rw[BT g h1,hb];rfl
  ·unfold D.M D.d0 D.b0 D.g0
   rw[BS g h1,hb];rfl
 ·exact Proper_both ((gB_iff g).1 hb)
theorem DJ (g:LL)(hx:(g.length:Int)≤9223372036854775807)(hx2:∀x∈g,(x.length:Int)≤9223372036854775807):D.T0 g=some true:=by
 unfold D.T0
 obtain⟨y,e,hy⟩:=szGraph_eq g 1048576 hx hx2 (by omega) (by omega)
 rw[e,bs]
 rcases hy with hy|⟨hy,hy0⟩
 ·simp only[hy,decide_true,cond_true]
 ·have hd:decide (y<0)=false:=by simp;omega
  have htn:=C3 g
  have h1:Sh2 g:=Sh2.of_tot (by unfold Sh;omega) (by omega)
  obtain⟨b,f1,f2⟩:=Proper_all g h1
  simp only[hd,cond_false,toGraph_eq g h1,f1,f2,bs,eqGraph_eq g g h1,decide_true,Bool.not_true,bne_self_eq_false]
end Go.Sx
