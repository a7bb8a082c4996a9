/- Parts. -/
import Derived.Test.YtblebdlmoffmjaaDoorNg1
import Derived.Lib.TrailingZeros
import Derived.Lib.AppendZeros
import Derived.ChangeKeysEq
import Derived.KernelRfl
import Derived.Test.YtblebdlmoffmjaaDoorProg
set_option linter.unusedVariables false
set_option linter.unusedSimpArgs false
namespace Go.Sx
theorem w64 {x:Int}(h1: -9223372036854775808≤x)(h2:x<9223372036854775808):IntKind.i64.wrap x=x:=by
 simp only[IntKind.wrap,IntKind.bits,IntKind.signed]
 have e:(2:Int)^64=18446744073709551616:=by decide
 have e':(2:Int)^(64-1)=9223372036854775808:=by decide
 simp
 omega
theorem dlt {i n:Nat}(h:i<n):decide ((i:Int)<(n:Int))=true:=by simp;omega
theorem By {n:Nat}:decide ((n:Int)<(n:Int))=false:=by simp
theorem A8 {α:Type}{xs:List α}{i:Nat}(h:i<xs.length):idx xs (i:Int)=some xs[i]:=by
 unfold idx;rw[if_pos (by omega)];simp[h]
theorem B4 {α:Type}{xs:List α}{i:Int}(h0:0≤i)(h:i<xs.length):idx xs i=some (xs[i.toNat]'(by omega)):=by
 unfold idx;rw[if_pos h0];simp
theorem wi {i:Nat}(h:i<4611686018427387904):IntKind.i64.wrap ((i:Int)+1)=((i+1:Nat):Int):=by
 rw[w64 (by omega) (by omega)];rfl
theorem wi' {i n:Nat}(h:i<n)(hn:n≤4611686018427387904):IntKind.i64.wrap ((i:Int)+1)=((i+1:Nat):Int):=wi (by omega)
theorem Bj {α:Type}{xs:List α}{i:Nat}(h:i<xs.length)(d:α):xs.getD i d=xs[i]:=by simp[h]
theorem Bf {α:Type}{xs ys:List α}(h:xs.length+ys.length≤4294967296):AB xs ys=some (xs++ys):=by
 unfold AB;rw[if_pos h]
theorem DJ {α:Type}{xs:List α}{i:Nat}(h:i≤xs.length):BF xs 0 (i:Int)=some (xs.take i):=by
 unfold BF;rw[if_pos ⟨by omega,by omega,by omega⟩];simp
theorem Er {α:Type}{xs:List α}{i:Nat}(h:i≤xs.length):BF xs (i:Int) (xs.length:Int)=some (xs.drop i):=by
 unfold BF;rw[if_pos ⟨by omega,by omega,by omega⟩];simp
theorem makeD_zero {α:Type}{z:α}{c:Int}(h:0≤c)(h2:c≤4294967296):makeD z 0 c=some []:=by
 unfold makeD;rw[if_pos ⟨by omega,h,h2⟩];simp
def Stp {σ ρ:Type}(I:σ→Prop)(μ:σ→Nat)(Post:ρ→Prop)(s:σ):σ ⊕ ρ→Prop
 | .inl s'=>I s'∧μ s'<μ s
 | .inr r=>Post r
theorem BS {σ ρ β:Type}{step:σ→Option (σ ⊕ ρ)}{s:σ}{k:ρ→Option β}{Q:β→Prop}(I:σ→Prop)(μ:σ→Nat)(Post:ρ→Prop)
  (hstep:∀s,I s→∃y,step s=some y∧Stp I μ Post s y) (h0:I s) (hk:∀r,Post r→∃y,k r=some y∧Q y):∃y,(AF step s).bind k=some y∧Q y:=by
 obtain⟨r,hr,hp⟩:=loopF_inv (step:=step) I μ Post (λs hs=>by
  obtain⟨y,hy,hq⟩:=hstep s hs
  cases y with
  |inl s'=>exact .inl ⟨s',hy,hq.1,hq.2⟩
  |inr r=>exact .inr ⟨r,hy,hq⟩) s h0
 rw[hr]
 exact hk r hp
theorem Cv {α β:Type}{e:Option α}{k:α→Option β}{Q:β→Prop}(R:α→Prop)(h:∃x,e=some x∧R x)(hk:∀x,R x→∃y,k x=some y∧Q y):∃y,e.bind k=some y∧Q y:=by
 obtain⟨x,rfl,hx⟩:=h
 exact hk x hx
theorem loop_steps {S ρ:Type}{step:S→Option (S ⊕ ρ)}(st:Nat→S)(n:Nat)(h:∀i,i<n→step (st i)=some (.inl (st (i+1)))):AF step (st 0)=AF step (st n):=by
 have key:∀k,k≤n→AF step (st 0)=AF step (st k):=by
  intro k
  induction k with
  |zero=>intro _;rfl
  |succ k ih=>intro hk;rw[ih (by omega),AW (h k (by omega))]
 exact key n (Nat.le_refl n)
theorem Ck {S ρ β:Type}{step:S→Option (S ⊕ ρ)}{k:ρ→Option β}{s0:S}(st:Nat→S)(n:Nat)(r:ρ)(h0:st 0=s0)(h:∀i,i<n→step (st i)=some (.inl (st (i+1))))(he:step (st n)=some (.inr r)):
  (AF step s0).bind k=k r:=by
 rw[←h0,loop_steps st n h,Ba he];rfl
theorem loop_list {α σ S ρ:Type}{step:S→Option (S ⊕ ρ)}(xs:List α)(enc:σ→Int→S)(f:σ→α→σ)(fin:σ→ρ)(I:σ→Prop)(s0:σ)
  (h0:I s0) (hstep:∀s (i:Nat) (h:i<xs.length),I s→step (enc s i)=some (.inl (enc (f s xs[i]) ((i+1:Nat):Int)))∧I (f s xs[i]))
  (hend:∀s,I s→step (enc s xs.length)=some (.inr (fin s))):AF step (enc s0 0)=some (fin (xs.foldl f s0))∧I (xs.foldl f s0):=by
 have key:∀(k i:Nat) (s:σ),i+k=xs.length→I s→AF step (enc s i)=some (fin ((xs.drop i).foldl f s))∧I ((xs.drop i).foldl f s):=by
  intro k
  induction k with
  |zero=>
   intro i s hk hs
   obtain rfl:i=xs.length:=by omega
   simp only[List.drop_length,List.foldl_nil]
   exact⟨Ba (hend s hs),hs⟩
  |succ k ih=>
   intro i s hk hs
   have hi:i<xs.length:=by omega
   obtain⟨h1,h2⟩:=hstep s i hi hs
   rw[AW h1,List.drop_eq_getElem_cons hi,List.foldl_cons]
   exact ih (i+1) _ (by omega) h2
 have:=key xs.length 0 s0 (by omega) h0
 simpa using this
theorem DN {α σ S ρ β:Type}{step:S→Option (S ⊕ ρ)}{k:ρ→Option β}(xs:List α)(enc:σ→Int→S)(f:σ→α→σ)(fin:σ→ρ)(I:σ→Prop)(s0:σ)
  (h0:I s0) (hstep:∀s (i:Nat) (h:i<xs.length),I s→step (enc s i)=some (.inl (enc (f s xs[i]) ((i+1:Nat):Int)))∧I (f s xs[i]))
  (hend:∀s,I s→step (enc s xs.length)=some (.inr (fin s))):(AF step (enc s0 0)).bind k=k (fin (xs.foldl f s0)):=by
 rw[(loop_list xs enc f fin I s0 h0 hstep hend).1];rfl
theorem loop_map {α β γ S:Type}{step:S→Option (S ⊕ List β)}{k:List β→Option γ}(xs:List α)(enc:List β→Int→S)(f:α→β)(hx:xs.length≤4294967296)
  (hstep:∀s (i:Nat) (h:i<xs.length),s.length=i→step (enc s i)=(AB s [f xs[i]]).bind λl=>some (.inl (enc l ((i+1:Nat):Int))))
  (hend:∀s,step (enc s xs.length)=some (.inr s)):(AF step (enc [] 0)).bind k=k (xs.map f):=by
 have key:∀i,i≤xs.length→AF step (enc [] 0)=AF step (enc ((xs.take i).map f) i):=by
  intro i
  induction i with
  |zero=>intro _;simp
  |succ i ih=>
   intro hi
   rw[ih (by omega)]
   have h1:=hstep ((xs.take i).map f) i (by omega) (by simp;omega)
   have h2:AB ((xs.take i).map f) [f xs[i]]=some ((xs.take (i+1)).map f):=by
    unfold AB
    rw[if_pos (by simp;omega)]
    rw[List.take_succ_eq_append_getElem (show i<xs.length by omega),List.map_append];rfl
   rw[h2] at h1
   rw[AW h1]
 rw[key xs.length (Nat.le_refl _),List.take_length,Ba (hend _)];rfl
theorem Dq {ρ : Type} {step : Int → Option (Int ⊕ ρ)} (n : Nat) (c : Nat → Option ρ) (fin : ρ)
    (hstep : ∀ i, i < n → step (i : Int) = match c i with | some r => some (.inr r) | none => some (.inl ((i + 1 : Nat) : Int)))
    (hend : step (n : Int) = some (.inr fin)) : AF step 0 = some (((List.range n).findSome? c).getD fin) := by
  have key : ∀ (k i : Nat), i + k = n → AF step (i : Int) = some (((List.range' i k).findSome? c).getD fin) := by
    intro k
    induction k with
    | zero => intro i h; obtain rfl : i = n := by omega
              simpa using Ba hend
    | succ k ih =>
      intro i h
      have h1 := hstep i (by omega)
      rw [List.range'_succ, List.findSome?_cons]
      cases hc : c i with
      | some r => rw [hc] at h1; simpa using Ba h1
      | none => rw [hc] at h1; rw [AW h1]; exact ih (i + 1) (by omega)
  have := key n 0 (by omega)
  simpa [List.range_eq_range'] using this
theorem Cx {β:Type}{step:Int→Option (Int ⊕ (Unit ⊕ β))}{k:Unit ⊕ β→Option Bool}(n:Nat)(c:Nat→Bool)(bad:β)
  (hstep:∀i,i<n→step (i:Int)=if c i then some (.inl ((i+1:Nat):Int)) else some (.inr (.inr bad)))
  (hend:step (n:Int)=some (.inr (.inl ()))) (hk1:k (.inl ())=some true) (hk2:k (.inr bad)=some false):
  (AF step 0).bind k=some ((List.range n).all c):=by
 rw[Dq n (λi=>if c i then none else some (.inr bad)) (.inl ()) (λi hi=>by rw[hstep i hi];cases c i<;>rfl) hend]
 simp only[bs]
 cases h:(List.range n).all c with
 |true=>
  rw[List.findSome?_eq_none_iff.2 (λx hx=>by rw[if_pos (List.all_eq_true.1 h x hx)])]
  exact hk1
 |false=>
  cases h2:(List.range n).findSome? (λi=>if c i then none else some (Sum.inr bad)) with
  |none=>
   rw[List.findSome?_eq_none_iff] at h2
   have:(List.range n).all c=true:=List.all_eq_true.2 λx hx=>by
    have:=h2 x hx
    cases hc:c x
    ·rw[hc] at this;cases this
    ·rfl
   rw[this] at h;cases h
  |some r=>
   obtain⟨x,_,hx⟩:=List.exists_of_findSome?_eq_some h2
   cases hc:c x
   ·rw[hc] at hx;simp at hx;subst hx;exact hk2
   ·rw[hc] at hx;simp at hx
theorem Ea {ρ β:Type}{step:Int→Option (Int ⊕ ρ)}{k:ρ→Option β}(n:Nat)(c:Nat→Bool)(fine bad:ρ)
  (hstep:∀i,i<n→step (i:Int)=if c i then some (.inl ((i+1:Nat):Int)) else some (.inr bad))
  (hend:step (n:Int)=some (.inr fine)):(AF step 0).bind k=cond ((List.range n).all c) (k fine) (k bad):=by
 rw[Dq n (λi=>if c i then none else some bad) fine (λi hi=>by rw[hstep i hi];cases c i<;>rfl) hend]
 simp only[bs]
 cases h:(List.range n).all c with
 |true=>
  rw[List.findSome?_eq_none_iff.2 (λx hx=>by rw[if_pos (List.all_eq_true.1 h x hx)])]
  rfl
 |false=>
  cases h2:(List.range n).findSome? (λi=>if c i then none else some bad) with
  |none=>
   rw[List.findSome?_eq_none_iff] at h2
   have:(List.range n).all c=true:=List.all_eq_true.2 λx hx=>by
    have:=h2 x hx
    cases hc:c x
    ·rw[hc] at this;cases this
    ·rfl
   rw[this] at h;cases h
  |some r=>
   obtain⟨x,_,hx⟩:=List.exists_of_findSome?_eq_some h2
   cases hc:c x
   ·rw[hc] at hx;simp at hx;subst hx;rfl
   ·rw[hc] at hx;simp at hx
theorem loop_anyb {β:Type}{step:Int→Option (Int ⊕ (Unit ⊕ β))}{k:Unit ⊕ β→Option Bool}(n:Nat)(c:Nat→Bool)(good:β)
  (hstep:∀i,i<n→step (i:Int)=if c i then some (.inr (.inr good)) else some (.inl ((i+1:Nat):Int)))
  (hend:step (n:Int)=some (.inr (.inl ()))) (hk1:k (.inl ())=some false) (hk2:k (.inr good)=some true):
  (AF step 0).bind k=some ((List.range n).any c):=by
 rw[Dq n (λi=>if c i then some (.inr good) else none) (.inl ()) (λi hi=>by rw[hstep i hi];cases c i<;>rfl) hend]
 simp only[bs]
 cases h:(List.range n).any c with
 |false=>
  rw[List.findSome?_eq_none_iff.2 (λx hx=>by
   have:c x=false:=by
    cases hc:c x
    ·rfl
    ·rw[List.any_eq_true.2 ⟨x,hx,hc⟩] at h;cases h
   rw[this];rfl)]
  exact hk1
 |true=>
  obtain⟨x,hx,hc⟩:=List.any_eq_true.1 h
  cases h2:(List.range n).findSome? (λi=>if c i then some (Sum.inr good) else none) with
  |none=>
   rw[List.findSome?_eq_none_iff] at h2
   have:=h2 x hx
   rw[hc] at this;cases this
  |some r=>
   obtain⟨y,_,hy⟩:=List.exists_of_findSome?_eq_some h2
   cases hc:c y
   ·rw[hc] at hy;simp at hy
   ·rw[hc] at hy;simp at hy;subst hy;exact hk2
theorem Dy {α:Type}(xs:List α)(p:α→Bool)(c:Nat→Bool)(h:∀i (hi:i<xs.length),c i=p xs[i]):(List.range xs.length).all c=xs.all p:=by
 rw[Bool.eq_iff_iff,List.all_eq_true,List.all_eq_true]
 constructor
 ·intro hh x hx
  obtain⟨i,hi,rfl⟩:=List.getElem_of_mem hx
  rw[←h i hi];exact hh i (List.mem_range.2 hi)
 ·intro hh i hi
  have hi':=List.mem_range.1 hi
  rw[h i hi'];exact hh _ (List.getElem_mem _)
theorem range_any_list {α:Type}(xs:List α)(p:α→Bool)(c:Nat→Bool)(h:∀i (hi:i<xs.length),c i=p xs[i]):(List.range xs.length).any c=xs.any p:=by
 rw[Bool.eq_iff_iff,List.any_eq_true,List.any_eq_true]
 constructor
 ·rintro⟨i,hi,hc⟩
  have hi':=List.mem_range.1 hi
  exact⟨_,List.getElem_mem hi',by rw[←h i hi'];exact hc⟩
 ·rintro⟨x,hx,hc⟩
  obtain⟨i,hi,rfl⟩:=List.getElem_of_mem hx
  exact⟨i,List.mem_range.2 hi,by rw[h i hi];exact hc⟩
theorem CP (n:Nat)(c:Nat→Bool):(List.range n).all c=true↔∀i,i<n→c i=true:=by
 rw[List.all_eq_true]
 exact⟨λh i hi=>h i (List.mem_range.2 hi),λh i hi=>h i (List.mem_range.1 hi)⟩
theorem C9 (n:Int):IntKind.u32.wrap n=n%4294967296:=by simp[IntKind.wrap,IntKind.signed,IntKind.bits]
def VS (s:Int):Prop:=0≤s∧s<4294967296
def has (s:Int)(v:Nat):Bool:=s.toNat.testBit v
theorem VS.nat {s:Int}(h:VS s):∃n:Nat,s=n∧n<4294967296:=⟨s.toNat,by have:=h.1;omega,by have:=h.1;have:=h.2;omega⟩
theorem VS.zero :VS 0:=⟨by omega,by omega⟩
theorem VS.wrap (n:Int):VS (IntKind.u32.wrap n):=by rw[C9];exact⟨by omega,by omega⟩
theorem BD (n v:Nat):has (n:Int) v=n.testBit v:=by simp[has]
theorem Ci (v:Nat):has 0 v=false:=by simp[has]
theorem CJ (n:Nat)(h:n<4294967296):(BitVec.ofInt 32 (n:Int)).toNat=n:=by
 rw[BitVec.toNat_ofInt]
 omega
theorem ior_nat {a b:Nat}(ha:a<4294967296)(hb:b<4294967296):ior .u32 (a:Int) (b:Int)=((a|||b:Nat):Int):=by
 have hw:a|||b<4294967296:=Nat.or_lt_two_pow (n:=32) ha hb
 show IntKind.u32.wrap (((BitVec.ofInt 32 (a:Int)|||BitVec.ofInt 32 (b:Int)).toNat:Nat):Int)=_
 rw[BitVec.toNat_or,CJ a ha,CJ b hb,C9];omega
theorem iand_nat {a b:Nat}(ha:a<4294967296)(hb:b<4294967296):iand .u32 (a:Int) (b:Int)=((a&&&b:Nat):Int):=by
 have hw:a&&&b<4294967296:=Nat.and_lt_two_pow (n:=32) _ hb
 show IntKind.u32.wrap (((BitVec.ofInt 32 (a:Int)&&&BitVec.ofInt 32 (b:Int)).toNat:Nat):Int)=_
 rw[BitVec.toNat_and,CJ a ha,CJ b hb,C9];omega
theorem VS.ior (a b:Int):VS (ior .u32 a b):=VS.wrap _
theorem VS.iand (a b:Int):VS (iand .u32 a b):=VS.wrap _
theorem VS.iandNot (a b:Int):VS (iandNot .u32 a b):=VS.wrap _
theorem VS.ishl (a b:Int):VS (ishl .u32 a b):=VS.wrap _
theorem C4 {a b:Int}(ha:VS a)(hb:VS b)(v:Nat):has (ior .u32 a b) v=(has a v||has b v):=by
 obtain⟨m,rfl,hm⟩:=ha.nat;obtain⟨n,rfl,hn⟩:=hb.nat
 rw[ior_nat hm hn];simp only[BD,Nat.testBit_or]
theorem Dx {a b:Int}(ha:VS a)(hb:VS b)(v:Nat):has (iandNot .u32 a b) v=(has a v&& !has b v):=by
 obtain⟨m,rfl,hm⟩:=ha.nat;obtain⟨n,rfl,hn⟩:=hb.nat
 have e:iandNot .u32 (m:Int) (n:Int)=(((BitVec.ofInt 32 (m:Int)&&& ~~~(BitVec.ofInt 32 (n:Int))).toNat:Nat):Int):=by
  have hw:=(BitVec.ofInt 32 (m:Int)&&& ~~~(BitVec.ofInt 32 (n:Int))).isLt
  show IntKind.u32.wrap (((BitVec.ofInt 32 (m:Int)&&& ~~~(BitVec.ofInt 32 (n:Int))).toNat:Nat):Int)=_
  rw[C9];omega
 rw[e,BD,BD,BD]
 have h1:∀i,(BitVec.ofInt 32 (m:Int)).getLsbD i=m.testBit i:=λi=>by rw[BitVec.getLsbD,CJ m hm]
 have h2:∀i,(BitVec.ofInt 32 (n:Int)).getLsbD i=n.testBit i:=λi=>by rw[BitVec.getLsbD,CJ n hn]
 rw[←BitVec.getLsbD,BitVec.getLsbD_and,BitVec.getLsbD_not,h1,h2]
 by_cases hv:v<32
 ·simp[hv]
 ·have:m.testBit v=false:=Nat.testBit_lt_two_pow (Nat.lt_of_lt_of_le hm (Nat.pow_le_pow_right (n:=2) (by omega) (show 32≤v by omega)))
  simp[this]
theorem Ed {a:Int}(ha:VS a){v:Nat}(hv:32≤v):has a v=false:=by
 obtain⟨m,rfl,hm⟩:=ha.nat
 rw[BD]
 exact Nat.testBit_lt_two_pow (Nat.lt_of_lt_of_le hm (Nat.pow_le_pow_right (n:=2) (by omega) hv))
theorem VS.ext {a b:Int}(ha:VS a)(hb:VS b)(h:∀v,v<32→has a v=has b v):a=b:=by
 have:∀v,has a v=has b v:=λv=>by
  by_cases hv:v<32
  ·exact h v hv
  ·rw[Ed ha (by omega),Ed hb (by omega)]
 obtain⟨m,rfl,hm⟩:=ha.nat;obtain⟨n,rfl,hn⟩:=hb.nat
 congr 1
 apply Nat.eq_of_testBit_eq
 intro v
 have:=this v
 rwa [BD,BD] at this
theorem VS.eq_zero {a:Int}(ha:VS a):a=0↔∀v,v<32→has a v=false:=
 ⟨λh v _=>by rw[h,Ci],λh=>ha.ext VS.zero (λv hv=>by rw[h v hv,Ci])⟩
theorem one_eq {v:Nat}(hv:v<32):ishl .u32 1 (v:Int)=((2^v:Nat):Int):=by
 have h:(2:Nat)^v<2^32:=Nat.pow_lt_pow_right (by omega) hv
 have h':(2:Nat)^32=4294967296:=by decide
 rw[h'] at h
 show IntKind.u32.wrap (1*2^(min ((v:Int)).toNat 32))=_
 rw[C9,show min ((v:Int)).toNat 32=v by simp;omega,Int.one_mul]
 have e:((2^v:Nat):Int)=(2:Int)^v:=by simp
 rw[←e]
 generalize 2^v=p at h ⊢
 omega
theorem Co {v:Nat}(hv:v<32)(u:Nat):has (ishl .u32 1 (v:Int)) u=decide (u=v):=by
 rw[one_eq hv,BD,Nat.testBit_two_pow]
 simp[eq_comm]
theorem shr_eq (s:Int)(v:Nat)(h:VS s)(hv:v<32):BC .u32 s (v:Int)=((s.toNat>>>v:Nat):Int):=by
 obtain⟨m,rfl,hm⟩:=h.nat
 show Int.fdiv (m:Int) (2^(min ((v:Int)).toNat 32))=_
 rw[show min ((v:Int)).toNat 32=v by simp;omega]
 have e:((2^v:Nat):Int)=(2:Int)^v:=by simp
 rw[←e,Int.fdiv_eq_ediv_of_nonneg _ (Int.natCast_nonneg _),Nat.shiftRight_eq_div_pow]
 simp
theorem bitAt_eq {s:Int}{v:Nat}(h:VS s)(hv:v<32):(iand .u32 (BC .u32 s (v:Int)) 1==1)=has s v:=by
 rw[shr_eq s v h hv]
 have hs:s.toNat>>>v<4294967296:=by
  obtain⟨m,rfl,hm⟩:=h.nat
  rw[Nat.shiftRight_eq_div_pow]
  exact Nat.lt_of_le_of_lt (Nat.div_le_self _ _) hm
 have:=iand_nat hs (show (1:Nat)<4294967296 by omega)
 rw[show (1:Int)=((1:Nat):Int) from rfl,this,has,Nat.testBit]
 rw[Nat.and_comm]
 have h1:1&&&(s.toNat>>>v)=0∨1&&&(s.toNat>>>v)=1:=by
  rw[Nat.and_comm,Nat.and_one_is_mod];omega
 rcases h1 with e|e<;>rw[e]<;>rfl
def Bq (s:Int):LI:=((List.range 32).filter (has s)).map Int.ofNat
theorem mem_elems {s:Int}{x:Int}:x∈Bq s↔∃v:Nat,v<32∧has s v=true∧x=v:=by
 unfold Bq
 rw[List.mem_map]
 constructor
 ·rintro⟨v,hv,rfl⟩
  rw[List.mem_filter,List.mem_range] at hv
  exact⟨v,hv.1,hv.2,rfl⟩
 ·rintro⟨v,h1,h2,rfl⟩
  exact⟨v,List.mem_filter.2 ⟨List.mem_range.2 h1,h2⟩,rfl⟩
theorem mem_elems_nat {s:Int}(h:VS s){v:Nat}:(v:Int)∈Bq s↔has s v=true:=by
 rw[mem_elems]
 constructor
 ·rintro⟨u,_,h2,h3⟩;obtain rfl:v=u:=by omega
  exact h2
 ·intro h2
  refine⟨v,?_,h2,rfl⟩
  by_cases hv:v<32
  ·exact hv
  ·rw[Ed h (by omega)] at h2;cases h2
theorem DW (s:Int):(Bq s).length≤32:=by
 unfold Bq
 rw[List.length_map]
 exact Nat.le_trans (List.length_filter_le _ _) (by simp)
def Inc (l:LI):Prop:=l.Pairwise (·<·)
theorem D8 (s:Int):Inc (Bq s):=by
 unfold Bq Inc
 rw[List.pairwise_map]
 refine List.Pairwise.filter _ ?_
 refine List.Pairwise.imp ?_ (List.pairwise_lt_range (n:=32))
 intro a b h
 show (a:Int)<(b:Int)
 omega
theorem Inc.ext :∀{l l':LI},Inc l→Inc l'→(∀x,x∈l↔x∈l')→l=l'
 |[],[],_,_,_=>rfl
 |[],y::l',_,_,h=>by have:=(h y).2 (by simp);simp at this
 |x::l,[],_,_,h=>by have:=(h x).1 (by simp);simp at this
 |x::l,y::l',h1,h2,h=>by
  have h1':=List.pairwise_cons.1 h1;have h2':=List.pairwise_cons.1 h2
  have e:x=y:=by
   rcases List.mem_cons.1 ((h x).1 (by simp)) with e|e
   ·exact e
   ·rcases List.mem_cons.1 ((h y).2 (by simp)) with e'|e'
    ·exact e'.symm
    ·have:=h2'.1 x e;have:=h1'.1 y e';omega
  subst e
  have:l=l':=by
   refine Inc.ext h1'.2 h2'.2 (λz=> ?_)
   constructor
   ·intro hz
    rcases List.mem_cons.1 ((h z).1 (List.mem_cons_of_mem _ hz)) with e|e
    ·have:=h1'.1 z hz;omega
    ·exact e
   ·intro hz
    rcases List.mem_cons.1 ((h z).2 (List.mem_cons_of_mem _ hz)) with e|e
    ·have:=h2'.1 z hz;omega
    ·exact e
  rw[this]
theorem least_spec {s:Int}(h:VS s)(h0:s≠0):∃k:Nat,k<32∧has s k=true∧(∀v,v<k→has s v=false)∧
  iand .u32 s (IntKind.u32.wrap (0-s))=((2^k:Nat):Int)∧(∀v,has (iand .u32 s (IntKind.u32.wrap (s-1))) v=(has s v&& !decide (v=k))):=by
 obtain⟨m,rfl,hm⟩:=h.nat
 have hm0:m≠0:=by omega
 obtain⟨q,hq,hk⟩:=Lib.ctzFrom_spec 32 m (by omega) hm
 have hc:Lib.ctz 32 m=Lib.ctzFrom 32 m:=by unfold Lib.ctz;rw[if_neg hm0]
 obtain⟨hl,_⟩:=Lib.lowest_bit 32 m hm0 hm
 rw[hc] at hl
 generalize Lib.ctzFrom 32 m=k at*
 have hpos:0<2^k:=Nat.pow_pos (by omega)
 have hb:∀v,m.testBit v=(decide (v≥k)&&(2*q+1).testBit (v-k)):=λv=>by rw[hq,Nat.mul_comm,Nat.testBit_mul_two_pow,Bool.and_comm]
 refine⟨k,hk,?_,λv hv=> ?_,?_,λv=> ?_⟩
 ·rw[BD,hb];simp
 ·rw[BD,hb];simp;intro hc;omega
 ·have e:IntKind.u32.wrap (0-(m:Int))=((4294967296-m:Nat):Int):=by rw[C9];omega
  rw[e,iand_nat hm (by omega)]
  rw[←hl]
 ·have e:IntKind.u32.wrap ((m:Int)-1)=((m-1:Nat):Int):=by rw[C9];omega
  rw[e,iand_nat hm (by omega),BD,BD,Nat.testBit_and]
  have hm1:m-1=2^k*(2*q)+(2^k-1):=by rw[hq,Nat.mul_add];omega
  have hb1:(m-1).testBit v=if v<k then true else(2*q).testBit (v-k):=by
   rw[hm1,Nat.testBit_two_pow_mul_add _ (by omega)]
   split
   ·rename_i hv;rw[Nat.testBit_two_pow_sub_one];simp[hv]
   ·rfl
  rw[hb1,hb]
  by_cases hv:v<k
  ·simp[hv];intro hc;omega
  ·rw[if_neg hv]
   by_cases hvk:v=k
   ·subst hvk;simp
   ·obtain⟨t,ht⟩:∃t,v-k=t+1:=⟨v-k-1,by omega⟩
    rw[ht,Nat.testBit_succ,Nat.testBit_succ]
    have e1:(2*q+1)/2=q:=by omega
    have e2:2*q/2=q:=by omega
    rw[e1,e2]
    simp[hvk]
theorem elems_least {s t:Int}{k:Nat}(hk:k<32)(h1:has s k=true)(h2:∀v,v<k→has s v=false)(h3:∀v,has t v=(has s v&& !decide (v=k))):
  Bq s=(k:Int)::Bq t:=by
 refine Inc.ext (D8 s) ?_ (λx=> ?_)
 ·refine List.pairwise_cons.2 ⟨λx hx=> ?_,D8 t⟩
  obtain⟨v,hv,h4,rfl⟩:=mem_elems.1 hx
  rw[h3] at h4
  simp at h4
  by_cases hc:v<k
  ·rw[h2 v hc] at h4;simp at h4
  ·omega
 ·rw[List.mem_cons,mem_elems,mem_elems]
  constructor
  ·rintro⟨v,hv,h4,rfl⟩
   by_cases e:v=k
   ·left;omega
   ·right;exact⟨v,hv,by rw[h3,h4];simp[e],rfl⟩
  ·rintro(rfl|⟨v,hv,h4,rfl⟩)
   ·exact⟨k,hk,h1,rfl⟩
   ·rw[h3] at h4;simp at h4
    exact⟨v,hv,h4.1,rfl⟩
theorem elems_zero :Bq 0=[]:=by
 unfold Bq
 rw[List.filter_eq_nil_iff.2 (λv _=>by simp[Ci])];rfl
theorem tz_table :∀k:Nat,k<32→idx tab32 (BC .u32 (IntKind.u32.wrap (((2^k:Nat):Int)*125613361)) 27)=some (k:Int):=by decide+kernel
abbrev ArM :=List ((Int×Int)×Int)
abbrev ArL :=List (Int×Int)
end Go.Sx

namespace Go.Sx
end Go.Sx

namespace Go.Sx
open Go
section
variable {P : Program} {ρ : Operand → Value} {w : World} {d : Option Tmp} {t : TypeId} {pos : String} {af : Array Edge} {gd : Option (Nat × Bool)}
end
end Go.Sx

namespace Go.Sx
end Go.Sx

namespace Go.Sx
end Go.Sx

namespace Go.Sx
open Go
def ai (x:Nat→Int)(j:Int):Option Int:=if 0≤j∧j<16 then some (x j.toNat) else none
section
variable {P : Program} {ρ : Operand → Value} {w : World} {d : Option Tmp} {t : TypeId} {pos : String} {af : Array Edge} {gd : Option (Nat × Bool)}
end
section
variable {P : Program} {ops : Array Oper} {rest : List Oper} {n r : AL} {x : List (Nat × AL)} {a : Act} {w : World} {N : Nat} {L : AV}
variable {d : Nat} {t : TypeId} {pos : String} {af : Array Edge}
end
section
variable {P : Program} {ops : Array Oper} {nn r : AL} {x : List (Nat × AL)} {T : Act → World → Prop} {W : World} {G : GH} {E H : List Itm} {N : Nat} {L : AV} {a : Act} {fuel : Nat} {listed listed' : Array Bool}
variable {t : TypeId} {pos : String} {af : Array Edge} {gd : Option (Nat × Bool)} {d i : Nat}
end
end Go.Sx

namespace Go.Sx
end Go.Sx

namespace Go.Sx
end Go.Sx

namespace Go.Sx
noncomputable def D.Z0 (a:LL):Option (Bool):=
 (D.N a).bind λb=>some (b&&(decide ((a.length:Int)≤8)))
end Go.Sx

namespace Go.Sx
section
variable {P : Program} {ops : Array Oper} {rest : List Oper} {n r : AL} {x : List (Nat × AL)} {a : Act} {w w' W : World} {G : GH} {H : List Itm} {N : Nat} {L : AV}
variable {d : Nat} {t : TypeId} {pos : String} {af : Array Edge}
end
end Go.Sx

namespace Go.Sx
section
variable {P : Program} {ops : Array Oper} {rest : List Oper} {n r : AL} {x : List (Nat × AL)} {a : Act} {w : World} {N : Nat} {L : AV}
variable {W : World} {G : GH} {H : List Itm} {d : Nat} {t : TypeId} {pos : String} {af : Array Edge} {kt ft : TypeId} {f0 f1 : Field}
end
end Go.Sx

namespace Go.Sx
open IntKind
noncomputable def D.I (b:LI):Option (Int):=
 (AF (σ:=Int×Int) (ρ:=(Int)) (fun(c,a)=>cond (decide (a<(b.length:Int))) ((idx b a).bind λd=>cond (decide ((IntKind.u64.wrap d)<0)) none (some (.inl ((ior .i64 c (ishl .i64 1 (IntKind.u64.wrap d))),(i64.wrap (a+1)))))) (some (.inr c))) (0,0)).bind λf=>some f
end Go.Sx

namespace Go.Sx
noncomputable def D.i0 (a:LL)(b:LI):Option (LL×Bool):=
 (D.I0 a b).bind λc=>cond (!c) (some (([]:LL),false)) ((D.N0 a b).bind λd=>some (d,true))
end Go.Sx

namespace Go.Sx
noncomputable def D.X0 (a:LL):Option (Bool):=
 (D.z a).bind λb=>some (b&&(decide ((a.length:Int)≤8)))
open Go
abbrev K6 :Type:=Int×Int×Int×Int×Int×Int
def kaV (k:K6):Value:= .agg #[.int .i64 k.1,.int .i64 k.2.1,.int .i64 k.2.2.1,.int .i64 k.2.2.2.1,.int .u32 k.2.2.2.2.1,.int .u32 k.2.2.2.2.2]
structure AsK (P:Program)(kt:TypeId)(f0 f1:Field)(nt:TypeId)(g0 g1:Field)(ut:TypeId)(i2 i3:TypeInfo):Prop where
 u:P.underlying kt=some (.struct #[f0,f1])
 un:P.underlying nt=some (.struct #[g0,g1])
 t1:f1.type=nt
 o0:f0.offset=0
 o1:f1.offset=1
 p0:g0.offset=0
 p1:g1.offset=3
 n0:f0.name≠ "_"
 n1:f1.name≠ "_"
 m0:g0.name≠ "_"
 m1:g1.name≠ "_"
 a0:P.underlying g0.type=some (.array 3 f0.type)
 a1:P.underlying g1.type=some (.array 2 ut)
 i:P.underlying f0.type=some (.int .i64)
 iu:P.underlying ut=some (.int .u32)
 h2:P.info? f0.type=some i2
 z2:i2.size=1
 h3:P.info? ut=some i3
 z3:i3.size=1
 b0:∀w,(isAgg f0.type).run P w= .ok false w
 b1:∀w,(isAgg nt).run P w= .ok true w
 b2:∀w,(isAgg g0.type).run P w= .ok true w
 b3:∀w,(isAgg g1.type).run P w= .ok true w
 b4:∀w,(isAgg ut).run P w= .ok false w
 s1:∀w,(sizeOf nt).run P w= .ok 5 w
 s2:∀w,(sizeOf g0.type).run P w= .ok 3 w
 s3:∀w,(sizeOf g1.type).run P w= .ok 2 w
 st:P.stoodInHeld kt=false
 stn:P.stoodInHeld nt=false
section
variable {P : Program} {kt : TypeId} {f0 f1 : Field} {nt : TypeId} {g0 g1 : Field} {ut : TypeId} {i2 i3 : TypeInfo}
theorem AsK.e3 (K:AsK P kt f0 f1 nt g0 g1 ut i2 i3)(d:Nat)(a b c a' b' c':Int)(w:World):
  (Op.equalIn (d+2) g0.type (.agg #[.int .i64 a,.int .i64 b,.int .i64 c]) (.agg #[.int .i64 a',.int .i64 b',.int .i64 c'])).run P w= .ok (a==a'&&(b==b'&&c==c')) w:=by
 have hc:P.cellsOf f0.type=1:=by simp[Program.cellsOf,K.h2,K.z2]
 have e:∀x y w,(Op.equalIn (d+1) f0.type (.int .i64 x) (.int .i64 y)).run P w= .ok (x==y) w:=λx y w=>run_equalIn_int w d _ _ _ _ _ K.i
 rw[run_equalIn_array w (d+1) _ _ K.a0 K.h2,hc]
 simp only[show List.range 3=[0,1,2] from rfl,Op.eqItems]
 simp[part,K.b0,e]
 by_cases h1:a=a'<;>by_cases h2:b=b'<;>by_cases h3:c=c'<;>simp[h1,h2,h3]
theorem AsK.e2 (K:AsK P kt f0 f1 nt g0 g1 ut i2 i3)(d:Nat)(a b a' b':Int)(w:World):
  (Op.equalIn (d+2) g1.type (.agg #[.int .u32 a,.int .u32 b]) (.agg #[.int .u32 a',.int .u32 b'])).run P w= .ok (a==a'&&b==b') w:=by
 have hc:P.cellsOf ut=1:=by simp[Program.cellsOf,K.h3,K.z3]
 have e:∀x y w,(Op.equalIn (d+1) ut (.int .u32 x) (.int .u32 y)).run P w= .ok (x==y) w:=λx y w=>run_equalIn_int w d _ _ _ _ _ K.iu
 rw[run_equalIn_array w (d+1) _ _ K.a1 K.h3,hc]
 simp only[show List.range 2=[0,1] from rfl,Op.eqItems]
 simp[part,K.b4,e]
 by_cases h1:a=a'<;>by_cases h2:b=b'<;>simp[h1,h2]
theorem AsK.en (K:AsK P kt f0 f1 nt g0 g1 ut i2 i3)(d:Nat)(a b c s t a' b' c' s' t':Int)(w:World):
  (Op.equalIn (d+3) nt (.agg #[.int .i64 a,.int .i64 b,.int .i64 c,.int .u32 s,.int .u32 t]) (.agg #[.int .i64 a',.int .i64 b',.int .i64 c',.int .u32 s',.int .u32 t'])).run P w=
   .ok ((a==a'&&(b==b'&&c==c'))&&(s==s'&&t==t')) w:=by
 have hf:P.fieldsOf nt= #[g0,g1]:=by simp[Program.fieldsOf,K.un]
 rw[run_equalIn_struct w (d+2) nt _ _ (by rw[hf];exact K.un) K.stn,hf]
 simp[Op.eqFields,K.m0,K.m1,part,K.b2,K.b3,K.s2,K.s3,K.p0,K.p1,K.e3,K.e2]
 by_cases h1:a=a'<;>by_cases h2:b=b'<;>by_cases h3:c=c'<;>by_cases h4:s=s'<;>by_cases h5:t=t'<;>simp[h1,h2,h3,h4,h5]
theorem AsK.eq (K:AsK P kt f0 f1 nt g0 g1 ut i2 i3)(x y:K6)(w:World):(Op.equal kt (kaV x) (kaV y)).run P w= .ok (x==y) w:=by
 have hf:P.fieldsOf kt= #[f0,f1]:=by simp[Program.fieldsOf,K.u]
 obtain⟨o,a,b,c,s,t⟩:=x
 obtain⟨o',a',b',c',s',t'⟩:=y
 have h:=run_equalIn_struct (P:=P) w 9999 kt #[.int .i64 o,.int .i64 a,.int .i64 b,.int .i64 c,.int .u32 s,.int .u32 t] #[.int .i64 o',.int .i64 a',.int .i64 b',.int .i64 c',.int .u32 s',.int .u32 t'] (by rw[hf];exact K.u) K.st
 rw[hf] at h
 have e0:∀x y w,(Op.equalIn 9999 f0.type (.int .i64 x) (.int .i64 y)).run P w= .ok (x==y) w:=λx y w=>run_equalIn_int w 9998 _ _ _ _ _ K.i
 refine Eq.trans (show (Op.equal kt (kaV (o,a,b,c,s,t)) (kaV (o',a',b',c',s',t'))).run P w=_ from h) ?_
 have en:=K.en 9996
 simp[Op.eqFields,K.n0,K.n1,part,K.b0,K.b1,K.t1,K.s1,K.o0,K.o1,e0,en]
 show _=Result.ok ((o==o')&&((a==a')&&((b==b')&&((c==c')&&((s==s')&&(t==t')))))) w
 by_cases h0:o=o'<;>by_cases h1:a=a'<;>by_cases h2:b=b'<;>by_cases h3:c=c'<;>by_cases h4:s=s'<;>by_cases h5:t=t'<;>simp[h0,h1,h2,h3,h4,h5]
theorem AsK.check (K:AsK P kt f0 f1 nt g0 g1 ut i2 i3)(x:K6)(em:Bool)(w:World):(Instr.checkKey em 10000 kt (kaV x)).run P w= .ok () w:=by
 have c0:∀d (y:Int) w,(Instr.checkKey em (d+1) f0.type (.int .i64 y)).run P w= .ok () w:=λd y w=>by
  unfold Instr.checkKey
  simp[run_underlying K.i]
 have c1:∀d (y:Int) w,(Instr.checkKey em (d+1) ut (.int .u32 y)).run P w= .ok () w:=λd y w=>by
  unfold Instr.checkKey
  simp[run_underlying K.iu]
 have z2:∀w,(sizeOf f0.type).run P w= .ok 1 w:=λw=>by simp[sizeOf,typeInfo,K.h2,K.z2]
 have z3:∀w,(sizeOf ut).run P w= .ok 1 w:=λw=>by simp[sizeOf,typeInfo,K.h3,K.z3]
 have c3:∀(a b c:Int) w,(Instr.checkKey em 9998 g0.type (.agg #[.int .i64 a,.int .i64 b,.int .i64 c])).run P w= .ok () w:=λa b c w=>by
  unfold Instr.checkKey
  simp[run_underlying K.a0,Std.Legacy.Range.forIn_eq_forIn_range',Std.Legacy.Range.size,List.range',z2,part,K.b0,c0 9996]
 have c2:∀(a b:Int) w,(Instr.checkKey em 9998 g1.type (.agg #[.int .u32 a,.int .u32 b])).run P w= .ok () w:=λa b w=>by
  unfold Instr.checkKey
  simp[run_underlying K.a1,Std.Legacy.Range.forIn_eq_forIn_range',Std.Legacy.Range.size,List.range',z3,part,K.b4,c1 9996]
 have cn:∀(a b c s t:Int) w,(Instr.checkKey em 9999 nt (.agg #[.int .i64 a,.int .i64 b,.int .i64 c,.int .u32 s,.int .u32 t])).run P w= .ok () w:=λa b c s t w=>by
  unfold Instr.checkKey
  simp only[Sem.run_bind,run_underlying K.un,Result.andThen_ok]
  rw[←Array.forIn_toList]
  simp[K.m0,K.m1,part,K.b2,K.b3,K.s2,K.s3,K.p0,K.p1,c3,c2]
 unfold Instr.checkKey kaV
 simp only[Sem.run_bind,run_underlying K.u,Result.andThen_ok]
 rw[←Array.forIn_toList]
 simp[K.n0,K.n1,part,K.b0,K.b1,K.t1,K.s1,K.o0,K.o1,c0 9998,cn]
end
def AskT (P:Program)(kt:TypeId):Prop:=∃f0 f1 nt g0 g1 ut i2 i3,AsK P kt f0 f1 nt g0 g1 ut i2 i3
def OwMd (_:GH)(it:Itm)(v:Value)(M:List (K6×Bool)):Prop:=
 ∃(b:Nat) (es:Array MapEntry) (clock:Nat),it= .obj b (.map es clock)∧v= .map (some b)∧es.toList.map (λe=>(e.key,e.val))=M.map (λkv=>(kaV kv.1,Value.bool kv.2))
def BN (M:List (K6×Bool))(x:K6):Option Bool:=(M.find? λkv=>kv.1==x).map (·.2)
def mdPut (M:List (K6×Bool))(k:K6)(y:Bool):Option (List (K6×Bool)):=if(BN M k).isSome then none else some (M++[(k,y)])
theorem OwMd.mono {G G':GH}{it:Itm}{v:Value}{M:List (K6×Bool)}(_:True)(_:GLe G G')(o:OwMd G it v M):OwMd G' it v M:=o
theorem OwMd.cells {W w:World}{G:GH}{it:Itm}{H:List Itm}{v:Value}{M:List (K6×Bool)}(j:Nat)(_:Mem W G w H)(o:OwMd G it v M)(_:H[j]? =some it):v.cells= #[v]:=by
 obtain⟨b,es,clock,rfl,rfl,_⟩:=o;rfl
section
variable {P : Program} {kt : TypeId} {f0 f1 : Field} {nt : TypeId} {g0 g1 : Field} {ut : TypeId} {i2 i3 : TypeInfo}
theorem AsK.find (K:AsK P kt f0 f1 nt g0 g1 ut i2 i3)(x:K6)(w:World):∀(es:List MapEntry) (M:List (K6×Bool)) (i:Nat),es.map (λe=>(e.key,e.val))=M.map (λkv=>(kaV kv.1,Value.bool kv.2))→
  ((Instr.findAsking kt (kaV x) es i).run P w= .ok none w∧BN M x=none)∨∃j b,(Instr.findAsking kt (kaV x) es i).run P w= .ok (some (j,.bool b)) w∧BN M x=some b
 |[],M,i,h=>by
  have:M=[]:=by simpa using h.symm
  subst this
  exact .inl ⟨by simp[Instr.findAsking],rfl⟩
 |e::es,[],i,h=>by simp at h
 |e::es,kv::M,i,h=>by
  simp only[List.map_cons,List.cons.injEq,Prod.mk.injEq] at h
  obtain⟨⟨h1,h2⟩,h3⟩:=h
  unfold Instr.findAsking BN
  rw[h1]
  simp only[Sem.run_bind,K.eq,Result.andThen_ok,List.find?_cons]
  by_cases hx:x=kv.1
  ·have e1:(x==kv.1)=true:=by rw[beq_iff_eq];exact hx
   have e2:(kv.1==x)=true:=by rw[beq_iff_eq];exact hx.symm
   rw[e1,e2]
   exact .inr ⟨i,kv.2,by simp[h2],rfl⟩
  ·have e1:(x==kv.1)=false:=by rw[beq_eq_false_iff_ne];exact hx
   have e2:(kv.1==x)=false:=by rw[beq_eq_false_iff_ne];exact λe=>hx e.symm
   rw[e1,e2]
   rcases K.find x w es M (i+1) h3 with⟨h4,h5⟩|⟨j,b,h4,h5⟩
   ·exact .inl ⟨by simpa using h4,h5⟩
   ·exact .inr ⟨j,b,by simpa using h4,h5⟩
theorem AsK.findKey (K:AsK P kt f0 f1 nt g0 g1 ut i2 i3)(x:K6)(w:World){es:List MapEntry}{M:List (K6×Bool)}(h:es.map (λe=>(e.key,e.val))=M.map (λkv=>(kaV kv.1,Value.bool kv.2))):
  ((Instr.findKey kt (kaV x) es).run P w= .ok none w∧BN M x=none)∨∃j b,(Instr.findKey kt (kaV x) es).run P w= .ok (some (j,.bool b)) w∧BN M x=some b:=by
 rw[run_findKey_eq w (by rw[K.u])]
 exact K.find x w es M 0 h
end
section
variable {P : Program} {kt ft : TypeId} {w : World}
theorem run_lookupMd (K:AskT P kt){mt:TypeId}{b:Nat}{es:Array MapEntry}{clock:Nat}{M:List (K6×Bool)}(ht:P.underlying mt=some (.map kt ft))(hz:∀w,(zeroValue ft).run P w= .ok (.bool false) w)
  (hg:w.heap[b]? =some (.map es clock)) (he:es.toList.map (λe=>(e.key,e.val))=M.map (λkv=>(kaV kv.1,Value.bool kv.2))) (i:K6):
  (Instr.lookup mt (.map (some b)) (kaV i) true).run P w= .ok (.tuple #[.bool ((BN M i).getD false),.bool (BN M i).isSome]) w:=by
 obtain⟨f0,f1,nt,g0,g1,ut,i2,i3,K⟩:=K
 rcases K.findKey i w he with⟨h1,h2⟩|⟨j,kv,h1,h2⟩
 ·simp[Instr.lookup,run_underlying ht,run_map hg,K.check,h1,h2,hz w]
 ·simp[Instr.lookup,run_underlying ht,run_map hg,K.check,h1,h2]
theorem run_updateMd (K:AskT P kt){mt:TypeId}{b:Nat}{es:Array MapEntry}{clock:Nat}{M:List (K6×Bool)}(ht:P.underlying mt=some (.map kt ft))(hg:w.heap[b]? =some (.map es clock))
  (he:es.toList.map (λe=>(e.key,e.val))=M.map (λkv=>(kaV kv.1,Value.bool kv.2))) (i:K6) (y:Bool) (hno:BN M i=none):
  (Instr.mapUpdate mt (.map (some b)) (kaV i) (.bool y)).run P w= .ok () {w with heap:=w.heap.setIfInBounds b (.map (es.push {key:=kaV i,val:= .bool y,born:=clock}) (clock+1))}:=by
 obtain⟨f0,f1,nt,g0,g1,ut,i2,i3,K⟩:=K
 rcases K.findKey i w he with⟨h1,h2⟩|⟨j,kv,h1,h2⟩
 ·simp[Instr.mapUpdate,run_underlying ht,run_map hg,K.check,h1,run_setMap hg]
 ·rw[h2] at hno;cases hno
end
section
variable {P : Program} {ops : Array Oper} {rest : List Oper} {n r : AL} {x : List (Nat × AL)} {a : Act} {w : World} {N : Nat} {L : AV}
variable {W : World} {G : GH} {H : List Itm} {d : Nat} {t : TypeId} {pos : String} {af : Array Edge} {kt ft : TypeId}
theorem DH {mt:TypeId}(m:Mem W G w H)(f:Fr a N L)(hN:Nat.blt d N=true)
  (k:∀it v w' a',Mem W G w' (it::H)→OwMd G it v []→Fr a' N ((d,v)::L)→wpList P ops (Qk n x r) rest a' w'):
  wpList P ops (Qk n x r) (⟨some d,.makeMap mt none,t,pos,af,none⟩::rest) a w:=
 BB f rfl rfl hN r_makeMap (λa' f'=>k (.obj w.heap.size (.map #[] 0)) _ _ a' (m.add rfl rfl rfl (λy hy=>by first|exact heap_alloc_old w _ y hy|exact heap_alloc_old w _ hy) (heap_alloc_new w _) (λy hy=>by simp[Itm.foot] at hy;omega)) ⟨_,_,_,rfl,rfl,rfl⟩ f')
theorem l_putMd (K:AskT P kt){it:Itm}{v:Value}{M M':List (K6×Bool)}{mt:TypeId}{xo ko vo:Operand}{i:K6}{y:Bool}(j:Nat)(m:Mem W G w H)(h:OwMd G it v M)(hj:H[j]? =some it)
  (ht:P.underlying mt=some (.map kt ft)) (f:Fr a N L) (hx:AC L xo=some v) (hk:AC L ko=some (kaV i)) (hv:AC L vo=some (.bool y)) (hp:mdPut M i y=some M')
  (k:∀it' w',Mem W G w' (H.set j it')→OwMd G it' v M'→wpList P ops (Qk n x r) rest a w'):
  wpList P ops (Qk n x r) (⟨none,.mapUpdate mt xo ko vo,t,pos,af,none⟩::rest) a w:=by
 unfold mdPut at hp
 split at hp
 ·cases hp
 ·rename_i hno
  cases hp
  obtain⟨b,es,clock,rfl,rfl,he⟩:=h
  have hg:w.heap[b]? =some (.map es clock):=m.items j _ hj
  have hlt:b<w.heap.size:=(Array.getElem?_eq_some_iff.1 hg).1
  refine l_void rfl rfl ?_ (k (.obj b (.map (es.push {key:=kaV i,val:= .bool y,born:=clock}) (clock+1))) {w with heap:=w.heap.setIfInBounds b (.map (es.push {key:=kaV i,val:= .bool y,born:=clock}) (clock+1))} (m.changeAt j hj rfl rfl rfl (λy _ hy=>by
   have:y≠b:=λe=>hy (by rw[e];simp[Itm.foot])
   simp[Ne.symm this]) (by simp[Itm.ok,hlt]) (λy hy=> .inl hy)) ⟨b,_,_,rfl,rfl,by simp[he]⟩)
  simp only[execOp,f.eval hx,f.eval hk,f.eval hv,Sem.run_bind,run_updateMd K ht hg he i y (by simpa using hno),Result.andThen_ok]
  rfl
end
section
variable {P : Program} {ops : Array Oper} {nn r : AL} {x : List (Nat × AL)} {a : Act} {W : World} {T : Act → World → Prop} {H E : List Itm} {G : GH} {N fuel : Nat} {L : AV} {listed listed' : Array Bool}
variable {i d : Nat} {t : TypeId} {pos : String} {af : Array Edge} {gd : Option (Nat × Bool)} {kt ft : TypeId}
theorem q_lookupMd {it:Itm}{v:Value}{M:List (K6×Bool)}{mt:TypeId}{xo ko:Operand}{ky:K6}(n:Nat)(K:AskT P kt)(j:Nat)(h:OwMd G it v M)(hj:H[j]? =some it)
  (ht:P.underlying mt=some (.map kt ft)) (hz:∀w,(zeroValue ft).run P w= .ok (.bool false) w)
  (hi:ops[i]? =some ⟨some d,.lookup mt xo ko true,t,pos,af,gd⟩) (hck:BA ops n fuel listed i=true) (hl:listed.setIfInBounds i true=listed') (f:Fr a N L)
  (hw:Region.wanted ⟨some d,.lookup mt xo ko true,t,pos,af,gd⟩ (yielded ops a.tmps)=true) (hN:Nat.blt d N=true) (hx:AC L xo=some v) (hk:AC L ko=some (kaV ky))
  (k:∀a',Fr a' N ((d,.tuple #[.bool ((BN M ky).getD false),.bool (BN M ky).isSome])::L)→AnyB W P ops (Qk nn x r) T H fuel G E listed' a'):AnyB W P ops (Qk nn x r) T H (fuel+1) G E listed a:=by
 obtain⟨b,es,clock,rfl,rfl,he⟩:=h
 refine CB n hi hck hl f hw rfl hN (λG' Ho w hG m=> ?_) k
 have hg:w.heap[b]? =some (.map es clock):=m.drop.items j _ hj
 simp only[execOp,f.eval hx,f.eval hk,Sem.run_bind,run_lookupMd K ht hz hg he ky,Result.andThen_ok]
 rfl
end
end Go.Sx

namespace Go.Sx
open Go
def upd (i:Int)(n:Nat)(v c:Int):Int:=if i=(n:Int) then v else c
def updL (i v:Int):Nat→List Int→List Int
 |_,[]=>[]
 |n,c::cs=>upd i n v c::updL i v (n+1) cs
theorem updL_get (i v:Int):∀(n:Nat) (cs:List Int) (j:Nat),(updL i v n cs)[j]? =cs[j]?.map (λc=>if i=((n+j:Nat):Int) then v else c)
 |_,[],j=>by simp[updL]
 |n,c::cs,0=>by simp[updL,upd]
 |n,c::cs,j+1=>by
  rw[updL,List.getElem?_cons_succ,List.getElem?_cons_succ,updL_get i v (n+1) cs j,show n+1+j=n+(j+1) by omega]
theorem updL_set {i:Int}{y:Int}(v:Int){cs:List Int}(h:idx cs i=some y):updL i v 0 cs=cs.set i.toNat v:=by
 obtain⟨h0,h1,h2⟩:=Bz h
 apply List.ext_getElem?
 intro j
 rw[updL_get,List.getElem?_set]
 by_cases hj:i.toNat=j
 ·have:i=((0+j:Nat):Int):=by omega
  have hl:j<cs.length:=by omega
  rw[if_pos hj]
  simp[this,hl]
 ·have:¬i=((0+j:Nat):Int):=by omega
  rw[if_neg hj]
  simp only[this,if_false,Option.map_id']
theorem boxIx {k:IntKind}{A B:List Value}{cs:List Int}{i y:Int}(h:idx cs i=some y):(A++(cs.map (Value.int k)++B))[A.length+i.toNat]? =some (.int k y):=by
 obtain⟨h0,h1,h2⟩:=Bz h
 rw[List.getElem?_append_right (by omega),show A.length+i.toNat-A.length=i.toNat by omega,List.getElem?_append_left (by simp;omega),List.getElem?_map,h2]
 rfl
theorem boxUp {k:IntKind}{A B:List Value}{cs:List Int}{i y:Int}(v:Int)(h:idx cs i=some y):
  (A++(cs.map (Value.int k)++B)).take (A.length+i.toNat)++[.int k v]++(A++(cs.map (Value.int k)++B)).drop (A.length+i.toNat+[Value.int k v].length)=A++((updL i v 0 cs).map (Value.int k)++B):=by
 obtain⟨h0,h1,h2⟩:=Bz h
 rw[updL_set v h,List.take_append,List.drop_append,List.take_of_length_le (by omega),List.drop_of_length_le (by simp;omega)]
 simp only[Nat.add_sub_cancel_left,List.length_singleton,List.nil_append,List.append_assoc,show A.length+i.toNat+1-A.length=i.toNat+1 by omega]
 rw[List.take_append_of_le_length (by simp;omega),List.drop_append_of_le_length (by simp;omega),List.map_set,List.set_eq_take_append_cons_drop,if_pos (by simp;omega)]
 simp
theorem boxLe {k:IntKind}{A B:List Value}{cs:List Int}{i y v:Int}(h:idx cs i=some y):A.length+i.toNat+[Value.int k v].length≤(A++(cs.map (Value.int k)++B)).length:=by
 obtain⟨h0,h1,h2⟩:=Bz h
 simp;omega
section
variable {P : Program} {ρ : Operand → Value} {w : World} {d : Option Tmp} {t : TypeId} {pos : String} {af : Array Edge} {gd : Option (Nat × Bool)} {t' : TypeId}
theorem r_indexBox {u e m:Nat}{xo io:Operand}{b o:Nat}{k:IntKind}{j:Int}(hx:ρ xo= .pointer (some ⟨b,o,none⟩))(hi:ρ io= .int k j)(hu:P.underlying u=some (.array m e))(hz:∀w,(sizeOf e).run P w= .ok 1 w)(h0:0≤j)(h1:j<m):
  (execOp ρ ⟨d,.indexAddr u xo io,t,pos,af,gd⟩).run P w= .ok (.value (.pointer (some ⟨b,o+j.toNat,none⟩))) w:=by
 simp[execOp,hx,hi,Instr.indexAt,asIntOf,run_underlying hu,Instr.sureAddr,h0,h1,hz w,Bt]
theorem D2 (dd:Nat){u e:TypeId}{p:Option Addr}(hu:P.underlying u=some (.pointer e)):(Op.equalIn (dd+1) u (.pointer p) (.pointer none)).run P w= .ok p.isNone w:=by
 cases p<;>simp[Op.equalIn,run_underlying hu]
theorem Ds {u e:TypeId}{xo yo:Operand}{p:Option Addr}(hx:ρ xo= .pointer p)(hy:ρ yo= .pointer none)(hu:P.underlying u=some (.pointer e)):
  (execOp ρ ⟨d,.binOp .eql u xo yo t',t,pos,af,gd⟩).run P w= .ok (.value (.bool p.isNone)) w:=by
 have hg:(eqGuard .eql u xo yo (.pointer p) (.pointer none)).run P w= .ok () w:=by
  unfold eqGuard;rfl
 have e1:(binOp .eql u (.pointer p) (.pointer none)).run P w= .ok (.bool p.isNone) w:=by
  have:(Op.equal u (.pointer p) (.pointer none)).run P w= .ok p.isNone w:=D2 9999 hu
  simp[binOp,this]
 simp[execOp,hx,hy,hg,e1]
theorem r_ptr_neq {u e:TypeId}{xo yo:Operand}{p:Option Addr}(hx:ρ xo= .pointer p)(hy:ρ yo= .pointer none)(hu:P.underlying u=some (.pointer e)):
  (execOp ρ ⟨d,.binOp .neq u xo yo t',t,pos,af,gd⟩).run P w= .ok (.value (.bool (!p.isNone))) w:=by
 have hg:(eqGuard .neq u xo yo (.pointer p) (.pointer none)).run P w= .ok () w:=by
  unfold eqGuard;rfl
 have e1:(binOp .neq u (.pointer p) (.pointer none)).run P w= .ok (.bool (!p.isNone)) w:=by
  have:(Op.equal u (.pointer p) (.pointer none)).run P w= .ok p.isNone w:=D2 9999 hu
  simp[binOp,this]
 simp[execOp,hx,hy,hg,e1]
end
def optE {α β:Type}:Option α→Option β→(α→Option β)→Option β
 |none,a,_=>a
 |some z,_,b=>b z
theorem DX {α β:Type}{a:Option β}{b:α→Option β}{r:β}(h:optE none a b=some r):a=some r:=h
theorem D1 {α β:Type}{z:α}{a:Option β}{b:α→Option β}{r:β}(h:optE (some z) a b=some r):b z=some r:=h
section
variable {P : Program} {ops : Array Oper} {rest : List Oper} {n r : AL} {x : List (Nat × AL)} {a : Act} {w : World} {N : Nat} {L : AV}
variable {d : Nat} {t : TypeId} {pos : String} {af : Array Edge}
theorem CM {b o:Nat}{u e mm:Nat}{xo io:Operand}{k:IntKind}{j y:Int}{cs:List Int}(hu:P.underlying u=some (.array mm e))(hz:∀w,(sizeOf e).run P w= .ok 1 w)(hl:cs.length=mm)(hj:idx cs j=some y)(f:Fr a N L)(hN:Nat.blt d N=true)
  (hx:AC L xo=some (.pointer (some ⟨b,o,none⟩))) (hi:AC L io=some (.int k j))
  (q:∀a',Fr a' N ((d,.pointer (some ⟨b,o+j.toNat,none⟩))::L)→wpList P ops (Qk n x r) rest a' w):
  wpList P ops (Qk n x r) (⟨some d,.indexAddr u xo io,t,pos,af,none⟩::rest) a w:=by
 obtain⟨h0,h1,_⟩:=Bz hj
 exact BB f rfl rfl hN (r_indexBox (f.eval hx) (f.eval hi) hu hz h0 (by omega)) q
end
section
variable {P : Program} {ops : Array Oper} {nn r : AL} {x : List (Nat × AL)} {T : Act → World → Prop} {W : World} {G : GH} {E H : List Itm} {N : Nat} {L : AV} {a : Act} {fuel : Nat} {listed listed' : Array Bool}
variable {t : TypeId} {pos : String} {af : Array Edge} {gd : Option (Nat × Bool)} {d i : Nat}
theorem CK {b o:Nat}{u e mm:Nat}{xo io:Operand}{k0:IntKind}{j y:Int}{cs:List Int}(n:Nat)(hu:P.underlying u=some (.array mm e))(hz:∀w,(sizeOf e).run P w= .ok 1 w)(hl':cs.length=mm)(hj:idx cs j=some y)
  (hi:ops[i]? =some ⟨some d,.indexAddr u xo io,t,pos,af,gd⟩) (hck:BA ops n fuel listed i=true) (hl:listed.setIfInBounds i true=listed') (f:Fr a N L)
  (hw:Region.wanted ⟨some d,.indexAddr u xo io,t,pos,af,gd⟩ (yielded ops a.tmps)=true) (hN:Nat.blt d N=true) (hx:AC L xo=some (.pointer (some ⟨b,o,none⟩))) (hio:AC L io=some (.int k0 j))
  (k:∀a',Fr a' N ((d,.pointer (some ⟨b,o+j.toNat,none⟩))::L)→AnyB W P ops (Qk nn x r) T H fuel G E listed' a'):AnyB W P ops (Qk nn x r) T H (fuel+1) G E listed a:=by
 obtain⟨h0,h1,_⟩:=Bz hj
 exact CB n hi hck hl f hw rfl hN (λ_ _ _ _ _=>r_indexBox (f.eval hx) (f.eval hio) hu hz h0 (by omega)) k
end
end Go.Sx

namespace Go.Sx
open Go
section
variable {P : Program} {ops : Array Oper} {rest : List Oper} {n r : AL} {x : List (Nat × AL)} {a : Act} {w : World} {N : Nat} {L : AV}
variable {d : Nat} {t : TypeId} {pos : String} {af : Array Edge} {W : World} {G : GH} {H : List Itm} {α : Type} {E : Rec α}
theorem l_appendRs {tt u bytes:Nat}{z:Value}{it:Itm}{v y:Value}{xs ys zs:List α}{s xo:Operand}(j:Nat)(m:Mem W G w H)(h:OwR E tt G it v xs)(hj:H[j]? =some it)(h2:RSr E G y ys)
  (hu:SlT P u tt E.m bytes z) (hzc:z.cells.size=E.m) (hb:bytes≤32768) (f:Fr a N L) (hN:Nat.blt d N=true) (hs:AC L s=some v) (hx:AC L xo=some y) (hz:AB xs ys=some zs)
  (k:∀it' v' w' a',Mem W G w' (H.set j it')→OwR E tt G it' v' zs→Fr a' N ((d,v')::L)→wpList P ops (Qk n x r) rest a' w'):
  wpList P ops (Qk n x r) (⟨some d,.call {callee:= .builtin .append,args:= #[s,xo],argTypes:= #[u,u]},t,pos,af,none⟩::rest) a w:=by
 obtain⟨ti,hi1,hi2,hi3,hi4⟩:=hu.info
 unfold AB at hz
 split at hz
 ·rename_i hle
  obtain rfl:=Option.some.inj hz
  have hit:it= .row v tt E.m xs.length (xs.flatMap E.enc):=h
  rcases h2 with⟨rfl,rfl⟩|⟨⟨b,off,sp⟩,cap,rfl,h3,h4,h5⟩
  ·have hr:=run_append_owned_none (P:=P) (w:=w) 0 u t tt ti E.m hu.und hi1 v xs.length (xs.flatMap E.enc) (h.has m hj)
   refine BB f rfl rfl hN (DF (f.eval hs) (f.eval hx) hr) (λa' f'=>k it v w a' ?_ (by simpa using h) f')
   have:H.set j it=H:=by
    apply List.ext_getElem?
    intro q
    rw[List.getElem?_set]
    split
    ·rename_i e;subst e
     have hl:=(List.getElem?_eq_some_iff.1 hj).1
     simp[hl] at hj ⊢
     exact hj.symm
    ·rfl
   rw[this];exact m
  ·obtain⟨v',w',hr,hown,hg,_,hblk⟩:=run_append_own_at (P:=P) (w:=w) 0 u t tt ti z E.m bytes hu.und hi1 hi4 hi2 hi3 hzc E.pos v xs.length (xs.flatMap E.enc) (h.has m hj) ⟨b,off,sp⟩ ys.length cap (ys.flatMap E.enc) (by rw[E.size]) (λq c hq=>by
     obtain⟨e0,h7⟩:=h5 q c hq
     cases e0
     rw[Bt];exact h7.get m) (λc hc=>by
     obtain⟨q,_,hq⟩:=List.mem_flatMap.1 hc
     exact E.one q c hq) (by simp only[maxLen];omega) (by
     have:(xs.length+ys.length)*bytes≤4294967296*32768:=Nat.mul_le_mul hle hb
     omega) (Nat.zero_le _)
   refine BB f rfl rfl hN (DF (f.eval hs) (f.eval hx) hr) (λa' f'=>k (.row v' tt E.m (xs++ys).length ((xs++ys).flatMap E.enc)) v' w' a' ?_ rfl f')
   refine m.changeAt j hj hg.os hg.tape hg.output (λq hq hqn=>hg.block q hq (λe=>hqn ?_)) ?_ (λq hq=> ?_)
   ·rw[hit];simp[Itm.foot,←e]
   ·show w'.ownsRow 0 tt E.m v' (xs++ys).length ((xs++ys).flatMap E.enc)
    rw[List.length_append,List.flatMap_append];exact hown
   ·have hq:q∈v'.ownBlock.toList:=hq
    rcases hblk with e|e
    ·rw[e] at hq;left;rw[hit];exact hq
    ·rw[e] at hq;right;simp at hq;omega
 ·cases hz
end
theorem RSr.hdr {α:Type}{E:Rec α}{G:GH}{v:Value}{xs:List α}(h:RSr E G v xs):∃a l c,v= .slice a l c:=by
 obtain⟨a,c,rfl,_⟩:=h.len;exact⟨_,_,_,rfl⟩
theorem RSr.nil_inv {α:Type}{E:Rec α}{G:GH}{v:Value}{xs:List α}(h:RSr E G v xs)(hn:isNil v=true):xs=[]:=by
 rcases h with⟨_,rfl⟩|⟨a,cap,rfl,_⟩
 ·rfl
 ·simp[isNil] at hn
theorem OwR.lendCallR {α:Type}{E:Rec α}{P:Program}{g:FuncId}{args:Array Value}(_:True){t:TypeId}{W w:World}{G:GH}{it:Itm}{Ho H:List Itm}{v:Value}{xs:List α}{Q:GH→List Itm→Value→Prop}(j:Nat)
  (h:OwR E t G it v xs) (m:Mem W G w (Ho++H)) (hj:H[j]? =some it)
  (hc:∀G₁,GLe G G₁→Mem W G₁ w (Ho++H.eraseIdx j)→RSr E G₁ v xs→Calls P g args w (Res W G₁ (Ho++H.eraseIdx j) Q)) (hQ:∀G G' Ho v,Q G Ho v→Q G' Ho v):Calls P g args w (Res W G (Ho++H) Q):=
 OwR.lendCall trivial (Ho.length+j) h m (lookRight hj) (by rw[Eo];exact hc) hQ
end Go.Sx

namespace Go.Sx
open IntKind
noncomputable section
def D.V0 (a:(List (Int×Int×Int))):Option (((List (Int×Int×Int)))):=
 (AB ([]:List (Int×Int×Int)) a).bind λb=>some b
def D.P0 (e:LI)(f g:Int):Option (LL×LI×Int×Int):=
 (D.d e f g 6).bind λa=>cond a.1 ((D.E0 a.2.1 a.2.2.1 a.2.2.2).bind λb=>some (b.1,b.2.1,b.2.2.1,b.2.2.2)) ((D.a a.2.1 a.2.2.1 a.2.2.2 5).bind λc=>(D.e0 c.2.1 c.2.2.1 c.2.2.2 (i64.wrap (1+c.1))).bind λd=>some (d.1,d.2.1,d.2.2.1,d.2.2.2))
def D.L0 (a:Int):Option (((List (Int×Int×Int)))×Bool):=
 (D.b a 0 (i64.wrap ((([([1,0,1,7,1,0,4,1,0,7,0,2]:LI),([1,0,1,2,0,1,6,0,1,4,2,0,7,1,3,4,4,0,7,0,5]:LI),([1,0,1,1,0,2,1,1,2,5,0,1,5,3,2,7,2,4,7,1,5,7,0,6]:LI),([3,0,0,3,1,0,5,0,1,4,0,0,4,1,0,5,3,4,6,2,5,1,0,1,5,7,6,7,1,8,7,0,9,4,10,0,8,0,11]:LI),([3,0,0,3,1,0,4,1,0,5,0,2,1,0,1,5,3,4,7,1,5,7,0,6,4,7,0,7,0,0,4,0,0,7,0,10,5,8,9,5,12,11,8,0,13]:LI)]:LL).length:Int)-1))).bind λd=>cond (!d) (some (([]:List (Int×Int×Int)),false)) ((AF (σ:=Int×(List (Int×Int×Int))) (ρ:=((List (Int×Int×Int)))) (fun(e:Int×(List (Int×Int×Int)))=>match e with|(b,c)=>(idx ([([1,0,1,7,1,0,4,1,0,7,0,2]:LI),([1,0,1,2,0,1,6,0,1,4,2,0,7,1,3,4,4,0,7,0,5]:LI),([1,0,1,1,0,2,1,1,2,5,0,1,5,3,2,7,2,4,7,1,5,7,0,6]:LI),([3,0,0,3,1,0,5,0,1,4,0,0,4,1,0,5,3,4,6,2,5,1,0,1,5,7,6,7,1,8,7,0,9,4,10,0,8,0,11]:LI),([3,0,0,3,1,0,4,1,0,5,0,2,1,0,1,5,3,4,7,1,5,7,0,6,4,7,0,7,0,0,4,0,0,7,0,10,5,8,9,5,12,11,8,0,13]:LI)]:LL) a).bind λf=>cond (decide (b<(f.length:Int))) ((idx ([([1,0,1,7,1,0,4,1,0,7,0,2]:LI),([1,0,1,2,0,1,6,0,1,4,2,0,7,1,3,4,4,0,7,0,5]:LI),([1,0,1,1,0,2,1,1,2,5,0,1,5,3,2,7,2,4,7,1,5,7,0,6]:LI),([3,0,0,3,1,0,5,0,1,4,0,0,4,1,0,5,3,4,6,2,5,1,0,1,5,7,6,7,1,8,7,0,9,4,10,0,8,0,11]:LI),([3,0,0,3,1,0,4,1,0,5,0,2,1,0,1,5,3,4,7,1,5,7,0,6,4,7,0,7,0,0,4,0,0,7,0,10,5,8,9,5,12,11,8,0,13]:LI)]:LL) a).bind λg=>(idx g b).bind λh=>(idx ([([1,0,1,7,1,0,4,1,0,7,0,2]:LI),([1,0,1,2,0,1,6,0,1,4,2,0,7,1,3,4,4,0,7,0,5]:LI),([1,0,1,1,0,2,1,1,2,5,0,1,5,3,2,7,2,4,7,1,5,7,0,6]:LI),([3,0,0,3,1,0,5,0,1,4,0,0,4,1,0,5,3,4,6,2,5,1,0,1,5,7,6,7,1,8,7,0,9,4,10,0,8,0,11]:LI),([3,0,0,3,1,0,4,1,0,5,0,2,1,0,1,5,3,4,7,1,5,7,0,6,4,7,0,7,0,0,4,0,0,7,0,10,5,8,9,5,12,11,8,0,13]:LI)]:LL) a).bind λi=>(idx i (i64.wrap (b+1))).bind λj=>(idx ([([1,0,1,7,1,0,4,1,0,7,0,2]:LI),([1,0,1,2,0,1,6,0,1,4,2,0,7,1,3,4,4,0,7,0,5]:LI),([1,0,1,1,0,2,1,1,2,5,0,1,5,3,2,7,2,4,7,1,5,7,0,6]:LI),([3,0,0,3,1,0,5,0,1,4,0,0,4,1,0,5,3,4,6,2,5,1,0,1,5,7,6,7,1,8,7,0,9,4,10,0,8,0,11]:LI),([3,0,0,3,1,0,4,1,0,5,0,2,1,0,1,5,3,4,7,1,5,7,0,6,4,7,0,7,0,0,4,0,0,7,0,10,5,8,9,5,12,11,8,0,13]:LI)]:LL) a).bind λk=>(idx k (i64.wrap (b+2))).bind λl=>(AB c ([(h,j,l)]:List (Int×Int×Int))).bind λm=>some (.inl ((i64.wrap (b+3)),m))) (some (.inr c))) (0,([]:List (Int×Int×Int)))).bind λn=>some (n,true))
def D.g (t:LI)(u v:Int):Option (((List (Int×Int×Int)))×LI×Int×Int):=
 (D.d t u v 3).bind λf=>cond f.1 ((D.a f.2.1 f.2.2.1 f.2.2.2 5).bind λj=>(D.L0 j.1).bind λw=>some (w.1,j.2.1,j.2.2.1,j.2.2.2)) ((D.a f.2.1 f.2.2.1 f.2.2.2 8).bind λk=>(AF (σ:=Int×Int×LI×Int×Int×(List (Int×Int×Int))) (ρ:=((List (Int×Int×Int))×LI×Int×Int)) (fun(x:Int×Int×LI×Int×Int×(List (Int×Int×Int)))=>match x with|(c,d,q,r,s,b)=>cond (decide ((0:Int)<d)) ((D.a q r s 3).bind λh=>(D.a h.2.1 h.2.2.1 h.2.2.2 3).bind λi=>(D.a i.2.1 i.2.2.1 i.2.2.2 2).bind λe=>(cond (decide ((1:Int)<(b.length:Int))) ((D.d e.2.1 e.2.2.1 e.2.2.2 4).bind λl=>some ((!l.1),l.2.1,l.2.2.1,l.2.2.2)) (some (false,e.2.1,e.2.2.1,e.2.2.2))).bind λg=>cond g.1 ((D.a g.2.1 g.2.2.1 g.2.2.2 6).bind λa=>cond (a.1==0) ((AB b ([(4,(i64.wrap ((b.length:Int)-1)),0)]:List (Int×Int×Int))).bind λy=>some (.inl (c,(i64.wrap (d-1)),a.2.1,a.2.2.1,a.2.2.2,y))) (cond (a.1==1) ((D.a a.2.1 a.2.2.1 a.2.2.2 (b.length:Int)).bind λm=>(AB b ([(5,(i64.wrap ((b.length:Int)-1)),m.1)]:List (Int×Int×Int))).bind λz=>some (.inl (c,(i64.wrap (d-1)),m.2.1,m.2.2.1,m.2.2.2,z))) (cond (a.1==2) ((D.a a.2.1 a.2.2.1 a.2.2.2 (b.length:Int)).bind λn=>(AB b ([(6,n.1,(i64.wrap ((b.length:Int)-1)))]:List (Int×Int×Int))).bind λaa=>some (.inl (c,(i64.wrap (d-1)),n.2.1,n.2.2.1,n.2.2.2,aa))) (((cond (a.1==3) (some (a.1==3)) (some (a.1==4)):Option (Bool))).bind λab=>cond ab ((D.a a.2.1 a.2.2.1 a.2.2.2 3).bind λo=>(AB b ([(7,o.1,(i64.wrap ((b.length:Int)-1)))]:List (Int×Int×Int))).bind λac=>some (.inl (c,(i64.wrap (d-1)),o.2.1,o.2.2.1,o.2.2.2,ac))) (cond (a.1==5) (cond (decide (c<2)) ((D.a a.2.1 a.2.2.1 a.2.2.2 2).bind λp=>(AB b ([(8,p.1,(i64.wrap ((b.length:Int)-1)))]:List (Int×Int×Int))).bind λad=>some (.inl ((i64.wrap (c+1)),(i64.wrap (d-1)),p.2.1,p.2.2.1,p.2.2.2,ad))) ((AB b ([((i64.wrap (1+h.1)),i.1,e.1)]:List (Int×Int×Int))).bind λae=>some (.inl (c,(i64.wrap (d-1)),a.2.1,a.2.2.1,a.2.2.2,ae)))) ((AB b ([((i64.wrap (1+h.1)),i.1,e.1)]:List (Int×Int×Int))).bind λaf=>some (.inl (c,(i64.wrap (d-1)),a.2.1,a.2.2.1,a.2.2.2,af)))))))) ((AB b ([((i64.wrap (1+h.1)),i.1,e.1)]:List (Int×Int×Int))).bind λag=>some (.inl (c,(i64.wrap (d-1)),g.2.1,g.2.2.1,g.2.2.2,ag)))) (some (.inr (b,q,r,s)))) (0,(i64.wrap (1+k.1)),k.2.1,k.2.2.1,k.2.2.2,([]:List (Int×Int×Int)))).bind fun(ah,ai,aj,ak)=>some (ah,ai,aj,ak))
def D.x0 (m:LI)(n o:Int):Option (((List (Int×Int×Int)))×LI×Int×Int):=
 (D.g m n o).bind λb=>(D.d b.2.1 b.2.2.1 b.2.2.2 10).bind λd=>cond d.1 ((D.a d.2.1 d.2.2.1 d.2.2.2 (b.1.length:Int)).bind λc=>(D.a c.2.1 c.2.2.1 c.2.2.2 4).bind λa=>cond (a.1==0) ((D.X a.2.1 a.2.2.1 a.2.2.2 0 9).bind λf=>(idx b.1 c.1).bind λj=>some ((b.1.set (Int.toNat c.1) (f.1,j.2.1,j.2.2)),f.2.1,f.2.2.1,f.2.2.2)) (cond (a.1==1) ((D.t a.2.1 a.2.2.1 a.2.2.2 5).bind λg=>(idx b.1 c.1).bind λk=>some ((b.1.set (Int.toNat c.1) (k.1,g.1,k.2.2)),g.2.1,g.2.2.1,g.2.2.2)) (cond (a.1==2) ((D.t a.2.1 a.2.2.1 a.2.2.2 5).bind λh=>(idx b.1 c.1).bind λl=>some ((b.1.set (Int.toNat c.1) (l.1,l.2.1,h.1)),h.2.1,h.2.2.1,h.2.2.2)) (cond (a.1==3) ((AF (σ:=LI×Int×Int×(List (Int×Int×Int))) (ρ:=((List (Int×Int×Int))×LI×Int×Int)) (fun(p:LI×Int×Int×(List (Int×Int×Int)))=>match p with|(q,r,s,i)=>(D.a q r s 2).bind λe=>cond (decide ((i.length:Int)<(i64.wrap (40+e.1)))) ((AB i ([(2,0,0)]:List (Int×Int×Int))).bind λt=>some (.inl (e.2.1,e.2.2.1,e.2.2.2,t))) (some (.inr (i,e.2.1,e.2.2.1,e.2.2.2)))) (a.2.1,a.2.2.1,a.2.2.2,b.1)).bind fun(u,v,w,x)=>some (u,v,w,x)) (some (b.1,a.2.1,a.2.2.1,a.2.2.2)))))) (some (b.1,d.2.1,d.2.2.1,d.2.2.2))
def D.t0 (m:LI):Option (LL×((List (Int×Int×Int)))×LI×LL):=
 (D.H0 m).bind λl=>(D.P0 l.1 l.2.1 l.2.2).bind λa=>(D.x0 a.2.1 a.2.2.1 a.2.2.2).bind λd=>(D.a d.2.1 d.2.2.1 d.2.2.2 (a.1.length:Int)).bind λf=>(D.a f.2.1 f.2.2.1 f.2.2.2 (a.1.length:Int)).bind λg=>(D.a g.2.1 g.2.2.1 g.2.2.2 (a.1.length:Int)).bind λh=>(D.h0 h.2.1 h.2.2.1 h.2.2.2 a.1).bind λb=>(D.h0 b.2.1 b.2.2.1 b.2.2.2 a.1).bind λc=>(D.d c.2.1 c.2.2.1 c.2.2.2 15).bind λk=>((cond k.1 ((AB ([f.1,g.1,h.1]:LI) ([0]:LI)).bind λn=>some n) (some ([f.1,g.1,h.1]:LI)):Option LI)).bind λi=>(D.d k.2.1 k.2.2.1 k.2.2.2 15).bind λe=>cond e.1 ((D.X e.2.1 e.2.2.1 e.2.2.2 (-1) 7).bind λj=>(idx i 0).bind λs=>(D.d j.2.1 j.2.2.1 j.2.2.2 15).bind λo=>cond o.1 ((BF ([b.1,c.1]:LL) 1 (([b.1,c.1]:LL).length:Int)).bind λp=>some (a.1,d.1,(i.set (Int.toNat 0) j.1),p)) (some (a.1,d.1,(i.set (Int.toNat 0) j.1),([b.1,c.1]:LL)))) ((D.d e.2.1 e.2.2.1 e.2.2.2 15).bind λq=>cond q.1 ((BF ([b.1,c.1]:LL) 1 (([b.1,c.1]:LL).length:Int)).bind λr=>some (a.1,d.1,i,r)) (some (a.1,d.1,i,([b.1,c.1]:LL))))
def D.E (a:Int):Option (Bool):=
 (D.p a 0 2).bind λb=>some b
def D.k0 (a:Int):Option (Bool):=
 (D.p a 0 1).bind λb=>some b
def D.r (a b:Int):Option (Bool):=
 (D.p a 0 (i64.wrap (b-1))).bind λc=>some c
def D.c (a b:Int)(c d:Int):Option (Bool):=
 ((cond (a==1) (some (a==1)) (some (a==2)):Option (Bool))).bind λe=>cond e ((D.E b).bind λf=>(cond f ((D.E c).bind λg=>some g) (some false)).bind λh=>some h) (cond (a==3) ((D.E b).bind λi=>(cond i ((D.k0 c).bind λj=>some j) (some false)).bind λk=>some k) (cond (a==4) ((D.r b d).bind λl=>some (l&&(c==0))) (((cond (a==5) (some (a==5)) (some (a==6)):Option (Bool))).bind λm=>cond m ((D.r b d).bind λn=>(cond n ((D.r c d).bind λo=>some o) (some false)).bind λp=>some p) (cond (a==7) ((D.E b).bind λq=>(cond q ((D.r c d).bind λr=>some r) (some false)).bind λs=>some s) (cond (a==8) ((D.k0 b).bind λt=>(cond t ((D.r c d).bind λu=>some u) (some false)).bind λv=>some v) (some false))))))
def D.O (a:(List (Int×Int×Int))):Option (Bool):=
 cond ((decide ((a.length:Int)<1))||(decide ((40:Int)<(a.length:Int)))) (some false) ((AF (σ:=Int) (ρ:=(Unit) ⊕ (Bool)) (fun(b:Int)=>cond (decide (b<(a.length:Int))) ((idx a b).bind λc=>(D.c c.1 c.2.1 c.2.2 b).bind λd=>cond (!d) (some (.inr (.inr false))) (some (.inl (i64.wrap (b+1))))) (some (.inr (.inl ())))) 0).bind λzz=>match zz with| .inl _=>(some true)| .inr z=>(some z))
def D.L (d:(List (Int×Int×Int))):Option LI:=
 (AF (σ:=LI×Int) (ρ:=LI) (fun(b,c)=>cond (decide (c<(d.length:Int))) ((idx d c).bind λa=>((cond (a.1==1) (some (a.1==1)) (some (a.1==2)):Option (Bool))).bind λf=>cond f ((D.e a.2.1).bind λg=>(D.e a.2.2).bind λh=>(AB b ([(ior .u32 g h)]:LI)).bind λi=>some (.inl (i,(i64.wrap (c+1))))) (cond (a.1==3) ((D.e a.2.1).bind λj=>(D.e (i64.wrap (3+a.2.2))).bind λk=>(AB b ([(ior .u32 j k)]:LI)).bind λl=>some (.inl (l,(i64.wrap (c+1))))) (cond (a.1==4) ((idx b a.2.1).bind λm=>(AB b ([m]:LI)).bind λn=>some (.inl (n,(i64.wrap (c+1))))) (((cond (a.1==5) (some (a.1==5)) (some (a.1==6)):Option (Bool))).bind λo=>cond o ((idx b a.2.1).bind λp=>(idx b a.2.2).bind λq=>(AB b ([(ior .u32 p q)]:LI)).bind λr=>some (.inl (r,(i64.wrap (c+1))))) (cond (a.1==7) ((idx b a.2.2).bind λs=>(D.e a.2.1).bind λt=>(AB b ([(iandNot .u32 s t)]:LI)).bind λu=>some (.inl (u,(i64.wrap (c+1))))) (cond (a.1==8) ((idx b a.2.2).bind λv=>(D.e (i64.wrap (3+a.2.1))).bind λw=>(AB b ([(iandNot .u32 v w)]:LI)).bind λx=>some (.inl (x,(i64.wrap (c+1))))) ((AB b ([0]:LI)).bind λy=>some (.inl (y,(i64.wrap (c+1))))))))))) (some (.inr b))) (([]:LI),0)).bind λz=>some z
def D.T (h:(List (Int×Int×Int))):Option (((List Bool))):=
 (AF (σ:=(List Bool)×LI×Int) (ρ:=((List Bool))) (fun(d,b,c)=>cond (decide (c<(h.length:Int))) ((idx h c).bind λa=>cond (a.1==4) ((idx b a.2.1).bind λe=>(AB b ([(if(10000:Int)<(i64.wrap (1+e)) then 10000 else(i64.wrap (1+e)))]:LI)).bind λj=>(AB d ([(decide ((10000:Int)≤(i64.wrap (1+e))))]:List Bool)).bind λk=>some (.inl (k,j,(i64.wrap (c+1))))) (((cond (a.1==5) (some (a.1==5)) (some (a.1==6)):Option (Bool))).bind λl=>cond l ((idx b a.2.1).bind λf=>(idx b a.2.2).bind λg=>(AB b ([(if(10000:Int)<(i64.wrap (1+(i64.wrap (f+g)))) then 10000 else(i64.wrap (1+(i64.wrap (f+g)))))]:LI)).bind λm=>(AB d ([(decide ((10000:Int)≤(i64.wrap (1+(i64.wrap (f+g))))))]:List Bool)).bind λn=>some (.inl (n,m,(i64.wrap (c+1))))) ((AB b ([(if(10000:Int)<1 then 10000 else 1)]:LI)).bind λo=>(AB d ([(decide ((10000:Int)≤1))]:List Bool)).bind λp=>some (.inl (p,o,(i64.wrap (c+1))))))) (some (.inr d))) (([]:List Bool),([]:LI),0)).bind λq=>some q
def D.F (b:LL)(a:(List (Int×Int×Int))):Option (Option (LI×((List (Int×Int×Int)))×LI×((List Bool))×((List (K6×Bool))))):=
 (D.Z0 b).bind λc=>(cond (!c) (some true) ((D.O a).bind λd=>some (!d))).bind λe=>cond e (some none) ((((D.n0 b).bind λf=>(D.L a).bind λg=>(D.T a).bind λh=>some (f,g,h,([]:List (K6×Bool))):Option (LI×LI×(List Bool)×(List (K6×Bool))))).bind fun(i,j,k,l)=>some (some (i,a,j,k,l)))
end
end Go.Sx

namespace Go.Sx
open IntKind
noncomputable section
def D.v0 (aa:LI)(ab:(List (Int×Int×Int)))(h:LI)(ac:(List Bool))(j:(List (K6×Bool)))(i k:Int)(l m:Int)(n o:Int):Option (Int×Int×Int×Int×Int×((List (K6×Bool)))):=
 (AF (σ:=Int×Int×Int×Int) (ρ:=(Int×Int×Int)) (fun(a,c,d,e)=>cond (decide (a<3)) ((idx h i).bind λq=>(D.v q a).bind λr=>cond (!r) ((idx ([c,d,e]:LI) a).bind λad=>some (.inl ((i64.wrap (a+1)),(upd a 0 0 c),(upd a 1 0 d),(upd a 2 0 e)))) (some (.inl ((i64.wrap (a+1)),c,d,e)))) (some (.inr (c,d,e)))) (0,k,l,m)).bind fun(s,t,u)=>(AF (σ:=Int×Int×Int) (ρ:=(Int×Int)) (fun(b,f,g)=>cond (decide (b<2)) ((idx h i).bind λw=>(D.v w (i64.wrap (3+b))).bind λx=>cond (!x) ((idx ([f,g]:LI) b).bind λae=>some (.inl ((i64.wrap (b+1)),(upd b 0 0 f),(upd b 1 0 g)))) (some (.inl ((i64.wrap (b+1)),f,g)))) (some (.inr (f,g)))) (0,n,o)).bind fun(y,z)=>some (s,t,u,y,z,j)
def D.c0 (rec_:LI→((List (Int×Int×Int)))→LI→((List Bool))→((List (K6×Bool)))→Int→Int→Int→Int→Int→Int→Option (Bool×((List (K6×Bool)))))(d:LI)(l:(List (Int×Int×Int)))(m:LI)(n:(List Bool))(o:(List (K6×Bool)))(x a:Int)(p q:Int)(r s:Int)(t u:Int):Option (Bool×((List (K6×Bool)))):=
 cond (x==7) ((AF (σ:=Int×(List (K6×Bool))×Int×Int×Int) (ρ:=((List (K6×Bool))) ⊕ (Bool×((List (K6×Bool))))) (fun(y:Int×(List (K6×Bool))×Int×Int×Int)=>match y with|(b,v,e,f,g)=>cond (decide (b<(d.length:Int))) ((idx ([e,f,g]:LI) a).bind λae=>(rec_ d l m n v p (upd a 0 b e) (upd a 1 b f) (upd a 2 b g) t u).bind λh=>cond h.1 (some (.inr (.inr (true,h.2)))) (some (.inl ((i64.wrap (b+1)),h.2,(upd a 0 b e),(upd a 1 b f),(upd a 2 b g))))) (some (.inr (.inl v)))) (0,o,q,r,s)).bind λzz=>match zz with| .inl aa=>(some (false,aa))| .inr z=>(some z)) ((AF (σ:=Int×(List (K6×Bool))×Int×Int) (ρ:=((List (K6×Bool))) ⊕ (Bool×((List (K6×Bool))))) (fun(ab:Int×(List (K6×Bool))×Int×Int)=>match ab with|(c,w,i,j)=>(D.R d).bind λac=>cond (decide (c≤ac)) ((idx ([i,j]:LI) a).bind λaf=>(rec_ d l m n w p q r s (upd a 0 c i) (upd a 1 c j)).bind λk=>cond k.1 (some (.inr (.inr (true,k.2)))) (some (.inl ((IntKind.u32.wrap (c+1)),k.2,(upd a 0 c i),(upd a 1 c j))))) (some (.inr (.inl w)))) (0,o,t,u)).bind λzz=>match zz with| .inl ad=>(some (false,ad))| .inr z=>(some z))
def D.U (rec_:LI→((List (Int×Int×Int)))→LI→((List Bool))→((List (K6×Bool)))→Int→Int→Int→Int→Int→Int→Option (Bool×((List (K6×Bool)))))(d:LI)(j:(List (Int×Int×Int)))(k:LI)(l:(List Bool))(e:(List (K6×Bool)))(f g:Int)(m a:Int)(b c:Int)(h i:Int):Option (Bool×((List (K6×Bool)))):=
 cond (f==1) ((idx ([a,b,c]:LI) g).bind λv=>(idx d v).bind λw=>(idx ([a,b,c]:LI) m).bind λx=>(D.v w x).bind λy=>some (y,e)) (cond (f==2) ((idx ([a,b,c]:LI) g).bind λz=>(idx ([a,b,c]:LI) m).bind λaa=>some ((z==aa),e)) (cond (f==3) ((idx ([h,i]:LI) m).bind λab=>(idx ([a,b,c]:LI) g).bind λac=>(D.v ab ac).bind λad=>some (ad,e)) (cond (f==4) ((rec_ d j k l e g a b c h i).bind λp=>some ((!p.1),p.2)) (cond (f==5) ((rec_ d j k l e g a b c h i).bind λn=>(cond n.1 ((rec_ d j k l n.2 m a b c h i).bind λq=>some (q.1,q.2)) (some (false,n.2))).bind λr=>some (r.1,r.2)) (cond (f==6) ((rec_ d j k l e g a b c h i).bind λo=>(cond o.1 (some (true,o.2)) ((rec_ d j k l o.2 m a b c h i).bind λs=>some (s.1,s.2))).bind λt=>some (t.1,t.2)) ((D.c0 rec_ d j k l e f g m a b c h i).bind λu=>some (u.1,u.2)))))))
def D.K :Nat→LI→((List (Int×Int×Int)))→LI→((List Bool))→((List (K6×Bool)))→Int→Int→Int→Int→Int→Int→Option (Bool×((List (K6×Bool))))
 |0,_,_,_,_,_,_,_,_,_,_,_=>none
 |fuel+1,f,d,g,e,i,c,j,k,l,m,n=>(idx d c).bind λb=>(cond ((b.1 !=7)&&(b.1 !=8)) ((idx e c).bind λp=>some (!p)) (some false)).bind λq=>cond q ((D.U (D.K fuel) f d g e i b.1 b.2.1 b.2.2 j k l m n).bind λo=>some (o.1,o.2)) ((D.v0 f d g e i c j k l m n).bind λa=>cond (!(BN a.2.2.2.2.2 (c,a.1,a.2.1,a.2.2.1,a.2.2.2.1,a.2.2.2.2.1)).isSome) ((D.U (D.K fuel) f d g e a.2.2.2.2.2 b.1 b.2.1 b.2.2 a.1 a.2.1 a.2.2.1 a.2.2.2.1 a.2.2.2.2.1).bind λh=>(mdPut h.2 (c,a.1,a.2.1,a.2.2.1,a.2.2.2.1,a.2.2.2.2.1) h.1).bind λr=>some (h.1,r)) (some (((BN a.2.2.2.2.2 (c,a.1,a.2.1,a.2.2.1,a.2.2.2.1,a.2.2.2.2.1)).getD false),a.2.2.2.2.2)))
def D.l (a:LI)(b:(List (Int×Int×Int)))(c:LI)(d:(List Bool))(e:(List (K6×Bool)))(f g:Int)(h i:Int)(j k:Int):Option (Bool×((List (K6×Bool)))):=D.K CL a b c d e f g h i j k
def D.B (c:LI)(a:(List (Int×Int×Int)))(d:LI)(e:(List Bool))(f:(List (K6×Bool)))(g h:Int)(i j k:Int):Option (Bool×((List (K6×Bool)))):=
 (D.l c a d e f (i64.wrap ((a.length:Int)-1)) g h i j k).bind λb=>some (b.1,b.2)
def D.a0 (e:LL)(o:(List (Int×Int×Int)))(f:LI)(g:LL):Option (Bool):=
 (D.F e o).bind λp=>optE p (some false) (λc=>cond (((f.length:Int) !=3)||((g.length:Int) !=2)) (some false) ((AF (σ:=Int×Int×Int×Int) (ρ:=(Int×Int×Int) ⊕ (Bool)) (fun(a,h,i,j)=>cond (decide (a<(f.length:Int))) ((idx f a).bind λd=>(D.q e d).bind λr=>cond (!r) (some (.inr (.inr false))) ((idx ([h,i,j]:LI) a).bind λab=>some (.inl ((i64.wrap (a+1)),(upd a 0 d h),(upd a 1 d i),(upd a 2 d j))))) (some (.inr (.inl (h,i,j))))) (0,0,0,0)).bind λzz=>match zz with| .inl (s,t,u)=>((AF (σ:=Int×Int×Int) (ρ:=(Int×Int) ⊕ (Bool)) (fun(b,k,l)=>cond (decide (b<(g.length:Int))) ((idx g b).bind λm=>(D.A e m).bind λw=>cond (!w) (some (.inr (.inr false))) ((D.M m).bind λn=>(idx ([k,l]:LI) b).bind λac=>some (.inl ((i64.wrap (b+1)),(upd b 0 n k),(upd b 1 n l))))) (some (.inr (.inl (k,l))))) (0,0,0)).bind λzz=>match zz with| .inl (x,y)=>((D.B c.1 c.2.1 c.2.2.1 c.2.2.2.1 c.2.2.2.2 s t u x y).bind λaa=>some aa.1)| .inr z=>(some z))| .inr z=>(some z)))
def D.C (a:Int):Option (Bool):=
 (D.b a 0 2).bind λb=>some b
def D.l0 (a:Int):Option (Bool):=
 (D.b a 0 1).bind λb=>some b
def D.J0 (a b:Int)(c e:Int):Option (Bool):=
 (D.b b 0 (i64.wrap (e-1))).bind λf=>(D.b c 0 (i64.wrap (e-1))).bind λd=>((cond (a==1) (some (a==1)) (some (a==2)):Option (Bool))).bind λg=>cond g ((D.C b).bind λh=>(cond h ((D.C c).bind λi=>some i) (some false)).bind λj=>some j) (cond (a==3) ((D.C b).bind λk=>(cond k ((D.l0 c).bind λl=>some l) (some false)).bind λm=>some m) (cond (a==4) (some (f&&(c==0))) (((cond (a==5) (some (a==5)) (some (a==6)):Option (Bool))).bind λn=>cond n (some (f&&d)) (cond (a==7) ((D.C b).bind λo=>some (o&&d)) (cond (a==8) ((D.l0 b).bind λp=>some (p&&d)) (some false))))))
def D.u (b:(List (Int×Int×Int))):Option (Bool):=
 (D.b (b.length:Int) 1 40).bind λd=>cond (!d) (some false) ((AF (σ:=Int) (ρ:=(Unit) ⊕ (Bool)) (fun(a:Int)=>cond (decide (a<(b.length:Int))) ((idx b a).bind λc=>(D.J0 c.1 c.2.1 c.2.2 a).bind λe=>cond (!e) (some (.inr (.inr false))) (some (.inl (i64.wrap (a+1))))) (some (.inr (.inl ())))) 0).bind λzz=>match zz with| .inl _=>(some true)| .inr z=>(some z))
def D.u0 (a:LL)(b:(List (Int×Int×Int))):Option (Bool):=
 (D.X0 a).bind λc=>(cond c ((D.u b).bind λd=>some d) (some false)).bind λe=>some e
def D.h :Nat→LI→((List (Int×Int×Int)))→Int→LI→LI→Option (Bool)
 |0,_,_,_,_,_=>none
 |fuel+1,c,d,l,b,e=>(idx d l).bind λa=>cond (a.1==1) ((idx b a.2.1).bind λm=>(idx c m).bind λn=>(idx b a.2.2).bind λj=>cond (decide ((IntKind.u64.wrap j)<0)) none (some ((iand .i64 (BC .i64 n (IntKind.u64.wrap j)) 1)==1))) (cond (a.1==2) ((idx b a.2.1).bind λo=>(idx b a.2.2).bind λp=>some (o==p)) (cond (a.1==3) ((idx e a.2.2).bind λq=>(idx b a.2.1).bind λk=>cond (decide ((IntKind.u64.wrap k)<0)) none (some ((iand .i64 (BC .i64 q (IntKind.u64.wrap k)) 1)==1))) (cond (a.1==4) ((D.h fuel c d a.2.1 b e).bind λr=>some (!r)) (cond (a.1==5) ((D.h fuel c d a.2.1 b e).bind λs=>(cond s ((D.h fuel c d a.2.2 b e).bind λt=>some t) (some false)).bind λu=>some u) (cond (a.1==6) ((D.h fuel c d a.2.1 b e).bind λv=>(cond v (some true) ((D.h fuel c d a.2.2 b e).bind λw=>some w)).bind λx=>some x) (cond (a.1==7) ((D.k b).bind λy=>(AF (σ:=LI×Int) (ρ:=(Unit) ⊕ (Bool)) (fun(h,f)=>cond (decide (f<(c.length:Int))) ((idx h a.2.1).bind λaf=>(D.h fuel c d a.2.2 (h.set (Int.toNat a.2.1) f) e).bind λab=>cond ab (some (.inr (.inr true))) (some (.inl ((h.set (Int.toNat a.2.1) f),(i64.wrap (f+1)))))) (some (.inr (.inl ())))) (y,0)).bind λzz=>match zz with| .inl _=>(some false)| .inr z=>(some z)) ((D.k e).bind λac=>(AF (σ:=LI×Int) (ρ:=(Unit) ⊕ (Bool)) (fun(i,g)=>cond (decide ((IntKind.u64.wrap (c.length:Int))<0)) none (cond (decide (g<(ishl .i64 1 (IntKind.u64.wrap (c.length:Int))))) ((idx i a.2.1).bind λag=>(D.h fuel c d a.2.2 b (i.set (Int.toNat a.2.1) g)).bind λae=>cond ae (some (.inr (.inr true))) (some (.inl ((i.set (Int.toNat a.2.1) g),(i64.wrap (g+1)))))) (some (.inr (.inl ()))))) (ac,0)).bind λzz=>match zz with| .inl _=>(some false)| .inr z=>(some z))))))))
def D.f (a:LI)(b:(List (Int×Int×Int)))(c:Int)(d e:LI):Option (Bool):=D.h CL a b c d e
def D.p0 (b:LL)(a:(List (Int×Int×Int)))(c d:LI):Option (Bool):=
 (D.D0 b).bind λe=>(D.f e a (i64.wrap ((a.length:Int)-1)) c d).bind λf=>some f
def D.d0 (a:LL)(f:(List (Int×Int×Int)))(b:LI)(c:LL):Option (Bool):=
 (D.u0 a f).bind λh=>cond (((!h)||((b.length:Int) !=3))||((c.length:Int) !=2)) (some false) ((AF (σ:=Int) (ρ:=(Unit) ⊕ (Bool)) (fun(e:Int)=>cond (decide (e<(b.length:Int))) ((idx b e).bind λi=>(D.S a i).bind λj=>cond (!j) (some (.inr (.inr false))) (some (.inl (i64.wrap (e+1))))) (some (.inr (.inl ())))) 0).bind λzz=>match zz with| .inl _=>((AF (σ:=LI×Int) (ρ:=LI ⊕ (Bool)) (fun(g,d)=>cond (decide (d<(c.length:Int))) ((idx c d).bind λl=>(D.y a l).bind λm=>cond (!m) (some (.inr (.inr false))) ((idx c d).bind λn=>(D.I n).bind λo=>(AB g ([o]:LI)).bind λp=>some (.inl (p,(i64.wrap (d+1)))))) (some (.inr (.inl g)))) (([]:LI),0)).bind λzz=>match zz with| .inl q=>((D.p0 a f b q).bind λr=>some r)| .inr z=>(some z))| .inr z=>(some z))
def D.B0 (a:(List (Int×Int×Int))):Option (((List (Int×Int×Int)))×Bool):=
 (D.O a).bind λb=>cond ((!b)||((a.length:Int)==40)) (some (([]:List (Int×Int×Int)),false)) ((D.V0 a).bind λc=>(AB c ([(4,(i64.wrap ((a.length:Int)-1)),0)]:List (Int×Int×Int))).bind λd=>some (d,true))
def D.m0 (a:(List (Int×Int×Int))):Option LI:=
 (D.O a).bind λc=>cond (!c) (some ([]:LI)) ((D.L a).bind λb=>(idx b (i64.wrap ((b.length:Int)-1))).bind λd=>(D.f0 d).bind λe=>some e)
def D.K0 (d:(List (Int×Int×Int))):Option (Int):=
 (AF (σ:=LI×Int) (ρ:=LI) (fun(b,c)=>cond (decide (c<(d.length:Int))) ((idx d c).bind λa=>((cond (a.1==1) (some (a.1==1)) (some (a.1==2)):Option (Bool))).bind λg=>cond g (cond (decide ((IntKind.u64.wrap a.2.1)<0)) none (cond (decide ((IntKind.u64.wrap a.2.2)<0)) none ((AB b ([(ior .i64 (ishl .i64 1 (IntKind.u64.wrap a.2.1)) (ishl .i64 1 (IntKind.u64.wrap a.2.2)))]:LI)).bind λh=>some (.inl (h,(i64.wrap (c+1))))))) (cond (a.1==3) (cond (decide ((IntKind.u64.wrap a.2.1)<0)) none (cond (decide ((IntKind.u64.wrap (i64.wrap (3+a.2.2)))<0)) none ((AB b ([(ior .i64 (ishl .i64 1 (IntKind.u64.wrap a.2.1)) (ishl .i64 1 (IntKind.u64.wrap (i64.wrap (3+a.2.2)))))]:LI)).bind λi=>some (.inl (i,(i64.wrap (c+1))))))) (cond (a.1==4) ((idx b a.2.1).bind λj=>(AB b ([j]:LI)).bind λk=>some (.inl (k,(i64.wrap (c+1))))) (((cond (a.1==5) (some (a.1==5)) (some (a.1==6)):Option (Bool))).bind λl=>cond l ((idx b a.2.1).bind λm=>(idx b a.2.2).bind λn=>(AB b ([(ior .i64 m n)]:LI)).bind λo=>some (.inl (o,(i64.wrap (c+1))))) (cond (a.1==7) ((idx b a.2.2).bind λp=>cond (decide ((IntKind.u64.wrap a.2.1)<0)) none ((AB b ([(iandNot .i64 p (ishl .i64 1 (IntKind.u64.wrap a.2.1)))]:LI)).bind λq=>some (.inl (q,(i64.wrap (c+1)))))) (cond (a.1==8) ((idx b a.2.2).bind λr=>cond (decide ((IntKind.u64.wrap (i64.wrap (3+a.2.1)))<0)) none ((AB b ([(iandNot .i64 r (ishl .i64 1 (IntKind.u64.wrap (i64.wrap (3+a.2.1)))))]:LI)).bind λs=>some (.inl (s,(i64.wrap (c+1)))))) ((AB b ([0]:LI)).bind λt=>some (.inl (t,(i64.wrap (c+1))))))))))) (some (.inr b))) (([]:LI),0)).bind λe=>(idx e (i64.wrap ((e.length:Int)-1))).bind λu=>some u
def D.r0 (a:(List (Int×Int×Int))):Option LI:=
 (D.u a).bind λb=>cond (!b) (some ([]:LI)) ((D.K0 a).bind λc=>(D.z0 c).bind λd=>some d)
def D.m (b:LL)(c:(List (Int×Int×Int))):Option (Bool):=
 (D.F b c).bind λd=>optE d (some false) (λa=>(D.B a.1 a.2.1 a.2.2.1 a.2.2.2.1 a.2.2.2.2 0 0 0 0 0).bind λe=>some e.1)
def D.o0 (g:LI)(h i:Int)(j:LL):Option (LI×LI×Int×Int):=
 (AF (σ:=LI×Int×LI×Int×Int) (ρ:=(LI×LI×Int×Int)) (fun(b,c,d,e,f)=>cond (decide (c<(j.length:Int))) ((D.T0 d e f (i64.wrap (c+1))).bind λa=>(BF b 0 a.1).bind λl=>(AB ([]:LI) l).bind λm=>(AB m ([c]:LI)).bind λn=>(BF b a.1 (b.length:Int)).bind λo=>(AB n o).bind λp=>some (.inl (p,(i64.wrap (c+1)),a.2.1,a.2.2.1,a.2.2.2))) (some (.inr (b,d,e,f)))) (([]:LI),0,g,h,i)).bind fun(q,r,s,t)=>some (q,r,s,t)
def D.O0 (h:LL)(i:(List (Int×Int×Int))):Option LI:=
 (D.F h i).bind λj=>optE j (some ([]:LI)) (λa=>(AF (σ:=Int×Int×LI×LI×(List Bool)×(List (K6×Bool))) (ρ:=(Int)) (fun(k:Int×Int×LI×LI×(List Bool)×(List (K6×Bool)))=>match k with|(c,b,d,e,f,l)=>cond (decide (b<(a.1.length:Int))) ((D.B d a.2.1 e f l b 0 0 0 0).bind λg=>cond g.1 ((D.e b).bind λm=>some (.inl ((ior .u32 c m),(i64.wrap (b+1)),d,e,f,g.2))) (some (.inl (c,(i64.wrap (b+1)),d,e,f,g.2)))) (some (.inr c))) (0,0,a.1,a.2.2.1,a.2.2.2.1,a.2.2.2.2)).bind λn=>(D.f0 n).bind λo=>some o)
def D.a1 (b:LI):Option (Bool):=
 (D.Y0 b).bind λg=>cond g (some true) ((D.t0 b).bind λa=>(D.a0 a.1 a.2.1 a.2.2.1 a.2.2.2).bind λe=>(D.d0 a.1 a.2.1 a.2.2.1 a.2.2.2).bind λh=>cond (e !=h) (some false) ((D.B0 a.2.1).bind λc=>(D.u a.2.1).bind λi=>(cond (!i) (some true) ((D.z a.1).bind λj=>some (!j))).bind λk=>cond (k||(decide ((8:Int)<(a.1.length:Int)))) (some (!e)) ((D.m0 a.2.1).bind λf=>(D.r0 a.2.1).bind λl=>(D.M0 f l).bind λm=>(cond (!m) (some true) ((cond c.2 ((D.u c.1).bind λn=>(cond (!n) (some true) ((D.m a.1 c.1).bind λo=>(D.m a.1 a.2.1).bind λp=>some (o==p))).bind λq=>some q) (some false)).bind λr=>some r)).bind λs=>cond s (some false) (cond (decide ((0:Int)<(f.length:Int))) (some true) ((D.C0 b 817).bind λd=>(((D.o0 d.1 d.2.1 d.2.2 a.1).bind λt=>(D.i0 a.1 t.1).bind λu=>some u.1:Option LL)).bind λv=>(D.m v a.2.1).bind λw=>(D.m a.1 a.2.1).bind λx=>cond (w==x) ((D.O0 a.1 a.2.1).bind λy=>(D.m a.1 a.2.1).bind λz=>some (((y.length:Int)==(a.1.length:Int))==z)) (some false))))))
end
end Go.Sx

namespace Go.Sx
end Go.Sx

namespace Go.Sx
end Go.Sx

namespace Go.Sx
end Go.Sx

namespace Go.Sx
end Go.Sx

namespace Go.Sx
end Go.Sx

namespace Go.Sx
end Go.Sx



namespace Go.Sx
end Go.Sx

namespace Go.Sx.Gs
class Srtd (α:Type) where
 dflt:α
 key:α→Int
 good:α→Prop
 cmp:α→α→Option Int
 law:∀x y,good x→good y→∃v,cmp x y=some v∧decide (v<0)=decide (key x<key y)
variable {α : Type} [Srtd α]
def el (l:List α)(i:Int):α:=l.getD i.toNat Srtd.dflt
def at' (l:List α)(i:Int):Int:=Srtd.key (el l i)
end Go.Sx.Gs

namespace Go.Sx.Gs
variable {α : Type} [Srtd α]
end Go.Sx.Gs

namespace Go.Sx.Gs
variable {α : Type} [Srtd α]
end Go.Sx.Gs

namespace Go.Sx.Gs
variable {α : Type} [Srtd α]
end Go.Sx.Gs

namespace Go.Sx
theorem wu64 {x:Int}(h1:0≤x)(h2:x<18446744073709551616):IntKind.u64.wrap x=x:=by
 simp only[IntKind.wrap,IntKind.bits,IntKind.signed]
 simp
 omega
end Go.Sx

namespace Go.Sx.Gs
variable {α : Type} [Srtd α]
end Go.Sx.Gs

namespace Go.Sx.Gs
variable {α : Type} [Srtd α]
end Go.Sx.Gs

namespace Go.Sx.Gs
variable {α : Type} [Srtd α]
end Go.Sx.Gs

namespace Go.Sx
end Go.Sx

set_option maxRecDepth 100000
namespace Go.Proofs.YtblebdlmoffmjaaDoor
open Go Go.Sx
open Go.Proofs.Tryd Go.Proofs.YtblebdlmoffmjaaDoor.Tryd IntKind
variable {W w : World} {G : GH} {H : List Itm}
theorem AQ :prog.follows .mixedOrders=true:=by kernel_rfl
theorem Pl2 :BH prog 2:=isAgg2
theorem T30 :SlT prog 30 2 1 8 (iv 0):=⟨underlying30,Tryd.t2,by kernel_rfl,by kernel_rfl,by kernel_rfl,by kernel_rfl⟩
theorem T27 :SlT prog 27 72 3 24 (.agg #[(iv 0),(iv 0),(iv 0)]):=⟨underlying27,Tryd.t72,by kernel_rfl,by kernel_rfl,by kernel_rfl,by kernel_rfl⟩
theorem Pl5 :BH prog 5:=isAgg5
theorem Wk.W0 {v0:Value}{x0:LI}{x1:Int}(m:Mem W G w (H))(h0:R1 G v0 x0){y:Int}(hd:D.W0 x0 x1=some y):
  Calls prog 90 #[v0,(iv x1)] w (Res W G H (λ_ Ho v=>Ho=[]∧v=(iv y))):=by
 refine Ax (args:=[v0,(iv x1)]) (N:=19) [.tmp 4] func90 Z Z (lb Z) Z λa f=> ?_
 unfold D.W0 at hd
 refine Af ?_
 refine Ac f Z λa f=>Aa (Ak (Af ?_))
 refine Ab f Z λa f=>Bc underlying30 f Z Z h0 λa f=>Ab f Z λa f=>Aa ?_
 have⟨aa,ab,hd⟩:=bind_some hd
 refine AT (λa w=>∃q_19':Unit,aa= .inl q_19'∧∃(ac:GH),GLe G ac∧Fr a 19 []∧Mem W ac w (H)) ?_ ?_
 ·refine As ?_
  refine A1 (λad a w=>∃ae:Int,ae=ad∧∃(af:GH),GLe G af∧Fr a 19 [(0,v0),(1,(iv x1)),(7,(iv (x0.length:Int))),(8,(iv ae))]∧Mem W af w (H)) ab ⟨_,Z,_,gr,f.k Z,m⟩ ?_
  clear ab f m
  rintro ad ag ah ai a w ⟨ae,rfl,af,aj,f,m⟩
  have h0:=rd1 aj h0
  refine Af ?_
  refine Aj f Z Z A3 λa f=>Aa (Ak ?_)
  rcases Ae ah with⟨ak,ah⟩|⟨ak,ah⟩
  ·refine Al f Z ak ?_
   refine Aq ?_
   refine Ak (As (Af ?_))
   refine Ab f Z λa f=>Ac f Z λa f=>AD ?_
   refine Ab f Z λa f=>Ab f Z λa f=>Ab f Z λa f=> ?_
   have⟨al,am,ah⟩:=bind_some ah
   refine BT T30 f Z Z Z h0 am λan ao a ap aq f=> ?_
   subst aq
   refine Bh m Pl2 f Z Z ap λa f=>Aj f Z Z AH λa f=>Aa ?_
   rcases Ae ah with⟨ar,ah⟩|⟨ar,ah⟩
   ·refine Al f Z ar ?_
    refine Af ?_
    refine Ab f Z λa f=>Ac f Z λa f=>Aa ?_
    refine Ao ?_
    obtain rfl:=sj ah
    obtain rfl:=ai _ rfl
    obtain rfl:=sj hd
    exact⟨[(iv ae)],f.g Z,f.d,_,[],aj,m,Z,Z⟩
   ·refine Ag f Z ar ?_
    refine Aq ?_
    refine Ai ?_
    refine Aj f Z Z AA λa f=>Ab f Z λa f=>Aa ?_
    obtain rfl:=sj ah
    exact⟨_,Z,_,Z,_,aj,f.k Z,m⟩
  ·refine Ag f Z ak ?_
   refine AZ Z ?_
   obtain rfl:=sj ah
   obtain rfl:=ai _ rfl
   exact⟨_,Z,_,aj,f.weak trivial,m⟩
 ·rintro a w ⟨_,rfl,ac,au,f,m⟩
  refine Af ?_
  refine Ac f Z λa f=>Aa ?_
  refine Ao ?_
  obtain rfl:=sj hd
  exact⟨[(iv (-1))],f.g Z,f.d,_,[],au,m,Z,Z⟩
theorem Wk.g0 {v0:Value}{x0:LI}{x1:Int}(m:Mem W G w (H))(h0:R1 G v0 x0){y:Bool}(hd:D.g0 x0 x1=some y):
  Calls prog 79 #[v0,(iv x1)] w (Res W G H (λ_ Ho v=>Ho=[]∧v=(.bool y))):=by
 refine Ax (args:=[v0,(iv x1)]) (N:=9) [.tmp 4] func79 Z Z (lb Z) Z λa f=> ?_
 unfold D.g0 at hd
 refine Af ?_
 refine Ac f Z λa f=>AD ?_
 refine Ab f Z λa f=>Ab f Z λa f=> ?_
 have⟨aa,ab,hd⟩:=bind_some hd
 refine Bb f Z call90 (Wk.W0 m h0 ab) λac w ad m a f=>Aj f Z Z b_geq λa f=>Ac f Z λa f=>Aa ?_
 refine Ao ?_
 obtain rfl:=sj hd
 exact⟨[(.bool (decide ((0:Int)≤aa)))],f.g Z,f.d,_,[],ad,m,Z,Z⟩
theorem Wk.V0 {v0:Value}{x0:(List (Int×Int×Int))}(m:Mem W G w (H))(h0:RSr P3 G v0 x0){y:((List (Int×Int×Int)))}(hd:D.V0 x0=some y):
  Calls prog 37 #[v0] w (Res W G H (λG' Ho v=>∃r0:Value,∃i0:Itm,Ho=[i0]∧r0=v∧OwR P3 72 G' i0 r0 y)):=by
 refine Ax (args:=[v0]) (N:=8) [.tmp 2] func37 Z Z (lb Z) Z λa f=> ?_
 unfold D.V0 at hd
 refine Af ?_
 refine Ac f Z λa f=>Aa (Ak (Af ?_))
 refine Ab f Z λa f=>l_o f (r_nil_eql (f.e Z) (f.e Z) h0.hdr underlying27 Z) λa f=>Aa ?_
 rcases Bool.eq_false_or_eq_true (isNil v0) with aa|aa
 ·have hz:=h0.nil_inv aa
  subst hz
  replace hd:some ([]:List (Int×Int×Int))=some _:=hd
  refine Al f Z aa ?_
  refine Af ?_
  refine Ac f Z λa f=>Aa ?_
  refine Ao ?_
  obtain⟨ab,m,ac⟩:=OwR.nil P3 72 m
  obtain rfl:=sj hd
  exact⟨[sn],f.g Z,f.d,_,[ab],gr,m,_,_,Z,Z,ac⟩
 ·refine Ag f Z aa ?_
  refine Aq ?_
  refine Af ?_
  refine l_slitR0 (E:=P3) m T27 f Z λad ae w a m af f=>Ab f Z λa f=> ?_
  have⟨ag,ah,hd⟩:=bind_some hd
  refine l_appendRs (E:=P3) (z:= .agg #[(iv 0),(iv 0),(iv 0)]) 0 m af Z h0 T27 Z (by decide) f Z Z Z ah λai aj w a m ak f=>Ac f Z λa f=>Aa ?_
  refine Ao ?_
  obtain rfl:=sj hd
  exact⟨[aj],f.g Z,f.d,_,[ai],gr,m,_,_,Z,Z,ak⟩
theorem Wk.U0 {x0:Int}(hW:TabW W)(m:Mem W G w (H)){y:Int}(hd:D.U0 x0=some y):
  Calls prog 93 #[(.int .u32 x0)] w (Res W G H (λ_ Ho v=>Ho=[]∧v=(iv y))):=by
 refine Ax (args:=[(.int .u32 x0)]) (N:=14) [.tmp 2] func93 Z Z (lb Z) Z λa f=> ?_
 unfold D.U0 at hd
 refine Af ?_
 refine Ac f Z λa f=>Aa (Ak (Af ?_))
 refine Ab f Z λa f=>Aj f Z Z AH λa f=>Aa ?_
 rcases Ae hd with⟨aa,hd⟩|⟨aa,hd⟩
 ·refine Al f Z aa ?_
  refine Af ?_
  refine Ac f Z λa f=>Aa ?_
  refine Ao ?_
  obtain rfl:=sj hd
  exact⟨[(iv 32)],f.g Z,f.d,_,[],gr,m,Z,Z⟩
 ·refine Ag f Z aa ?_
  refine Aq ?_
  refine Af ?_
  refine Ab f Z λa f=>Ab f Z λa f=>l_o f (r_neg (f.e Z)) λa f=>Aj f Z Z C6 λa f=>Aj f Z Z Dh λa f=>l_o f (Dd (f.e Z) (f.e Z) (by decide)) λa f=> ?_
  have⟨ab,ac,hd⟩:=bind_some hd
  refine l_tab hW m underlying126 sizeOf5 f Z Z ac λad a ae f=>Bh m Pl5 f Z Z ae λa f=>l_o f (BI (f.e Z) ⟨_,underlying5⟩ underlying3) λa f=>Ac f Z λa f=>Aa ?_
  refine Ao ?_
  obtain rfl:=sj hd
  exact⟨[(iv (i64.wrap ab))],f.g Z,f.d,_,[],gr,m,Z,Z⟩
end Go.Proofs.YtblebdlmoffmjaaDoor

set_option maxRecDepth 100000
namespace Go.Proofs.YtblebdlmoffmjaaDoor
open Go Go.Sx
open Go.Proofs.Tryd Go.Proofs.YtblebdlmoffmjaaDoor.Tryd IntKind
variable {W w : World} {G : GH} {H : List Itm}
theorem T22 :SlT prog 22 5 1 1 (.int .u8 0):=⟨underlying22,Tryd.t5,by kernel_rfl,by kernel_rfl,by kernel_rfl,by kernel_rfl⟩
theorem Pl3 :BH prog 3:=isAgg3
theorem Pl22 :BH prog 22:=isAgg22
theorem T24 :SlT prog 24 30 1 24 sn:=⟨underlying24,Tryd.t30,by kernel_rfl,by kernel_rfl,by kernel_rfl,by kernel_rfl⟩
theorem Bx :BH prog 24:=isAgg24
theorem AO :Agg prog 26 1:=⟨isAgg26,sizeOf26⟩
theorem BO :BH prog 30:=isAgg30
theorem BG :BH prog 27:=isAgg27
theorem Bd :Agg prog 29 1:=⟨isAgg29,sizeOf29⟩
theorem Cj :Agg prog 72 3:=⟨isAgg72,sizeOf72⟩
theorem Wk.Y0 {v0:Value}{x0:LI}(m:Mem W G w (H))(h0:RSl (RI .u8) G v0 x0){y:Bool}(hd:D.Y0 x0=some y):
  Calls prog 4 #[v0] w (Res W G H (λ_ Ho v=>Ho=[]∧v=(.bool y))):=by
 refine Ax (args:=[v0]) (N:=6) [.tmp 2] func4 Z Z (lb Z) Z λa f=> ?_
 unfold D.Y0 at hd
 refine Af ?_
 refine Ac f Z λa f=>AD ?_
 refine Ab f Z λa f=>Bc underlying22 f Z Z h0 λa f=>Aj f Z Z CS λa f=>Ac f Z λa f=>Aa ?_
 refine Ao ?_
 obtain rfl:=sj hd
 exact⟨[(.bool (decide ((4096:Int)<(x0.length:Int))))],f.g Z,f.d,_,[],gr,m,Z,Z⟩
theorem Wk.H0 {v0:Value}{x0:LI}(m:Mem W G w (H))(h0:RSl (RI .u8) G v0 x0){y:(LI)×Int×Int}(hd:D.H0 x0=some y):
  Calls prog 19 #[v0] w (Res W G H (λG' Ho v=>∃r0:Value,∃c1:Nat,Ho=[ib c1 93 [r0,(iv y.2.1),(iv y.2.2)]]∧v=(pb c1)∧RSl (RI .u8) G' r0 y.1)):=by
 refine Ax (args:=[v0]) (N:=28) [.tmp 2] func19 Z Z (lb Z) Z λa f=> ?_
 unfold D.H0 at hd
 refine Af ?_
 refine Ac f Z λa f=>AD ?_
 refine Ab f Z λa f=>Bc underlying22 f Z Z h0 λa f=>Aj f Z Z AA λa f=>Ac f Z λa f=>Aa (Ak (Af ?_))
 refine Ac f Z λa f=>Aa ?_
 have⟨aa,ab,hd⟩:=bind_some hd
 refine AT (λa w=>∃ac:Int,ac=aa∧∃(ad:GH),GLe G ad∧Fr a 28 [(0,v0),(3,(iv ac))]∧Mem W ad w (H)) ?_ ?_
 ·refine As ?_
  refine A1 (λae a w=>∃af:Int,∃ag:Int,(af,ag)=ae∧∃(ah:GH),GLe G ah∧Fr a 28 [(0,v0),(3,(iv af)),(4,(iv ag))]∧Mem W ah w (H)) ab ⟨_,_,Z,_,gr,f.k Z,m⟩ ?_
  clear ab f m
  rintro ae ai aj ak a w ⟨af,ag,rfl,ah,al,f,m⟩
  have h0:=rd1 al h0
  refine Ak (Af ?_)
  refine Ab f Z λa f=>Ab f Z λa f=>Bc underlying22 f Z Z h0 λa f=>Aj f Z Z A3 λa f=>Aa ?_
  rcases Ae aj with⟨am,aj⟩|⟨am,aj⟩
  ·refine Al f Z am ?_
   refine Aq ?_
   refine Ak (As (Ai ?_))
   refine Ab f Z λa f=>Aj f Z Z Dh λa f=>Ab f Z λa f=>Ab f Z λa f=> ?_
   have⟨an,ao,aj⟩:=bind_some aj
   refine BT T22 f Z Z Z h0 ao λap aq a ar au f=> ?_
   subst au
   refine Bh m Pl5 f Z Z ar λa f=>l_o f (BI (f.e Z) ⟨_,underlying5⟩ underlying2) λa f=>Aj f Z Z AA λa f=>Aj f Z Z AA λa f=>Aj f Z Z C6 λa f=>Ac f Z λa f=>Aa (Ai ?_)
   refine Ab f Z λa f=>Aj f Z Z AA λa f=>Ac f Z λa f=>Aa ?_
   obtain rfl:=sj aj
   exact⟨_,Z,_,_,Z,_,al,f.k Z,m⟩
  ·refine Ag f Z am ?_
   refine AZ Z ?_
   obtain rfl:=sj aj
   obtain rfl:=ak _ rfl
   exact⟨_,Z,_,al,f.k Z,m⟩
 ·rintro a w ⟨ac,rfl,ad,av,f,m⟩
  have h0:=rd1 av h0
  refine Af ?_
  refine Ab f Z λa f=>Ab f Z λa f=> ?_
  have aw:∀w,(Instr.build 93 #[(0,v0),(2,(iv ac))]).run prog w= .ok (.agg #[v0,(iv 0),(iv ac)]) w:=by intro w;simp[Instr.build,Instr.fill,h0.cells,A7,AX,AN,AS,AG,A6]
  refine Bn f Z Z aw λa f=>A4 (cs:=[v0,(iv 0),(iv ac)]) m f Z Z Z λax w a m f=>Ac f Z λa f=>Aa ?_
  refine Ao ?_
  obtain rfl:=sj hd
  exact⟨[(pb ax)],f.g Z,f.d,_,[ib ax 93 [v0,(iv 0),(iv ac)]],av,m,_,_,Z,Z,h0⟩
theorem Wk.s {b0:Nat}{aa:Value}{ab:LI}{ac ad:Int}(m:Mem W G w (ib b0 93 [aa,(iv ac),(iv ad)]::H))(ae:RSl (RI .u8) G aa ab){y:Int×(LI)×Int×Int}(hd:D.s ab ac ad=some y):
  Calls prog 55 #[(pb b0)] w (Res W G H (λG' Ho v=>∃r0:Value,Ho=[ib b0 93 [r0,(iv y.2.2.1),(iv y.2.2.2)]]∧v=(iv y.1)∧RSl (RI .u8) G' r0 y.2.1)):=by
 refine Ax (args:=[(pb b0)]) (N:=58) [.tmp 2] func55 Z Z (lb Z) Z λa f=> ?_
 unfold D.s at hd
 refine Af ?_
 refine Ac f Z λa f=>AD ?_
 refine Ab f Z λa f=>Ab f Z λa f=>l_o f (AU (f.e Z)) λa f=>Az underlying93 Z sizeOf2 f Z λa f=>An 0 2 m Pl2 f Z Z Z Z λa f=>Aj f Z Z Dh λa f=>Aj f Z Z AA λa f=>l_o f (AU (f.e Z)) λa f=>Az underlying93 Z sizeOf2 f Z λa f=>Am 0 2 (ds:=[(iv (i64.wrap ((i64.wrap (ad*6364136223846793005))+1442695040888963407)))]) m sizeOf2 f Z Z Z (Ah Z Ap) Z (lb Z) Z λw m=>Aa (Ak ?_)
 refine Bl 13 AQ (by kernel_rfl) m ?_
 refine AE 0 13 Z f Z λa f=>q_p 1 13 Z f (λ_=>AU (f.e Z)) λa f=>A5 2 13 underlying93 Z sizeOf2 Z f Z λa f=>Be 3 13 0 Pl2 Z Z Z f Z λa f=>q_p 4 13 Z f (λ_=>Dd (f.e Z) (f.e Z) (by decide)) λa f=>AE 5 13 Z f Z λa f=>q_p 6 13 Z f (λ_=>AU (f.e Z)) λa f=>A5 7 13 underlying93 Z sizeOf2 Z f Z λa f=>Be 8 13 0 Pl2 Z Z Z f Z λa f=>q_p 9 13 Z f (λ_=>Dd (f.e Z) (f.e Z) (by decide)) λa f=>q_p 10 13 Z f (λ_=>Bo (f.e Z) (f.e Z) b_xor) λa f=>q_p 11 13 Z f (λ_=>Bo (f.e Z) (f.e Z) C6) λa f=>q_p 12 13 Z f (λ_=>Bi (f.e Z)) λa f=>A2 λaf w ag m=> ?_
 have ae:=rd1 ag ae
 refine Aa (Ak (Ak ?_))
 refine Bl 10 AQ (by kernel_rfl) m ?_
 refine AE 0 10 Z f Z λa f=>q_p 1 10 Z f (λ_=>AU (f.e Z)) λa f=>A5 2 10 underlying93 Z sizeOf3 Z f Z λa f=>Be 3 10 0 Pl3 Z Z Z f Z λa f=>AE 4 10 Z f Z λa f=>q_p 5 10 Z f (λ_=>AU (f.e Z)) λa f=>A5 6 10 underlying93 Z sizeOf22 Z f Z λa f=>Be 7 10 0 Pl22 Z Z Z f Z λa f=>q_len (i:=8) 10 underlying22 ae Z (by kernel_rfl) Z f Z Z Z λa f=>q_p 9 10 Z f (λ_=>Bo (f.e Z) (f.e Z) A3) λa f=>A2 λah w ai m=> ?_
 have ae:=rd1 ai ae
 refine Aa ?_
 rcases Ae hd with⟨aj,hd⟩|⟨aj,hd⟩
 ·refine Al f Z aj ?_
  refine Ak ?_
  refine Bl 15 AQ (by kernel_rfl) m ?_
  refine AE 0 15 Z f Z λa f=>AE 1 15 Z f Z λa f=>q_p 2 15 Z f (λ_=>AU (f.e Z)) λa f=>A5 3 15 underlying93 Z sizeOf22 Z f Z λa f=>Be 4 15 0 Pl22 Z Z Z f Z λa f=>AE 5 15 Z f Z λa f=>q_p 6 15 Z f (λ_=>AU (f.e Z)) λa f=>A5 7 15 underlying93 Z sizeOf3 Z f Z λa f=>Be 8 15 0 Pl3 Z Z Z f Z λa f=> ?_
  have⟨ak,al,hd⟩:=bind_some hd
  refine BU 9 15 T22 ae al Z f Z Z λam an a ao ap f=> ?_
  subst ap
  refine BV 10 15 Pl5 ao Z f Z λa f=>q_p 11 15 Z f (λ_=>BI (f.e Z) ⟨_,underlying5⟩ underlying2) λa f=>q_p 12 15 Z f (λ_=>Bo (f.e Z) (f.e Z) AA) λa f=>q_p 13 15 Z f (λ_=>Bo (f.e Z) (f.e Z) C6) λa f=>q_p 14 15 Z f (λ_=>Bi (f.e Z)) λa f=>A2 λaq w ar m=> ?_
  have ae:=rd1 ar ae
  refine Aa (Ai ?_)
  refine Ab f Z λa f=>Ab f Z λa f=>l_o f (AU (f.e Z)) λa f=>Az underlying93 Z sizeOf3 f Z λa f=>An 0 1 m Pl3 f Z Z Z Z λa f=>Aj f Z Z AA λa f=>l_o f (AU (f.e Z)) λa f=>Az underlying93 Z sizeOf3 f Z λa f=>Am 0 1 (ds:=[(iv (i64.wrap (ac+1)))]) m sizeOf3 f Z Z Z (Ah Z Ap) Z (lb Z) Z λw m=>AD ?_
  refine Ab f Z λa f=>Ac f Z λa f=>Aa ?_
  refine Ao ?_
  obtain rfl:=sj hd
  exact⟨[(iv (iand .i64 (i64.wrap ((iand .i64 (ixor .i64 (BC .i64 (i64.wrap ((i64.wrap (ad*6364136223846793005))+1442695040888963407)) 33) (BC .i64 (i64.wrap ((i64.wrap (ad*6364136223846793005))+1442695040888963407)) 45)) 255)+(i64.wrap ak))) 255))],f.g Z,f.d,_,[ib b0 93 [aa,(iv (i64.wrap (ac+1))),(iv (i64.wrap ((i64.wrap (ad*6364136223846793005))+1442695040888963407)))]],(gt ag (gt ai ar)),m,_,Z,Z,ae⟩
 ·refine Ag f Z aj ?_
  refine Aq ?_
  refine Af ?_
  refine Ab f Z λa f=>Ac f Z λa f=>Aa ?_
  refine Ao ?_
  obtain rfl:=sj hd
  exact⟨[(iv (iand .i64 (ixor .i64 (BC .i64 (i64.wrap ((i64.wrap (ad*6364136223846793005))+1442695040888963407)) 33) (BC .i64 (i64.wrap ((i64.wrap (ad*6364136223846793005))+1442695040888963407)) 45)) 255))],f.g Z,f.d,_,[ib b0 93 [aa,(iv ac),(iv (i64.wrap ((i64.wrap (ad*6364136223846793005))+1442695040888963407)))]],(gt ag ai),m,_,Z,Z,ae⟩
theorem Wk.a {b0:Nat}{aa:Value}{ab:LI}{ac ad x1:Int}(m:Mem W G w (ib b0 93 [aa,(iv ac),(iv ad)]::H))(ae:RSl (RI .u8) G aa ab){y:Int×(LI)×Int×Int}(hd:D.a ab ac ad x1=some y):
  Calls prog 22 #[(pb b0),(iv x1)] w (Res W G H (λG' Ho v=>∃r0:Value,Ho=[ib b0 93 [r0,(iv y.2.2.1),(iv y.2.2.2)]]∧v=(iv y.1)∧RSl (RI .u8) G' r0 y.2.1)):=by
 refine Ax (args:=[(pb b0),(iv x1)]) (N:=37) [.tmp 4] func22 Z Z (lb Z) Z λa f=> ?_
 unfold D.a at hd
 refine Af ?_
 refine Ac f Z λa f=>Aa (Ak (Af ?_))
 refine Ab f Z λa f=>Aj f Z Z De λa f=>Aa ?_
 rcases Ae hd with⟨af,hd⟩|⟨af,hd⟩
 ·refine Al f Z af ?_
  refine Af ?_
  refine Ac f Z λa f=>Aa ?_
  refine Ao ?_
  obtain rfl:=sj hd
  exact⟨[(iv 0)],f.g Z,f.d,_,[ib b0 93 [aa,(iv ac),(iv ad)]],gr,m,_,Z,Z,ae⟩
 ·refine Ag f Z af ?_
  refine Aq ?_
  refine Ak (Af ?_)
  refine Ab f Z λa f=>Aj f Z Z De λa f=>Aa ?_
  rcases Ae hd with⟨ag,hd⟩|⟨ag,hd⟩
  ·refine Al f Z ag ?_
   refine Af ?_
   refine Ab f Z λa f=> ?_
   have⟨ah,ai,hd⟩:=bind_some hd
   refine Ay f Z call55 (Wk.s m ae ai) λaj ak al w am m an a f=> ?_
   obtain⟨ao,rfl,rfl,ap⟩:=an
   refine Ab f Z λa f=> ?_
   obtain⟨aq,hd⟩:=Bs hd
   refine Aj f Z Z (b_rem aq) λa f=>Ac f Z λa f=>Aa ?_
   refine Ao ?_
   obtain rfl:=sj hd
   exact⟨[(iv (Int.tmod ah.1 x1))],f.g Z,f.d,_,[ib b0 93 [ao,(iv ah.2.2.1),(iv ah.2.2.2)]],am,m,_,Z,Z,ap⟩
  ·refine Ag f Z ag ?_
   refine Aq ?_
   refine Af ?_
   refine Ab f Z λa f=> ?_
   have⟨ar,au,hd⟩:=bind_some hd
   refine Ay f Z call55 (Wk.s m ae au) λav aw ax w ay m az a f=> ?_
   obtain⟨aA,rfl,rfl,aB⟩:=az
   refine Ac f Z λa f=>AD ?_
   refine Ab f Z λa f=> ?_
   have⟨aC,aD,hd⟩:=bind_some hd
   refine Ay f Z call55 (Wk.s m aB aD) λaE aF aG w aH m aI a f=> ?_
   obtain⟨aJ,rfl,rfl,aK⟩:=aI
   refine Ac f Z λa f=>AD ?_
   refine Ab f Z λa f=> ?_
   have⟨aL,aM,hd⟩:=bind_some hd
   refine Ay f Z call55 (Wk.s m aK aM) λaN aO aP w aQ m aR a f=> ?_
   obtain⟨aS,rfl,rfl,aT⟩:=aR
   refine Ac f Z λa f=>AD ?_
   refine Ab f Z λa f=> ?_
   have⟨aU,aV,hd⟩:=bind_some hd
   refine Ay f Z call55 (Wk.s m aT aV) λaW aX aY w aZ m a0 a f=> ?_
   obtain⟨a1,rfl,rfl,a2⟩:=a0
   refine Ac f Z λa f=>AD ?_
   refine Ab f Z λa f=>Aj f Z Z Dh λa f=>Ab f Z λa f=>Aj f Z Z Dh λa f=>Aj f Z Z AA λa f=>Ab f Z λa f=>Aj f Z Z Dh λa f=>Aj f Z Z AA λa f=>Ab f Z λa f=>Aj f Z Z AA λa f=>Ab f Z λa f=> ?_
   obtain⟨a3,hd⟩:=Bs hd
   refine Aj f Z Z (b_rem a3) λa f=>Ac f Z λa f=>Aa ?_
   refine Ao ?_
   obtain rfl:=sj hd
   exact⟨[(iv (Int.tmod (i64.wrap ((i64.wrap ((i64.wrap ((i64.wrap (ar.1*16777216))+(i64.wrap (aC.1*65536))))+(i64.wrap (aL.1*256))))+aU.1)) x1))],f.g Z,f.d,_,[ib b0 93 [a1,(iv aU.2.2.1),(iv aU.2.2.2)]],(gt ay (gt aH (gt aQ aZ))),m,_,Z,Z,a2⟩
theorem Wk.d {b0:Nat}{aa:Value}{ab:LI}{ac ad x1:Int}(m:Mem W G w (ib b0 93 [aa,(iv ac),(iv ad)]::H))(ae:RSl (RI .u8) G aa ab){y:Bool×(LI)×Int×Int}(hd:D.d ab ac ad x1=some y):
  Calls prog 24 #[(pb b0),(iv x1)] w (Res W G H (λG' Ho v=>∃r0:Value,Ho=[ib b0 93 [r0,(iv y.2.2.1),(iv y.2.2.2)]]∧v=(.bool y.1)∧RSl (RI .u8) G' r0 y.2.1)):=by
 refine Ax (args:=[(pb b0),(iv x1)]) (N:=9) [.tmp 4] func24 Z Z (lb Z) Z λa f=> ?_
 unfold D.d at hd
 refine Af ?_
 refine Ac f Z λa f=>AD ?_
 refine Ab f Z λa f=>Ab f Z λa f=> ?_
 have⟨af,ag,hd⟩:=bind_some hd
 refine Ay f Z call22 (Wk.a m ae ag) λah ai aj w ak m al a f=> ?_
 obtain⟨am,rfl,rfl,an⟩:=al
 refine Aj f Z Z AH λa f=>Ac f Z λa f=>Aa ?_
 refine Ao ?_
 obtain rfl:=sj hd
 exact⟨[(.bool (af.1==0))],f.g Z,f.d,_,[ib b0 93 [am,(iv af.2.2.1),(iv af.2.2.2)]],ak,m,_,Z,Z,an⟩
theorem Wk.b {x0 x1 x2:Int}(m:Mem W G w (H)){y:Bool}(hd:D.b x0 x1 x2=some y):
  Calls prog 38 #[(iv x0),(iv x1),(iv x2)] w (Res W G H (λ_ Ho v=>Ho=[]∧v=(.bool y))):=by
 refine Ax (args:=[(iv x0),(iv x1),(iv x2)]) (N:=15) [.tmp 6] func38 Z Z (lb Z) Z λa f=> ?_
 unfold D.b at hd
 refine Af ?_
 refine Ac f Z λa f=>AD ?_
 refine Ab f Z λa f=>Ab f Z λa f=>Aj f Z Z b_geq λa f=>Ab f Z λa f=> ?_
 refine Bg 4 (λa w=>∃aa,GLe G aa∧Mem W aa w (H)∧Fr a 15 [(0,(iv x0)),(1,(iv x1)),(2,(iv x2)),(7,(iv x0)),(8,(iv x1)),(9,(.bool (decide (x1≤x0)))),(10,(.bool (decide (x1≤x0)))),(14,(.bool ((decide (x1≤x0))&&(decide (x0≤x2)))))]) ?_ ?_
 ·rcases Bool.eq_false_or_eq_true (decide (x1≤x0)) with ab|ab
  ·refine Aw f ab ?_
   refine Ab f Z λa f=>Aw f ab ?_
   refine Ab f Z λa f=>Aw f ab ?_
   refine Aj f Z Z De λa f=>l_o f (AK (f.e Z) ab (f.e Z)) λa f=> ?_
   exact⟨_,gr,m,f.weak ⟨Z,Z,Z,Z,Z,Z,Z,by rw[ab];rfl,trivial⟩⟩
  ·refine Au f ab λa f=> ?_
   refine Au f ab λa f=>Au f ab λa f=>l_o f (AM (f.e Z) ab (f.e Z)) λa f=> ?_
   exact⟨_,gr,m,f.weak ⟨Z,Z,Z,Z,Z,Z,Z,by rw[ab];rfl,trivial⟩⟩
 ·rintro a w ⟨aa,ac,m,f⟩
  refine Ac f Z λa f=>Aa ?_
  refine Ao ?_
  obtain rfl:=sj hd
  exact⟨[(.bool ((decide (x1≤x0))&&(decide (x0≤x2))))],f.g Z,f.d,_,[],ac,m,Z,Z⟩
theorem Wk.i {x0:Int}(m:Mem W G w (H)){y:(LL)}(hd:D.i x0=some y):
  Calls prog 72 #[(iv x0)] w (Res W G H (λG' Ho v=>∃r0:Value,∃i0:Itm,Ho=[i0]∧v=(.agg #[r0])∧Ow R1 30 G' i0 r0 y)):=by
 refine Ax (args:=[(iv x0)]) (N:=18) [.cell 2 26] func72 Z Z (lb Z) Z λa f=> ?_
 unfold D.i at hd
 refine Af ?_
 refine AR (cs:=[sn]) zeroValue26 m f Z Z λaa w a m f=>AD ?_
 have ab:∀w,(Instr.build 26 #[]).run prog w= .ok (.agg #[sn]) w:=by intro w;simp[Instr.build,Instr.fill,A7,AX,AN,AS,AG,A6]
 refine Bn f Z Z ab λa f=>AR (cs:=[sn]) zeroValue26 m f Z Z λac w a m f=>Am 0 0 (ds:=[sn]) m sizeOf26 f Z Z Z (Ah Z Ap) Z (lb Z) Z λw m=>Aa (Ak (Af ?_))
 refine Ac f Z λa f=>Aa ?_
 obtain⟨ad,m,ae⟩:=Ow.nil R1 30 m
 have⟨af,ag,hd⟩:=bind_some hd
 refine AT (λa w=>∃ah:LL,ah=af∧∃(ai:GH) (aj:Value) (ak:Itm),GLe G ai∧Fr a 18 [(2,(pb aa)),(3,(pb ac))]∧Mem W ai w (ib aa 26 [sn]::ib ac 26 [aj]::ak::H)∧Ow R1 30 ai ak aj ah) ?_ ?_
 ·refine As ?_
  have m:=m.fr 1
  have m:=m.fr 2
  refine A1 (λal a w=>∃am:Int,∃an:LL,(am,an)=al∧∃(ao:GH) (ap:Value) (aq:Itm),GLe G ao∧Fr a 18 [(0,(iv x0)),(2,(pb aa)),(3,(pb ac)),(4,(iv am))]∧Mem W ao w (ib aa 26 [sn]::ib ac 26 [ap]::aq::H)∧Ow R1 30 ao aq ap an) ag ⟨_,_,Z,_,sn,ad,gr,f.k Z,m,ae⟩ ?_
  clear ag f m
  rintro al ar au av a w ⟨am,an,rfl,ao,ap,aq,aw,f,m,ax⟩
  refine Ak (Af ?_)
  refine Ab f Z λa f=>Ab f Z λa f=>Aj f Z Z A3 λa f=>Aa ?_
  rcases Ae au with⟨ay,au⟩|⟨ay,au⟩
  ·refine Al f Z ay ?_
   refine Aq ?_
   refine Ak (As (Ai ?_))
   refine Az underlying26 Z sizeOf24 f Z λa f=>An 1 0 m Bx f Z Z Z Z λa f=>AI (R:=R0) (xs:=([]:LI)) (RI.one _) m T30 f Z Z Z (by decide) (All2.nil _) λaz aA w a m aB f=> ?_
   obtain⟨aC,aD,m,aE⟩:=Ow.stamp (RI.mono _) aB m
   have ax:=Ow.mono (RSl.mono (RI.mono _)) aD ax
   refine AI (R:=R1) (xs:=([([]:LI)]:LL)) (RSl.one _) m T24 f Z Z Z (by decide) (All2.cons aE (All2.nil _)) λaF aG w a m aH f=> ?_
   have⟨aI,aJ,au⟩:=bind_some au
   refine AP (RSl.one _) 3 m ax Z T24 Z (by decide) f Z Z Z (Ow.src (j:=0) aH m Z) aJ λaK aL w a m aM f=>Az underlying26 Z sizeOf24 f Z λa f=>Am 2 0 (ds:=[aL]) m sizeOf24 f Z Z (Ow.cells 3 m aM Z) (Ah (Ow.one1 3 m aM Z) Ap) Z (lb Z) Z λw m=>Aa (Ai ?_)
   refine Ab f Z λa f=>Aj f Z Z AA λa f=>Ac f Z λa f=>Aa ?_
   have m:=m.fr 3
   have m:=m.fr 3
   have m:Mem W aC w (ib aa 26 [sn]::ib ac 26 [aL]::aK::aF::H):=m.fr 3
   have m:=m.eraseAt 3
   obtain rfl:=sj au
   exact⟨_,Z,_,_,Z,_,aL,aK,(gt aw aD),f.k Z,m,aM⟩
  ·refine Ag f Z ay ?_
   refine AZ Z ?_
   obtain rfl:=sj au
   obtain rfl:=av _ rfl
   exact⟨_,Z,_,ap,aq,aw,f.k Z,m,ax⟩
 ·rintro a w ⟨ah,rfl,ai,aj,ak,aN,f,m,aO⟩
  refine Af ?_
  refine Ar 1 0 (ds:=[aj]) m AO f Z Z Z Z Z λa f=>Am 0 0 (ds:=[aj]) m sizeOf26 f Z Z Z (Ah (Ow.one1 2 m aO Z) Ap) Z (lb Z) Z λw m=>Aa ?_
  refine Ao ?_
  have aP:=A9 (P:=prog) 0 m AO f (s:=2) rfl rfl rfl
  have m:=m.fr 2
  have m:=m.eraseAt 2
  have m:=m.eraseAt 1
  obtain rfl:=sj hd
  exact⟨[(.agg #[aj])],⟨aP,trivial⟩,f.d,_,[ak],aN,m,_,_,Z,Z,aO⟩
theorem Wk.k {v0:Value}{x0:LI}(m:Mem W G w (H))(h0:R1 G v0 x0){y:(LI)}(hd:D.k x0=some y):
  Calls prog 82 #[v0] w (Res W G H (λG' Ho v=>∃r0:Value,∃i0:Itm,Ho=[i0]∧r0=v∧Ow R0 2 G' i0 r0 y)):=by
 refine Ax (args:=[v0]) (N:=6) [.tmp 2] func82 Z Z (lb Z) Z λa f=> ?_
 unfold D.k at hd
 refine Af ?_
 refine Ac f Z λa f=>AD ?_
 refine AI (R:=R0) (xs:=([]:LI)) (RI.one _) m T30 f Z Z Z (by decide) (All2.nil _) λaa ab w a m ac f=>Ab f Z λa f=> ?_
 have⟨ad,ae,hd⟩:=bind_some hd
 refine AP (RI.one _) 0 m ac Z T30 Z (by decide) f Z Z Z (h0.src m) ae λaf ag w a m ah f=>Ac f Z λa f=>Aa ?_
 refine Ao ?_
 obtain rfl:=sj hd
 exact⟨[ag],f.g Z,f.d,_,[af],gr,m,_,_,Z,Z,ah⟩
theorem Wk.n {v0:Value}{x0:LI}{x1:Int}(m:Mem W G w (H))(h0:R1 G v0 x0){y:(LI)}(hd:D.n x0 x1=some y):
  Calls prog 87 #[v0,(iv x1)] w (Res W G H (λG' Ho v=>∃r0:Value,Ho=[]∧r0=v∧R1 G' r0 y)):=by
 refine Ax (args:=[v0,(iv x1)]) (N:=46) [.tmp 4] func87 Z Z (lb Z) Z λa f=> ?_
 unfold D.n at hd
 refine Af ?_
 refine Ac f Z λa f=>AD ?_
 refine Ac f Z λa f=>Aa (Ak ?_)
 have⟨aa,ab,hd⟩:=bind_some hd
 refine AT (λa w=>∃ac:Int,ac=aa∧∃(ad:GH),GLe G ad∧Fr a 46 [(0,v0),(1,(iv x1)),(5,(iv ac))]∧Mem W ad w (H)) ?_ ?_
 ·refine As ?_
  refine A1 (λae a w=>∃af:Int,af=ae∧∃(ag:GH),GLe G ag∧Fr a 46 [(0,v0),(1,(iv x1)),(5,(iv af))]∧Mem W ag w (H)) ab ⟨_,Z,_,gr,f.k Z,m⟩ ?_
  clear ab f m
  rintro ae ah ai aj a w ⟨af,rfl,ag,ak,f,m⟩
  have h0:=rd1 ak h0
  refine Ak (Af ?_)
  refine Ab f Z λa f=>Ab f Z λa f=>Bc underlying30 f Z Z h0 λa f=>Aj f Z Z A3 λa f=>Ab f Z λa f=> ?_
  have⟨al,am,ai⟩:=bind_some ai
  refine Bg 7 (λa w=>∃an,GLe ag an∧Mem W an w (H)∧Fr a 46 [(0,v0),(1,(iv x1)),(5,(iv af)),(7,(iv af)),(8,v0),(9,(iv (x0.length:Int))),(10,(.bool (decide (af<(x0.length:Int))))),(11,(.bool (decide (af<(x0.length:Int))))),(18,(.bool al))]) ?_ ?_
  ·rcases Ae am with⟨ao,am⟩|⟨ao,am⟩
   ·refine Aw f ao ?_
    refine Ab f Z λa f=>Aw f ao ?_
    refine Ab f Z λa f=>Aw f ao ?_
    have⟨ap,aq,am⟩:=bind_some am
    refine BT T30 f Z Z Z h0 aq λar au a av aw f=> ?_
    subst aw
    refine Aw f ao ?_
    refine Bh m Pl2 f Z Z av λa f=>Aw f ao ?_
    refine Ab f Z λa f=>Aw f ao ?_
    refine Aj f Z Z A3 λa f=>l_o f (AK (f.e Z) ao (f.e Z)) λa f=> ?_
    obtain rfl:=sj am
    exact⟨_,gr,m,f.k Z⟩
   ·refine Au f ao λa f=> ?_
    refine Au f ao λa f=>Au f ao λa f=>Au f ao λa f=>Au f ao λa f=>Au f ao λa f=>l_o f (AM (f.e Z) ao (f.e Z)) λa f=> ?_
    obtain rfl:=sj am
    exact⟨_,gr,m,f.k Z⟩
  ·rintro a w ⟨an,ax,m,f⟩
   refine Aa ?_
   rcases Ae ai with⟨ay,ai⟩|⟨ay,ai⟩
   ·refine Al f Z ay ?_
    refine Aq ?_
    refine As (Ai ?_)
    refine Ab f Z λa f=>Aj f Z Z AA λa f=>Ac f Z λa f=>Aa ?_
    obtain rfl:=sj ai
    exact⟨_,Z,_,Z,_,(gt ak ax),f.k Z,m⟩
   ·refine Ag f Z ay ?_
    refine AZ Z ?_
    obtain rfl:=sj ai
    obtain rfl:=aj _ rfl
    exact⟨_,Z,_,(gt ak ax),f.k Z,m⟩
 ·rintro a w ⟨ac,rfl,ad,az,f,m⟩
  have h0:=rd1 az h0
  refine Ak (Af ?_)
  refine Ab f Z λa f=>Ab f Z λa f=>Bc underlying30 f Z Z h0 λa f=>Aj f Z Z A3 λa f=>Ab f Z λa f=> ?_
  have⟨aA,aB,hd⟩:=bind_some hd
  refine Bg 7 (λa w=>∃aC,GLe ad aC∧Mem W aC w (H)∧Fr a 46 [(0,v0),(1,(iv x1)),(5,(iv ac)),(21,(iv ac)),(22,v0),(23,(iv (x0.length:Int))),(24,(.bool (decide (ac<(x0.length:Int))))),(25,(.bool (decide (ac<(x0.length:Int))))),(32,(.bool aA))]) ?_ ?_
  ·rcases Ae aB with⟨aD,aB⟩|⟨aD,aB⟩
   ·refine Aw f aD ?_
    refine Ab f Z λa f=>Aw f aD ?_
    refine Ab f Z λa f=>Aw f aD ?_
    have⟨aE,aF,aB⟩:=bind_some aB
    refine BT T30 f Z Z Z h0 aF λaG aH a aI aJ f=> ?_
    subst aJ
    refine Aw f aD ?_
    refine Bh m Pl2 f Z Z aI λa f=>Aw f aD ?_
    refine Ab f Z λa f=>Aw f aD ?_
    refine Aj f Z Z AH λa f=>l_o f (AK (f.e Z) aD (f.e Z)) λa f=> ?_
    obtain rfl:=sj aB
    exact⟨_,gr,m,f.k Z⟩
   ·refine Au f aD λa f=> ?_
    refine Au f aD λa f=>Au f aD λa f=>Au f aD λa f=>Au f aD λa f=>Au f aD λa f=>l_o f (AM (f.e Z) aD (f.e Z)) λa f=> ?_
    obtain rfl:=sj aB
    exact⟨_,gr,m,f.k Z⟩
  ·rintro a w ⟨aC,aK,m,f⟩
   have h0:=rd1 aK h0
   refine Aa ?_
   rcases Ae hd with⟨aL,hd⟩|⟨aL,hd⟩
   ·refine Al f Z aL ?_
    refine Af ?_
    refine Ab f Z λa f=>Ac f Z λa f=>Aa ?_
    refine Ao ?_
    obtain rfl:=sj hd
    exact⟨[v0],f.g Z,f.d,_,[],(gt az aK),m,_,Z,Z,h0⟩
   ·refine Ag f Z aL ?_
    refine Aq ?_
    refine Af ?_
    refine Ab f Z λa f=>Ab f Z λa f=> ?_
    have⟨aM,aN,hd⟩:=bind_some hd
    refine CN T30 f Z Z h0 (.inl ⟨Z,Z⟩) (.inr ⟨_,_,Z,Z⟩) aN λaO a aP f=> ?_
    have⟨aQ,aR,hd⟩:=bind_some hd
    refine Ay f Z call82 (Wk.k m aP aR) λaS aT aU w aV m aW a f=> ?_
    obtain⟨aX,aY,rfl,rfl,aZ⟩:=aW
    have h0:=rd1 aV h0
    refine Ab f Z λa f=>AI (R:=R0) (xs:=([x1]:LI)) (RI.one _) m T30 f Z Z Z (by decide) (All2.cons Z (All2.nil _)) λa0 a1 w a m a2 f=> ?_
    have⟨a3,a4,hd⟩:=bind_some hd
    refine AP (RI.one _) 1 m aZ Z T30 Z (by decide) f Z Z Z (Ow.src (j:=0) a2 m Z) a4 λa5 a6 w a m a7 f=>Ac f Z λa f=>AD ?_
    refine Ab f Z λa f=>Ab f Z λa f=>Ab f Z λa f=> ?_
    have⟨a8,a9,hd⟩:=bind_some hd
    refine CN T30 f Z Z h0 (.inr ⟨_,_,Z,Z⟩) (.inl ⟨Z,Z⟩) a9 λba a bb f=> ?_
    have⟨bc,bd,hd⟩:=bind_some hd
    refine AP (RI.one _) 1 m a7 Z T30 Z (by decide) f Z Z Z (bb.src m) bd λbe bf w a m bg f=>Ac f Z λa f=>Aa ?_
    refine Ao ?_
    have m:=m.fr 1
    obtain⟨bh,bi,m,bj⟩:=Ow.stamp (RI.mono _) bg m
    have m:Mem W bh w H:=Mem.drop (H':=[a0]) m
    obtain rfl:=sj hd
    exact⟨[bf],f.g Z,f.d,_,[],(gt az (gt aK (gt aV bi))),m,_,Z,Z,bj⟩
theorem Wk.j {aa:Value}{ab:Itm}{ac:LL}{x1 x2:Int}(m:Mem W G w (ab::H))(ad:Ow R1 30 G ab aa ac){y:(LL)}(hd:D.j ac x1 x2=some y):
  Calls prog 74 #[(.agg #[aa]),(iv x1),(iv x2)] w (Res W G H (λG' Ho v=>∃i0:Itm,Ho=[i0]∧v=(.agg #[aa])∧Ow R1 30 G' i0 aa y)):=by
 refine Ax (args:=[(.agg #[aa]),(iv x1),(iv x2)]) (N:=30) [.cell 6 26] func74 Z Z (lb Z) Z λa f=> ?_
 unfold D.j at hd
 refine Af ?_
 refine A4 (cs:=[aa]) m f Z Z Z λae w a m f=>AR (cs:=[sn]) zeroValue26 m f Z Z λaf w a m f=>Aa (Ak ?_)
 refine Bl 11 AQ (by kernel_rfl) m ?_
 refine A5 0 11 underlying26 Z sizeOf24 Z f Z λa f=>Be 1 11 1 Bx Z Z Z f Z λa f=>AE 2 11 Z f Z λa f=>A5 3 11 underlying26 Z sizeOf24 Z f Z λa f=>Be 4 11 1 Bx Z Z Z f Z λa f=>AE 5 11 Z f Z λa f=> ?_
 have⟨ag,ah,hd⟩:=bind_some hd
 refine Cw 6 11 2 m ad T24 ah Z f Z Z λai a aj f=>CI 7 11 2 ad BO aj ah Z f Z λak a al f=>AE 8 11 Z f Z λa f=>Bk 9 Z λam w an m ao ao=> ?_
 have al:=rd1 an al
 have ad:=Ow.mono (RSl.mono (RI.mono _)) an ad
 have⟨ap,aq,hd⟩:=bind_some hd
 refine Ay f Z call87 (Wk.n m al aq) λar au av w aw m ax a f=> ?_
 obtain⟨ay,rfl,rfl,az⟩:=ax
 have ad:=Ow.mono (RSl.mono (RI.mono _)) aw ad
 refine Aa ?_
 refine ao au [] _ _ aw m ?_
 have⟨aA,aB,hd⟩:=bind_some hd
 refine Cw 10 11 2 m ad T24 aB Z f Z Z λaC a aD f=>A2 λaE w aF m=> ?_
 have az:=rd1 aF az
 have ad:=Ow.mono (RSl.mono (RI.mono _)) aF ad
 refine Cm 2 m ad Z sizeOf30 f Z Z aD aB az.cells az.one1 az λaG w m aH=>Aa (Ak ?_)
 refine Bl 11 AQ (by kernel_rfl) m ?_
 refine A5 0 11 underlying26 Z sizeOf24 Z f Z λa f=>Be 1 11 1 Bx Z Z Z f Z λa f=>AE 2 11 Z f Z λa f=>A5 3 11 underlying26 Z sizeOf24 Z f Z λa f=>Be 4 11 1 Bx Z Z Z f Z λa f=>AE 5 11 Z f Z λa f=> ?_
 have⟨aI,aJ,hd⟩:=bind_some hd
 refine Cw 6 11 2 m aH T24 aJ Z f Z Z λaK a aL f=>CI 7 11 2 aH BO aL aJ Z f Z λaM a aN f=>AE 8 11 Z f Z λa f=>Bk 9 Z λaO w aP m aQ aQ=> ?_
 have aN:=rd1 aP aN
 have aH:=Ow.mono (RSl.mono (RI.mono _)) aP aH
 have⟨aR,aS,hd⟩:=bind_some hd
 refine Ay f Z call87 (Wk.n m aN aS) λaT aU aV w aW m aX a f=> ?_
 obtain⟨aY,rfl,rfl,aZ⟩:=aX
 have aH:=Ow.mono (RSl.mono (RI.mono _)) aW aH
 refine Aa ?_
 refine aQ aU [] _ _ aW m ?_
 have⟨a0,a1,hd⟩:=bind_some hd
 refine Cw 10 11 2 m aH T24 a1 Z f Z Z λa2 a a3 f=>A2 λa4 w a5 m=> ?_
 have aZ:=rd1 a5 aZ
 have aH:=Ow.mono (RSl.mono (RI.mono _)) a5 aH
 refine Cm 2 m aH Z sizeOf30 f Z Z a3 a1 aZ.cells aZ.one1 aZ λa6 w m a7=>AD ?_
 refine Ar 1 0 (ds:=[aa]) m AO f Z Z Z Z Z λa f=>Am 0 0 (ds:=[aa]) m sizeOf26 f Z Z Z (Ah (Ow.one1 2 m a7 Z) Ap) Z (lb Z) Z λw m=>Aa ?_
 refine Ao ?_
 have a8:=A9 (P:=prog) 0 m AO f (s:=6) rfl rfl rfl
 have m:=m.fr 2
 have m:=m.eraseAt 2
 have m:=m.eraseAt 1
 obtain rfl:=sj hd
 exact⟨[(.agg #[aa])],⟨a8,trivial⟩,f.d,_,[a6],(gt an (gt aw (gt aF (gt aP (gt aW a5))))),m,_,Z,Z,a7⟩
theorem Wk.w0 {b0:Nat}{aa:Value}{ab:LI}{ac ad:Int}(m:Mem W G w (ib b0 93 [aa,(iv ac),(iv ad)]::H))(ae:RSl (RI .u8) G aa ab){y:Int×(LI)×Int×Int}(hd:D.w0 ab ac ad=some y):
  Calls prog 77 #[(pb b0)] w (Res W G H (λG' Ho v=>∃r0:Value,Ho=[ib b0 93 [r0,(iv y.2.2.1),(iv y.2.2.2)]]∧v=(iv y.1)∧RSl (RI .u8) G' r0 y.2.1)):=by
 refine Ax (args:=[(pb b0)]) (N:=8) [.tmp 2] func77 Z Z (lb Z) Z λa f=> ?_
 unfold D.w0 at hd
 refine Af ?_
 refine Ac f Z λa f=>AD ?_
 refine AI (R:=R0) (xs:=([(-1),0,1,2147483648,(-2147483648),1099511627776,4611686018427387904,(-4611686018427387904),9223372036854775807,(-9223372036854775808)]:LI)) (RI.one _) m T30 f Z Z Z (by decide) (All2.cons Z (All2.cons Z (All2.cons Z (All2.cons Z (All2.cons Z (All2.cons Z (All2.cons Z (All2.cons Z (All2.cons Z (All2.cons Z (All2.nil _))))))))))) λaf ag w a m ah f=>Ab f Z λa f=> ?_
 have m:=m.fr 1
 have⟨ai,aj,hd⟩:=bind_some hd
 refine Ay f Z call22 (Wk.a m ae aj) λak al am w an m ao a f=> ?_
 obtain⟨ap,rfl,rfl,aq⟩:=ao
 have ah:=od1 an ah
 have⟨ar,au,hd⟩:=bind_some hd
 refine BQ 1 m ah Z T30 f Z Z Z au λav a aw f=>BM 1 m ah Z Pl2 f Z Z aw au λax a ay f=> ?_
 subst ay
 refine Ac f Z λa f=>Aa ?_
 refine Ao ?_
 have m:=m.eraseAt 1
 obtain rfl:=sj hd
 exact⟨[(iv ar)],f.g Z,f.d,_,[ib b0 93 [ap,(iv ai.2.2.1),(iv ai.2.2.2)]],an,m,_,Z,Z,aq⟩
theorem Wk.y0 {x0 x1:Int}(m:Mem W G w (H)){y:Int}(hd:D.y0 x0 x1=some y):
  Calls prog 78 #[(iv x0),(iv x1)] w (Res W G H (λ_ Ho v=>Ho=[]∧v=(iv y))):=by
 refine Ax (args:=[(iv x0),(iv x1)]) (N:=10) [.tmp 4] func78 Z Z (lb Z) Z λa f=> ?_
 unfold D.y0 at hd
 refine Af ?_
 refine Ac f Z λa f=>Aa (Ak (Af ?_))
 refine Ab f Z λa f=>Ab f Z λa f=>Aj f Z Z A3 λa f=>Aa ?_
 rcases Ae hd with⟨aa,hd⟩|⟨aa,hd⟩
 ·refine Al f Z aa ?_
  refine Af ?_
  refine Ab f Z λa f=>Ac f Z λa f=>Aa ?_
  refine Ao ?_
  obtain rfl:=sj hd
  exact⟨[(iv x0)],f.g Z,f.d,_,[],gr,m,Z,Z⟩
 ·refine Ag f Z aa ?_
  refine Aq ?_
  refine Af ?_
  refine Ab f Z λa f=>Ac f Z λa f=>Aa ?_
  refine Ao ?_
  obtain rfl:=sj hd
  exact⟨[(iv x1)],f.g Z,f.d,_,[],gr,m,Z,Z⟩
theorem Wk.t {b0:Nat}{aa:Value}{ab:LI}{ac ad x1:Int}(m:Mem W G w (ib b0 93 [aa,(iv ac),(iv ad)]::H))(ae:RSl (RI .u8) G aa ab){y:Int×(LI)×Int×Int}(hd:D.t ab ac ad x1=some y):
  Calls prog 54 #[(pb b0),(iv x1)] w (Res W G H (λG' Ho v=>∃r0:Value,Ho=[ib b0 93 [r0,(iv y.2.2.1),(iv y.2.2.2)]]∧v=(iv y.1)∧RSl (RI .u8) G' r0 y.2.1)):=by
 refine Ax (args:=[(pb b0),(iv x1)]) (N:=28) [.tmp 4] func54 Z Z (lb Z) Z λa f=> ?_
 unfold D.t at hd
 refine Af ?_
 refine Ac f Z λa f=>Aa (Ak (Af ?_))
 refine Ab f Z λa f=> ?_
 have⟨af,ag,hd⟩:=bind_some hd
 refine Ay f Z call24 (Wk.d m ae ag) λah ai aj w ak m al a f=> ?_
 obtain⟨am,rfl,rfl,an⟩:=al
 refine Aa ?_
 rcases Ae hd with⟨ao,hd⟩|⟨ao,hd⟩
 ·refine Al f Z ao ?_
  refine Af ?_
  refine Ab f Z λa f=>Ab f Z λa f=>Aj f Z Z AA λa f=>Ab f Z λa f=> ?_
  have⟨ap,aq,hd⟩:=bind_some hd
  refine Ay f Z call77 (Wk.w0 m an aq) λar au av w aw m ax a f=> ?_
  obtain⟨ay,rfl,rfl,az⟩:=ax
  refine AI (R:=R0) (xs:=([(-1),x1,(i64.wrap (x1+1)),ap.1]:LI)) (RI.one _) m T30 f Z Z Z (by decide) (All2.cons Z (All2.cons Z (All2.cons Z (All2.cons Z (All2.nil _))))) λaA aB w a m aC f=>Ab f Z λa f=> ?_
  have m:=m.fr 1
  have⟨aD,aE,hd⟩:=bind_some hd
  refine Ay f Z call22 (Wk.a m az aE) λaF aG aH w aI m aJ a f=> ?_
  obtain⟨aK,rfl,rfl,aL⟩:=aJ
  have aC:=od1 aI aC
  have⟨aM,aN,hd⟩:=bind_some hd
  refine BQ 1 m aC Z T30 f Z Z Z aN λaO a aP f=>BM 1 m aC Z Pl2 f Z Z aP aN λaQ a aR f=> ?_
  subst aR
  refine Ac f Z λa f=>Aa ?_
  refine Ao ?_
  have m:=m.eraseAt 1
  obtain rfl:=sj hd
  exact⟨[(iv aM)],f.g Z,f.d,_,[ib b0 93 [aK,(iv aD.2.2.1),(iv aD.2.2.2)]],(gt ak (gt aw aI)),m,_,Z,Z,aL⟩
 ·refine Ag f Z ao ?_
  refine Aq ?_
  refine Ak (Af ?_)
  refine Ab f Z λa f=> ?_
  have⟨aS,aT,hd⟩:=bind_some hd
  refine Ay f Z call24 (Wk.d m an aT) λaU aV aW w aX m aY a f=> ?_
  obtain⟨aZ,rfl,rfl,a0⟩:=aY
  refine Aa ?_
  rcases Ae hd with⟨a1,hd⟩|⟨a1,hd⟩
  ·refine Al f Z a1 ?_
   refine Af ?_
   refine Ab f Z λa f=>Ab f Z λa f=> ?_
   have⟨a2,a3,hd⟩:=bind_some hd
   refine Bb f Z call78 (Wk.y0 m a3) λa4 w a5 m a f=> ?_
   have a0:=rd1 a5 a0
   refine Aj f Z Z AA λa f=> ?_
   have⟨a6,a7,hd⟩:=bind_some hd
   refine Ay f Z call22 (Wk.a m a0 a7) λa8 a9 ba w bb m bc a f=> ?_
   obtain⟨bd,rfl,rfl,be⟩:=bc
   refine Ac f Z λa f=>Aa ?_
   refine Ao ?_
   obtain rfl:=sj hd
   exact⟨[(iv a6.1)],f.g Z,f.d,_,[ib b0 93 [bd,(iv a6.2.2.1),(iv a6.2.2.2)]],(gt ak (gt aX (gt a5 bb))),m,_,Z,Z,be⟩
  ·refine Ag f Z a1 ?_
   refine Aq ?_
   refine Af ?_
   refine Ab f Z λa f=>Ab f Z λa f=>Aj f Z Z AA λa f=> ?_
   have⟨bf,bg,hd⟩:=bind_some hd
   refine Ay f Z call22 (Wk.a m a0 bg) λbh bi bj w bk m bl a f=> ?_
   obtain⟨bm,rfl,rfl,bn⟩:=bl
   refine Ac f Z λa f=>Aa ?_
   refine Ao ?_
   obtain rfl:=sj hd
   exact⟨[(iv bf.1)],f.g Z,f.d,_,[ib b0 93 [bm,(iv bf.2.2.1),(iv bf.2.2.2)]],(gt ak (gt aX bk)),m,_,Z,Z,bn⟩
theorem Wk.A0 {v0:Value}{it0:Itm}{x0:LI}{x1:Int}(m:Mem W G w (it0::H))(o0:Ow R0 2 G it0 v0 x0){y:(LI)}(hd:D.A0 x0 x1=some y):
  Calls prog 87 #[v0,(iv x1)] w (Res W G H (λG' Ho v=>∃r0:Value,∃i0:Itm,Ho=[i0]∧r0=v∧Ow R0 2 G' i0 r0 y)):=by
 refine Ax (args:=[v0,(iv x1)]) (N:=46) [.tmp 4] func87 Z Z (lb Z) Z λa f=> ?_
 unfold D.A0 at hd
 refine Af ?_
 refine Ac f Z λa f=>AD ?_
 refine Ac f Z λa f=>Aa (Ak ?_)
 have⟨aa,ab,hd⟩:=bind_some hd
 refine AT (λa w=>∃ac:Int,ac=aa∧∃(ad:GH),GLe G ad∧Fr a 46 [(0,v0),(1,(iv x1)),(5,(iv ac))]∧Mem W ad w (it0::H)) ?_ ?_
 ·refine As ?_
  refine A1 (λae a w=>∃af:Int,af=ae∧∃(ag:GH),GLe G ag∧Fr a 46 [(0,v0),(1,(iv x1)),(5,(iv af))]∧Mem W ag w (it0::H)) ab ⟨_,Z,_,gr,f.k Z,m⟩ ?_
  clear ab f m
  rintro ae ah ai aj a w ⟨af,rfl,ag,ak,f,m⟩
  have o0:=od1 ak o0
  refine Ak (Af ?_)
  refine Ab f Z λa f=>Ab f Z λa f=>Cy 0 m o0 Z underlying30 f Z Z λa f=>Aj f Z Z A3 λa f=>Ab f Z λa f=> ?_
  have⟨al,am,ai⟩:=bind_some ai
  refine Bg 7 (λa w=>∃an,GLe ag an∧Mem W an w (it0::H)∧Fr a 46 [(0,v0),(1,(iv x1)),(5,(iv af)),(7,(iv af)),(8,v0),(9,(iv (x0.length:Int))),(10,(.bool (decide (af<(x0.length:Int))))),(11,(.bool (decide (af<(x0.length:Int))))),(18,(.bool al))]) ?_ ?_
  ·rcases Ae am with⟨ao,am⟩|⟨ao,am⟩
   ·refine Aw f ao ?_
    refine Ab f Z λa f=>Aw f ao ?_
    refine Ab f Z λa f=>Aw f ao ?_
    have⟨ap,aq,am⟩:=bind_some am
    refine BQ 0 m o0 Z T30 f Z Z Z aq λar a au f=>Aw f ao ?_
    refine BM 0 m o0 Z Pl2 f Z Z au aq λav a aw f=> ?_
    subst aw
    refine Aw f ao ?_
    refine Ab f Z λa f=>Aw f ao ?_
    refine Aj f Z Z A3 λa f=>l_o f (AK (f.e Z) ao (f.e Z)) λa f=> ?_
    obtain rfl:=sj am
    exact⟨_,gr,m,f.k Z⟩
   ·refine Au f ao λa f=> ?_
    refine Au f ao λa f=>Au f ao λa f=>Au f ao λa f=>Au f ao λa f=>Au f ao λa f=>l_o f (AM (f.e Z) ao (f.e Z)) λa f=> ?_
    obtain rfl:=sj am
    exact⟨_,gr,m,f.k Z⟩
  ·rintro a w ⟨an,ax,m,f⟩
   refine Aa ?_
   rcases Ae ai with⟨ay,ai⟩|⟨ay,ai⟩
   ·refine Al f Z ay ?_
    refine Aq ?_
    refine As (Ai ?_)
    refine Ab f Z λa f=>Aj f Z Z AA λa f=>Ac f Z λa f=>Aa ?_
    obtain rfl:=sj ai
    exact⟨_,Z,_,Z,_,(gt ak ax),f.k Z,m⟩
   ·refine Ag f Z ay ?_
    refine AZ Z ?_
    obtain rfl:=sj ai
    obtain rfl:=aj _ rfl
    exact⟨_,Z,_,(gt ak ax),f.k Z,m⟩
 ·rintro a w ⟨ac,rfl,ad,az,f,m⟩
  have o0:=od1 az o0
  refine Ak (Af ?_)
  refine Ab f Z λa f=>Ab f Z λa f=>Cy 0 m o0 Z underlying30 f Z Z λa f=>Aj f Z Z A3 λa f=>Ab f Z λa f=> ?_
  have⟨aA,aB,hd⟩:=bind_some hd
  refine Bg 7 (λa w=>∃aC,GLe ad aC∧Mem W aC w (it0::H)∧Fr a 46 [(0,v0),(1,(iv x1)),(5,(iv ac)),(21,(iv ac)),(22,v0),(23,(iv (x0.length:Int))),(24,(.bool (decide (ac<(x0.length:Int))))),(25,(.bool (decide (ac<(x0.length:Int))))),(32,(.bool aA))]) ?_ ?_
  ·rcases Ae aB with⟨aD,aB⟩|⟨aD,aB⟩
   ·refine Aw f aD ?_
    refine Ab f Z λa f=>Aw f aD ?_
    refine Ab f Z λa f=>Aw f aD ?_
    have⟨aE,aF,aB⟩:=bind_some aB
    refine BQ 0 m o0 Z T30 f Z Z Z aF λaG a aH f=>Aw f aD ?_
    refine BM 0 m o0 Z Pl2 f Z Z aH aF λaI a aJ f=> ?_
    subst aJ
    refine Aw f aD ?_
    refine Ab f Z λa f=>Aw f aD ?_
    refine Aj f Z Z AH λa f=>l_o f (AK (f.e Z) aD (f.e Z)) λa f=> ?_
    obtain rfl:=sj aB
    exact⟨_,gr,m,f.k Z⟩
   ·refine Au f aD λa f=> ?_
    refine Au f aD λa f=>Au f aD λa f=>Au f aD λa f=>Au f aD λa f=>Au f aD λa f=>l_o f (AM (f.e Z) aD (f.e Z)) λa f=> ?_
    obtain rfl:=sj aB
    exact⟨_,gr,m,f.k Z⟩
  ·rintro a w ⟨aC,aK,m,f⟩
   have o0:=od1 aK o0
   refine Aa ?_
   rcases Ae hd with⟨aL,hd⟩|⟨aL,hd⟩
   ·refine Al f Z aL ?_
    refine Af ?_
    refine Ab f Z λa f=>Ac f Z λa f=>Aa ?_
    refine Ao ?_
    obtain rfl:=sj hd
    exact⟨[v0],f.g Z,f.d,_,[it0],(gt az aK),m,_,_,Z,Z,o0⟩
   ·refine Ag f Z aL ?_
    refine Aq ?_
    refine Af ?_
    refine Ab f Z λa f=>Ab f Z λa f=> ?_
    obtain⟨aM,aN,m,aO⟩:=Ow.stamp (RI.mono _) o0 m
    have⟨aP,aQ,hd⟩:=bind_some hd
    refine CN T30 f Z Z aO (.inl ⟨Z,Z⟩) (.inr ⟨_,_,Z,Z⟩) aQ λaR a aS f=> ?_
    have⟨aT,aU,hd⟩:=bind_some hd
    refine Ay f Z call82 (Wk.k m aS aU) λaV aW aX w aY m aZ a f=> ?_
    obtain⟨a0,a1,rfl,rfl,a2⟩:=aZ
    have aO:=rd1 aY aO
    refine Ab f Z λa f=>AI (R:=R0) (xs:=([x1]:LI)) (RI.one _) m T30 f Z Z Z (by decide) (All2.cons Z (All2.nil _)) λa3 a4 w a m a5 f=> ?_
    have⟨a6,a7,hd⟩:=bind_some hd
    refine AP (RI.one _) 1 m a2 Z T30 Z (by decide) f Z Z Z (Ow.src (j:=0) a5 m Z) a7 λa8 a9 w a m ba f=>Ac f Z λa f=>AD ?_
    refine Ab f Z λa f=>Ab f Z λa f=>Ab f Z λa f=> ?_
    have⟨bb,bc,hd⟩:=bind_some hd
    refine CN T30 f Z Z aO (.inr ⟨_,_,Z,Z⟩) (.inl ⟨Z,Z⟩) bc λbd a be f=> ?_
    have⟨bf,bg,hd⟩:=bind_some hd
    refine AP (RI.one _) 1 m ba Z T30 Z (by decide) f Z Z Z (be.src m) bg λbh bi w a m bj f=>Ac f Z λa f=>Aa ?_
    refine Ao ?_
    have m:=m.fr 1
    have m:=m.eraseAt 1
    obtain rfl:=sj hd
    exact⟨[bi],f.g Z,f.d,_,[bh],(gt az (gt aK (gt aN aY))),m,_,_,Z,Z,bj⟩
theorem Wk.J {x0:Int}(m:Mem W G w (H)){y:(LL)}(hd:D.J x0=some y):
  Calls prog 72 #[(iv x0)] w (Res W G H (λG' Ho v=>∃r0:Value,∃i0:Itm,Ho=[i0]∧v=(.agg #[r0])∧Ow2 R0 30 2 G' i0 r0 y)):=by
 refine Ax (args:=[(iv x0)]) (N:=18) [.cell 2 26] func72 Z Z (lb Z) Z λa f=> ?_
 unfold D.J at hd
 refine Af ?_
 refine AR (cs:=[sn]) zeroValue26 m f Z Z λaa w a m f=>AD ?_
 have ab:∀w,(Instr.build 26 #[]).run prog w= .ok (.agg #[sn]) w:=by intro w;simp[Instr.build,Instr.fill,A7,AX,AN,AS,AG,A6]
 refine Bn f Z Z ab λa f=>AR (cs:=[sn]) zeroValue26 m f Z Z λac w a m f=>Am 0 0 (ds:=[sn]) m sizeOf26 f Z Z Z (Ah Z Ap) Z (lb Z) Z λw m=>Aa (Ak (Af ?_))
 refine Ac f Z λa f=>Aa ?_
 obtain⟨ad,m,ae⟩:=Ow2.nil R0 30 2 m
 have⟨af,ag,hd⟩:=bind_some hd
 refine AT (λa w=>∃ah:LL,ah=af∧∃(ai:GH) (aj:Value) (ak:Itm),GLe G ai∧Fr a 18 [(2,(pb aa)),(3,(pb ac))]∧Mem W ai w (ib aa 26 [sn]::ib ac 26 [aj]::ak::H)∧Ow2 R0 30 2 ai ak aj ah) ?_ ?_
 ·refine As ?_
  have m:=m.fr 1
  have m:=m.fr 2
  refine A1 (λal a w=>∃am:Int,∃an:LL,(am,an)=al∧∃(ao:GH) (ap:Value) (aq:Itm),GLe G ao∧Fr a 18 [(0,(iv x0)),(2,(pb aa)),(3,(pb ac)),(4,(iv am))]∧Mem W ao w (ib aa 26 [sn]::ib ac 26 [ap]::aq::H)∧Ow2 R0 30 2 ao aq ap an) ag ⟨_,_,Z,_,sn,ad,gr,f.k Z,m,ae⟩ ?_
  clear ag f m
  rintro al ar au av a w ⟨am,an,rfl,ao,ap,aq,aw,f,m,ax⟩
  refine Ak (Af ?_)
  refine Ab f Z λa f=>Ab f Z λa f=>Aj f Z Z A3 λa f=>Aa ?_
  rcases Ae au with⟨ay,au⟩|⟨ay,au⟩
  ·refine Al f Z ay ?_
   refine Aq ?_
   refine Ak (As (Ai ?_))
   refine Az underlying26 Z sizeOf24 f Z λa f=>An 1 0 m Bx f Z Z Z Z λa f=>AI (R:=R0) (xs:=([]:LI)) (RI.one _) m T30 f Z Z Z (by decide) (All2.nil _) λaz aA w a m aB f=>AI (R:=RawS) (xs:=[aA]) RawS.one m T24 f Z Z Z (by decide) (All2.cons ⟨Z,Ow.one1 0 m aB Z,Ow.cells 0 m aB Z⟩ (All2.nil _)) λaC aD w a m aE f=> ?_
   have m:=m.fr 1
   have m:Mem W ao w (aq::az::aC::ib aa 26 [sn]::ib ac 26 [ap]::H):=m.fr 4
   have⟨aF,aG,au⟩:=bind_some au
   refine l_append2 m ax aB aE T24 Z (by decide) f Z Z Z aG λaH aI w a m aJ f=>Az underlying26 Z sizeOf24 f Z λa f=>Am 2 0 (ds:=[aI]) m sizeOf24 f Z Z (Ow2.cells 0 m aJ Z) (Ah (Ow2.one1 0 m aJ Z) Ap) Z (lb Z) Z λw m=>Aa (Ai ?_)
   refine Ab f Z λa f=>Aj f Z Z AA λa f=>Ac f Z λa f=>Aa ?_
   have m:=m.fr 2
   have m:=m.fr 2
   obtain rfl:=sj au
   exact⟨_,Z,_,_,Z,_,aI,aH,aw,f.k Z,m,aJ⟩
  ·refine Ag f Z ay ?_
   refine AZ Z ?_
   obtain rfl:=sj au
   obtain rfl:=av _ rfl
   exact⟨_,Z,_,ap,aq,aw,f.k Z,m,ax⟩
 ·rintro a w ⟨ah,rfl,ai,aj,ak,aK,f,m,aL⟩
  refine Af ?_
  refine Ar 1 0 (ds:=[aj]) m AO f Z Z Z Z Z λa f=>Am 0 0 (ds:=[aj]) m sizeOf26 f Z Z Z (Ah (Ow2.one1 2 m aL Z) Ap) Z (lb Z) Z λw m=>Aa ?_
  refine Ao ?_
  have aM:=A9 (P:=prog) 0 m AO f (s:=2) rfl rfl rfl
  have m:=m.fr 2
  have m:=m.eraseAt 2
  have m:=m.eraseAt 1
  obtain rfl:=sj hd
  exact⟨[(.agg #[aj])],⟨aM,trivial⟩,f.d,_,[ak],aK,m,_,_,Z,Z,aL⟩
theorem Wk.P {aa:Value}{ab:Itm}{ac:LL}{x1 x2:Int}(m:Mem W G w (ab::H))(ad:Ow2 R0 30 2 G ab aa ac){y:(LL)}(hd:D.P ac x1 x2=some y):
  Calls prog 74 #[(.agg #[aa]),(iv x1),(iv x2)] w (Res W G H (λG' Ho v=>∃i0:Itm,Ho=[i0]∧v=(.agg #[aa])∧Ow2 R0 30 2 G' i0 aa y)):=by
 refine Ax (args:=[(.agg #[aa]),(iv x1),(iv x2)]) (N:=30) [.cell 6 26] func74 Z Z (lb Z) Z λa f=> ?_
 unfold D.P at hd
 refine Af ?_
 refine A4 (cs:=[aa]) m f Z Z Z λae w a m f=>AR (cs:=[sn]) zeroValue26 m f Z Z λaf w a m f=>Aa (Ak ?_)
 have m:=m.fr 2
 refine B6 [ab] (ib af 26 [sn]::ib ae 26 [aa]::H) 10 AQ (by kernel_rfl) m ?_
 refine A5 0 10 underlying26 Z sizeOf24 Z f Z λa f=>Be 1 10 1 Bx Z Z Z f Z λa f=>AE 2 10 Z f Z λa f=>A5 3 10 underlying26 Z sizeOf24 Z f Z λa f=>Be 4 10 1 Bx Z Z Z f Z λa f=>AE 5 10 Z f Z λa f=>AE 8 10 Z f Z λa f=>Bk 6 Z λag w ah m ai ai=> ?_
 have ad:=od2 ah ad
 have⟨aj,ak,hd⟩:=bind_some hd
 refine Ct 0 m ad Z T24 f Z Z Z ak λal a am f=>Aa ?_
 refine ai ag [ab] _ _ gr m ?_
 refine Bk 7 Z λan w ao m ap ap=> ?_
 have ad:=od2 ao ad
 refine B5 0 m ad Z BO f Z Z am ak λaq a ar f=>Aa ?_
 refine ap an [ab] _ _ gr m ?_
 refine Bk 9 Z λau w av m aw aw=> ?_
 have ad:=od2 av ad
 obtain⟨ax,ay,m,az,aA⟩:=Ow2.out ad m ak ar
 have m:=m.fr 1
 have⟨aB,aC,hd⟩:=bind_some hd
 refine Ay f Z call87 (Wk.A0 m aA aC) λaD aE aF w aG m aH a f=> ?_
 obtain⟨aI,aJ,rfl,rfl,aK⟩:=aH
 have az:=OwH.mono (RI.mono _) aG az
 refine Aa ?_
 refine aw aE [aJ,ax] _ _ aG m ?_
 refine A2 λaL w aM m=> ?_
 have aK:=od1 aM aK
 have az:=OwH.mono (RI.mono _) aM az
 have⟨aN,aO,hd⟩:=bind_some hd
 refine Ch 1 m az Z T24 f Z Z Z aO λaP a aQ f=> ?_
 have m:=m.fr 1
 refine B2 m az aK sizeOf30 f Z Z aQ λaR w m aS=>Aa (Ak ?_)
 refine B6 [aR] (ib af 26 [sn]::ib ae 26 [aa]::H) 10 AQ (by kernel_rfl) m ?_
 refine A5 0 10 underlying26 Z sizeOf24 Z f Z λa f=>Be 1 10 1 Bx Z Z Z f Z λa f=>AE 2 10 Z f Z λa f=>A5 3 10 underlying26 Z sizeOf24 Z f Z λa f=>Be 4 10 1 Bx Z Z Z f Z λa f=>AE 5 10 Z f Z λa f=>AE 8 10 Z f Z λa f=>Bk 6 Z λaT w aU m aV aV=> ?_
 have aS:=od2 aU aS
 have⟨aW,aX,hd⟩:=bind_some hd
 refine Ct 0 m aS Z T24 f Z Z Z aX λaY a aZ f=>Aa ?_
 refine aV aT [aR] _ _ gr m ?_
 refine Bk 7 Z λa0 w a1 m a2 a2=> ?_
 have aS:=od2 a1 aS
 refine B5 0 m aS Z BO f Z Z aZ aX λa3 a a4 f=>Aa ?_
 refine a2 a0 [aR] _ _ gr m ?_
 refine Bk 9 Z λa5 w a6 m a7 a7=> ?_
 have aS:=od2 a6 aS
 obtain⟨a8,a9,m,ba,bb⟩:=Ow2.out aS m aX a4
 have m:=m.fr 1
 have⟨bc,bd,hd⟩:=bind_some hd
 refine Ay f Z call87 (Wk.A0 m bb bd) λbe bf bg w bh m bi a f=> ?_
 obtain⟨bj,bk,rfl,rfl,bl⟩:=bi
 have ba:=OwH.mono (RI.mono _) bh ba
 refine Aa ?_
 refine a7 bf [bk,a8] _ _ bh m ?_
 refine A2 λbm w bn m=> ?_
 have bl:=od1 bn bl
 have ba:=OwH.mono (RI.mono _) bn ba
 have⟨bo,bp,hd⟩:=bind_some hd
 refine Ch 1 m ba Z T24 f Z Z Z bp λbq a br f=> ?_
 have m:=m.fr 1
 refine B2 m ba bl sizeOf30 f Z Z br λbs w m bt=>AD ?_
 refine Ar 2 0 (ds:=[aa]) m AO f Z Z Z Z Z λa f=>Am 1 0 (ds:=[aa]) m sizeOf26 f Z Z Z (Ah (Ow2.one1 0 m bt Z) Ap) Z (lb Z) Z λw m=>Aa ?_
 refine Ao ?_
 have bu:=A9 (P:=prog) 1 m AO f (s:=6) rfl rfl rfl
 have m:=m.eraseAt 2
 have m:=m.eraseAt 1
 obtain rfl:=sj hd
 exact⟨[(.agg #[aa])],⟨bu,trivial⟩,f.d,_,[bs],(gt ah (gt ao (gt av (gt aG (gt aM (gt aU (gt a1 (gt a6 (gt bh bn))))))))),m,_,Z,Z,bt⟩
theorem Wk.Q0 {x0:Int}(m:Mem W G w (H)){y:(LL)×Bool}(hd:D.Q0 x0=some y):
  Calls prog 94 #[(iv x0)] w (Res W G H (λG' Ho v=>∃r0:Value,∃i0:Itm,Ho=[i0]∧v= .tuple #[(.agg #[r0]),(.bool y.2)]∧Ow2 R0 30 2 G' i0 r0 y.1)):=by
 refine Ax (args:=[(iv x0)]) (N:=10) [.cell 2 26,.tmp 3] func94 Z Z (lb Z) Z λa f=> ?_
 unfold D.Q0 at hd
 refine Af ?_
 refine AR (cs:=[sn]) zeroValue26 m f Z Z λaa w a m f=>Ac f Z λa f=>Aa (Ak (Af ?_))
 refine Ab f Z λa f=> ?_
 have⟨ab,ac,hd⟩:=bind_some hd
 refine Bb f Z call38 (Wk.b m ac) λad w ae m a f=>l_o f (Br (f.e Z)) λa f=>Aa ?_
 rcases Ae hd with⟨af,hd⟩|⟨af,hd⟩
 ·refine Al f Z af ?_
  refine Af ?_
  have ag:∀w,(Instr.build 26 #[]).run prog w= .ok (.agg #[sn]) w:=by intro w;simp[Instr.build,Instr.fill,A7,AX,AN,AS,AG,A6]
  refine Bn f Z Z ag λa f=>Am 0 0 (ds:=[sn]) m sizeOf26 f Z Z Z (Ah Z Ap) Z (lb Z) Z λw m=>Ac f Z λa f=>Aa ?_
  refine Ao ?_
  obtain⟨ah,m,ai⟩:=Ow2.nil R0 30 2 m
  have aj:=A9 (P:=prog) 1 m AO f (s:=2) rfl rfl rfl
  have m:=m.eraseAt 1
  obtain rfl:=sj hd
  exact⟨[(.agg #[sn]),(.bool false)],⟨aj,f.get _ _ Z,trivial⟩,f.d,_,[ah],ae,m,_,_,Z,Z,ai⟩
 ·refine Ag f Z af ?_
  refine Aq ?_
  refine Af ?_
  refine Ab f Z λa f=> ?_
  have⟨ak,al,hd⟩:=bind_some hd
  refine Ay f Z call72 (Wk.J m al) λam an ao w ap m aq a f=> ?_
  obtain⟨ar,au,rfl,rfl,av⟩:=aq
  refine Am 1 0 (ds:=[ar]) m sizeOf26 f Z Z Z (Ah (Ow2.one1 0 m av Z) Ap) Z (lb Z) Z λw m=>Ac f Z λa f=>Aa ?_
  refine Ao ?_
  have aw:=A9 (P:=prog) 1 m AO f (s:=2) rfl rfl rfl
  have m:=m.eraseAt 1
  obtain rfl:=sj hd
  exact⟨[(.agg #[ar]),(.bool true)],⟨aw,f.get _ _ Z,trivial⟩,f.d,_,[au],(gt ae ap),m,_,_,Z,Z,av⟩
theorem Wk.b0 {x0:Int}(m:Mem W G w (H)){y:(LL)×Bool}(hd:D.b0 x0=some y):
  Calls prog 89 #[(iv x0)] w (Res W G H (λG' Ho v=>∃r0:Value,∃i0:Itm,Ho=[i0]∧v= .tuple #[(.agg #[r0]),(.bool y.2)]∧Ow2 R0 30 2 G' i0 r0 y.1)):=by
 refine Ax (args:=[(iv x0)]) (N:=27) [.cell 2 26,.tmp 3] func89 Z Z (lb Z) Z λa f=> ?_
 unfold D.b0 at hd
 refine Af ?_
 refine AR (cs:=[sn]) zeroValue26 m f Z Z λaa w a m f=>Ac f Z λa f=>AD ?_
 refine Ab f Z λa f=> ?_
 have⟨ab,ac,hd⟩:=bind_some hd
 refine Ay f Z call94 (Wk.Q0 m ac) λad ae af w ag m ah a f=> ?_
 obtain⟨ai,aj,rfl,rfl,ak⟩:=ah
 refine Ab f Z λa f=>l_o f (Bm (f.e Z) Z) λa f=>l_o f (Bm (f.e Z) Z) λa f=>AR (cs:=[sn]) zeroValue26 m f Z Z λal w a m f=>Am 0 0 (ds:=[ai]) m sizeOf26 f Z Z Z (Ah (Ow2.one1 1 m ak Z) Ap) Z (lb Z) Z λw m=>Ac f Z λa f=>Aa (Ak (Af ?_))
 refine Ac f Z λa f=>Aa ?_
 have⟨am,an,hd⟩:=bind_some hd
 refine AT (λa w=>∃ao:LL,ao=am∧∃(ap:GH) (aq:Itm),GLe ae ap∧Fr a 27 [(2,(pb aa)),(4,(pb al)),(5,(.bool ab.2))]∧Mem W ap w (ib aa 26 [sn]::ib al 26 [ai]::aq::H)∧Ow2 R0 30 2 ap aq ai ao) ?_ ?_
 ·refine As ?_
  have m:=m.fr 2
  refine A1 (λar a w=>∃au:Int,∃av:LL,(au,av)=ar∧∃(aw:GH) (ax:Itm),GLe ae aw∧Fr a 27 [(0,(iv x0)),(2,(pb aa)),(4,(pb al)),(5,(.bool ab.2)),(6,(iv au))]∧Mem W aw w (ib aa 26 [sn]::ib al 26 [ai]::ax::H)∧Ow2 R0 30 2 aw ax ai av) an ⟨_,_,Z,_,aj,gr,f.k Z,m,ak⟩ ?_
  clear an f m
  rintro ar ay az aA a w ⟨au,av,rfl,aw,ax,aB,f,m,aC⟩
  refine Ak (Af ?_)
  refine Ab f Z λa f=>Ab f Z λa f=>Aj f Z Z A3 λa f=>Ab f Z λa f=> ?_
  refine Bg 2 (λa w=>∃aD,GLe aw aD∧Mem W aD w (ib aa 26 [sn]::ib al 26 [ai]::ax::H)∧Fr a 27 [(0,(iv x0)),(2,(pb aa)),(4,(pb al)),(5,(.bool ab.2)),(6,(iv au)),(12,(iv au)),(13,(iv x0)),(14,(.bool (decide (au<x0)))),(15,(.bool (decide (au<x0)))),(17,(.bool ((decide (au<x0))&&ab.2)))]) ?_ ?_
  ·rcases Bool.eq_false_or_eq_true (decide (au<x0)) with aE|aE
   ·refine Aw f aE ?_
    refine Ab f Z λa f=>l_o f (AK (f.e Z) aE (f.e Z)) λa f=> ?_
    exact⟨_,gr,m,f.weak ⟨Z,Z,Z,Z,Z,Z,Z,Z,Z,by rw[aE];rfl,trivial⟩⟩
   ·refine Au f aE λa f=> ?_
    refine l_o f (AM (f.e Z) aE (f.e Z)) λa f=> ?_
    exact⟨_,gr,m,f.weak ⟨Z,Z,Z,Z,Z,Z,Z,Z,Z,by rw[aE];rfl,trivial⟩⟩
  ·rintro a w ⟨aD,aF,m,f⟩
   have aC:=od2 aF aC
   refine Aa ?_
   rcases Ae az with⟨aG,az⟩|⟨aG,az⟩
   ·refine Al f Z aG ?_
    refine Aq ?_
    refine Ak (As (Ai ?_))
    refine Ar 1 0 (ds:=[ai]) m AO f Z Z Z Z Z λa f=>Ab f Z λa f=>Aj f Z Z Bw λa f=>Ab f Z λa f=> ?_
    have m:=m.fr 2
    have⟨aH,aI,az⟩:=bind_some az
    refine Ay f Z call74 (Wk.P m aC aI) λaJ aK aL w aM m aN a f=> ?_
    obtain⟨aO,rfl,rfl,aP⟩:=aN
    refine Am 2 0 (ds:=[ai]) m sizeOf26 f Z Z Z (Ah (Ow2.one1 0 m aP Z) Ap) Z (lb Z) Z λw m=>Aa (Ai ?_)
    refine Ab f Z λa f=>Aj f Z Z AA λa f=>Ac f Z λa f=>Aa ?_
    have m:=m.fr 2
    have m:=m.fr 2
    obtain rfl:=sj az
    exact⟨_,Z,_,_,Z,_,aO,(gt aB (gt aF aM)),f.k Z,m,aP⟩
   ·refine Ag f Z aG ?_
    refine AZ Z ?_
    obtain rfl:=sj az
    obtain rfl:=aA _ rfl
    exact⟨_,Z,_,ax,(gt aB aF),f.k Z,m,aC⟩
 ·rintro a w ⟨ao,rfl,ap,aq,aQ,f,m,aR⟩
  refine Af ?_
  refine Ar 1 0 (ds:=[ai]) m AO f Z Z Z Z Z λa f=>Ab f Z λa f=>Am 0 0 (ds:=[ai]) m sizeOf26 f Z Z Z (Ah (Ow2.one1 2 m aR Z) Ap) Z (lb Z) Z λw m=>Ac f Z λa f=>Aa ?_
  refine Ao ?_
  have aS:=A9 (P:=prog) 0 m AO f (s:=2) rfl rfl rfl
  have m:=m.fr 2
  have m:=m.eraseAt 2
  have m:=m.eraseAt 1
  obtain rfl:=sj hd
  exact⟨[(.agg #[ai]),(.bool ab.2)],⟨aS,f.get _ _ Z,trivial⟩,f.d,_,[aq],(gt ag aQ),m,_,_,Z,Z,aR⟩
theorem Wk.F0 {x0:Int}(m:Mem W G w (H)){y:(LL)×Bool}(hd:D.F0 x0=some y):
  Calls prog 88 #[(iv x0)] w (Res W G H (λG' Ho v=>∃r0:Value,∃i0:Itm,Ho=[i0]∧v= .tuple #[(.agg #[r0]),(.bool y.2)]∧Ow2 R0 30 2 G' i0 r0 y.1)):=by
 refine Ax (args:=[(iv x0)]) (N:=22) [.cell 2 26,.tmp 3] func88 Z Z (lb Z) Z λa f=> ?_
 unfold D.F0 at hd
 refine Af ?_
 refine AR (cs:=[sn]) zeroValue26 m f Z Z λaa w a m f=>Ac f Z λa f=>AD ?_
 refine Ab f Z λa f=> ?_
 have⟨ab,ac,hd⟩:=bind_some hd
 refine Ay f Z call89 (Wk.b0 m ac) λad ae af w ag m ah a f=> ?_
 obtain⟨ai,aj,rfl,rfl,ak⟩:=ah
 refine Ab f Z λa f=>l_o f (Bm (f.e Z) Z) λa f=>l_o f (Bm (f.e Z) Z) λa f=>AR (cs:=[sn]) zeroValue26 m f Z Z λal w a m f=>Am 0 0 (ds:=[ai]) m sizeOf26 f Z Z Z (Ah (Ow2.one1 1 m ak Z) Ap) Z (lb Z) Z λw m=>Ac f Z λa f=>Aa (Ak (Af ?_))
 refine Ab f Z λa f=>l_o f (Br (f.e Z)) λa f=>Ab f Z λa f=> ?_
 refine Bg 3 (λa w=>∃am,GLe ae am∧Mem W am w (ib al 26 [ai]::aj::ib aa 26 [sn]::H)∧Fr a 22 [(0,(iv x0)),(2,(pb aa)),(4,(pb al)),(5,(.bool ab.2)),(11,(.bool ab.2)),(12,(.bool (!ab.2))),(13,(.bool (!ab.2))),(16,(.bool ((!ab.2)||(decide (x0<3)))))]) ?_ ?_
 ·rcases Bool.eq_false_or_eq_true (!ab.2) with an|an
  ·refine Au f an λa f=> ?_
   refine Au f an λa f=>l_o f (AK (f.e Z) an (f.e Z)) λa f=> ?_
   exact⟨_,gr,m,f.weak ⟨Z,Z,Z,Z,Z,Z,Z,by rw[an];rfl,trivial⟩⟩
  ·refine Aw f an ?_
   refine Ab f Z λa f=>Aw f an ?_
   refine Aj f Z Z A3 λa f=>l_o f (AM (f.e Z) an (f.e Z)) λa f=> ?_
   exact⟨_,gr,m,f.weak ⟨Z,Z,Z,Z,Z,Z,Z,by rw[an];rfl,trivial⟩⟩
 ·rintro a w ⟨am,ao,m,f⟩
  have ak:=od2 ao ak
  refine Aa ?_
  rcases Ae hd with⟨ap,hd⟩|⟨ap,hd⟩
  ·refine Al f Z ap ?_
   refine Af ?_
   have aq:∀w,(Instr.build 26 #[]).run prog w= .ok (.agg #[sn]) w:=by intro w;simp[Instr.build,Instr.fill,A7,AX,AN,AS,AG,A6]
   refine Bn f Z Z aq λa f=>Am 2 0 (ds:=[sn]) m sizeOf26 f Z Z Z (Ah Z Ap) Z (lb Z) Z λw m=>Ac f Z λa f=>Aa ?_
   refine Ao ?_
   obtain⟨ar,m,au⟩:=Ow2.nil R0 30 2 m
   have av:=A9 (P:=prog) 3 m AO f (s:=2) rfl rfl rfl
   have m:=m.fr 2
   have m:=m.fr 1
   have m:Mem W am w (ar::aj::ib al 26 [ai]::H):=m.eraseAt 3
   have m:=m.eraseAt 2
   have m:=m.eraseAt 1
   obtain rfl:=sj hd
   exact⟨[(.agg #[sn]),(.bool false)],⟨av,f.get _ _ Z,trivial⟩,f.d,_,[ar],(gt ag ao),m,_,_,Z,Z,au⟩
  ·refine Ag f Z ap ?_
   refine Aq ?_
   refine Af ?_
   refine Ar 0 0 (ds:=[ai]) m AO f Z Z Z Z Z λa f=>Ab f Z λa f=>Aj f Z Z Bw λa f=> ?_
   have m:=m.fr 1
   have⟨aw,ax,hd⟩:=bind_some hd
   refine Ay f Z call74 (Wk.P m ak ax) λay az aA w aB m aC a f=> ?_
   obtain⟨aD,rfl,rfl,aE⟩:=aC
   refine Am 2 0 (ds:=[ai]) m sizeOf26 f Z Z Z (Ah (Ow2.one1 0 m aE Z) Ap) Z (lb Z) Z λw m=>Ac f Z λa f=>Aa ?_
   refine Ao ?_
   have aF:=A9 (P:=prog) 2 m AO f (s:=2) rfl rfl rfl
   have m:=m.eraseAt 2
   have m:=m.eraseAt 1
   obtain rfl:=sj hd
   exact⟨[(.agg #[ai]),(.bool true)],⟨aF,f.get _ _ Z,trivial⟩,f.d,_,[aD],(gt ag (gt ao aB)),m,_,_,Z,Z,aE⟩
theorem Wk.e0 {b0:Nat}{aa:Value}{ab:LI}{ac ad x1:Int}(m:Mem W G w (ib b0 93 [aa,(iv ac),(iv ad)]::H))(ae:RSl (RI .u8) G aa ab){y:(LL)×(LI)×Int×Int}(hd:D.e0 ab ac ad x1=some y):
  Calls prog 52 #[(pb b0),(iv x1)] w (Res W G H (λG' Ho v=>∃r0:Value,∃i0:Itm,∃r2:Value,Ho=[i0,ib b0 93 [r2,(iv y.2.2.1),(iv y.2.2.2)]]∧v=(.agg #[r0])∧Ow2 R0 30 2 G' i0 r0 y.1∧RSl (RI .u8) G' r2 y.2.1)):=by
 refine Ax (args:=[(pb b0),(iv x1)]) (N:=33) [.cell 4 26] func52 Z Z (lb Z) Z λa f=> ?_
 unfold D.e0 at hd
 refine Af ?_
 refine AR (cs:=[sn]) zeroValue26 m f Z Z λaf w a m f=>AD ?_
 refine Ab f Z λa f=> ?_
 have⟨ag,ah,hd⟩:=bind_some hd
 refine Ay f Z call72 (Wk.J m ah) λai aj ak w al m am a f=> ?_
 obtain⟨an,ao,rfl,rfl,ap⟩:=am
 have ae:=rd1 al ae
 refine AR (cs:=[sn]) zeroValue26 m f Z Z λaq w a m f=>Am 0 0 (ds:=[an]) m sizeOf26 f Z Z Z (Ah (Ow2.one1 1 m ap Z) Ap) Z (lb Z) Z λw m=>AD ?_
 refine Ab f Z λa f=> ?_
 have m:Mem W aj w (ib b0 93 [aa,(iv ac),(iv ad)]::ib aq 26 [an]::ao::ib af 26 [sn]::H):=m.fr 3
 have⟨ar,au,hd⟩:=bind_some hd
 refine Ay f Z call22 (Wk.a m ae au) λav aw ax w ay m az a f=> ?_
 obtain⟨aA,rfl,rfl,aB⟩:=az
 have ap:=od2 ay ap
 refine Aj f Z Z AA λa f=>Ac f Z λa f=>Aa (Ak (Af ?_))
 refine Ac f Z λa f=>Aa ?_
 have⟨aC,aD,hd⟩:=bind_some hd
 refine AT (λa w=>∃aE:LL,∃aF:LI,∃aG:Int,∃aH:Int,(aE,aF,aG,aH)=aC∧∃(aI:GH) (aJ:Itm) (aK:Value),GLe aw aI∧Fr a 33 [(4,(pb af)),(5,(pb aq))]∧Mem W aI w (ib af 26 [sn]::ib aq 26 [an]::ib b0 93 [aK,(iv aG),(iv aH)]::aJ::H)∧Ow2 R0 30 2 aI aJ an aE∧RSl (RI .u8) aI aK aF) ?_ ?_
 ·refine As ?_
  have m:=m.fr 3
  have m:Mem W aw w (ib b0 93 [aA,(iv ar.2.2.1),(iv ar.2.2.2)]::ib af 26 [sn]::ib aq 26 [an]::ao::H):=m.fr 1
  refine A1 (λaL a w=>∃aM:Int,∃aN:LI,∃aO:Int,∃aP:Int,∃aQ:LL,(aM,aN,aO,aP,aQ)=aL∧∃(aR:GH) (aS:Value) (aT:Itm),GLe aw aR∧Fr a 33 [(0,(pb b0)),(1,(iv x1)),(4,(pb af)),(5,(pb aq)),(6,(iv (i64.wrap (1+ar.1)))),(7,(iv aM))]∧Mem W aR w (ib b0 93 [aS,(iv aO),(iv aP)]::ib af 26 [sn]::ib aq 26 [an]::aT::H)∧RSl (RI .u8) aR aS aN∧Ow2 R0 30 2 aR aT an aQ) aD ⟨_,_,_,_,_,Z,_,aA,ao,gr,f.k Z,m,aB,ap⟩ ?_
  clear aD f m
  rintro aL aU aV aW a w ⟨aM,aN,aO,aP,aQ,rfl,aR,aS,aT,aX,f,m,aY,aZ⟩
  refine Ak (Af ?_)
  refine Ab f Z λa f=>Ab f Z λa f=>Aj f Z Z A3 λa f=>Aa ?_
  rcases Ae aV with⟨a0,aV⟩|⟨a0,aV⟩
  ·refine Al f Z a0 ?_
   refine Aq ?_
   refine Ak (As (Af ?_))
   refine Ac f Z λa f=>Aa ?_
   have⟨a1,a2,aV⟩:=bind_some aV
   refine AT (λa w=>∃a3:LI,∃a4:Int,∃a5:Int,∃a6:LL,(a3,a4,a5,a6)=a1∧∃(a7:GH) (a8:Value) (a9:Itm),GLe aR a7∧Fr a 33 [(0,(pb b0)),(1,(iv x1)),(4,(pb af)),(5,(pb aq)),(6,(iv (i64.wrap (1+ar.1)))),(7,(iv aM))]∧Mem W a7 w (ib b0 93 [a8,(iv a4),(iv a5)]::ib af 26 [sn]::ib aq 26 [an]::a9::H)∧RSl (RI .u8) a7 a8 a3∧Ow2 R0 30 2 a7 a9 an a6) ?_ ?_
   ·refine As ?_
    refine A1 (λba a w=>∃bb:Int,∃bc:LI,∃bd:Int,∃be:Int,∃bf:LL,(bb,bc,bd,be,bf)=ba∧∃(bg:GH) (bh:Value) (bi:Itm),GLe aR bg∧Fr a 33 [(0,(pb b0)),(1,(iv x1)),(4,(pb af)),(5,(pb aq)),(6,(iv (i64.wrap (1+ar.1)))),(7,(iv aM)),(8,(iv bb))]∧Mem W bg w (ib b0 93 [bh,(iv bd),(iv be)]::ib af 26 [sn]::ib aq 26 [an]::bi::H)∧RSl (RI .u8) bg bh bc∧Ow2 R0 30 2 bg bi an bf) a2 ⟨_,_,_,_,_,Z,_,aS,aT,gr,f.k Z,m,aY,aZ⟩ ?_
    clear a2 f m
    rintro ba bj bk bl a w ⟨bb,bc,bd,be,bf,rfl,bg,bh,bi,bm,f,m,bn,bo⟩
    refine Ak (Af ?_)
    refine Ab f Z λa f=>Ab f Z λa f=>Aj f Z Z A3 λa f=>Aa ?_
    rcases Ae bk with⟨bp,bk⟩|⟨bp,bk⟩
    ·refine Al f Z bp ?_
     refine Aq ?_
     refine Ak (As (Af ?_))
     refine Ab f Z λa f=> ?_
     have⟨bq,br,bk⟩:=bind_some bk
     refine Ay f Z call22 (Wk.a m bn br) λbs bt bu w bv m bw a f=> ?_
     obtain⟨bx,rfl,rfl,bz⟩:=bw
     have bo:=od2 bv bo
     refine Ab f Z λa f=>Aj f Z Z A3 λa f=>Aa ?_
     rcases Ae bk with⟨bA,bk⟩|⟨bA,bk⟩
     ·refine Al f Z bA ?_
      refine Ai ?_
      refine Ar 2 0 (ds:=[an]) m AO f Z Z Z Z Z λa f=>Ab f Z λa f=>Ab f Z λa f=> ?_
      have m:Mem W bt w (bi::ib b0 93 [bx,(iv bq.2.2.1),(iv bq.2.2.2)]::ib af 26 [sn]::ib aq 26 [an]::H):=m.fr 3
      have⟨bB,bC,bk⟩:=bind_some bk
      refine Ay f Z call74 (Wk.P m bo bC) λbD bE bF w bG m bH a f=> ?_
      obtain⟨bI,rfl,rfl,bJ⟩:=bH
      have bz:=rd1 bG bz
      refine Am 3 0 (ds:=[an]) m sizeOf26 f Z Z Z (Ah (Ow2.one1 0 m bJ Z) Ap) Z (lb Z) Z λw m=>Aa (Ai ?_)
      refine Ab f Z λa f=>Aj f Z Z AA λa f=>Ac f Z λa f=>Aa ?_
      have m:=m.fr 3
      have m:=m.fr 3
      have m:Mem W bE w (ib b0 93 [bx,(iv bq.2.2.1),(iv bq.2.2.2)]::ib af 26 [sn]::ib aq 26 [an]::bI::H):=m.fr 3
      obtain rfl:=sj bk
      exact⟨_,Z,_,_,_,_,_,Z,_,bx,bI,(gt bm (gt bv bG)),f.k Z,m,bz,bJ⟩
     ·refine Ag f Z bA ?_
      refine Aq ?_
      refine Ai ?_
      refine Ab f Z λa f=>Aj f Z Z AA λa f=>Ac f Z λa f=>Aa ?_
      obtain rfl:=sj bk
      exact⟨_,Z,_,_,_,_,_,Z,_,bx,bi,(gt bm bv),f.k Z,m,bz,bo⟩
    ·refine Ag f Z bp ?_
     refine AZ Z ?_
     obtain rfl:=sj bk
     obtain rfl:=bl _ rfl
     exact⟨_,_,_,_,Z,_,bh,bi,bm,f.k Z,m,bn,bo⟩
   ·rintro a w ⟨a3,a4,a5,a6,rfl,a7,a8,a9,bK,f,m,bL,bM⟩
    refine Ai ?_
    refine Ab f Z λa f=>Aj f Z Z AA λa f=>Ac f Z λa f=>Aa ?_
    obtain rfl:=sj aV
    exact⟨_,Z,_,_,_,_,_,Z,_,a8,a9,(gt aX bK),f.k Z,m,bL,bM⟩
  ·refine Ag f Z a0 ?_
   refine AZ Z ?_
   have m:=m.fr 2
   have m:Mem W aR w (ib af 26 [sn]::ib aq 26 [an]::ib b0 93 [aS,(iv aO),(iv aP)]::aT::H):=m.fr 2
   obtain rfl:=sj aV
   obtain rfl:=aW _ rfl
   exact⟨_,_,_,_,Z,_,aT,aS,aX,f.k Z,m,aZ,aY⟩
 ·rintro a w ⟨aE,aF,aG,aH,rfl,aI,aJ,aK,bN,f,m,bO,bP⟩
  refine Af ?_
  refine Ar 1 0 (ds:=[an]) m AO f Z Z Z Z Z λa f=>Am 0 0 (ds:=[an]) m sizeOf26 f Z Z Z (Ah (Ow2.one1 3 m bO Z) Ap) Z (lb Z) Z λw m=>Aa ?_
  refine Ao ?_
  have bQ:=A9 (P:=prog) 0 m AO f (s:=4) rfl rfl rfl
  have m:=m.fr 2
  have m:=m.fr 3
  have m:Mem W aI w (aJ::ib b0 93 [aK,(iv aG),(iv aH)]::ib af 26 [an]::H):=m.eraseAt 3
  have m:=m.eraseAt 2
  obtain rfl:=sj hd
  exact⟨[(.agg #[an])],⟨bQ,trivial⟩,f.d,_,[aJ,ib b0 93 [aK,(iv aG),(iv aH)]],(gt al (gt ay bN)),m,_,_,_,Z,Z,bO,bP⟩
theorem Wk.q0 {b0:Nat}{aa:Value}{ab:LI}{ac ad:Int}(m:Mem W G w (ib b0 93 [aa,(iv ac),(iv ad)]::H))(ae:RSl (RI .u8) G aa ab){y:(LL)×(LI)×Int×Int}(hd:D.q0 ab ac ad=some y):
  Calls prog 75 #[(pb b0)] w (Res W G H (λG' Ho v=>∃r0:Value,∃i0:Itm,∃r2:Value,Ho=[i0,ib b0 93 [r2,(iv y.2.2.1),(iv y.2.2.2)]]∧v=(.agg #[r0])∧Ow2 R0 30 2 G' i0 r0 y.1∧RSl (RI .u8) G' r2 y.2.1)):=by
 refine Ax (args:=[(pb b0)]) (N:=34) [.cell 2 26] func75 Z Z (lb Z) Z λa f=> ?_
 unfold D.q0 at hd
 refine Af ?_
 refine AR (cs:=[sn]) zeroValue26 m f Z Z λaf w a m f=>Aa (Ak (Af ?_))
 refine Ab f Z λa f=> ?_
 have m:Mem W G w (ib b0 93 [aa,(iv ac),(iv ad)]::ib af 26 [sn]::H):=m.fr 1
 have⟨ag,ah,hd⟩:=bind_some hd
 refine Ay f Z call22 (Wk.a m ae ah) λai aj ak w al m am a f=> ?_
 obtain⟨an,rfl,rfl,ao⟩:=am
 refine Aa (As (Af ?_))
 refine Aj f Z Z AH λa f=>Ac f Z λa f=>Aa ?_
 rcases Ae hd with⟨ap,hd⟩|⟨ap,hd⟩
 ·refine Al f Z ap ?_
  refine Af ?_
  refine Ab f Z λa f=> ?_
  have⟨aq,ar,hd⟩:=bind_some hd
  refine Ay f Z call22 (Wk.a m ao ar) λau av aw w ax m ay a f=> ?_
  obtain⟨az,rfl,rfl,aA⟩:=ay
  refine Aj f Z Z AA λa f=> ?_
  have⟨aB,aC,hd⟩:=bind_some hd
  refine Ay f Z call88 (Wk.F0 m aC) λaD aE aF w aG m aH a f=> ?_
  obtain⟨aI,aJ,rfl,rfl,aK⟩:=aH
  have aA:=rd1 aG aA
  refine Ab f Z λa f=>l_o f (Bm (f.e Z) Z) λa f=>l_o f (Bm (f.e Z) Z) λa f=>AR (cs:=[sn]) zeroValue26 m f Z Z λaL w a m f=>Am 0 0 (ds:=[aI]) m sizeOf26 f Z Z Z (Ah (Ow2.one1 1 m aK Z) Ap) Z (lb Z) Z λw m=>Ac f Z λa f=>AD ?_
  refine Ar 0 0 (ds:=[aI]) m AO f Z Z Z Z Z λa f=>Am 3 0 (ds:=[aI]) m sizeOf26 f Z Z Z (Ah (Ow2.one1 1 m aK Z) Ap) Z (lb Z) Z λw m=>Aa ?_
  refine Ao ?_
  have aM:=A9 (P:=prog) 3 m AO f (s:=2) rfl rfl rfl
  have m:=m.fr 2
  have m:=m.fr 2
  have m:Mem W aE w (aJ::ib b0 93 [az,(iv aq.2.2.1),(iv aq.2.2.2)]::ib aL 26 [aI]::H):=m.eraseAt 3
  have m:=m.eraseAt 2
  obtain rfl:=sj hd
  exact⟨[(.agg #[aI])],⟨aM,trivial⟩,f.d,_,[aJ,ib b0 93 [az,(iv aq.2.2.1),(iv aq.2.2.2)]],(gt al (gt ax aG)),m,_,_,_,Z,Z,aK,aA⟩
 ·refine Ag f Z ap ?_
  refine Af ?_
  refine Aj f Z Z AH λa f=>Ac f Z λa f=>Aa ?_
  rcases Ae hd with⟨aN,hd⟩|⟨aN,hd⟩
  ·refine Al f Z aN ?_
   refine Af ?_
   refine Ab f Z λa f=> ?_
   have⟨aO,aP,hd⟩:=bind_some hd
   refine Ay f Z call22 (Wk.a m ao aP) λaQ aR aS w aT m aU a f=> ?_
   obtain⟨aV,rfl,rfl,aW⟩:=aU
   refine Aj f Z Z AA λa f=> ?_
   have⟨aX,aY,hd⟩:=bind_some hd
   refine Ay f Z call89 (Wk.b0 m aY) λaZ a0 a1 w a2 m a3 a f=> ?_
   obtain⟨a4,a5,rfl,rfl,a6⟩:=a3
   have aW:=rd1 a2 aW
   refine Ab f Z λa f=>l_o f (Bm (f.e Z) Z) λa f=>l_o f (Bm (f.e Z) Z) λa f=>AR (cs:=[sn]) zeroValue26 m f Z Z λa7 w a m f=>Am 0 0 (ds:=[a4]) m sizeOf26 f Z Z Z (Ah (Ow2.one1 1 m a6 Z) Ap) Z (lb Z) Z λw m=>Ac f Z λa f=>AD ?_
   refine Ar 0 0 (ds:=[a4]) m AO f Z Z Z Z Z λa f=>Am 3 0 (ds:=[a4]) m sizeOf26 f Z Z Z (Ah (Ow2.one1 1 m a6 Z) Ap) Z (lb Z) Z λw m=>Aa ?_
   refine Ao ?_
   have a8:=A9 (P:=prog) 3 m AO f (s:=2) rfl rfl rfl
   have m:=m.fr 2
   have m:=m.fr 2
   have m:Mem W a0 w (a5::ib b0 93 [aV,(iv aO.2.2.1),(iv aO.2.2.2)]::ib a7 26 [a4]::H):=m.eraseAt 3
   have m:=m.eraseAt 2
   obtain rfl:=sj hd
   exact⟨[(.agg #[a4])],⟨a8,trivial⟩,f.d,_,[a5,ib b0 93 [aV,(iv aO.2.2.1),(iv aO.2.2.2)]],(gt al (gt aT a2)),m,_,_,_,Z,Z,a6,aW⟩
  ·refine Ag f Z aN ?_
   refine Aq ?_
   refine Af ?_
   refine Ab f Z λa f=>Ab f Z λa f=> ?_
   have⟨a9,ba,hd⟩:=bind_some hd
   refine Ay f Z call22 (Wk.a m ao ba) λbb bc bd w be m bf a f=> ?_
   obtain⟨bg,rfl,rfl,bh⟩:=bf
   refine Aj f Z Z AA λa f=> ?_
   have⟨bi,bj,hd⟩:=bind_some hd
   refine Ay f Z call52 (Wk.e0 m bh bj) λbk bl bm w bn m bo a f=> ?_
   obtain⟨bp,bq,br,rfl,rfl,bs,bt⟩:=bo
   refine Am 2 0 (ds:=[bp]) m sizeOf26 f Z Z Z (Ah (Ow2.one1 0 m bs Z) Ap) Z (lb Z) Z λw m=>Aa ?_
   refine Ao ?_
   have bu:=A9 (P:=prog) 2 m AO f (s:=2) rfl rfl rfl
   have m:=m.eraseAt 2
   obtain rfl:=sj hd
   exact⟨[(.agg #[bp])],⟨bu,trivial⟩,f.d,_,[bq,ib b0 93 [br,(iv bi.2.2.1),(iv bi.2.2.2)]],(gt al (gt be bn)),m,_,_,_,Z,Z,bs,bt⟩
theorem Wk.E0 {b0:Nat}{aa:Value}{ab:LI}{ac ad:Int}(m:Mem W G w (ib b0 93 [aa,(iv ac),(iv ad)]::H))(ae:RSl (RI .u8) G aa ab){y:(LL)×(LI)×Int×Int}(hd:D.E0 ab ac ad=some y):
  Calls prog 51 #[(pb b0)] w (Res W G H (λG' Ho v=>∃r0:Value,∃i0:Itm,∃r2:Value,Ho=[i0,ib b0 93 [r2,(iv y.2.2.1),(iv y.2.2.2)]]∧v=(.agg #[r0])∧Ow2 R0 30 2 G' i0 r0 y.1∧RSl (RI .u8) G' r2 y.2.1)):=by
 refine Ax (args:=[(pb b0)]) (N:=56) [.cell 2 26] func51 Z Z (lb Z) Z λa f=> ?_
 unfold D.E0 at hd
 refine Af ?_
 refine AR (cs:=[sn]) zeroValue26 m f Z Z λaf w a m f=>AD ?_
 refine Ab f Z λa f=> ?_
 have m:Mem W G w (ib b0 93 [aa,(iv ac),(iv ad)]::ib af 26 [sn]::H):=m.fr 1
 have⟨ag,ah,hd⟩:=bind_some hd
 refine Ay f Z call75 (Wk.q0 m ae ah) λai aj ak w al m am a f=> ?_
 obtain⟨an,ao,ap,rfl,rfl,aq,ar⟩:=am
 refine AR (cs:=[sn]) zeroValue26 m f Z Z λau w a m f=>Am 0 0 (ds:=[an]) m sizeOf26 f Z Z Z (Ah (Ow2.one1 1 m aq Z) Ap) Z (lb Z) Z λw m=>Aa (Ak (Af ?_))
 refine Ab f Z λa f=> ?_
 have m:Mem W aj w (ib b0 93 [ap,(iv ag.2.2.1),(iv ag.2.2.2)]::ib au 26 [an]::ao::ib af 26 [sn]::H):=m.fr 2
 have⟨av,aw,hd⟩:=bind_some hd
 refine Ay f Z call24 (Wk.d m ar aw) λax ay az w aA m aB a f=> ?_
 obtain⟨aC,rfl,rfl,aD⟩:=aB
 have aq:=od2 aA aq
 refine Aa ?_
 rcases Ae hd with⟨aE,hd⟩|⟨aE,hd⟩
 ·refine Al f Z aE ?_
  refine Af ?_
  refine Ab f Z λa f=>Az underlying26 Z sizeOf24 f Z λa f=>An 1 0 m Bx f Z Z Z Z λa f=>l_own2_len 2 m aq Z underlying24 f Z Z λa f=> ?_
  have⟨aF,aG,hd⟩:=bind_some hd
  refine Ay f Z call22 (Wk.a m aD aG) λaH aI aJ w aK m aL a f=> ?_
  obtain⟨aM,rfl,rfl,aN⟩:=aL
  have aq:=od2 aK aq
  refine Ac f Z λa f=>AD ?_
  refine Ab f Z λa f=> ?_
  have⟨aO,aP,hd⟩:=bind_some hd
  refine Ay f Z call22 (Wk.a m aN aP) λaQ aR aS w aT m aU a f=> ?_
  obtain⟨aV,rfl,rfl,aW⟩:=aU
  have aq:=od2 aT aq
  refine Aa (As (Af ?_))
  refine Aj f Z Z AH λa f=>Ac f Z λa f=>Aa ?_
  rcases Ae hd with⟨aX,hd⟩|⟨aX,hd⟩
  ·refine Al f Z aX ?_
   have⟨aY,aZ,hd⟩:=bind_some hd
   refine AT (λa w=>∃a0:LL,∃a1:LI,∃a2:Int,∃a3:Int,(a0,a1,a2,a3)=aY∧∃(a4:GH) (a5:Itm) (a6:Value),GLe aR a4∧Fr a 56 [(2,(pb af)),(3,(pb au))]∧Mem W a4 w (ib af 26 [sn]::ib au 26 [an]::ib b0 93 [a6,(iv a2),(iv a3)]::a5::H)∧Ow2 R0 30 2 a4 a5 an a0∧RSl (RI .u8) a4 a6 a1) ?_ ?_
   ·have m:Mem W aR w (ao::ib b0 93 [aV,(iv aO.2.2.1),(iv aO.2.2.2)]::ib au 26 [an]::ib af 26 [sn]::H):=m.fr 2
    refine B6 [ao,ib b0 93 [aV,(iv aO.2.2.1),(iv aO.2.2.2)]] (ib au 26 [an]::ib af 26 [sn]::H) 12 AQ (by kernel_rfl) m ?_
    refine A5 0 12 underlying26 Z sizeOf24 Z f Z λa f=>Be 1 12 0 Bx Z Z Z f Z λa f=>AE 2 12 Z f Z λa f=>A5 3 12 underlying26 Z sizeOf24 Z f Z λa f=>Be 4 12 0 Bx Z Z Z f Z λa f=>AE 5 12 Z f Z λa f=>AE 8 12 Z f Z λa f=>C8 (i:=6) (j:=9) (l1:= #[true,true,true,true,true,true,true,false,true,false,false,false,false,false]) (l2:= #[true,true,true,true,true,true,false,false,true,true,false,false,false,false]) Z Z (by kernel_rfl) Z Z ?_ ?_
    ·intro a7 w a8 m a9 a9
     have aq:=od2 a8 aq
     have aW:=rd1 a8 aW
     have⟨ba,bb,aZ⟩:=bind_some aZ
     refine Ct 0 m aq Z T24 f Z Z Z bb λbc a bd f=>Aa ?_
     refine a9 a7 [ao,ib b0 93 [aV,(iv aO.2.2.1),(iv aO.2.2.2)]] _ _ gr m ?_
     refine C8 (i:=7) (j:=9) (l1:= #[true,true,true,true,true,true,true,true,true,false,false,false,false,false]) (l2:= #[true,true,true,true,true,true,true,false,true,true,false,false,false,false]) Z Z (by kernel_rfl) Z Z ?_ ?_
     ·intro be w bf m bg bg
      have aq:=od2 bf aq
      have aW:=rd1 bf aW
      refine B5 0 m aq Z BO f Z Z bd bb λbh a bi f=>Aa ?_
      refine bg be [ao,ib b0 93 [aV,(iv aO.2.2.1),(iv aO.2.2.2)]] _ _ gr m ?_
      refine Bk 9 Z λbj w bk m bl bl=> ?_
      have aq:=od2 bk aq
      have aW:=rd1 bk aW
      have m:Mem W bj w (ib b0 93 [aV,(iv aO.2.2.1),(iv aO.2.2.2)]::ao::ib au 26 [an]::ib af 26 [sn]::H):=m.fr 1
      have⟨bm,bn,aZ⟩:=bind_some aZ
      refine Ay f Z call54 (Wk.t m aW bn) λbo bp bq w br m bs a f=> ?_
      obtain⟨bt,rfl,rfl,bu⟩:=bs
      have aq:=od2 br aq
      refine Aa ?_
      refine bl bp [ib b0 93 [bt,(iv bm.2.2.1),(iv bm.2.2.2)],ao] _ _ br m ?_
      refine Bk 10 Z λbv w bw m bx bx=> ?_
      have bu:=rd1 bw bu
      have aq:=od2 bw aq
      refine AI (R:=R0) (xs:=([bm.1]:LI)) (RI.one _) m T30 f Z Z Z (by decide) (All2.cons Z (All2.nil _)) λbz bA w a m bB f=>Aa ?_
      refine bx bv [bz,ib b0 93 [bt,(iv bm.2.2.1),(iv bm.2.2.2)],ao] _ _ gr m ?_
      refine Bk 11 Z λbC w bD m bE bE=> ?_
      have bB:=od1 bD bB
      have bu:=rd1 bD bu
      have aq:=od2 bD aq
      have m:Mem W bC w (ao::bz::ib b0 93 [bt,(iv bm.2.2.1),(iv bm.2.2.2)]::ib au 26 [an]::ib af 26 [sn]::H):=m.fr 2
      obtain⟨bF,bG,m,bH,bI⟩:=Ow2.out aq m bb bi
      have⟨bJ,bK,aZ⟩:=bind_some aZ
      refine AP (RI.one _) 1 m bI Z T30 Z (by decide) f Z Z Z (Ow.src (j:=2) bB m Z) bK λbL bM w a m bN f=>Aa ?_
      refine bE bC [bF,bL,bz,ib b0 93 [bt,(iv bm.2.2.1),(iv bm.2.2.2)]] _ _ gr m ?_
      refine A2 λbO w bP m=> ?_
      have bH:=OwH.mono (RI.mono _) bP bH
      have bN:=od1 bP bN
      have bu:=rd1 bP bu
      have⟨bQ,bR,aZ⟩:=bind_some aZ
      refine Ch 0 m bH Z T24 f Z Z Z bR λbS a bT f=>B2 m bH bN sizeOf30 f Z Z bT λbU w m bV=>Aa ?_
      have m:=m.fr 2
      have m:=m.fr 3
      have m:Mem W bO w (ib af 26 [sn]::ib au 26 [an]::ib b0 93 [bt,(iv bm.2.2.1),(iv bm.2.2.2)]::bU::bz::H):=m.fr 4
      have m:Mem W bO w (ib af 26 [sn]::ib au 26 [an]::ib b0 93 [bt,(iv bm.2.2.1),(iv bm.2.2.2)]::bU::H):=m.eraseAt 4
      obtain rfl:=sj aZ
      exact⟨_,_,_,_,Z,_,bU,bt,(gt a8 (gt bf (gt bk (gt br (gt bw (gt bD bP)))))),f.k Z,m,bV,bu⟩
     ·intro bj w bk m bl bl
      have⟨bm,bn,aZ⟩:=bind_some aZ
      have⟨bJ,bK,aZ⟩:=bind_some aZ
      have⟨bQ,bR,aZ⟩:=bind_some aZ
      have aq:=od2 bk aq
      have aW:=rd1 bk aW
      have m:Mem W bj w (ib b0 93 [aV,(iv aO.2.2.1),(iv aO.2.2.2)]::ao::ib au 26 [an]::ib af 26 [sn]::H):=m.fr 1
      refine Ay f Z call54 (Wk.t m aW bn) λbo bp bq w br m bs a f=> ?_
      obtain⟨bt,rfl,rfl,bu⟩:=bs
      have aq:=od2 br aq
      refine Aa ?_
      refine bl bp [ib b0 93 [bt,(iv bm.2.2.1),(iv bm.2.2.2)],ao] _ _ br m ?_
      refine C8 (i:=7) (j:=10) (l1:= #[true,true,true,true,true,true,true,true,true,true,false,false,false,false]) (l2:= #[true,true,true,true,true,true,true,false,true,true,true,false,false,false]) Z Z (by kernel_rfl) Z Z ?_ ?_
      ·intro be w bf m bg bg
       have bu:=rd1 bf bu
       have aq:=od2 bf aq
       refine B5 1 m aq Z BO f Z Z bd bb λbh a bi f=>Aa ?_
       refine bg be [ib b0 93 [bt,(iv bm.2.2.1),(iv bm.2.2.2)],ao] _ _ gr m ?_
       refine Bk 10 Z λbv w bw m bx bx=> ?_
       have bu:=rd1 bw bu
       have aq:=od2 bw aq
       refine AI (R:=R0) (xs:=([bm.1]:LI)) (RI.one _) m T30 f Z Z Z (by decide) (All2.cons Z (All2.nil _)) λbz bA w a m bB f=>Aa ?_
       refine bx bv [bz,ib b0 93 [bt,(iv bm.2.2.1),(iv bm.2.2.2)],ao] _ _ gr m ?_
       refine Bk 11 Z λbC w bD m bE bE=> ?_
       have bB:=od1 bD bB
       have bu:=rd1 bD bu
       have aq:=od2 bD aq
       have m:Mem W bC w (ao::bz::ib b0 93 [bt,(iv bm.2.2.1),(iv bm.2.2.2)]::ib au 26 [an]::ib af 26 [sn]::H):=m.fr 2
       obtain⟨bF,bG,m,bH,bI⟩:=Ow2.out aq m bb bi
       refine AP (RI.one _) 1 m bI Z T30 Z (by decide) f Z Z Z (Ow.src (j:=2) bB m Z) bK λbL bM w a m bN f=>Aa ?_
       refine bE bC [bF,bL,bz,ib b0 93 [bt,(iv bm.2.2.1),(iv bm.2.2.2)]] _ _ gr m ?_
       refine A2 λbO w bP m=> ?_
       have bH:=OwH.mono (RI.mono _) bP bH
       have bN:=od1 bP bN
       have bu:=rd1 bP bu
       refine Ch 0 m bH Z T24 f Z Z Z bR λbS a bT f=>B2 m bH bN sizeOf30 f Z Z bT λbU w m bV=>Aa ?_
       have m:=m.fr 2
       have m:=m.fr 3
       have m:Mem W bO w (ib af 26 [sn]::ib au 26 [an]::ib b0 93 [bt,(iv bm.2.2.1),(iv bm.2.2.2)]::bU::bz::H):=m.fr 4
       have m:Mem W bO w (ib af 26 [sn]::ib au 26 [an]::ib b0 93 [bt,(iv bm.2.2.1),(iv bm.2.2.2)]::bU::H):=m.eraseAt 4
       obtain rfl:=sj aZ
       exact⟨_,_,_,_,Z,_,bU,bt,(gt a8 (gt bk (gt br (gt bf (gt bw (gt bD bP)))))),f.k Z,m,bV,bu⟩
      ·intro bv w bw m bx bx
       have bu:=rd1 bw bu
       have aq:=od2 bw aq
       refine AI (R:=R0) (xs:=([bm.1]:LI)) (RI.one _) m T30 f Z Z Z (by decide) (All2.cons Z (All2.nil _)) λbz bA w a m bB f=>Aa ?_
       refine bx bv [bz,ib b0 93 [bt,(iv bm.2.2.1),(iv bm.2.2.2)],ao] _ _ gr m ?_
       refine Bk 7 Z λbe w bf m bg bg=> ?_
       have bB:=od1 bf bB
       have bu:=rd1 bf bu
       have aq:=od2 bf aq
       refine B5 2 m aq Z BO f Z Z bd bb λbh a bi f=>Aa ?_
       refine bg be [bz,ib b0 93 [bt,(iv bm.2.2.1),(iv bm.2.2.2)],ao] _ _ gr m ?_
       refine Bk 11 Z λbC w bD m bE bE=> ?_
       have bB:=od1 bD bB
       have bu:=rd1 bD bu
       have aq:=od2 bD aq
       have m:Mem W bC w (ao::bz::ib b0 93 [bt,(iv bm.2.2.1),(iv bm.2.2.2)]::ib au 26 [an]::ib af 26 [sn]::H):=m.fr 2
       obtain⟨bF,bG,m,bH,bI⟩:=Ow2.out aq m bb bi
       refine AP (RI.one _) 1 m bI Z T30 Z (by decide) f Z Z Z (Ow.src (j:=2) bB m Z) bK λbL bM w a m bN f=>Aa ?_
       refine bE bC [bF,bL,bz,ib b0 93 [bt,(iv bm.2.2.1),(iv bm.2.2.2)]] _ _ gr m ?_
       refine A2 λbO w bP m=> ?_
       have bH:=OwH.mono (RI.mono _) bP bH
       have bN:=od1 bP bN
       have bu:=rd1 bP bu
       refine Ch 0 m bH Z T24 f Z Z Z bR λbS a bT f=>B2 m bH bN sizeOf30 f Z Z bT λbU w m bV=>Aa ?_
       have m:=m.fr 2
       have m:=m.fr 3
       have m:Mem W bO w (ib af 26 [sn]::ib au 26 [an]::ib b0 93 [bt,(iv bm.2.2.1),(iv bm.2.2.2)]::bU::bz::H):=m.fr 4
       have m:Mem W bO w (ib af 26 [sn]::ib au 26 [an]::ib b0 93 [bt,(iv bm.2.2.1),(iv bm.2.2.2)]::bU::H):=m.eraseAt 4
       obtain rfl:=sj aZ
       exact⟨_,_,_,_,Z,_,bU,bt,(gt a8 (gt bk (gt br (gt bw (gt bf (gt bD bP)))))),f.k Z,m,bV,bu⟩
    ·intro bj w bk m bl bl
     have⟨ba,bb,aZ⟩:=bind_some aZ
     have⟨bm,bn,aZ⟩:=bind_some aZ
     have⟨bJ,bK,aZ⟩:=bind_some aZ
     have⟨bQ,bR,aZ⟩:=bind_some aZ
     have aq:=od2 bk aq
     have aW:=rd1 bk aW
     have m:Mem W bj w (ib b0 93 [aV,(iv aO.2.2.1),(iv aO.2.2.2)]::ao::ib au 26 [an]::ib af 26 [sn]::H):=m.fr 1
     refine Ay f Z call54 (Wk.t m aW bn) λbo bp bq w br m bs a f=> ?_
     obtain⟨bt,rfl,rfl,bu⟩:=bs
     have aq:=od2 br aq
     refine Aa ?_
     refine bl bp [ib b0 93 [bt,(iv bm.2.2.1),(iv bm.2.2.2)],ao] _ _ br m ?_
     refine C8 (i:=6) (j:=10) (l1:= #[true,true,true,true,true,true,true,false,true,true,false,false,false,false]) (l2:= #[true,true,true,true,true,true,false,false,true,true,true,false,false,false]) Z Z (by kernel_rfl) Z Z ?_ ?_
     ·intro a7 w a8 m a9 a9
      have bu:=rd1 a8 bu
      have aq:=od2 a8 aq
      refine Ct 1 m aq Z T24 f Z Z Z bb λbc a bd f=>Aa ?_
      refine a9 a7 [ib b0 93 [bt,(iv bm.2.2.1),(iv bm.2.2.2)],ao] _ _ gr m ?_
      refine C8 (i:=7) (j:=10) (l1:= #[true,true,true,true,true,true,true,true,true,true,false,false,false,false]) (l2:= #[true,true,true,true,true,true,true,false,true,true,true,false,false,false]) Z Z (by kernel_rfl) Z Z ?_ ?_
      ·intro be w bf m bg bg
       have bu:=rd1 bf bu
       have aq:=od2 bf aq
       refine B5 1 m aq Z BO f Z Z bd bb λbh a bi f=>Aa ?_
       refine bg be [ib b0 93 [bt,(iv bm.2.2.1),(iv bm.2.2.2)],ao] _ _ gr m ?_
       refine Bk 10 Z λbv w bw m bx bx=> ?_
       have bu:=rd1 bw bu
       have aq:=od2 bw aq
       refine AI (R:=R0) (xs:=([bm.1]:LI)) (RI.one _) m T30 f Z Z Z (by decide) (All2.cons Z (All2.nil _)) λbz bA w a m bB f=>Aa ?_
       refine bx bv [bz,ib b0 93 [bt,(iv bm.2.2.1),(iv bm.2.2.2)],ao] _ _ gr m ?_
       refine Bk 11 Z λbC w bD m bE bE=> ?_
       have bB:=od1 bD bB
       have bu:=rd1 bD bu
       have aq:=od2 bD aq
       have m:Mem W bC w (ao::bz::ib b0 93 [bt,(iv bm.2.2.1),(iv bm.2.2.2)]::ib au 26 [an]::ib af 26 [sn]::H):=m.fr 2
       obtain⟨bF,bG,m,bH,bI⟩:=Ow2.out aq m bb bi
       refine AP (RI.one _) 1 m bI Z T30 Z (by decide) f Z Z Z (Ow.src (j:=2) bB m Z) bK λbL bM w a m bN f=>Aa ?_
       refine bE bC [bF,bL,bz,ib b0 93 [bt,(iv bm.2.2.1),(iv bm.2.2.2)]] _ _ gr m ?_
       refine A2 λbO w bP m=> ?_
       have bH:=OwH.mono (RI.mono _) bP bH
       have bN:=od1 bP bN
       have bu:=rd1 bP bu
       refine Ch 0 m bH Z T24 f Z Z Z bR λbS a bT f=>B2 m bH bN sizeOf30 f Z Z bT λbU w m bV=>Aa ?_
       have m:=m.fr 2
       have m:=m.fr 3
       have m:Mem W bO w (ib af 26 [sn]::ib au 26 [an]::ib b0 93 [bt,(iv bm.2.2.1),(iv bm.2.2.2)]::bU::bz::H):=m.fr 4
       have m:Mem W bO w (ib af 26 [sn]::ib au 26 [an]::ib b0 93 [bt,(iv bm.2.2.1),(iv bm.2.2.2)]::bU::H):=m.eraseAt 4
       obtain rfl:=sj aZ
       exact⟨_,_,_,_,Z,_,bU,bt,(gt bk (gt br (gt a8 (gt bf (gt bw (gt bD bP)))))),f.k Z,m,bV,bu⟩
      ·intro bv w bw m bx bx
       have bu:=rd1 bw bu
       have aq:=od2 bw aq
       refine AI (R:=R0) (xs:=([bm.1]:LI)) (RI.one _) m T30 f Z Z Z (by decide) (All2.cons Z (All2.nil _)) λbz bA w a m bB f=>Aa ?_
       refine bx bv [bz,ib b0 93 [bt,(iv bm.2.2.1),(iv bm.2.2.2)],ao] _ _ gr m ?_
       refine Bk 7 Z λbe w bf m bg bg=> ?_
       have bB:=od1 bf bB
       have bu:=rd1 bf bu
       have aq:=od2 bf aq
       refine B5 2 m aq Z BO f Z Z bd bb λbh a bi f=>Aa ?_
       refine bg be [bz,ib b0 93 [bt,(iv bm.2.2.1),(iv bm.2.2.2)],ao] _ _ gr m ?_
       refine Bk 11 Z λbC w bD m bE bE=> ?_
       have bB:=od1 bD bB
       have bu:=rd1 bD bu
       have aq:=od2 bD aq
       have m:Mem W bC w (ao::bz::ib b0 93 [bt,(iv bm.2.2.1),(iv bm.2.2.2)]::ib au 26 [an]::ib af 26 [sn]::H):=m.fr 2
       obtain⟨bF,bG,m,bH,bI⟩:=Ow2.out aq m bb bi
       refine AP (RI.one _) 1 m bI Z T30 Z (by decide) f Z Z Z (Ow.src (j:=2) bB m Z) bK λbL bM w a m bN f=>Aa ?_
       refine bE bC [bF,bL,bz,ib b0 93 [bt,(iv bm.2.2.1),(iv bm.2.2.2)]] _ _ gr m ?_
       refine A2 λbO w bP m=> ?_
       have bH:=OwH.mono (RI.mono _) bP bH
       have bN:=od1 bP bN
       have bu:=rd1 bP bu
       refine Ch 0 m bH Z T24 f Z Z Z bR λbS a bT f=>B2 m bH bN sizeOf30 f Z Z bT λbU w m bV=>Aa ?_
       have m:=m.fr 2
       have m:=m.fr 3
       have m:Mem W bO w (ib af 26 [sn]::ib au 26 [an]::ib b0 93 [bt,(iv bm.2.2.1),(iv bm.2.2.2)]::bU::bz::H):=m.fr 4
       have m:Mem W bO w (ib af 26 [sn]::ib au 26 [an]::ib b0 93 [bt,(iv bm.2.2.1),(iv bm.2.2.2)]::bU::H):=m.eraseAt 4
       obtain rfl:=sj aZ
       exact⟨_,_,_,_,Z,_,bU,bt,(gt bk (gt br (gt a8 (gt bw (gt bf (gt bD bP)))))),f.k Z,m,bV,bu⟩
     ·intro bv w bw m bx bx
      have bu:=rd1 bw bu
      have aq:=od2 bw aq
      refine AI (R:=R0) (xs:=([bm.1]:LI)) (RI.one _) m T30 f Z Z Z (by decide) (All2.cons Z (All2.nil _)) λbz bA w a m bB f=>Aa ?_
      refine bx bv [bz,ib b0 93 [bt,(iv bm.2.2.1),(iv bm.2.2.2)],ao] _ _ gr m ?_
      refine Bk 6 Z λa7 w a8 m a9 a9=> ?_
      have bB:=od1 a8 bB
      have bu:=rd1 a8 bu
      have aq:=od2 a8 aq
      refine Ct 2 m aq Z T24 f Z Z Z bb λbc a bd f=>Aa ?_
      refine a9 a7 [bz,ib b0 93 [bt,(iv bm.2.2.1),(iv bm.2.2.2)],ao] _ _ gr m ?_
      refine Bk 7 Z λbe w bf m bg bg=> ?_
      have bB:=od1 bf bB
      have bu:=rd1 bf bu
      have aq:=od2 bf aq
      refine B5 2 m aq Z BO f Z Z bd bb λbh a bi f=>Aa ?_
      refine bg be [bz,ib b0 93 [bt,(iv bm.2.2.1),(iv bm.2.2.2)],ao] _ _ gr m ?_
      refine Bk 11 Z λbC w bD m bE bE=> ?_
      have bB:=od1 bD bB
      have bu:=rd1 bD bu
      have aq:=od2 bD aq
      have m:Mem W bC w (ao::bz::ib b0 93 [bt,(iv bm.2.2.1),(iv bm.2.2.2)]::ib au 26 [an]::ib af 26 [sn]::H):=m.fr 2
      obtain⟨bF,bG,m,bH,bI⟩:=Ow2.out aq m bb bi
      refine AP (RI.one _) 1 m bI Z T30 Z (by decide) f Z Z Z (Ow.src (j:=2) bB m Z) bK λbL bM w a m bN f=>Aa ?_
      refine bE bC [bF,bL,bz,ib b0 93 [bt,(iv bm.2.2.1),(iv bm.2.2.2)]] _ _ gr m ?_
      refine A2 λbO w bP m=> ?_
      have bH:=OwH.mono (RI.mono _) bP bH
      have bN:=od1 bP bN
      have bu:=rd1 bP bu
      refine Ch 0 m bH Z T24 f Z Z Z bR λbS a bT f=>B2 m bH bN sizeOf30 f Z Z bT λbU w m bV=>Aa ?_
      have m:=m.fr 2
      have m:=m.fr 3
      have m:Mem W bO w (ib af 26 [sn]::ib au 26 [an]::ib b0 93 [bt,(iv bm.2.2.1),(iv bm.2.2.2)]::bU::bz::H):=m.fr 4
      have m:Mem W bO w (ib af 26 [sn]::ib au 26 [an]::ib b0 93 [bt,(iv bm.2.2.1),(iv bm.2.2.2)]::bU::H):=m.eraseAt 4
      obtain rfl:=sj aZ
      exact⟨_,_,_,_,Z,_,bU,bt,(gt bk (gt br (gt bw (gt a8 (gt bf (gt bD bP)))))),f.k Z,m,bV,bu⟩
   ·rintro a w ⟨a0,a1,a2,a3,rfl,a4,a5,a6,bW,f,m,bX,bY⟩
    refine Af ?_
    refine Ar 1 0 (ds:=[an]) m AO f Z Z Z Z Z λa f=>Am 0 0 (ds:=[an]) m sizeOf26 f Z Z Z (Ah (Ow2.one1 3 m bX Z) Ap) Z (lb Z) Z λw m=>Aa ?_
    refine Ao ?_
    have bZ:=A9 (P:=prog) 0 m AO f (s:=2) rfl rfl rfl
    have m:=m.fr 2
    have m:=m.fr 3
    have m:Mem W a4 w (a5::ib b0 93 [a6,(iv a2),(iv a3)]::ib af 26 [an]::H):=m.eraseAt 3
    have m:=m.eraseAt 2
    obtain rfl:=sj hd
    exact⟨[(.agg #[an])],⟨bZ,trivial⟩,f.d,_,[a5,ib b0 93 [a6,(iv a2),(iv a3)]],(gt al (gt aA (gt aK (gt aT bW)))),m,_,_,_,Z,Z,bX,bY⟩
  ·refine Ag f Z aX ?_
   refine Af ?_
   refine Aj f Z Z AH λa f=>Ac f Z λa f=>Aa ?_
   rcases Ae hd with⟨b1,hd⟩|⟨b1,hd⟩
   ·refine Al f Z b1 ?_
    refine Ai ?_
    refine Az underlying26 Z sizeOf24 f Z λa f=>An 1 0 m Bx f Z Z Z Z λa f=>Ab f Z λa f=>Ab f Z λa f=>AI (R:=R0) (xs:=([aF.1]:LI)) (RI.one _) m T30 f Z Z Z (by decide) (All2.cons Z (All2.nil _)) λb2 b3 w a m b4 f=> ?_
    have⟨b5,b6,hd⟩:=bind_some hd
    refine Ct 3 m aq Z T24 f Z Z Z b6 λb7 a b8 f=> ?_
    have m:Mem W aR w (ao::b2::ib b0 93 [aV,(iv aO.2.2.1),(iv aO.2.2.2)]::ib au 26 [an]::ib af 26 [sn]::H):=m.fr 3
    refine D7 m aq b4 sizeOf30 f Z Z b8 b6 λb9 w m ca=>AD ?_
    refine Ar 2 0 (ds:=[an]) m AO f Z Z Z Z Z λa f=>Am 3 0 (ds:=[an]) m sizeOf26 f Z Z Z (Ah (Ow2.one1 0 m ca Z) Ap) Z (lb Z) Z λw m=>Aa ?_
    refine Ao ?_
    have cb:=A9 (P:=prog) 3 m AO f (s:=2) rfl rfl rfl
    have m:=m.eraseAt 3
    have m:Mem W aR w (b9::ib b0 93 [aV,(iv aO.2.2.1),(iv aO.2.2.2)]::H):=m.eraseAt 2
    obtain rfl:=sj hd
    exact⟨[(.agg #[an])],⟨cb,trivial⟩,f.d,_,[b9,ib b0 93 [aV,(iv aO.2.2.1),(iv aO.2.2.2)]],(gt al (gt aA (gt aK aT))),m,_,_,_,Z,Z,ca,aW⟩
   ·refine Ag f Z b1 ?_
    refine Af ?_
    refine Aj f Z Z AH λa f=>Ac f Z λa f=>Aa ?_
    rcases Ae hd with⟨cc,hd⟩|⟨cc,hd⟩
    ·refine Al f Z cc ?_
     refine Ai ?_
     refine Ab f Z λa f=> ?_
     have⟨cd,ce,hd⟩:=bind_some hd
     refine Ay f Z call22 (Wk.a m aW ce) λcf cg ch w ci m cj a f=> ?_
     obtain⟨ck,rfl,rfl,cl⟩:=cj
     refine Aj f Z Z AA λa f=> ?_
     have⟨cm,cn,hd⟩:=bind_some hd
     refine Ay f Z call72 (Wk.J m cn) λco cp cq w cr m ct a f=> ?_
     obtain⟨cu,cv,rfl,rfl,cw⟩:=ct
     have cl:=rd1 cr cl
     refine Am 2 0 (ds:=[cu]) m sizeOf26 f Z Z Z (Ah (Ow2.one1 0 m cw Z) Ap) Z (lb Z) Z λw m=>AD ?_
     refine Ar 2 0 (ds:=[cu]) m AO f Z Z Z Z Z λa f=>Am 4 0 (ds:=[cu]) m sizeOf26 f Z Z Z (Ah (Ow2.one1 0 m cw Z) Ap) Z (lb Z) Z λw m=>Aa ?_
     refine Ao ?_
     have cx:=A9 (P:=prog) 4 m AO f (s:=2) rfl rfl rfl
     have m:=m.fr 3
     have m:=m.fr 2
     have m:Mem W cp w (cv::ib b0 93 [ck,(iv cd.2.2.1),(iv cd.2.2.2)]::ao::ib au 26 [cu]::ib af 26 [cu]::H):=m.fr 2
     have m:=m.eraseAt 4
     have m:=m.eraseAt 3
     have m:Mem W cp w (cv::ib b0 93 [ck,(iv cd.2.2.1),(iv cd.2.2.2)]::H):=m.eraseAt 2
     obtain rfl:=sj hd
     exact⟨[(.agg #[cu])],⟨cx,trivial⟩,f.d,_,[cv,ib b0 93 [ck,(iv cd.2.2.1),(iv cd.2.2.2)]],(gt al (gt aA (gt aK (gt aT (gt ci cr))))),m,_,_,_,Z,Z,cw,cl⟩
    ·refine Ag f Z cc ?_
     refine Af ?_
     refine Aj f Z Z AH λa f=>Ac f Z λa f=>Aa ?_
     rcases Ae hd with⟨cy,hd⟩|⟨cy,hd⟩
     ·refine Al f Z cy ?_
      refine Ai ?_
      have cz:∀w,(Instr.build 26 #[]).run prog w= .ok (.agg #[sn]) w:=by intro w;simp[Instr.build,Instr.fill,A7,AX,AN,AS,AG,A6]
      refine Bn f Z Z cz λa f=>Am 1 0 (ds:=[sn]) m sizeOf26 f Z Z Z (Ah Z Ap) Z (lb Z) Z λw m=>AD ?_
      refine Ar 1 0 (ds:=[sn]) m AO f Z Z Z Z Z λa f=>Am 3 0 (ds:=[sn]) m sizeOf26 f Z Z Z (Ah Z Ap) Z (lb Z) Z λw m=>Aa ?_
      refine Ao ?_
      obtain⟨cA,m,cB⟩:=Ow2.nil R0 30 2 m
      have cC:=A9 (P:=prog) 4 m AO f (s:=2) rfl rfl rfl
      have m:=m.eraseAt 4
      have m:=m.eraseAt 3
      have m:Mem W aR w (cA::ib b0 93 [aV,(iv aO.2.2.1),(iv aO.2.2.2)]::H):=m.eraseAt 2
      obtain rfl:=sj hd
      exact⟨[(.agg #[sn])],⟨cC,trivial⟩,f.d,_,[cA,ib b0 93 [aV,(iv aO.2.2.1),(iv aO.2.2.2)]],(gt al (gt aA (gt aK aT))),m,_,_,_,Z,Z,cB,aW⟩
     ·refine Ag f Z cy ?_
      refine Af ?_
      refine Aj f Z Z AH λa f=>Ac f Z λa f=>Aa ?_
      rcases Ae hd with⟨cD,hd⟩|⟨cD,hd⟩
      ·refine Al f Z cD ?_
       refine Ai ?_
       refine Az underlying26 Z sizeOf24 f Z λa f=>An 1 0 m Bx f Z Z Z Z λa f=>Ab f Z λa f=>AI (R:=R0) (xs:=([]:LI)) (RI.one _) m T30 f Z Z Z (by decide) (All2.nil _) λcE cF w a m cG f=> ?_
       have⟨cH,cI,hd⟩:=bind_some hd
       refine Ct 3 m aq Z T24 f Z Z Z cI λcJ a cK f=> ?_
       have m:Mem W aR w (ao::cE::ib b0 93 [aV,(iv aO.2.2.1),(iv aO.2.2.2)]::ib au 26 [an]::ib af 26 [sn]::H):=m.fr 3
       refine D7 m aq cG sizeOf30 f Z Z cK cI λcL w m cM=>AD ?_
       refine Ar 2 0 (ds:=[an]) m AO f Z Z Z Z Z λa f=>Am 3 0 (ds:=[an]) m sizeOf26 f Z Z Z (Ah (Ow2.one1 0 m cM Z) Ap) Z (lb Z) Z λw m=>Aa ?_
       refine Ao ?_
       have cN:=A9 (P:=prog) 3 m AO f (s:=2) rfl rfl rfl
       have m:=m.eraseAt 3
       have m:Mem W aR w (cL::ib b0 93 [aV,(iv aO.2.2.1),(iv aO.2.2.2)]::H):=m.eraseAt 2
       obtain rfl:=sj hd
       exact⟨[(.agg #[an])],⟨cN,trivial⟩,f.d,_,[cL,ib b0 93 [aV,(iv aO.2.2.1),(iv aO.2.2.2)]],(gt al (gt aA (gt aK aT))),m,_,_,_,Z,Z,cM,aW⟩
      ·refine Ag f Z cD ?_
       refine Aq ?_
       refine Af ?_
       refine Ar 1 0 (ds:=[an]) m AO f Z Z Z Z Z λa f=>Am 3 0 (ds:=[an]) m sizeOf26 f Z Z Z (Ah (Ow2.one1 2 m aq Z) Ap) Z (lb Z) Z λw m=>Aa ?_
       refine Ao ?_
       have cO:=A9 (P:=prog) 3 m AO f (s:=2) rfl rfl rfl
       have m:=m.fr 2
       have m:=m.eraseAt 3
       have m:Mem W aR w (ao::ib b0 93 [aV,(iv aO.2.2.1),(iv aO.2.2.2)]::H):=m.eraseAt 2
       obtain rfl:=sj hd
       exact⟨[(.agg #[an])],⟨cO,trivial⟩,f.d,_,[ao,ib b0 93 [aV,(iv aO.2.2.1),(iv aO.2.2.2)]],(gt al (gt aA (gt aK aT))),m,_,_,_,Z,Z,aq,aW⟩
 ·refine Ag f Z aE ?_
  refine Aq ?_
  refine Af ?_
  refine Ar 1 0 (ds:=[an]) m AO f Z Z Z Z Z λa f=>Am 3 0 (ds:=[an]) m sizeOf26 f Z Z Z (Ah (Ow2.one1 2 m aq Z) Ap) Z (lb Z) Z λw m=>Aa ?_
  refine Ao ?_
  have cP:=A9 (P:=prog) 3 m AO f (s:=2) rfl rfl rfl
  have m:=m.fr 2
  have m:=m.eraseAt 3
  have m:=m.eraseAt 2
  obtain rfl:=sj hd
  exact⟨[(.agg #[an])],⟨cP,trivial⟩,f.d,_,[ao,ib b0 93 [aC,(iv av.2.2.1),(iv av.2.2.2)]],(gt al aA),m,_,_,_,Z,Z,aq,aD⟩
theorem Wk.P0 {b0:Nat}{aa:Value}{ab:LI}{ac ad:Int}(m:Mem W G w (ib b0 93 [aa,(iv ac),(iv ad)]::H))(ae:RSl (RI .u8) G aa ab){y:(LL)×(LI)×Int×Int}(hd:D.P0 ab ac ad=some y):
  Calls prog 20 #[(pb b0)] w (Res W G H (λG' Ho v=>∃r0:Value,∃i0:Itm,∃r2:Value,Ho=[i0,ib b0 93 [r2,(iv y.2.2.1),(iv y.2.2.2)]]∧v=(.agg #[r0])∧Ow2 R0 30 2 G' i0 r0 y.1∧RSl (RI .u8) G' r2 y.2.1)):=by
 refine Ax (args:=[(pb b0)]) (N:=12) [.cell 2 26] func20 Z Z (lb Z) Z λa f=> ?_
 unfold D.P0 at hd
 refine Af ?_
 refine AR (cs:=[sn]) zeroValue26 m f Z Z λaf w a m f=>Aa (Ak (Af ?_))
 refine Ab f Z λa f=> ?_
 have m:Mem W G w (ib b0 93 [aa,(iv ac),(iv ad)]::ib af 26 [sn]::H):=m.fr 1
 have⟨ag,ah,hd⟩:=bind_some hd
 refine Ay f Z call24 (Wk.d m ae ah) λai aj ak w al m am a f=> ?_
 obtain⟨an,rfl,rfl,ao⟩:=am
 refine Aa ?_
 rcases Ae hd with⟨ap,hd⟩|⟨ap,hd⟩
 ·refine Al f Z ap ?_
  refine Af ?_
  refine Ab f Z λa f=> ?_
  have⟨aq,ar,hd⟩:=bind_some hd
  refine Ay f Z call51 (Wk.E0 m ao ar) λau av aw w ax m ay a f=> ?_
  obtain⟨az,aA,aB,rfl,rfl,aC,aD⟩:=ay
  refine Am 2 0 (ds:=[az]) m sizeOf26 f Z Z Z (Ah (Ow2.one1 0 m aC Z) Ap) Z (lb Z) Z λw m=>Aa ?_
  refine Ao ?_
  have aE:=A9 (P:=prog) 2 m AO f (s:=2) rfl rfl rfl
  have m:=m.eraseAt 2
  obtain rfl:=sj hd
  exact⟨[(.agg #[az])],⟨aE,trivial⟩,f.d,_,[aA,ib b0 93 [aB,(iv aq.2.2.1),(iv aq.2.2.2)]],(gt al ax),m,_,_,_,Z,Z,aC,aD⟩
 ·refine Ag f Z ap ?_
  refine Aq ?_
  refine Af ?_
  refine Ab f Z λa f=>Ab f Z λa f=> ?_
  have⟨aF,aG,hd⟩:=bind_some hd
  refine Ay f Z call22 (Wk.a m ao aG) λaH aI aJ w aK m aL a f=> ?_
  obtain⟨aM,rfl,rfl,aN⟩:=aL
  refine Aj f Z Z AA λa f=> ?_
  have⟨aO,aP,hd⟩:=bind_some hd
  refine Ay f Z call52 (Wk.e0 m aN aP) λaQ aR aS w aT m aU a f=> ?_
  obtain⟨aV,aW,aX,rfl,rfl,aY,aZ⟩:=aU
  refine Am 2 0 (ds:=[aV]) m sizeOf26 f Z Z Z (Ah (Ow2.one1 0 m aY Z) Ap) Z (lb Z) Z λw m=>Aa ?_
  refine Ao ?_
  have a0:=A9 (P:=prog) 2 m AO f (s:=2) rfl rfl rfl
  have m:=m.eraseAt 2
  obtain rfl:=sj hd
  exact⟨[(.agg #[aV])],⟨a0,trivial⟩,f.d,_,[aW,ib b0 93 [aX,(iv aO.2.2.1),(iv aO.2.2.2)]],(gt al (gt aK aT)),m,_,_,_,Z,Z,aY,aZ⟩
theorem Wk.L0 {x0:Int}(m:Mem W G w (H)){y:((List (Int×Int×Int)))×Bool}(hd:D.L0 x0=some y):
  Calls prog 76 #[(iv x0)] w (Res W G H (λG' Ho v=>∃r0:Value,∃i0:Itm,Ho=[i0]∧v= .tuple #[(.agg #[r0]),(.bool y.2)]∧OwR P3 72 G' i0 r0 y.1)):=by
 refine Ax (args:=[(iv x0)]) (N:=60) [.cell 2 29,.tmp 3] func76 Z Z (lb Z) Z λa f=> ?_
 unfold D.L0 at hd
 refine Af ?_
 refine AR (cs:=[sn]) zeroValue29 m f Z Z λaa w a m f=>Ac f Z λa f=>AD ?_
 refine AI (R:=R0) (xs:=([1,0,1,7,1,0,4,1,0,7,0,2]:LI)) (RI.one _) m T30 f Z Z Z (by decide) (All2.cons Z (All2.cons Z (All2.cons Z (All2.cons Z (All2.cons Z (All2.cons Z (All2.cons Z (All2.cons Z (All2.cons Z (All2.cons Z (All2.cons Z (All2.cons Z (All2.nil _))))))))))))) λab ac w a m ad f=>AI (R:=R0) (xs:=([1,0,1,2,0,1,6,0,1,4,2,0,7,1,3,4,4,0,7,0,5]:LI)) (RI.one _) m T30 f Z Z Z (by decide) (All2.cons Z (All2.cons Z (All2.cons Z (All2.cons Z (All2.cons Z (All2.cons Z (All2.cons Z (All2.cons Z (All2.cons Z (All2.cons Z (All2.cons Z (All2.cons Z (All2.cons Z (All2.cons Z (All2.cons Z (All2.cons Z (All2.cons Z (All2.cons Z (All2.cons Z (All2.cons Z (All2.cons Z (All2.nil _)))))))))))))))))))))) λae af w a m ag f=>AI (R:=R0) (xs:=([1,0,1,1,0,2,1,1,2,5,0,1,5,3,2,7,2,4,7,1,5,7,0,6]:LI)) (RI.one _) m T30 f Z Z Z (by decide) (All2.cons Z (All2.cons Z (All2.cons Z (All2.cons Z (All2.cons Z (All2.cons Z (All2.cons Z (All2.cons Z (All2.cons Z (All2.cons Z (All2.cons Z (All2.cons Z (All2.cons Z (All2.cons Z (All2.cons Z (All2.cons Z (All2.cons Z (All2.cons Z (All2.cons Z (All2.cons Z (All2.cons Z (All2.cons Z (All2.cons Z (All2.cons Z (All2.nil _))))))))))))))))))))))))) λah ai w a m aj f=> ?_
 refine AI (R:=R0) (xs:=([3,0,0,3,1,0,5,0,1,4,0,0,4,1,0,5,3,4,6,2,5,1,0,1,5,7,6,7,1,8,7,0,9,4,10,0,8,0,11]:LI)) (RI.one _) m T30 f Z Z Z (by decide) (All2.cons Z (All2.cons Z (All2.cons Z (All2.cons Z (All2.cons Z (All2.cons Z (All2.cons Z (All2.cons Z (All2.cons Z (All2.cons Z (All2.cons Z (All2.cons Z (All2.cons Z (All2.cons Z (All2.cons Z (All2.cons Z (All2.cons Z (All2.cons Z (All2.cons Z (All2.cons Z (All2.cons Z (All2.cons Z (All2.cons Z (All2.cons Z (All2.cons Z (All2.cons Z (All2.cons Z (All2.cons Z (All2.cons Z (All2.cons Z (All2.cons Z (All2.cons Z (All2.cons Z (All2.cons Z (All2.cons Z (All2.cons Z (All2.cons Z (All2.cons Z (All2.cons Z (All2.nil _)))))))))))))))))))))))))))))))))))))))) λak al w a m am f=>AI (R:=R0) (xs:=([3,0,0,3,1,0,4,1,0,5,0,2,1,0,1,5,3,4,7,1,5,7,0,6,4,7,0,7,0,0,4,0,0,7,0,10,5,8,9,5,12,11,8,0,13]:LI)) (RI.one _) m T30 f Z Z Z (by decide) (All2.cons Z (All2.cons Z (All2.cons Z (All2.cons Z (All2.cons Z (All2.cons Z (All2.cons Z (All2.cons Z (All2.cons Z (All2.cons Z (All2.cons Z (All2.cons Z (All2.cons Z (All2.cons Z (All2.cons Z (All2.cons Z (All2.cons Z (All2.cons Z (All2.cons Z (All2.cons Z (All2.cons Z (All2.cons Z (All2.cons Z (All2.cons Z (All2.cons Z (All2.cons Z (All2.cons Z (All2.cons Z (All2.cons Z (All2.cons Z (All2.cons Z (All2.cons Z (All2.cons Z (All2.cons Z (All2.cons Z (All2.cons Z (All2.cons Z (All2.cons Z (All2.cons Z (All2.cons Z (All2.cons Z (All2.cons Z (All2.cons Z (All2.cons Z (All2.cons Z (All2.nil _)))))))))))))))))))))))))))))))))))))))))))))) λan ao w a m ap f=> ?_
 have m:=m.fr 4
 obtain⟨aq,ar,m,au⟩:=Ow.stamp (RI.mono _) ad m
 have ap:=od1 ar ap
 have am:=od1 ar am
 have aj:=od1 ar aj
 have ag:=od1 ar ag
 have m:=m.fr 3
 obtain⟨av,aw,m,ax⟩:=Ow.stamp (RI.mono _) ag m
 have au:=rd1 aw au
 have ap:=od1 aw ap
 have am:=od1 aw am
 have aj:=od1 aw aj
 have m:=m.fr 2
 obtain⟨ay,az,m,aA⟩:=Ow.stamp (RI.mono _) aj m
 have au:=rd1 az au
 have ax:=rd1 az ax
 have ap:=od1 az ap
 have am:=od1 az am
 have m:=m.fr 1
 obtain⟨aB,aC,m,aD⟩:=Ow.stamp (RI.mono _) am m
 have au:=rd1 aC au
 have ax:=rd1 aC ax
 have aA:=rd1 aC aA
 have ap:=od1 aC ap
 obtain⟨aE,aF,m,aG⟩:=Ow.stamp (RI.mono _) ap m
 have au:=rd1 aF au
 have ax:=rd1 aF ax
 have aA:=rd1 aF aA
 have aD:=rd1 aF aD
 refine AI (R:=R1) (xs:=([([1,0,1,7,1,0,4,1,0,7,0,2]:LI),([1,0,1,2,0,1,6,0,1,4,2,0,7,1,3,4,4,0,7,0,5]:LI),([1,0,1,1,0,2,1,1,2,5,0,1,5,3,2,7,2,4,7,1,5,7,0,6]:LI),([3,0,0,3,1,0,5,0,1,4,0,0,4,1,0,5,3,4,6,2,5,1,0,1,5,7,6,7,1,8,7,0,9,4,10,0,8,0,11]:LI),([3,0,0,3,1,0,4,1,0,5,0,2,1,0,1,5,3,4,7,1,5,7,0,6,4,7,0,7,0,0,4,0,0,7,0,10,5,8,9,5,12,11,8,0,13]:LI)]:LL)) (RSl.one _) m T24 f Z Z Z (by decide) (All2.cons au (All2.cons ax (All2.cons aA (All2.cons aD (All2.cons aG (All2.nil _)))))) λaH aI w a m aJ f=>Ac f Z λa f=>Aa (Ak (Af ?_))
 refine Ab f Z λa f=>Ab f Z λa f=>Cy 0 m aJ Z underlying24 f Z Z λa f=>Aj f Z Z Bw λa f=> ?_
 have⟨aK,aL,hd⟩:=bind_some hd
 refine Bb f Z call38 (Wk.b m aL) λaM w aN m a f=> ?_
 have aJ:=Ow.mono (RSl.mono (RI.mono _)) aN aJ
 refine l_o f (Br (f.e Z)) λa f=>Aa ?_
 rcases Ae hd with⟨aO,hd⟩|⟨aO,hd⟩
 ·refine Al f Z aO ?_
  refine Af ?_
  have aP:∀w,(Instr.build 29 #[]).run prog w= .ok (.agg #[sn]) w:=by intro w;simp[Instr.build,Instr.fill,A7,AX,AN,AS,AG,A6]
  refine Bn f Z Z aP λa f=>Am 1 0 (ds:=[sn]) m sizeOf29 f Z Z Z (Ah Z Ap) Z (lb Z) Z λw m=>Ac f Z λa f=>Aa ?_
  refine Ao ?_
  obtain⟨aQ,m,aR⟩:=OwR.nil P3 72 m
  have aS:=A9 (P:=prog) 2 m Bd f (s:=2) rfl rfl rfl
  have m:=m.eraseAt 2
  have m:=m.eraseAt 1
  obtain rfl:=sj hd
  exact⟨[(.agg #[sn]),(.bool false)],⟨aS,f.get _ _ Z,trivial⟩,f.d,_,[aQ],(gt ar (gt aw (gt az (gt aC (gt aF aN))))),m,_,_,Z,Z,aR⟩
 ·refine Ag f Z aO ?_
  refine Aq ?_
  refine Af ?_
  have aT:∀w,(Instr.build 29 #[]).run prog w= .ok (.agg #[sn]) w:=by intro w;simp[Instr.build,Instr.fill,A7,AX,AN,AS,AG,A6]
  refine Bn f Z Z aT λa f=>AR (cs:=[sn]) zeroValue29 m f Z Z λaU w a m f=>Am 0 0 (ds:=[sn]) m sizeOf29 f Z Z Z (Ah Z Ap) Z (lb Z) Z λw m=>Aa (Ak (Af ?_))
  refine Ac f Z λa f=>Aa ?_
  obtain⟨aV,m,aW⟩:=OwR.nil P3 72 m
  have⟨aX,aY,hd⟩:=bind_some hd
  refine AT (λa w=>∃aZ:List (Int×Int×Int),aZ=aX∧∃(a0:GH) (a1:Value) (a2:Itm),GLe aM a0∧Fr a 60 [(2,(pb aa)),(5,(pb aU))]∧Mem W a0 w (ib aa 29 [sn]::ib aU 29 [a1]::a2::H)∧OwR P3 72 a0 a2 a1 aZ) ?_ ?_
  ·refine As ?_
   have m:=m.fr 2
   have m:=m.fr 2
   have m:Mem W aM w (ib aa 29 [sn]::ib aU 29 [sn]::aH::aV::H):=m.fr 3
   refine A1 (λa3 a w=>∃a4:Int,∃a5:List (Int×Int×Int),(a4,a5)=a3∧∃(a6:GH) (a7:Value) (a8:Itm),GLe aM a6∧Fr a 60 [(0,(iv x0)),(2,(pb aa)),(4,aI),(5,(pb aU)),(6,(iv a4))]∧Mem W a6 w (ib aa 29 [sn]::ib aU 29 [a7]::aH::a8::H)∧OwR P3 72 a6 a8 a7 a5) aY ⟨_,_,Z,_,sn,aV,gr,f.k Z,m,aW⟩ ?_
   clear aY f m
   rintro a3 a9 ba bb a w ⟨a4,a5,rfl,a6,a7,a8,bc,f,m,bd⟩
   have aJ:=Ow.mono (RSl.mono (RI.mono _)) bc aJ
   refine Ak (Af ?_)
   refine Ab f Z λa f=>Ab f Z λa f=>Ab f Z λa f=> ?_
   have⟨be,bf,ba⟩:=bind_some ba
   refine BQ 2 m aJ Z T24 f Z Z Z bf λbg a bh f=>BM 2 m aJ Z BO f Z Z bh bf λbi a bj f=>Bc underlying30 f Z Z bj λa f=>Aj f Z Z A3 λa f=>Aa ?_
   rcases Ae ba with⟨bk,ba⟩|⟨bk,ba⟩
   ·refine Al f Z bk ?_
    refine Aq ?_
    refine Ak (As ?_)
    refine Bl 27 AQ (by kernel_rfl) m ?_
    refine A5 0 27 underlying29 Z sizeOf27 Z f Z λa f=>Be 1 27 1 BG Z Z Z f Z λa f=>AE 2 27 Z f Z λa f=>AE 3 27 Z f Z λa f=> ?_
    have⟨bl,bm,ba⟩:=bind_some ba
    refine Cw 4 27 2 m aJ T24 bm Z f Z Z λbn a bo f=>CI 5 27 2 aJ BO bo bm Z f Z λbp a bq f=>AE 6 27 Z f Z λa f=> ?_
    have⟨br,bs,ba⟩:=bind_some ba
    refine BU 7 27 T30 bq bs Z f Z Z λbt bu a bv bw f=> ?_
    subst bw
    refine BV 8 27 Pl2 bv Z f Z λa f=>AE 9 27 Z f Z λa f=>AE 10 27 Z f Z λa f=> ?_
    have⟨bx,bz,ba⟩:=bind_some ba
    refine Cw 11 27 2 m aJ T24 bz Z f Z Z λbA a bB f=>CI 12 27 2 aJ BO bB bz Z f Z λbC a bD f=>AE 13 27 Z f Z λa f=>q_p 14 27 Z f (λ_=>Bo (f.e Z) (f.e Z) AA) λa f=> ?_
    have⟨bE,bF,ba⟩:=bind_some ba
    refine BU 15 27 T30 bD bF Z f Z Z λbG bH a bI bJ f=> ?_
    subst bJ
    refine BV 16 27 Pl2 bI Z f Z λa f=>AE 17 27 Z f Z λa f=>AE 18 27 Z f Z λa f=> ?_
    have⟨bK,bL,ba⟩:=bind_some ba
    refine Cw 19 27 2 m aJ T24 bL Z f Z Z λbM a bN f=>CI 20 27 2 aJ BO bN bL Z f Z λbO a bP f=>AE 21 27 Z f Z λa f=>q_p 22 27 Z f (λ_=>Bo (f.e Z) (f.e Z) AA) λa f=> ?_
    have⟨bQ,bR,ba⟩:=bind_some ba
    refine BU 23 27 T30 bP bR Z f Z Z λbS bT a bU bV f=> ?_
    subst bV
    refine BV 24 27 Pl2 bU Z f Z λa f=>Bk 25 Z λbW w bX m bY bY=> ?_
    have bd:=OwR.mono trivial bX bd
    have bZ:∀w,(Instr.build 72 #[(0,(iv br)),(1,(iv bE)),(2,(iv bQ))]).run prog w= .ok (.agg #[(iv br),(iv bE),(iv bQ)]) w:=by intro w;simp[Instr.build,Instr.fill,A7,AX,AN,AS,AG,A6]
    refine Bn f Z Z bZ λa f=>Aa ?_
    refine bY bW [] _ _ gr m ?_
    refine Bk 26 Z λb0 w b1 m b2 b2=> ?_
    have bd:=OwR.mono trivial b1 bd
    refine Cd (E:=P3) (y:=(br,bE,bQ)) (cs:=[(iv br),(iv bE),(iv bQ)]) m T27 f Z Z Z (lb Z) λb3 b4 w a m b5 f=>Aa ?_
    refine b2 b0 [b3] _ _ gr m ?_
    refine A2 λb6 w b7 m=> ?_
    have b5:=OwR.mono trivial b7 b5
    have bd:=OwR.mono trivial b7 bd
    have⟨b8,b9,ba⟩:=bind_some ba
    refine BZ (E:=P3) (z:= .agg #[(iv 0),(iv 0),(iv 0)]) 4 0 m bd Z b5 Z (by simp) T27 Z (by decide) f Z Z Z b9 λca cb w a m cc f=>Az underlying29 Z sizeOf27 f Z λa f=>Am 2 0 (ds:=[cb]) m sizeOf27 f Z Z (OwR.cells 4 m cc Z) (Ah (OwR.one1 4 m cc Z) Ap) Z (lb Z) Z λw m=>Aa (Ai ?_)
    refine Ab f Z λa f=>Aj f Z Z AA λa f=>Ac f Z λa f=>Aa ?_
    have m:=m.fr 4
    have m:=m.fr 4
    have m:Mem W b6 w (ib aU 29 [cb]::aH::ca::b3::ib aa 29 [sn]::H):=m.fr 4
    have m:=m.fr 4
    have m:Mem W b6 w (ib aa 29 [sn]::ib aU 29 [cb]::aH::ca::H):=m.eraseAt 4
    obtain rfl:=sj ba
    exact⟨_,Z,_,_,Z,_,cb,ca,(gt bc (gt bX (gt b1 b7))),f.k Z,m,cc⟩
   ·refine Ag f Z bk ?_
    refine AZ Z ?_
    have m:=m.fr 3
    have m:=m.fr 2
    have m:Mem W a6 w (ib aa 29 [sn]::ib aU 29 [a7]::a8::aH::H):=m.fr 2
    have m:=m.eraseAt 3
    obtain rfl:=sj ba
    obtain rfl:=bb _ rfl
    exact⟨_,Z,_,a7,a8,bc,f.k Z,m,bd⟩
  ·rintro a w ⟨aZ,rfl,a0,a1,a2,cd,f,m,ce⟩
   refine Af ?_
   refine Ar 1 0 (ds:=[a1]) m Bd f Z Z Z Z Z λa f=>Am 0 0 (ds:=[a1]) m sizeOf29 f Z Z Z (Ah (OwR.one1 2 m ce Z) Ap) Z (lb Z) Z λw m=>Ac f Z λa f=>Aa ?_
   refine Ao ?_
   have cf:=A9 (P:=prog) 0 m Bd f (s:=2) rfl rfl rfl
   have m:=m.fr 2
   have m:=m.eraseAt 2
   have m:=m.eraseAt 1
   obtain rfl:=sj hd
   exact⟨[(.agg #[a1]),(.bool true)],⟨cf,f.get _ _ Z,trivial⟩,f.d,_,[a2],(gt ar (gt aw (gt az (gt aC (gt aF (gt aN cd)))))),m,_,_,Z,Z,ce⟩
theorem Wk.g {b0:Nat}{aa:Value}{ab:LI}{ac ad:Int}(m:Mem W G w (ib b0 93 [aa,(iv ac),(iv ad)]::H))(ae:RSl (RI .u8) G aa ab){y:((List (Int×Int×Int)))×(LI)×Int×Int}(hd:D.g ab ac ad=some y):
  Calls prog 53 #[(pb b0)] w (Res W G H (λG' Ho v=>∃r0:Value,∃i0:Itm,∃r2:Value,Ho=[i0,ib b0 93 [r2,(iv y.2.2.1),(iv y.2.2.2)]]∧v=(.agg #[r0])∧OwR P3 72 G' i0 r0 y.1∧RSl (RI .u8) G' r2 y.2.1)):=by
 refine Ax (args:=[(pb b0)]) (N:=94) [.cell 2 29] func53 Z Z (lb Z) Z λa f=> ?_
 unfold D.g at hd
 refine Af ?_
 refine AR (cs:=[sn]) zeroValue29 m f Z Z λaf w a m f=>Aa (Ak (Af ?_))
 refine Ab f Z λa f=> ?_
 have m:Mem W G w (ib b0 93 [aa,(iv ac),(iv ad)]::ib af 29 [sn]::H):=m.fr 1
 have⟨ag,ah,hd⟩:=bind_some hd
 refine Ay f Z call24 (Wk.d m ae ah) λai aj ak w al m am a f=> ?_
 obtain⟨an,rfl,rfl,ao⟩:=am
 refine Aa ?_
 rcases Ae hd with⟨ap,hd⟩|⟨ap,hd⟩
 ·refine Al f Z ap ?_
  refine Af ?_
  refine Ab f Z λa f=> ?_
  have⟨aq,ar,hd⟩:=bind_some hd
  refine Ay f Z call22 (Wk.a m ao ar) λau av aw w ax m ay a f=> ?_
  obtain⟨az,rfl,rfl,aA⟩:=ay
  have⟨aB,aC,hd⟩:=bind_some hd
  refine Ay f Z call76 (Wk.L0 m aC) λaD aE aF w aG m aH a f=> ?_
  obtain⟨aI,aJ,rfl,rfl,aK⟩:=aH
  have aA:=rd1 aG aA
  refine Ab f Z λa f=>l_o f (Bm (f.e Z) Z) λa f=>l_o f (Bm (f.e Z) Z) λa f=>AR (cs:=[sn]) zeroValue29 m f Z Z λaL w a m f=>Am 0 0 (ds:=[aI]) m sizeOf29 f Z Z Z (Ah (OwR.one1 1 m aK Z) Ap) Z (lb Z) Z λw m=>Ac f Z λa f=>AD ?_
  refine Ar 0 0 (ds:=[aI]) m Bd f Z Z Z Z Z λa f=>Am 3 0 (ds:=[aI]) m sizeOf29 f Z Z Z (Ah (OwR.one1 1 m aK Z) Ap) Z (lb Z) Z λw m=>Aa ?_
  refine Ao ?_
  have aM:=A9 (P:=prog) 3 m Bd f (s:=2) rfl rfl rfl
  have m:=m.fr 2
  have m:=m.fr 2
  have m:Mem W aE w (aJ::ib b0 93 [az,(iv aq.2.2.1),(iv aq.2.2.2)]::ib aL 29 [aI]::H):=m.eraseAt 3
  have m:=m.eraseAt 2
  obtain rfl:=sj hd
  exact⟨[(.agg #[aI])],⟨aM,trivial⟩,f.d,_,[aJ,ib b0 93 [az,(iv aq.2.2.1),(iv aq.2.2.2)]],(gt al (gt ax aG)),m,_,_,_,Z,Z,aK,aA⟩
 ·refine Ag f Z ap ?_
  refine Aq ?_
  refine Af ?_
  have aN:∀w,(Instr.build 29 #[]).run prog w= .ok (.agg #[sn]) w:=by intro w;simp[Instr.build,Instr.fill,A7,AX,AN,AS,AG,A6]
  refine Bn f Z Z aN λa f=>AR (cs:=[sn]) zeroValue29 m f Z Z λaO w a m f=>Am 0 0 (ds:=[sn]) m sizeOf29 f Z Z Z (Ah Z Ap) Z (lb Z) Z λw m=>AD ?_
  refine Ac f Z λa f=>Aa (Ak (Af ?_))
  refine Ab f Z λa f=> ?_
  have m:Mem W aj w (ib b0 93 [an,(iv ag.2.2.1),(iv ag.2.2.2)]::ib aO 29 [sn]::ib af 29 [sn]::H):=m.fr 1
  have⟨aP,aQ,hd⟩:=bind_some hd
  refine Ay f Z call22 (Wk.a m ao aQ) λaR aS aT w aU m aV a f=> ?_
  obtain⟨aW,rfl,rfl,aX⟩:=aV
  refine Aj f Z Z AA λa f=>Ac f Z λa f=>Aa ?_
  obtain⟨aY,m,aZ⟩:=OwR.nil P3 72 m
  have⟨a0,a1,hd⟩:=bind_some hd
  refine AT (λa w=>∃a2:List (Int×Int×Int),∃a3:LI,∃a4:Int,∃a5:Int,(a2,a3,a4,a5)=a0∧∃(a6:GH) (a7:Value) (a8:Itm) (a9:Value),GLe aS a6∧Fr a 94 [(2,(pb af)),(5,(pb aO))]∧Mem W a6 w (ib af 29 [sn]::ib aO 29 [a7]::ib b0 93 [a9,(iv a4),(iv a5)]::a8::H)∧OwR P3 72 a6 a8 a7 a2∧RSl (RI .u8) a6 a9 a3) ?_ ?_
  ·refine As ?_
   have m:=m.fr 2
   have m:=m.fr 3
   have m:Mem W aS w (ib b0 93 [aW,(iv aP.2.2.1),(iv aP.2.2.2)]::ib af 29 [sn]::ib aO 29 [sn]::aY::H):=m.fr 3
   refine A1 (λba a w=>∃bb:Int,∃bc:Int,∃bd:LI,∃be:Int,∃bf:Int,∃bg:List (Int×Int×Int),(bb,bc,bd,be,bf,bg)=ba∧∃(bh:GH) (bi:Value) (bj:Value) (bk:Itm),GLe aS bh∧Fr a 94 [(0,(pb b0)),(2,(pb af)),(5,(pb aO)),(6,(iv bb)),(7,(iv bc))]∧Mem W bh w (ib b0 93 [bi,(iv be),(iv bf)]::ib af 29 [sn]::ib aO 29 [bj]::bk::H)∧RSl (RI .u8) bh bi bd∧OwR P3 72 bh bk bj bg) a1 ⟨_,_,_,_,_,_,Z,_,aW,sn,aY,gr,f.k Z,m,aX,aZ⟩ ?_
   clear a1 f m
   rintro ba bl bm bn a w ⟨bb,bc,bd,be,bf,bg,rfl,bh,bi,bj,bk,bo,f,m,bp,bq⟩
   refine Ak (Af ?_)
   refine Ab f Z λa f=>Aj f Z Z CS λa f=>Aa ?_
   rcases Ae bm with⟨br,bm⟩|⟨br,bm⟩
   ·refine Al f Z br ?_
    refine Aq ?_
    refine Ak (As (Af ?_))
    refine Az underlying29 Z sizeOf27 f Z λa f=>An 2 0 m BG f Z Z Z Z λa f=>l_ownR_len 3 m bq Z underlying27 f Z Z λa f=>Ac f Z λa f=>AD ?_
    refine Ab f Z λa f=> ?_
    have⟨bs,bt,bm⟩:=bind_some bm
    refine Ay f Z call22 (Wk.a m bp bt) λbu bv bw w bx m bz a f=> ?_
    obtain⟨bA,rfl,rfl,bB⟩:=bz
    have bq:=OwR.mono trivial bx bq
    refine Aj f Z Z AA λa f=>Ab f Z λa f=> ?_
    have⟨bC,bD,bm⟩:=bind_some bm
    refine Ay f Z call22 (Wk.a m bB bD) λbE bF bG w bH m bI a f=> ?_
    obtain⟨bJ,rfl,rfl,bK⟩:=bI
    have bq:=OwR.mono trivial bH bq
    refine Ab f Z λa f=> ?_
    have⟨bL,bM,bm⟩:=bind_some bm
    refine Ay f Z call22 (Wk.a m bK bM) λbN bO bP w bQ m bR a f=> ?_
    obtain⟨bS,rfl,rfl,bT⟩:=bR
    have bq:=OwR.mono trivial bQ bq
    have bU:∀w,(Instr.build 72 #[(0,(iv (i64.wrap (1+bs.1)))),(1,(iv bC.1)),(2,(iv bL.1))]).run prog w= .ok (.agg #[(iv (i64.wrap (1+bs.1))),(iv bC.1),(iv bL.1)]) w:=by intro w;simp[Instr.build,Instr.fill,A7,AX,AN,AS,AG,A6]
    refine Bn f Z Z bU λa f=>AR (cs:=[(iv 0),(iv 0),(iv 0)]) zeroValue72 m f Z Z λbV w a m f=>Am 0 0 (ds:=[(iv (i64.wrap (1+bs.1))),(iv bC.1),(iv bL.1)]) m sizeOf72 f Z Z Z (Ah Z (Ah Z (Ah Z Ap))) Z (lb Z) Z λw m=>Aa (Ak (Af ?_))
    refine Ab f Z λa f=>Aj f Z Z CS λa f=>Ab f Z λa f=> ?_
    have⟨bW,bX,bm⟩:=bind_some bm
    refine Bg 4 (λa w=>∃(bY:GH) (bZ:Value),GLe bO bY∧Mem W bY w (ib bV 72 [(iv (i64.wrap (1+bs.1))),(iv bC.1),(iv bL.1)]::ib b0 93 [bZ,(iv bW.2.2.1),(iv bW.2.2.2)]::ib af 29 [sn]::ib aO 29 [bj]::bk::H)∧Fr a 94 [(0,(pb b0)),(2,(pb af)),(5,(pb aO)),(6,(iv bb)),(7,(iv bc)),(8,(iv (bg.length:Int))),(9,(pb bV)),(38,(iv (bg.length:Int))),(39,(.bool (decide ((1:Int)<(bg.length:Int))))),(40,(.bool (decide ((1:Int)<(bg.length:Int))))),(44,(.bool bW.1))]∧RSl (RI .u8) bY bZ bW.2.1) ?_ ?_
    ·rcases Ae bX with⟨b1,bX⟩|⟨b1,bX⟩
     ·refine Aw f b1 ?_
      refine Ab f Z λa f=>Aw f b1 ?_
      have m:Mem W bO w (ib b0 93 [bS,(iv bL.2.2.1),(iv bL.2.2.2)]::ib bV 72 [(iv (i64.wrap (1+bs.1))),(iv bC.1),(iv bL.1)]::ib af 29 [sn]::ib aO 29 [bj]::bk::H):=m.fr 1
      have⟨b2,b3,bX⟩:=bind_some bX
      refine Ay f Z call24 (Wk.d m bT b3) λb4 b5 b6 w b7 m b8 a f=> ?_
      obtain⟨b9,rfl,rfl,ca⟩:=b8
      refine Aw f b1 ?_
      refine l_o f (Br (f.e Z)) λa f=>l_o f (AK (f.e Z) b1 (f.e Z)) λa f=> ?_
      obtain rfl:=sj bX
      have m:Mem W b5 w (ib bV 72 [(iv (i64.wrap (1+bs.1))),(iv bC.1),(iv bL.1)]::ib b0 93 [b9,(iv b2.2.2.1),(iv b2.2.2.2)]::ib af 29 [sn]::ib aO 29 [bj]::bk::H):=m.fr 1
      exact⟨_,_,b7,m,f.k Z,ca⟩
     ·refine Au f b1 λa f=> ?_
      refine Au f b1 λa f=>Au f b1 λa f=>l_o f (AM (f.e Z) b1 (f.e Z)) λa f=> ?_
      obtain rfl:=sj bX
      exact⟨_,_,gr,m,f.k Z,bT⟩
    ·rintro a w ⟨bY,bZ,cb,m,f,cc⟩
     have bq:=OwR.mono trivial cb bq
     refine Aa ?_
     rcases Ae bm with⟨cd,bm⟩|⟨cd,bm⟩
     ·refine Al f Z cd ?_
      refine Af ?_
      refine Ab f Z λa f=> ?_
      have m:Mem W bY w (ib b0 93 [bZ,(iv bW.2.2.1),(iv bW.2.2.2)]::ib bV 72 [(iv (i64.wrap (1+bs.1))),(iv bC.1),(iv bL.1)]::ib af 29 [sn]::ib aO 29 [bj]::bk::H):=m.fr 1
      have⟨ce,cf,bm⟩:=bind_some bm
      refine Ay f Z call22 (Wk.a m cc cf) λcg ch ci w cj m ck a f=> ?_
      obtain⟨cl,rfl,rfl,cm⟩:=ck
      have bq:=OwR.mono trivial cj bq
      refine Aa (As (Af ?_))
      refine Aj f Z Z AH λa f=>Ac f Z λa f=>Aa ?_
      rcases Ae bm with⟨cn,bm⟩|⟨cn,bm⟩
      ·refine Al f Z cn ?_
       refine Ai ?_
       refine Ab f Z λa f=>Aj f Z Z Bw λa f=> ?_
       have co:∀w,(Instr.build 72 #[(0,(iv 4)),(1,(iv (i64.wrap ((bg.length:Int)-1))))]).run prog w= .ok (.agg #[(iv 4),(iv (i64.wrap ((bg.length:Int)-1))),(iv 0)]) w:=by intro w;simp[Instr.build,Instr.fill,A7,AX,AN,AS,AG,A6]
       refine Bn f Z Z co λa f=>Am 1 0 (ds:=[(iv 4),(iv (i64.wrap ((bg.length:Int)-1))),(iv 0)]) m sizeOf72 f Z Z Z (Ah Z (Ah Z (Ah Z Ap))) Z (lb Z) Z λw m=>Aa (Ai ?_)
       refine Az underlying29 Z sizeOf27 f Z λa f=>An 3 0 m BG f Z Z Z Z λa f=>Ar 1 0 (ds:=[(iv 4),(iv (i64.wrap ((bg.length:Int)-1))),(iv 0)]) m Cj f Z Z Z Z Z λa f=>Cd (E:=P3) (y:=(4,(i64.wrap ((bg.length:Int)-1)),0)) (cs:=[(iv 4),(iv (i64.wrap ((bg.length:Int)-1))),(iv 0)]) m T27 f Z Z Z (lb Z) λcp cq w a m cr f=> ?_
       have⟨ct,cu,bm⟩:=bind_some bm
       refine BZ (E:=P3) (z:= .agg #[(iv 0),(iv 0),(iv 0)]) 5 0 m bq Z cr Z (by simp) T27 Z (by decide) f Z Z Z cu λcv cw w a m cx f=>Az underlying29 Z sizeOf27 f Z λa f=>Am 4 0 (ds:=[cw]) m sizeOf27 f Z Z (OwR.cells 5 m cx Z) (Ah (OwR.one1 5 m cx Z) Ap) Z (lb Z) Z λw m=>Aa (Ai ?_)
       refine Ab f Z λa f=>Aj f Z Z Bw λa f=>Ac f Z λa f=>Aa ?_
       have m:=m.fr 5
       have m:=m.fr 5
       have m:Mem W ch w (ib af 29 [sn]::ib aO 29 [cw]::cv::cp::ib b0 93 [cl,(iv ce.2.2.1),(iv ce.2.2.2)]::ib bV 72 [(iv 4),(iv (i64.wrap ((bg.length:Int)-1))),(iv 0)]::H):=m.fr 5
       have m:=m.fr 4
       have m:=m.eraseAt 5
       have m:Mem W ch w (ib b0 93 [cl,(iv ce.2.2.1),(iv ce.2.2.2)]::ib af 29 [sn]::ib aO 29 [cw]::cv::H):=m.eraseAt 4
       obtain rfl:=sj bm
       exact⟨_,Z,_,_,_,_,_,_,Z,_,cl,cw,cv,(gt bo (gt bx (gt bH (gt bQ (gt cb cj))))),f.k Z,m,cm,cx⟩
      ·refine Ag f Z cn ?_
       refine Af ?_
       refine Aj f Z Z AH λa f=>Ac f Z λa f=>Aa ?_
       rcases Ae bm with⟨cy,bm⟩|⟨cy,bm⟩
       ·refine Al f Z cy ?_
        refine Ai ?_
        refine Ab f Z λa f=>Aj f Z Z Bw λa f=>Ab f Z λa f=>Ab f Z λa f=> ?_
        have⟨cz,cA,bm⟩:=bind_some bm
        refine Ay f Z call22 (Wk.a m cm cA) λcB cC cD w cE m cF a f=> ?_
        obtain⟨cG,rfl,rfl,cH⟩:=cF
        have bq:=OwR.mono trivial cE bq
        have cI:∀w,(Instr.build 72 #[(0,(iv 5)),(1,(iv (i64.wrap ((bg.length:Int)-1)))),(2,(iv cz.1))]).run prog w= .ok (.agg #[(iv 5),(iv (i64.wrap ((bg.length:Int)-1))),(iv cz.1)]) w:=by intro w;simp[Instr.build,Instr.fill,A7,AX,AN,AS,AG,A6]
        refine Bn f Z Z cI λa f=>Am 1 0 (ds:=[(iv 5),(iv (i64.wrap ((bg.length:Int)-1))),(iv cz.1)]) m sizeOf72 f Z Z Z (Ah Z (Ah Z (Ah Z Ap))) Z (lb Z) Z λw m=>Aa (Ai ?_)
        refine Az underlying29 Z sizeOf27 f Z λa f=>An 3 0 m BG f Z Z Z Z λa f=>Ar 1 0 (ds:=[(iv 5),(iv (i64.wrap ((bg.length:Int)-1))),(iv cz.1)]) m Cj f Z Z Z Z Z λa f=>Cd (E:=P3) (y:=(5,(i64.wrap ((bg.length:Int)-1)),cz.1)) (cs:=[(iv 5),(iv (i64.wrap ((bg.length:Int)-1))),(iv cz.1)]) m T27 f Z Z Z (lb Z) λcJ cK w a m cL f=> ?_
        have⟨cM,cN,bm⟩:=bind_some bm
        refine BZ (E:=P3) (z:= .agg #[(iv 0),(iv 0),(iv 0)]) 5 0 m bq Z cL Z (by simp) T27 Z (by decide) f Z Z Z cN λcO cP w a m cQ f=>Az underlying29 Z sizeOf27 f Z λa f=>Am 4 0 (ds:=[cP]) m sizeOf27 f Z Z (OwR.cells 5 m cQ Z) (Ah (OwR.one1 5 m cQ Z) Ap) Z (lb Z) Z λw m=>Aa (Ai ?_)
        refine Ab f Z λa f=>Aj f Z Z Bw λa f=>Ac f Z λa f=>Aa ?_
        have m:=m.fr 5
        have m:=m.fr 5
        have m:Mem W cC w (ib af 29 [sn]::ib aO 29 [cP]::cO::cJ::ib b0 93 [cG,(iv cz.2.2.1),(iv cz.2.2.2)]::ib bV 72 [(iv 5),(iv (i64.wrap ((bg.length:Int)-1))),(iv cz.1)]::H):=m.fr 5
        have m:=m.fr 4
        have m:=m.eraseAt 5
        have m:Mem W cC w (ib b0 93 [cG,(iv cz.2.2.1),(iv cz.2.2.2)]::ib af 29 [sn]::ib aO 29 [cP]::cO::H):=m.eraseAt 4
        obtain rfl:=sj bm
        exact⟨_,Z,_,_,_,_,_,_,Z,_,cG,cP,cO,(gt bo (gt bx (gt bH (gt bQ (gt cb (gt cj cE)))))),f.k Z,m,cH,cQ⟩
       ·refine Ag f Z cy ?_
        refine Af ?_
        refine Aj f Z Z AH λa f=>Ac f Z λa f=>Aa ?_
        rcases Ae bm with⟨cR,bm⟩|⟨cR,bm⟩
        ·refine Al f Z cR ?_
         refine Ai ?_
         refine Ab f Z λa f=>Ab f Z λa f=> ?_
         have⟨cS,cT,bm⟩:=bind_some bm
         refine Ay f Z call22 (Wk.a m cm cT) λcU cV cW w cX m cY a f=> ?_
         obtain⟨cZ,rfl,rfl,c0⟩:=cY
         have bq:=OwR.mono trivial cX bq
         refine Ab f Z λa f=>Aj f Z Z Bw λa f=> ?_
         have c1:∀w,(Instr.build 72 #[(0,(iv 6)),(1,(iv cS.1)),(2,(iv (i64.wrap ((bg.length:Int)-1))))]).run prog w= .ok (.agg #[(iv 6),(iv cS.1),(iv (i64.wrap ((bg.length:Int)-1)))]) w:=by intro w;simp[Instr.build,Instr.fill,A7,AX,AN,AS,AG,A6]
         refine Bn f Z Z c1 λa f=>Am 1 0 (ds:=[(iv 6),(iv cS.1),(iv (i64.wrap ((bg.length:Int)-1)))]) m sizeOf72 f Z Z Z (Ah Z (Ah Z (Ah Z Ap))) Z (lb Z) Z λw m=>Aa (Ai ?_)
         refine Az underlying29 Z sizeOf27 f Z λa f=>An 3 0 m BG f Z Z Z Z λa f=>Ar 1 0 (ds:=[(iv 6),(iv cS.1),(iv (i64.wrap ((bg.length:Int)-1)))]) m Cj f Z Z Z Z Z λa f=>Cd (E:=P3) (y:=(6,cS.1,(i64.wrap ((bg.length:Int)-1)))) (cs:=[(iv 6),(iv cS.1),(iv (i64.wrap ((bg.length:Int)-1)))]) m T27 f Z Z Z (lb Z) λc2 c3 w a m c4 f=> ?_
         have⟨c5,c6,bm⟩:=bind_some bm
         refine BZ (E:=P3) (z:= .agg #[(iv 0),(iv 0),(iv 0)]) 5 0 m bq Z c4 Z (by simp) T27 Z (by decide) f Z Z Z c6 λc7 c8 w a m c9 f=>Az underlying29 Z sizeOf27 f Z λa f=>Am 4 0 (ds:=[c8]) m sizeOf27 f Z Z (OwR.cells 5 m c9 Z) (Ah (OwR.one1 5 m c9 Z) Ap) Z (lb Z) Z λw m=>Aa (Ai ?_)
         refine Ab f Z λa f=>Aj f Z Z Bw λa f=>Ac f Z λa f=>Aa ?_
         have m:=m.fr 5
         have m:=m.fr 5
         have m:Mem W cV w (ib af 29 [sn]::ib aO 29 [c8]::c7::c2::ib b0 93 [cZ,(iv cS.2.2.1),(iv cS.2.2.2)]::ib bV 72 [(iv 6),(iv cS.1),(iv (i64.wrap ((bg.length:Int)-1)))]::H):=m.fr 5
         have m:=m.fr 4
         have m:=m.eraseAt 5
         have m:Mem W cV w (ib b0 93 [cZ,(iv cS.2.2.1),(iv cS.2.2.2)]::ib af 29 [sn]::ib aO 29 [c8]::c7::H):=m.eraseAt 4
         obtain rfl:=sj bm
         exact⟨_,Z,_,_,_,_,_,_,Z,_,cZ,c8,c7,(gt bo (gt bx (gt bH (gt bQ (gt cb (gt cj cX)))))),f.k Z,m,c0,c9⟩
        ·refine Ag f Z cR ?_
         refine Ak (Af ?_)
         refine Aj f Z Z AH λa f=>Ac f Z λa f=>Aa ?_
         have⟨da,db,bm⟩:=bind_some bm
         refine AT (λa w=>∃dc:Bool,dc=da∧∃(dd:GH),GLe ch dd∧Fr a 94 [(0,(pb b0)),(2,(pb af)),(5,(pb aO)),(6,(iv bb)),(7,(iv bc)),(8,(iv (bg.length:Int))),(9,(pb bV)),(46,(iv ce.1)),(68,(.bool dc))]∧Mem W dd w (ib b0 93 [cl,(iv ce.2.2.1),(iv ce.2.2.2)]::ib af 29 [sn]::ib aO 29 [bj]::ib bV 72 [(iv (i64.wrap (1+bs.1))),(iv bC.1),(iv bL.1)]::bk::H)) ?_ ?_
         ·rcases Ae db with⟨de,db⟩|⟨de,db⟩
          ·refine Al f Z de ?_
           refine Aq ?_
           have m:=m.fr 3
           have m:=m.fr 3
           have m:Mem W ch w (ib b0 93 [cl,(iv ce.2.2.1),(iv ce.2.2.2)]::ib af 29 [sn]::ib aO 29 [bj]::ib bV 72 [(iv (i64.wrap (1+bs.1))),(iv bC.1),(iv bL.1)]::bk::H):=m.fr 2
           obtain rfl:=sj db
           exact⟨_,Z,_,gr,f.k Z,m⟩
          ·refine Ag f Z de ?_
           refine Ai ?_
           refine Aj f Z Z AH λa f=>Ac f Z λa f=>Aa ?_
           have m:=m.fr 3
           have m:=m.fr 3
           have m:Mem W ch w (ib b0 93 [cl,(iv ce.2.2.1),(iv ce.2.2.2)]::ib af 29 [sn]::ib aO 29 [bj]::ib bV 72 [(iv (i64.wrap (1+bs.1))),(iv bC.1),(iv bL.1)]::bk::H):=m.fr 2
           obtain rfl:=sj db
           exact⟨_,Z,_,gr,f.k Z,m⟩
         ·rintro a w ⟨dc,rfl,dd,df,f,m⟩
          have cm:=rd1 df cm
          have bq:=OwR.mono trivial df bq
          rcases Ae bm with⟨dg,bm⟩|⟨dg,bm⟩
          ·refine Al f Z dg ?_
           refine Ai ?_
           refine Ab f Z λa f=> ?_
           have⟨dh,di,bm⟩:=bind_some bm
           refine Ay f Z call22 (Wk.a m cm di) λdj dk dl w dm m dn a f=> ?_
           obtain⟨dp,rfl,rfl,dq⟩:=dn
           have bq:=OwR.mono trivial dm bq
           refine Ab f Z λa f=>Aj f Z Z Bw λa f=> ?_
           have dr:∀w,(Instr.build 72 #[(0,(iv 7)),(1,(iv dh.1)),(2,(iv (i64.wrap ((bg.length:Int)-1))))]).run prog w= .ok (.agg #[(iv 7),(iv dh.1),(iv (i64.wrap ((bg.length:Int)-1)))]) w:=by intro w;simp[Instr.build,Instr.fill,A7,AX,AN,AS,AG,A6]
           refine Bn f Z Z dr λa f=>Am 3 0 (ds:=[(iv 7),(iv dh.1),(iv (i64.wrap ((bg.length:Int)-1)))]) m sizeOf72 f Z Z Z (Ah Z (Ah Z (Ah Z Ap))) Z (lb Z) Z λw m=>Aa (Ai ?_)
           refine Az underlying29 Z sizeOf27 f Z λa f=>An 2 0 m BG f Z Z Z Z λa f=>Ar 3 0 (ds:=[(iv 7),(iv dh.1),(iv (i64.wrap ((bg.length:Int)-1)))]) m Cj f Z Z Z Z Z λa f=>Cd (E:=P3) (y:=(7,dh.1,(i64.wrap ((bg.length:Int)-1)))) (cs:=[(iv 7),(iv dh.1),(iv (i64.wrap ((bg.length:Int)-1)))]) m T27 f Z Z Z (lb Z) λdt du w a m dv f=> ?_
           have⟨dw,dx,bm⟩:=bind_some bm
           refine BZ (E:=P3) (z:= .agg #[(iv 0),(iv 0),(iv 0)]) 5 0 m bq Z dv Z (by simp) T27 Z (by decide) f Z Z Z dx λdy dz w a m dA f=>Az underlying29 Z sizeOf27 f Z λa f=>Am 3 0 (ds:=[dz]) m sizeOf27 f Z Z (OwR.cells 5 m dA Z) (Ah (OwR.one1 5 m dA Z) Ap) Z (lb Z) Z λw m=>Aa (Ai ?_)
           refine Ab f Z λa f=>Aj f Z Z Bw λa f=>Ac f Z λa f=>Aa ?_
           have m:=m.fr 5
           have m:=m.fr 4
           have m:Mem W dk w (ib af 29 [sn]::ib aO 29 [dz]::dy::dt::ib b0 93 [dp,(iv dh.2.2.1),(iv dh.2.2.2)]::ib bV 72 [(iv 7),(iv dh.1),(iv (i64.wrap ((bg.length:Int)-1)))]::H):=m.fr 4
           have m:=m.fr 4
           have m:=m.eraseAt 5
           have m:Mem W dk w (ib b0 93 [dp,(iv dh.2.2.1),(iv dh.2.2.2)]::ib af 29 [sn]::ib aO 29 [dz]::dy::H):=m.eraseAt 4
           obtain rfl:=sj bm
           exact⟨_,Z,_,_,_,_,_,_,Z,_,dp,dz,dy,(gt bo (gt bx (gt bH (gt bQ (gt cb (gt cj (gt df dm))))))),f.k Z,m,dq,dA⟩
          ·refine Ag f Z dg ?_
           refine Af ?_
           refine Aj f Z Z AH λa f=>Ac f Z λa f=>Aa ?_
           rcases Ae bm with⟨dB,bm⟩|⟨dB,bm⟩
           ·refine Al f Z dB ?_
            refine Af ?_
            refine Ab f Z λa f=>Aj f Z Z A3 λa f=>Aa ?_
            rcases Ae bm with⟨dC,bm⟩|⟨dC,bm⟩
            ·refine Al f Z dC ?_
             refine Af ?_
             refine Ab f Z λa f=> ?_
             have⟨dD,dE,bm⟩:=bind_some bm
             refine Ay f Z call22 (Wk.a m cm dE) λdF dG dH w dI m dJ a f=> ?_
             obtain⟨dK,rfl,rfl,dL⟩:=dJ
             have bq:=OwR.mono trivial dI bq
             refine Ab f Z λa f=>Aj f Z Z Bw λa f=> ?_
             have dM:∀w,(Instr.build 72 #[(0,(iv 8)),(1,(iv dD.1)),(2,(iv (i64.wrap ((bg.length:Int)-1))))]).run prog w= .ok (.agg #[(iv 8),(iv dD.1),(iv (i64.wrap ((bg.length:Int)-1)))]) w:=by intro w;simp[Instr.build,Instr.fill,A7,AX,AN,AS,AG,A6]
             refine Bn f Z Z dM λa f=>Am 3 0 (ds:=[(iv 8),(iv dD.1),(iv (i64.wrap ((bg.length:Int)-1)))]) m sizeOf72 f Z Z Z (Ah Z (Ah Z (Ah Z Ap))) Z (lb Z) Z λw m=>Aa (Ai ?_)
             refine Ab f Z λa f=>Aj f Z Z AA λa f=>Ac f Z λa f=>Aa (Ai ?_)
             refine Az underlying29 Z sizeOf27 f Z λa f=>An 2 0 m BG f Z Z Z Z λa f=>Ar 3 0 (ds:=[(iv 8),(iv dD.1),(iv (i64.wrap ((bg.length:Int)-1)))]) m Cj f Z Z Z Z Z λa f=>Cd (E:=P3) (y:=(8,dD.1,(i64.wrap ((bg.length:Int)-1)))) (cs:=[(iv 8),(iv dD.1),(iv (i64.wrap ((bg.length:Int)-1)))]) m T27 f Z Z Z (lb Z) λdN dO w a m dP f=> ?_
             have⟨dQ,dR,bm⟩:=bind_some bm
             refine BZ (E:=P3) (z:= .agg #[(iv 0),(iv 0),(iv 0)]) 5 0 m bq Z dP Z (by simp) T27 Z (by decide) f Z Z Z dR λdS dT w a m dU f=>Az underlying29 Z sizeOf27 f Z λa f=>Am 3 0 (ds:=[dT]) m sizeOf27 f Z Z (OwR.cells 5 m dU Z) (Ah (OwR.one1 5 m dU Z) Ap) Z (lb Z) Z λw m=>Aa (Ai ?_)
             refine Ab f Z λa f=>Aj f Z Z Bw λa f=>Ac f Z λa f=>Aa ?_
             have m:=m.fr 5
             have m:=m.fr 4
             have m:Mem W dG w (ib af 29 [sn]::ib aO 29 [dT]::dS::dN::ib b0 93 [dK,(iv dD.2.2.1),(iv dD.2.2.2)]::ib bV 72 [(iv 8),(iv dD.1),(iv (i64.wrap ((bg.length:Int)-1)))]::H):=m.fr 4
             have m:=m.fr 4
             have m:=m.eraseAt 5
             have m:Mem W dG w (ib b0 93 [dK,(iv dD.2.2.1),(iv dD.2.2.2)]::ib af 29 [sn]::ib aO 29 [dT]::dS::H):=m.eraseAt 4
             obtain rfl:=sj bm
             exact⟨_,Z,_,_,_,_,_,_,Z,_,dK,dT,dS,(gt bo (gt bx (gt bH (gt bQ (gt cb (gt cj (gt df dI))))))),f.k Z,m,dL,dU⟩
            ·refine Ag f Z dC ?_
             refine Aq ?_
             refine Ai ?_
             refine Az underlying29 Z sizeOf27 f Z λa f=>An 2 0 m BG f Z Z Z Z λa f=>Ar 3 0 (ds:=[(iv (i64.wrap (1+bs.1))),(iv bC.1),(iv bL.1)]) m Cj f Z Z Z Z Z λa f=>Cd (E:=P3) (y:=((i64.wrap (1+bs.1)),bC.1,bL.1)) (cs:=[(iv (i64.wrap (1+bs.1))),(iv bC.1),(iv bL.1)]) m T27 f Z Z Z (lb Z) λdV dW w a m dX f=> ?_
             have⟨dY,dZ,bm⟩:=bind_some bm
             refine BZ (E:=P3) (z:= .agg #[(iv 0),(iv 0),(iv 0)]) 5 0 m bq Z dX Z (by simp) T27 Z (by decide) f Z Z Z dZ λd0 d1 w a m d2 f=>Az underlying29 Z sizeOf27 f Z λa f=>Am 3 0 (ds:=[d1]) m sizeOf27 f Z Z (OwR.cells 5 m d2 Z) (Ah (OwR.one1 5 m d2 Z) Ap) Z (lb Z) Z λw m=>Aa (Ai ?_)
             refine Ab f Z λa f=>Aj f Z Z Bw λa f=>Ac f Z λa f=>Aa ?_
             have m:=m.fr 5
             have m:=m.fr 4
             have m:Mem W dd w (ib af 29 [sn]::ib aO 29 [d1]::d0::dV::ib b0 93 [cl,(iv ce.2.2.1),(iv ce.2.2.2)]::ib bV 72 [(iv (i64.wrap (1+bs.1))),(iv bC.1),(iv bL.1)]::H):=m.fr 4
             have m:=m.fr 4
             have m:=m.eraseAt 5
             have m:Mem W dd w (ib b0 93 [cl,(iv ce.2.2.1),(iv ce.2.2.2)]::ib af 29 [sn]::ib aO 29 [d1]::d0::H):=m.eraseAt 4
             obtain rfl:=sj bm
             exact⟨_,Z,_,_,_,_,_,_,Z,_,cl,d1,d0,(gt bo (gt bx (gt bH (gt bQ (gt cb (gt cj df)))))),f.k Z,m,cm,d2⟩
           ·refine Ag f Z dB ?_
            refine Aq ?_
            refine Ai ?_
            refine Az underlying29 Z sizeOf27 f Z λa f=>An 2 0 m BG f Z Z Z Z λa f=>Ar 3 0 (ds:=[(iv (i64.wrap (1+bs.1))),(iv bC.1),(iv bL.1)]) m Cj f Z Z Z Z Z λa f=>Cd (E:=P3) (y:=((i64.wrap (1+bs.1)),bC.1,bL.1)) (cs:=[(iv (i64.wrap (1+bs.1))),(iv bC.1),(iv bL.1)]) m T27 f Z Z Z (lb Z) λd3 d4 w a m d5 f=> ?_
            have⟨d6,d7,bm⟩:=bind_some bm
            refine BZ (E:=P3) (z:= .agg #[(iv 0),(iv 0),(iv 0)]) 5 0 m bq Z d5 Z (by simp) T27 Z (by decide) f Z Z Z d7 λd8 d9 w a m ea f=>Az underlying29 Z sizeOf27 f Z λa f=>Am 3 0 (ds:=[d9]) m sizeOf27 f Z Z (OwR.cells 5 m ea Z) (Ah (OwR.one1 5 m ea Z) Ap) Z (lb Z) Z λw m=>Aa (Ai ?_)
            refine Ab f Z λa f=>Aj f Z Z Bw λa f=>Ac f Z λa f=>Aa ?_
            have m:=m.fr 5
            have m:=m.fr 4
            have m:Mem W dd w (ib af 29 [sn]::ib aO 29 [d9]::d8::d3::ib b0 93 [cl,(iv ce.2.2.1),(iv ce.2.2.2)]::ib bV 72 [(iv (i64.wrap (1+bs.1))),(iv bC.1),(iv bL.1)]::H):=m.fr 4
            have m:=m.fr 4
            have m:=m.eraseAt 5
            have m:Mem W dd w (ib b0 93 [cl,(iv ce.2.2.1),(iv ce.2.2.2)]::ib af 29 [sn]::ib aO 29 [d9]::d8::H):=m.eraseAt 4
            obtain rfl:=sj bm
            exact⟨_,Z,_,_,_,_,_,_,Z,_,cl,d9,d8,(gt bo (gt bx (gt bH (gt bQ (gt cb (gt cj df)))))),f.k Z,m,cm,ea⟩
     ·refine Ag f Z cd ?_
      refine Aq ?_
      refine Ai ?_
      refine Az underlying29 Z sizeOf27 f Z λa f=>An 3 0 m BG f Z Z Z Z λa f=>Ar 0 0 (ds:=[(iv (i64.wrap (1+bs.1))),(iv bC.1),(iv bL.1)]) m Cj f Z Z Z Z Z λa f=>Cd (E:=P3) (y:=((i64.wrap (1+bs.1)),bC.1,bL.1)) (cs:=[(iv (i64.wrap (1+bs.1))),(iv bC.1),(iv bL.1)]) m T27 f Z Z Z (lb Z) λeb ec w a m ed f=> ?_
      have⟨ee,ef,bm⟩:=bind_some bm
      refine BZ (E:=P3) (z:= .agg #[(iv 0),(iv 0),(iv 0)]) 5 0 m bq Z ed Z (by simp) T27 Z (by decide) f Z Z Z ef λeg eh w a m ei f=>Az underlying29 Z sizeOf27 f Z λa f=>Am 4 0 (ds:=[eh]) m sizeOf27 f Z Z (OwR.cells 5 m ei Z) (Ah (OwR.one1 5 m ei Z) Ap) Z (lb Z) Z λw m=>Aa (Ai ?_)
      refine Ab f Z λa f=>Aj f Z Z Bw λa f=>Ac f Z λa f=>Aa ?_
      have m:=m.fr 5
      have m:=m.fr 5
      have m:Mem W bY w (ib af 29 [sn]::ib aO 29 [eh]::eg::eb::ib bV 72 [(iv (i64.wrap (1+bs.1))),(iv bC.1),(iv bL.1)]::ib b0 93 [bZ,(iv bW.2.2.1),(iv bW.2.2.2)]::H):=m.fr 5
      have m:=m.fr 5
      have m:=m.eraseAt 5
      have m:Mem W bY w (ib b0 93 [bZ,(iv bW.2.2.1),(iv bW.2.2.2)]::ib af 29 [sn]::ib aO 29 [eh]::eg::H):=m.eraseAt 4
      obtain rfl:=sj bm
      exact⟨_,Z,_,_,_,_,_,_,Z,_,bZ,eh,eg,(gt bo (gt bx (gt bH (gt bQ cb)))),f.k Z,m,cc,ei⟩
   ·refine Ag f Z br ?_
    refine AZ Z ?_
    have m:=m.fr 2
    have m:Mem W bh w (ib af 29 [sn]::ib aO 29 [bj]::ib b0 93 [bi,(iv be),(iv bf)]::bk::H):=m.fr 2
    obtain rfl:=sj bm
    obtain rfl:=bn _ rfl
    exact⟨_,_,_,_,Z,_,bj,bk,bi,bo,f.k Z,m,bq,bp⟩
  ·rintro a w ⟨a2,a3,a4,a5,rfl,a6,a7,a8,a9,ej,f,m,ek,el⟩
   refine Af ?_
   refine Ar 1 0 (ds:=[a7]) m Bd f Z Z Z Z Z λa f=>Am 0 0 (ds:=[a7]) m sizeOf29 f Z Z Z (Ah (OwR.one1 3 m ek Z) Ap) Z (lb Z) Z λw m=>Aa ?_
   refine Ao ?_
   have em:=A9 (P:=prog) 0 m Bd f (s:=2) rfl rfl rfl
   have m:=m.fr 2
   have m:=m.fr 3
   have m:Mem W a6 w (a8::ib b0 93 [a9,(iv a4),(iv a5)]::ib af 29 [a7]::H):=m.eraseAt 3
   have m:=m.eraseAt 2
   obtain rfl:=sj hd
   exact⟨[(.agg #[a7])],⟨em,trivial⟩,f.d,_,[a8,ib b0 93 [a9,(iv a4),(iv a5)]],(gt al (gt aU ej)),m,_,_,_,Z,Z,ek,el⟩
end Go.Proofs.YtblebdlmoffmjaaDoor
