/- Parts. -/
import Derived.Test.YthdcaieaajekcaaGreatDoorMo1
import Derived.Lib.TrailingZeros
import Derived.Lib.AppendZeros
import Derived.ChangeKeysEq
import Derived.Shelf.Small.Bits
import Derived.Test.YthdcaieaajekcaaGreatDoorProg
import Derived.KernelRfl
set_option linter.unusedVariables false
set_option linter.unusedSimpArgs false
set_option linter.unusedSectionVars false
namespace Go.Sx
theorem w64 {x:Int}(h1: -9223372036854775808≤x)(h2:x<9223372036854775808):IntKind.i64.wrap x=x:=by
 simp only[IntKind.wrap,IntKind.bits,IntKind.signed]
 have e:(2:Int)^64=18446744073709551616:=by decide
 have e':(2:Int)^(64-1)=9223372036854775808:=by decide
 simp
 omega
theorem dlt {i n:Nat}(h:i<n):decide ((i:Int)<(n:Int))=true:=by simp;omega
theorem Bs {n:Nat}:decide ((n:Int)<(n:Int))=false:=by simp
theorem AF {α:Type}{xs:List α}{i:Nat}(h:i<xs.length):idx xs (i:Int)=some xs[i]:=by
 unfold idx;rw[if_pos (by omega)];simp[h]
theorem idx_int {α:Type}{xs:List α}{i:Int}(h0:0≤i)(h:i<xs.length):idx xs i=some (xs[i.toNat]'(by omega)):=by
 unfold idx;rw[if_pos h0];simp
theorem wi {i:Nat}(h:i<4611686018427387904):IntKind.i64.wrap ((i:Int)+1)=((i+1:Nat):Int):=by
 rw[w64 (by omega) (by omega)];rfl
theorem wi' {i n:Nat}(h:i<n)(hn:n≤4611686018427387904):IntKind.i64.wrap ((i:Int)+1)=((i+1:Nat):Int):=wi (by omega)
theorem A6 {α:Type}{xs:List α}{i:Nat}(h:i<xs.length)(d:α):xs.getD i d=xs[i]:=by simp[h]
theorem AY {α:Type}{xs ys:List α}(h:xs.length+ys.length≤4294967296):AK xs ys=some (xs++ys):=by
 unfold AK;rw[if_pos h]
theorem EB {α:Type}{xs:List α}{i:Nat}(h:i≤xs.length):BW xs 0 (i:Int)=some (xs.take i):=by
 unfold BW;rw[if_pos ⟨by omega,by omega,by omega⟩];simp
theorem Du {α:Type}{xs:List α}{i:Nat}(h:i≤xs.length):BW xs (i:Int) (xs.length:Int)=some (xs.drop i):=by
 unfold BW;rw[if_pos ⟨by omega,by omega,by omega⟩];simp
theorem makeD_ok {α:Type}{z:α}{n:Nat}{c:Int}(h:(n:Int)≤c)(h2:c≤4294967296):DF z (n:Int) c=some (List.replicate n z):=by
 unfold DF;rw[if_pos ⟨by omega,h,h2⟩];simp
theorem makeD_zero {α:Type}{z:α}{c:Int}(h:0≤c)(h2:c≤4294967296):DF z 0 c=some []:=by
 unfold DF;rw[if_pos ⟨by omega,h,h2⟩];simp
def Stp {σ ρ:Type}(I:σ→Prop)(μ:σ→Nat)(Post:ρ→Prop)(s:σ):σ ⊕ ρ→Prop
 | .inl s'=>I s'∧μ s'<μ s
 | .inr r=>Post r
theorem AO {σ ρ β:Type}{step:σ→Option (σ ⊕ ρ)}{s:σ}{k:ρ→Option β}{Q:β→Prop}(I:σ→Prop)(μ:σ→Nat)(Post:ρ→Prop)
  (hstep:∀s,I s→∃y,step s=some y∧Stp I μ Post s y) (h0:I s) (hk:∀r,Post r→∃y,k r=some y∧Q y):∃y,(Ar step s).bind k=some y∧Q y:=by
 obtain⟨r,hr,hp⟩:=loopF_inv (step:=step) I μ Post (λs hs=>by
  obtain⟨y,hy,hq⟩:=hstep s hs
  cases y with
  |inl s'=>exact .inl ⟨s',hy,hq.1,hq.2⟩
  |inr r=>exact .inr ⟨r,hy,hq⟩) s h0
 rw[hr]
 exact hk r hp
theorem B4 {α β:Type}{e:Option α}{k:α→Option β}{Q:β→Prop}(R:α→Prop)(h:∃x,e=some x∧R x)(hk:∀x,R x→∃y,k x=some y∧Q y):∃y,e.bind k=some y∧Q y:=by
 obtain⟨x,rfl,hx⟩:=h
 exact hk x hx
theorem loop_steps {S ρ:Type}{step:S→Option (S ⊕ ρ)}(st:Nat→S)(n:Nat)(h:∀i,i<n→step (st i)=some (.inl (st (i+1)))):Ar step (st 0)=Ar step (st n):=by
 have key:∀k,k≤n→Ar step (st 0)=Ar step (st k):=by
  intro k
  induction k with
  |zero=>intro _;rfl
  |succ k ih=>intro hk;rw[ih (by omega),BK (h k (by omega))]
 exact key n (Nat.le_refl n)
theorem Dn {S ρ β:Type}{step:S→Option (S ⊕ ρ)}{k:ρ→Option β}{s0:S}(st:Nat→S)(n:Nat)(r:ρ)(h0:st 0=s0)(h:∀i,i<n→step (st i)=some (.inl (st (i+1))))(he:step (st n)=some (.inr r)):
  (Ar step s0).bind k=k r:=by
 rw[←h0,loop_steps st n h,Bo he];rfl
theorem loop_list {α σ S ρ:Type}{step:S→Option (S ⊕ ρ)}(xs:List α)(enc:σ→Int→S)(f:σ→α→σ)(fin:σ→ρ)(I:σ→Prop)(s0:σ)
  (h0:I s0) (hstep:∀s (i:Nat) (h:i<xs.length),I s→step (enc s i)=some (.inl (enc (f s xs[i]) ((i+1:Nat):Int)))∧I (f s xs[i]))
  (hend:∀s,I s→step (enc s xs.length)=some (.inr (fin s))):Ar step (enc s0 0)=some (fin (xs.foldl f s0))∧I (xs.foldl f s0):=by
 have key:∀(k i:Nat) (s:σ),i+k=xs.length→I s→Ar step (enc s i)=some (fin ((xs.drop i).foldl f s))∧I ((xs.drop i).foldl f s):=by
  intro k
  induction k with
  |zero=>
   intro i s hk hs
   obtain rfl:i=xs.length:=by omega
   simp only[List.drop_length,List.foldl_nil]
   exact⟨Bo (hend s hs),hs⟩
  |succ k ih=>
   intro i s hk hs
   have hi:i<xs.length:=by omega
   obtain⟨h1,h2⟩:=hstep s i hi hs
   rw[BK h1,List.drop_eq_getElem_cons hi,List.foldl_cons]
   exact ih (i+1) _ (by omega) h2
 have:=key xs.length 0 s0 (by omega) h0
 simpa using this
theorem loop_listb {α σ S ρ β:Type}{step:S→Option (S ⊕ ρ)}{k:ρ→Option β}(xs:List α)(enc:σ→Int→S)(f:σ→α→σ)(fin:σ→ρ)(I:σ→Prop)(s0:σ)
  (h0:I s0) (hstep:∀s (i:Nat) (h:i<xs.length),I s→step (enc s i)=some (.inl (enc (f s xs[i]) ((i+1:Nat):Int)))∧I (f s xs[i]))
  (hend:∀s,I s→step (enc s xs.length)=some (.inr (fin s))):(Ar step (enc s0 0)).bind k=k (fin (xs.foldl f s0)):=by
 rw[(loop_list xs enc f fin I s0 h0 hstep hend).1];rfl
theorem Ew {α β γ S:Type}{step:S→Option (S ⊕ List β)}{k:List β→Option γ}(xs:List α)(enc:List β→Int→S)(f:α→β)(hx:xs.length≤4294967296)
  (hstep:∀s (i:Nat) (h:i<xs.length),s.length=i→step (enc s i)=(AK s [f xs[i]]).bind λl=>some (.inl (enc l ((i+1:Nat):Int))))
  (hend:∀s,step (enc s xs.length)=some (.inr s)):(Ar step (enc [] 0)).bind k=k (xs.map f):=by
 have key:∀i,i≤xs.length→Ar step (enc [] 0)=Ar step (enc ((xs.take i).map f) i):=by
  intro i
  induction i with
  |zero=>intro _;simp
  |succ i ih=>
   intro hi
   rw[ih (by omega)]
   have h1:=hstep ((xs.take i).map f) i (by omega) (by simp;omega)
   have h2:AK ((xs.take i).map f) [f xs[i]]=some ((xs.take (i+1)).map f):=by
    unfold AK
    rw[if_pos (by simp;omega)]
    rw[List.take_succ_eq_append_getElem (show i<xs.length by omega),List.map_append];rfl
   rw[h2] at h1
   rw[BK h1]
 rw[key xs.length (Nat.le_refl _),List.take_length,Bo (hend _)];rfl
theorem D8 {ρ : Type} {step : Int → Option (Int ⊕ ρ)} (n : Nat) (c : Nat → Option ρ) (fin : ρ)
    (hstep : ∀ i, i < n → step (i : Int) = match c i with | some r => some (.inr r) | none => some (.inl ((i + 1 : Nat) : Int)))
    (hend : step (n : Int) = some (.inr fin)) : Ar step 0 = some (((List.range n).findSome? c).getD fin) := by
  have key : ∀ (k i : Nat), i + k = n → Ar step (i : Int) = some (((List.range' i k).findSome? c).getD fin) := by
    intro k
    induction k with
    | zero => intro i h; obtain rfl : i = n := by omega
              simpa using Bo hend
    | succ k ih =>
      intro i h
      have h1 := hstep i (by omega)
      rw [List.range'_succ, List.findSome?_cons]
      cases hc : c i with
      | some r => rw [hc] at h1; simpa using Bo h1
      | none => rw [hc] at h1; rw [BK h1]; exact ih (i + 1) (by omega)
  have := key n 0 (by omega)
  simpa [List.range_eq_range'] using this
theorem Dy {β:Type}{step:Int→Option (Int ⊕ (Unit ⊕ β))}{k:Unit ⊕ β→Option Bool}(n:Nat)(c:Nat→Bool)(bad:β)
  (hstep:∀i,i<n→step (i:Int)=if c i then some (.inl ((i+1:Nat):Int)) else some (.inr (.inr bad)))
  (hend:step (n:Int)=some (.inr (.inl ()))) (hk1:k (.inl ())=some true) (hk2:k (.inr bad)=some false):
  (Ar step 0).bind k=some ((List.range n).all c):=by
 rw[D8 n (λi=>if c i then none else some (.inr bad)) (.inl ()) (λi hi=>by rw[hstep i hi];cases c i<;>rfl) hend]
 simp only[bs]
 cases h:(List.range n).all c with
 |true=>
  rw[List.findSome?_eq_none_iff.2 (λx hx=>by rw[if_pos (List.all_eq_true.1 h x hx)])]
  exact hk1
 |false=>
  cases h2:(List.range n).findSome? (λi=>if c i then none else some (Sum.inr bad)) with
  |none=>
   rw[List.findSome?_eq_none_iff] at h2
   have:(List.range n).all c=true:=List.all_eq_true.2 λx hx=>by
    have:=h2 x hx
    cases hc:c x
    ·rw[hc] at this;cases this
    ·rfl
   rw[this] at h;cases h
  |some r=>
   obtain⟨x,_,hx⟩:=List.exists_of_findSome?_eq_some h2
   cases hc:c x
   ·rw[hc] at hx;simp at hx;subst hx;exact hk2
   ·rw[hc] at hx;simp at hx
theorem CX {ρ β:Type}{step:Int→Option (Int ⊕ ρ)}{k:ρ→Option β}(n:Nat)(c:Nat→Bool)(fine bad:ρ)
  (hstep:∀i,i<n→step (i:Int)=if c i then some (.inl ((i+1:Nat):Int)) else some (.inr bad))
  (hend:step (n:Int)=some (.inr fine)):(Ar step 0).bind k=cond ((List.range n).all c) (k fine) (k bad):=by
 rw[D8 n (λi=>if c i then none else some bad) fine (λi hi=>by rw[hstep i hi];cases c i<;>rfl) hend]
 simp only[bs]
 cases h:(List.range n).all c with
 |true=>
  rw[List.findSome?_eq_none_iff.2 (λx hx=>by rw[if_pos (List.all_eq_true.1 h x hx)])]
  rfl
 |false=>
  cases h2:(List.range n).findSome? (λi=>if c i then none else some bad) with
  |none=>
   rw[List.findSome?_eq_none_iff] at h2
   have:(List.range n).all c=true:=List.all_eq_true.2 λx hx=>by
    have:=h2 x hx
    cases hc:c x
    ·rw[hc] at this;cases this
    ·rfl
   rw[this] at h;cases h
  |some r=>
   obtain⟨x,_,hx⟩:=List.exists_of_findSome?_eq_some h2
   cases hc:c x
   ·rw[hc] at hx;simp at hx;subst hx;rfl
   ·rw[hc] at hx;simp at hx
theorem loop_anyb {β:Type}{step:Int→Option (Int ⊕ (Unit ⊕ β))}{k:Unit ⊕ β→Option Bool}(n:Nat)(c:Nat→Bool)(good:β)
  (hstep:∀i,i<n→step (i:Int)=if c i then some (.inr (.inr good)) else some (.inl ((i+1:Nat):Int)))
  (hend:step (n:Int)=some (.inr (.inl ()))) (hk1:k (.inl ())=some false) (hk2:k (.inr good)=some true):
  (Ar step 0).bind k=some ((List.range n).any c):=by
 rw[D8 n (λi=>if c i then some (.inr good) else none) (.inl ()) (λi hi=>by rw[hstep i hi];cases c i<;>rfl) hend]
 simp only[bs]
 cases h:(List.range n).any c with
 |false=>
  rw[List.findSome?_eq_none_iff.2 (λx hx=>by
   have:c x=false:=by
    cases hc:c x
    ·rfl
    ·rw[List.any_eq_true.2 ⟨x,hx,hc⟩] at h;cases h
   rw[this];rfl)]
  exact hk1
 |true=>
  obtain⟨x,hx,hc⟩:=List.any_eq_true.1 h
  cases h2:(List.range n).findSome? (λi=>if c i then some (Sum.inr good) else none) with
  |none=>
   rw[List.findSome?_eq_none_iff] at h2
   have:=h2 x hx
   rw[hc] at this;cases this
  |some r=>
   obtain⟨y,_,hy⟩:=List.exists_of_findSome?_eq_some h2
   cases hc:c y
   ·rw[hc] at hy;simp at hy
   ·rw[hc] at hy;simp at hy;subst hy;exact hk2
theorem Ee {α:Type}(xs:List α)(p:α→Bool)(c:Nat→Bool)(h:∀i (hi:i<xs.length),c i=p xs[i]):(List.range xs.length).all c=xs.all p:=by
 rw[Bool.eq_iff_iff,List.all_eq_true,List.all_eq_true]
 constructor
 ·intro hh x hx
  obtain⟨i,hi,rfl⟩:=List.getElem_of_mem hx
  rw[←h i hi];exact hh i (List.mem_range.2 hi)
 ·intro hh i hi
  have hi':=List.mem_range.1 hi
  rw[h i hi'];exact hh _ (List.getElem_mem _)
theorem range_any_list {α:Type}(xs:List α)(p:α→Bool)(c:Nat→Bool)(h:∀i (hi:i<xs.length),c i=p xs[i]):(List.range xs.length).any c=xs.any p:=by
 rw[Bool.eq_iff_iff,List.any_eq_true,List.any_eq_true]
 constructor
 ·rintro⟨i,hi,hc⟩
  have hi':=List.mem_range.1 hi
  exact⟨_,List.getElem_mem hi',by rw[←h i hi'];exact hc⟩
 ·rintro⟨x,hx,hc⟩
  obtain⟨i,hi,rfl⟩:=List.getElem_of_mem hx
  exact⟨i,List.mem_range.2 hi,by rw[h i hi];exact hc⟩
theorem EF (n:Nat)(c:Nat→Bool):(List.range n).all c=true↔∀i,i<n→c i=true:=by
 rw[List.all_eq_true]
 exact⟨λh i hi=>h i (List.mem_range.2 hi),λh i hi=>h i (List.mem_range.1 hi)⟩
theorem DZ (n:Int):IntKind.u32.wrap n=n%4294967296:=by simp[IntKind.wrap,IntKind.signed,IntKind.bits]
def VS (s:Int):Prop:=0≤s∧s<4294967296
def has (s:Int)(v:Nat):Bool:=s.toNat.testBit v
theorem VS.nat {s:Int}(h:VS s):∃n:Nat,s=n∧n<4294967296:=⟨s.toNat,by have:=h.1;omega,by have:=h.1;have:=h.2;omega⟩
theorem VS.zero :VS 0:=⟨by omega,by omega⟩
theorem VS.wrap (n:Int):VS (IntKind.u32.wrap n):=by rw[DZ];exact⟨by omega,by omega⟩
theorem BY (n v:Nat):has (n:Int) v=n.testBit v:=by simp[has]
theorem BH (v:Nat):has 0 v=false:=by simp[has]
theorem Df (n:Nat)(h:n<4294967296):(BitVec.ofInt 32 (n:Int)).toNat=n:=by
 rw[BitVec.toNat_ofInt]
 omega
theorem ior_nat {a b:Nat}(ha:a<4294967296)(hb:b<4294967296):ior .u32 (a:Int) (b:Int)=((a|||b:Nat):Int):=by
 have hw:a|||b<4294967296:=Nat.or_lt_two_pow (n:=32) ha hb
 show IntKind.u32.wrap (((BitVec.ofInt 32 (a:Int)|||BitVec.ofInt 32 (b:Int)).toNat:Nat):Int)=_
 rw[BitVec.toNat_or,Df a ha,Df b hb,DZ];omega
theorem D1 {a b:Nat}(ha:a<4294967296)(hb:b<4294967296):iand .u32 (a:Int) (b:Int)=((a&&&b:Nat):Int):=by
 have hw:a&&&b<4294967296:=Nat.and_lt_two_pow (n:=32) _ hb
 show IntKind.u32.wrap (((BitVec.ofInt 32 (a:Int)&&&BitVec.ofInt 32 (b:Int)).toNat:Nat):Int)=_
 rw[BitVec.toNat_and,Df a ha,Df b hb,DZ];omega
theorem VS.ior (a b:Int):VS (ior .u32 a b):=VS.wrap _
theorem VS.iand (a b:Int):VS (iand .u32 a b):=VS.wrap _
theorem VS.iandNot (a b:Int):VS (iandNot .u32 a b):=VS.wrap _
theorem VS.ishl (a b:Int):VS (ishl .u32 a b):=VS.wrap _
theorem BU {a b:Int}(ha:VS a)(hb:VS b)(v:Nat):has (ior .u32 a b) v=(has a v||has b v):=by
 obtain⟨m,rfl,hm⟩:=ha.nat;obtain⟨n,rfl,hn⟩:=hb.nat
 rw[ior_nat hm hn];simp only[BY,Nat.testBit_or]
theorem De {a b:Int}(ha:VS a)(hb:VS b)(v:Nat):has (iand .u32 a b) v=(has a v&&has b v):=by
 obtain⟨m,rfl,hm⟩:=ha.nat;obtain⟨n,rfl,hn⟩:=hb.nat
 rw[D1 hm hn];simp only[BY,Nat.testBit_and]
theorem Cc {a b:Int}(ha:VS a)(hb:VS b)(v:Nat):has (iandNot .u32 a b) v=(has a v&& !has b v):=by
 obtain⟨m,rfl,hm⟩:=ha.nat;obtain⟨n,rfl,hn⟩:=hb.nat
 have e:iandNot .u32 (m:Int) (n:Int)=(((BitVec.ofInt 32 (m:Int)&&& ~~~(BitVec.ofInt 32 (n:Int))).toNat:Nat):Int):=by
  have hw:=(BitVec.ofInt 32 (m:Int)&&& ~~~(BitVec.ofInt 32 (n:Int))).isLt
  show IntKind.u32.wrap (((BitVec.ofInt 32 (m:Int)&&& ~~~(BitVec.ofInt 32 (n:Int))).toNat:Nat):Int)=_
  rw[DZ];omega
 rw[e,BY,BY,BY]
 have h1:∀i,(BitVec.ofInt 32 (m:Int)).getLsbD i=m.testBit i:=λi=>by rw[BitVec.getLsbD,Df m hm]
 have h2:∀i,(BitVec.ofInt 32 (n:Int)).getLsbD i=n.testBit i:=λi=>by rw[BitVec.getLsbD,Df n hn]
 rw[←BitVec.getLsbD,BitVec.getLsbD_and,BitVec.getLsbD_not,h1,h2]
 by_cases hv:v<32
 ·simp[hv]
 ·have:m.testBit v=false:=Nat.testBit_lt_two_pow (Nat.lt_of_lt_of_le hm (Nat.pow_le_pow_right (n:=2) (by omega) (show 32≤v by omega)))
  simp[this]
theorem E8 {a:Int}(ha:VS a){v:Nat}(hv:32≤v):has a v=false:=by
 obtain⟨m,rfl,hm⟩:=ha.nat
 rw[BY]
 exact Nat.testBit_lt_two_pow (Nat.lt_of_lt_of_le hm (Nat.pow_le_pow_right (n:=2) (by omega) hv))
theorem VS.ext {a b:Int}(ha:VS a)(hb:VS b)(h:∀v,v<32→has a v=has b v):a=b:=by
 have:∀v,has a v=has b v:=λv=>by
  by_cases hv:v<32
  ·exact h v hv
  ·rw[E8 ha (by omega),E8 hb (by omega)]
 obtain⟨m,rfl,hm⟩:=ha.nat;obtain⟨n,rfl,hn⟩:=hb.nat
 congr 1
 apply Nat.eq_of_testBit_eq
 intro v
 have:=this v
 rwa [BY,BY] at this
theorem VS.eq_zero {a:Int}(ha:VS a):a=0↔∀v,v<32→has a v=false:=
 ⟨λh v _=>by rw[h,BH],λh=>ha.ext VS.zero (λv hv=>by rw[h v hv,BH])⟩
theorem one_eq {v:Nat}(hv:v<32):ishl .u32 1 (v:Int)=((2^v:Nat):Int):=by
 have h:(2:Nat)^v<2^32:=Nat.pow_lt_pow_right (by omega) hv
 have h':(2:Nat)^32=4294967296:=by decide
 rw[h'] at h
 show IntKind.u32.wrap (1*2^(min ((v:Int)).toNat 32))=_
 rw[DZ,show min ((v:Int)).toNat 32=v by simp;omega,Int.one_mul]
 have e:((2^v:Nat):Int)=(2:Int)^v:=by simp
 rw[←e]
 generalize 2^v=p at h ⊢
 omega
theorem BE {v:Nat}(hv:v<32)(u:Nat):has (ishl .u32 1 (v:Int)) u=decide (u=v):=by
 rw[one_eq hv,BY,Nat.testBit_two_pow]
 simp[eq_comm]
theorem shr_eq (s:Int)(v:Nat)(h:VS s)(hv:v<32):BI .u32 s (v:Int)=((s.toNat>>>v:Nat):Int):=by
 obtain⟨m,rfl,hm⟩:=h.nat
 show Int.fdiv (m:Int) (2^(min ((v:Int)).toNat 32))=_
 rw[show min ((v:Int)).toNat 32=v by simp;omega]
 have e:((2^v:Nat):Int)=(2:Int)^v:=by simp
 rw[←e,Int.fdiv_eq_ediv_of_nonneg _ (Int.natCast_nonneg _),Nat.shiftRight_eq_div_pow]
 simp
theorem bitAt_eq {s:Int}{v:Nat}(h:VS s)(hv:v<32):(iand .u32 (BI .u32 s (v:Int)) 1==1)=has s v:=by
 rw[shr_eq s v h hv]
 have hs:s.toNat>>>v<4294967296:=by
  obtain⟨m,rfl,hm⟩:=h.nat
  rw[Nat.shiftRight_eq_div_pow]
  exact Nat.lt_of_le_of_lt (Nat.div_le_self _ _) hm
 have:=D1 hs (show (1:Nat)<4294967296 by omega)
 rw[show (1:Int)=((1:Nat):Int) from rfl,this,has,Nat.testBit]
 rw[Nat.and_comm]
 have h1:1&&&(s.toNat>>>v)=0∨1&&&(s.toNat>>>v)=1:=by
  rw[Nat.and_comm,Nat.and_one_is_mod];omega
 rcases h1 with e|e<;>rw[e]<;>rfl
def Aj (s:Int):LI:=((List.range 32).filter (has s)).map Int.ofNat
theorem mem_elems {s:Int}{x:Int}:x∈Aj s↔∃v:Nat,v<32∧has s v=true∧x=v:=by
 unfold Aj
 rw[List.mem_map]
 constructor
 ·rintro⟨v,hv,rfl⟩
  rw[List.mem_filter,List.mem_range] at hv
  exact⟨v,hv.1,hv.2,rfl⟩
 ·rintro⟨v,h1,h2,rfl⟩
  exact⟨v,List.mem_filter.2 ⟨List.mem_range.2 h1,h2⟩,rfl⟩
theorem AG {s:Int}(h:VS s){v:Nat}:(v:Int)∈Aj s↔has s v=true:=by
 rw[mem_elems]
 constructor
 ·rintro⟨u,_,h2,h3⟩;obtain rfl:v=u:=by omega
  exact h2
 ·intro h2
  refine⟨v,?_,h2,rfl⟩
  by_cases hv:v<32
  ·exact hv
  ·rw[E8 h (by omega)] at h2;cases h2
theorem Bb (s:Int):(Aj s).length≤32:=by
 unfold Aj
 rw[List.length_map]
 exact Nat.le_trans (List.length_filter_le _ _) (by simp)
def Inc (l:LI):Prop:=l.Pairwise (·<·)
theorem Bl (s:Int):Inc (Aj s):=by
 unfold Aj Inc
 rw[List.pairwise_map]
 refine List.Pairwise.filter _ ?_
 refine List.Pairwise.imp ?_ (List.pairwise_lt_range (n:=32))
 intro a b h
 show (a:Int)<(b:Int)
 omega
theorem Inc.ext :∀{l l':LI},Inc l→Inc l'→(∀x,x∈l↔x∈l')→l=l'
 |[],[],_,_,_=>rfl
 |[],y::l',_,_,h=>by have:=(h y).2 (by simp);simp at this
 |x::l,[],_,_,h=>by have:=(h x).1 (by simp);simp at this
 |x::l,y::l',h1,h2,h=>by
  have h1':=List.pairwise_cons.1 h1;have h2':=List.pairwise_cons.1 h2
  have e:x=y:=by
   rcases List.mem_cons.1 ((h x).1 (by simp)) with e|e
   ·exact e
   ·rcases List.mem_cons.1 ((h y).2 (by simp)) with e'|e'
    ·exact e'.symm
    ·have:=h2'.1 x e;have:=h1'.1 y e';omega
  subst e
  have:l=l':=by
   refine Inc.ext h1'.2 h2'.2 (λz=> ?_)
   constructor
   ·intro hz
    rcases List.mem_cons.1 ((h z).1 (List.mem_cons_of_mem _ hz)) with e|e
    ·have:=h1'.1 z hz;omega
    ·exact e
   ·intro hz
    rcases List.mem_cons.1 ((h z).2 (List.mem_cons_of_mem _ hz)) with e|e
    ·have:=h2'.1 z hz;omega
    ·exact e
  rw[this]
theorem least_spec {s:Int}(h:VS s)(h0:s≠0):∃k:Nat,k<32∧has s k=true∧(∀v,v<k→has s v=false)∧
  iand .u32 s (IntKind.u32.wrap (0-s))=((2^k:Nat):Int)∧(∀v,has (iand .u32 s (IntKind.u32.wrap (s-1))) v=(has s v&& !decide (v=k))):=by
 obtain⟨m,rfl,hm⟩:=h.nat
 have hm0:m≠0:=by omega
 obtain⟨q,hq,hk⟩:=Lib.ctzFrom_spec 32 m (by omega) hm
 have hc:Lib.ctz 32 m=Lib.ctzFrom 32 m:=by unfold Lib.ctz;rw[if_neg hm0]
 obtain⟨hl,_⟩:=Lib.lowest_bit 32 m hm0 hm
 rw[hc] at hl
 generalize Lib.ctzFrom 32 m=k at*
 have hpos:0<2^k:=Nat.pow_pos (by omega)
 have hb:∀v,m.testBit v=(decide (v≥k)&&(2*q+1).testBit (v-k)):=λv=>by rw[hq,Nat.mul_comm,Nat.testBit_mul_two_pow,Bool.and_comm]
 refine⟨k,hk,?_,λv hv=> ?_,?_,λv=> ?_⟩
 ·rw[BY,hb];simp
 ·rw[BY,hb];simp;intro hc;omega
 ·have e:IntKind.u32.wrap (0-(m:Int))=((4294967296-m:Nat):Int):=by rw[DZ];omega
  rw[e,D1 hm (by omega)]
  rw[←hl]
 ·have e:IntKind.u32.wrap ((m:Int)-1)=((m-1:Nat):Int):=by rw[DZ];omega
  rw[e,D1 hm (by omega),BY,BY,Nat.testBit_and]
  have hm1:m-1=2^k*(2*q)+(2^k-1):=by rw[hq,Nat.mul_add];omega
  have hb1:(m-1).testBit v=if v<k then true else(2*q).testBit (v-k):=by
   rw[hm1,Nat.testBit_two_pow_mul_add _ (by omega)]
   split
   ·rename_i hv;rw[Nat.testBit_two_pow_sub_one];simp[hv]
   ·rfl
  rw[hb1,hb]
  by_cases hv:v<k
  ·simp[hv];intro hc;omega
  ·rw[if_neg hv]
   by_cases hvk:v=k
   ·subst hvk;simp
   ·obtain⟨t,ht⟩:∃t,v-k=t+1:=⟨v-k-1,by omega⟩
    rw[ht,Nat.testBit_succ,Nat.testBit_succ]
    have e1:(2*q+1)/2=q:=by omega
    have e2:2*q/2=q:=by omega
    rw[e1,e2]
    simp[hvk]
theorem Fk {s t:Int}{k:Nat}(hk:k<32)(h1:has s k=true)(h2:∀v,v<k→has s v=false)(h3:∀v,has t v=(has s v&& !decide (v=k))):
  Aj s=(k:Int)::Aj t:=by
 refine Inc.ext (Bl s) ?_ (λx=> ?_)
 ·refine List.pairwise_cons.2 ⟨λx hx=> ?_,Bl t⟩
  obtain⟨v,hv,h4,rfl⟩:=mem_elems.1 hx
  rw[h3] at h4
  simp at h4
  by_cases hc:v<k
  ·rw[h2 v hc] at h4;simp at h4
  ·omega
 ·rw[List.mem_cons,mem_elems,mem_elems]
  constructor
  ·rintro⟨v,hv,h4,rfl⟩
   by_cases e:v=k
   ·left;omega
   ·right;exact⟨v,hv,by rw[h3,h4];simp[e],rfl⟩
  ·rintro(rfl|⟨v,hv,h4,rfl⟩)
   ·exact⟨k,hk,h1,rfl⟩
   ·rw[h3] at h4;simp at h4
    exact⟨v,hv,h4.1,rfl⟩
theorem elems_zero :Aj 0=[]:=by
 unfold Aj
 rw[List.filter_eq_nil_iff.2 (λv _=>by simp[BH])];rfl
theorem tz_table :∀k:Nat,k<32→idx tab32 (BI .u32 (IntKind.u32.wrap (((2^k:Nat):Int)*125613361)) 27)=some (k:Int):=by decide+kernel
abbrev ArM :=List ((Int×Int)×Int)
abbrev ArL :=List (Int×Int)
end Go.Sx

namespace Go.Sx
end Go.Sx

namespace Go.Sx
open Go
end Go.Sx

namespace Go.Sx
end Go.Sx

namespace Go.Sx
end Go.Sx

namespace Go.Sx
open Go
def ai (x:Nat→Int)(j:Int):Option Int:=if 0≤j∧j<16 then some (x j.toNat) else none
end Go.Sx

namespace Go.Sx
end Go.Sx

namespace Go.Sx
noncomputable def D.s1 (b:LL)(a:LI):Option (LL×Bool):=
 (D.N b a).bind λc=>cond ((!c)||((a.length:Int)==0)) (some (([]:LL),false)) ((D.w0 b a).bind λd=>some (d,true))
end Go.Sx

namespace Go.Sx
noncomputable def D.e1 (a:LL):Option (Bool):=
 (D.z a).bind λb=>some (b&&(decide ((a.length:Int)≤8)))
end Go.Sx

namespace Go.Sx
end Go.Sx

namespace Go.Sx
end Go.Sx

namespace Go.Sx
end Go.Sx

namespace Go.Sx
end Go.Sx

namespace Go.Sx
open Go
end Go.Sx

namespace Go.Sx
open Go
end Go.Sx

namespace Go.Sx
open Go
end Go.Sx

namespace Go.Sx
end Go.Sx

namespace Go.Sx
open Go
theorem BV {f:Fn}{a b:Array Value}:(Value.func f a b).cells= #[.func f a b]:=rfl
end Go.Sx

namespace Go.Sx
end Go.Sx

namespace Go.Sx
open Go
end Go.Sx

namespace Go.Sx
open Go
end Go.Sx

namespace Go.Sx
end Go.Sx

namespace Go.Sx
abbrev SHd :=Option Addr×Nat×Nat
def hdV (h:SHd):Value:= .slice h.1 h.2.1 h.2.2
abbrev PtT :=Int×Int×List Int
def P3S :Rec (Int×Int×SHd):=⟨3,λx=>[.int .i64 x.1,.int .i64 x.2.1,hdV x.2.2],λ_=>rfl,by decide,λx c h=>by simp at h;rcases h with rfl|rfl|rfl<;>rfl⟩
def PtE (G:GH)(z:Int×Int×SHd)(x:PtT):Prop:=z.1=x.1∧z.2.1=x.2.1∧RSl (RI .i64) G (hdV z.2.2) x.2.2
def PtL (G:GH)(zs:List (Int×Int×SHd))(xs:List PtT):Prop:=zs.length=xs.length∧∀(i:Nat) z x,zs[i]? =some z→xs[i]? =some x→PtE G z x
def RPt :Rep (List PtT):=λG v xs=>∃zs,RSr P3S G v zs∧PtL G zs xs
def OwPt (t:TypeId)(G:GH)(it:Itm)(v:Value)(xs:List PtT):Prop:=∃zs,OwR P3S t G it v zs∧PtL G zs xs
theorem PtE.mono {G G':GH}(hG:GLe G G'){z x}(h:PtE G z x):PtE G' z x:=⟨h.1,h.2.1,RSl.mono (RI.mono _) _ _ _ _ hG h.2.2⟩
theorem PtL.mono {G G':GH}(hG:GLe G G'){zs xs}(h:PtL G zs xs):PtL G' zs xs:=⟨h.1,λi z x hz hx=>(h.2 i z x hz hx).mono hG⟩
theorem PtL.nil (G:GH):PtL G [] []:=⟨rfl,λi z x h=>by simp at h⟩
theorem PtL.append {G:GH}{zs xs zs' xs'}(h:PtL G zs xs)(h':PtL G zs' xs'):PtL G (zs++zs') (xs++xs'):=by
 refine⟨by simp[h.1,h'.1],λi z x hz hx=> ?_⟩
 by_cases hi:i<zs.length
 ·rw[List.getElem?_append_left hi] at hz
  rw[List.getElem?_append_left (by rw[←h.1];exact hi)] at hx
  exact h.2 i z x hz hx
 ·rw[List.getElem?_append_right (by omega)] at hz
  rw[List.getElem?_append_right (by rw[←h.1];omega),←h.1] at hx
  exact h'.2 _ z x hz hx
theorem RSl.hd {α:Type}{R:Rep α}{G:GH}{v:Value}{xs:List α}(h:RSl R G v xs):∃e:SHd,v=hdV e:=by
 obtain⟨a,c,rfl,_⟩:=h.len
 exact⟨(a,xs.length,c),rfl⟩
theorem ptT :True:=trivial
theorem RPt.mono (_:True):DC RPt:=by
 rintro G G' v xs hG ⟨zs,h1,h2⟩
 exact⟨zs,RSr.mono trivial _ _ _ _ hG h1,h2.mono hG⟩
theorem OwPt.mono (_:True){t:TypeId}{G G':GH}{it:Itm}{v:Value}{xs:List PtT}(hG:GLe G G')(h:OwPt t G it v xs):OwPt t G' it v xs:=by
 obtain⟨zs,h1,h2⟩:=h;exact⟨zs,h1,h2.mono hG⟩
theorem OwPt.nil (t:TypeId){W w:World}{G:GH}{H:List Itm}(m:Mem W G w H):∃it,Mem W G w (it::H)∧OwPt t G it (.slice none 0 0) []:=by
 obtain⟨it,h1,h2⟩:=OwR.nil P3S t m
 exact⟨it,h1,[],h2,PtL.nil _⟩
theorem OwPt.stamp (_:True){t:TypeId}{W w:World}{G:GH}{it:Itm}{H:List Itm}{v:Value}{xs:List PtT}(h:OwPt t G it v xs)(m:Mem W G w (it::H)):
  ∃G',GLe G G'∧Mem W G' w H∧RPt G' v xs:=by
 obtain⟨zs,h1,h2⟩:=h
 obtain⟨G',g1,g2,g3⟩:=OwR.stamp trivial h1 m
 exact⟨G',g1,g2,zs,g3,h2.mono g1⟩
theorem OwPt.lendCall {P:Program}{g:FuncId}{args:Array Value}(_:True){t:TypeId}{W w:World}{G:GH}{it:Itm}{H:List Itm}{v:Value}{xs:List PtT}{Q:GH→List Itm→Value→Prop}(j:Nat)
  (h:OwPt t G it v xs) (m:Mem W G w H) (hj:H[j]? =some it)
  (hc:∀G₁,GLe G G₁→Mem W G₁ w (H.eraseIdx j)→RPt G₁ v xs→Calls P g args w (Res W G₁ (H.eraseIdx j) Q)) (hQ:∀G G' Ho v,Q G Ho v→Q G' Ho v):Calls P g args w (Res W G H Q):=by
 obtain⟨zs,h1,h2⟩:=h
 exact OwR.lendCall trivial j h1 m hj (λG₁ hle m1 h3=>hc G₁ hle m1 ⟨zs,h3,h2.mono hle⟩) hQ
section
variable {P : Program} {ops : Array Oper} {rest : List Oper} {n r : Bh} {x : List (Nat × Bh)} {a : Act} {w : World} {N : Nat} {L : Bp}
variable {d : Nat} {t : TypeId} {pos : String} {af : Array Edge} {W : World} {G : GH} {H : List Itm}
theorem Dl {v:Value}{xs:List PtT}{u e:Nat}{xo:Operand}(hu:P.underlying u=some (.slice e))(f:Fr a N L)(hN:Nat.blt d N=true)(hx:AM L xo=some v)(h:RPt G v xs)
  (q:∀a',Fr a' N ((d,.int .i64 (xs.length:Int))::L)→wpList P ops (Qk n x r) rest a' w):
  wpList P ops (Qk n x r) (⟨some d,.call {callee:= .builtin .len,args:= #[xo],argTypes:= #[u]},t,pos,af,none⟩::rest) a w:=by
 obtain⟨zs,h1,h2⟩:=h
 exact l_lenR hu f hN hx h1 (by rw[h2.1];exact q)
theorem l_ownP_len {tt:TypeId}{it:Itm}{v:Value}{xs:List PtT}{u e:Nat}{xo:Operand}(j:Nat)(m:Mem W G w H)(h:OwPt tt G it v xs)(hj:H[j]? =some it)
  (hu:P.underlying u=some (.slice e)) (f:Fr a N L) (hN:Nat.blt d N=true) (hx:AM L xo=some v)
  (q:∀a',Fr a' N ((d,.int .i64 (xs.length:Int))::L)→wpList P ops (Qk n x r) rest a' w):
  wpList P ops (Qk n x r) (⟨some d,.call {callee:= .builtin .len,args:= #[xo],argTypes:= #[u]},t,pos,af,none⟩::rest) a w:=by
 obtain⟨zs,h1,h2⟩:=h
 exact l_ownR_len j m h1 hj hu f hN hx (by rw[h2.1];exact q)
theorem RPt.at {v:Value}{xs:List PtT}(h:RPt G v xs){i:Int}{y:PtT}(he:idx xs i=some y):∃zs e,RSr P3S G v zs∧idx zs i=some (y.1,y.2.1,e)∧RSl (RI .i64) G (hdV e) y.2.2:=by
 obtain⟨zs,h1,h2⟩:=h
 obtain⟨g0,g1,g2⟩:=CC he
 have hl:i.toNat<zs.length:=by rw[h2.1];omega
 obtain⟨e1,e2,e3⟩:=h2.2 i.toNat zs[i.toNat] y (by simp[hl]) g2
 refine⟨zs,zs[i.toNat].2.2,h1,?_,e3⟩
 rw[←e1,←e2]
 have:=h2.1
 unfold idx
 simp only[g0,if_true,List.getElem?_eq_getElem hl]
theorem Cz {v:Value}{xs:List PtT}{u e bytes:Nat}{z:Value}{xo io:Operand}{k:IntKind}{i:Int}{y:PtT}
  (hu:SlT P u e 3 bytes z) (f:Fr a N L) (hN:Nat.blt d N=true) (hx:AM L xo=some v) (hi:AM L io=some (.int k i)) (h:RPt G v xs) (he:idx xs i=some y)
  (q:∀p c a',AtR P3S G p (y.1,y.2.1,c)→RSl (RI .i64) G (hdV c) y.2.2→Fr a' N ((d,p)::L)→wpList P ops (Qk n x r) rest a' w):
  wpList P ops (Qk n x r) (⟨some d,.indexAddr u xo io,t,pos,af,none⟩::rest) a w:=by
 obtain⟨zs,c,h1,h2,h3⟩:=h.at he
 exact l_atR (E:=P3S) hu f hN hx hi h1 h2 (λp a' g f'=>q p c a' g h3 f')
theorem E9 {tt u bytes:Nat}{z:Value}{xo:Operand}{v0:Value}{y:PtT}(m:Mem W G w H)(hu:SlT P u tt 3 bytes z)(f:Fr a N L)(hN:Nat.blt d N=true)
  (hx:AM L xo=some (.agg #[.int .i64 y.1,.int .i64 y.2.1,v0])) (hv:RSl (RI .i64) G v0 y.2.2)
  (k:∀it v w' a',Mem W G w' (it::H)→OwPt tt G it v [y]→Fr a' N ((d,v)::L)→wpList P ops (Qk n x r) rest a' w'):
  wpList P ops (Qk n x r) (⟨some d,.buildSlice u 1 #[(0,xo)],t,pos,af,none⟩::rest) a w:=by
 obtain⟨e,rfl⟩:=hv.hd
 refine l_slitR (E:=P3S) (y:=(y.1,y.2.1,e)) (cs:=[.int .i64 y.1,.int .i64 y.2.1,hdV e]) m hu f hN hx rfl (Nat.le_of_ble_eq_true rfl) (λit v w' a' m' o f'=>k it v w' a' m' ⟨_,o,?_⟩ f')
 refine⟨rfl,λi z' x' hz hx'=> ?_⟩
 match i with
 |0=>
  simp at hz hx'
  subst hz hx'
  exact⟨rfl,rfl,hv⟩
 |i+1=>simp at hz
theorem DQ {tt u bytes:Nat}{z:Value}(m:Mem W G w H)(hu:SlT P u tt 3 bytes z)(f:Fr a N L)(hN:Nat.blt d N=true)
  (k:∀it v w' a',Mem W G w' (it::H)→OwPt tt G it v []→Fr a' N ((d,v)::L)→wpList P ops (Qk n x r) rest a' w'):
  wpList P ops (Qk n x r) (⟨some d,.buildSlice u 0 #[],t,pos,af,none⟩::rest) a w:=
 l_slitR0 (E:=P3S) m hu f hN (λit v w' a' m' o f'=>k it v w' a' m' ⟨[],o,PtL.nil _⟩ f')
theorem D7 {tt u bytes : Nat} {z : Value} {it itS : Itm} {v y : Value} {xs ys zs : List PtT} {s xo : Operand} (j j2 : Nat) (m : Mem W G w H) (h : OwPt tt G it v xs) (hj : H[j]? = some it) (h2 : OwPt tt G itS y ys) (hj2 : H[j2]? = some itS) (hne : ys ≠ [])
    (hu : SlT P u tt 3 bytes z) (hzc : z.cells.size = 3) (hb : bytes ≤ 32768) (f : Fr a N L) (hN : Nat.blt d N = true) (hs : AM L s = some v) (hx : AM L xo = some y) (hz : AK xs ys = some zs)
    (k : ∀ it' v' w' a', Mem W G w' (H.set j it') → OwPt tt G it' v' zs → Fr a' N ((d, v') :: L) → wpList P ops (Qk n x r) rest a' w') :
    wpList P ops (Qk n x r) (⟨some d, .call { callee := .builtin .append, args := #[s, xo], argTypes := #[u, u] }, t, pos, af, none⟩ :: rest) a w := by
  obtain ⟨az, h1, h1'⟩ := h
  obtain ⟨bs', h3, h3'⟩ := h2
  unfold AK at hz
  split at hz
  · rename_i hle
    obtain rfl := Option.some.inj hz
    refine l_appendR (E := P3S) j j2 m h1 hj h3 hj2 (fun e => hne (List.eq_nil_of_length_eq_zero (by rw [← h3'.1, e]; rfl))) hu hzc hb f hN hs hx (zs := az ++ bs') (by unfold AK; rw [h1'.1, h3'.1, if_pos hle]) (fun it' v' w' a' m' o f' => k it' v' w' a' m' ⟨_, o, h1'.append h3'⟩ f')
  · cases hz
end
section
variable {P : Program} {ops : Array Oper} {nn r : Bh} {x : List (Nat × Bh)} {T : Act → World → Prop} {W : World} {G : GH} {E H : List Itm} {N : Nat} {L : Bp} {a : Act} {fuel : Nat} {listed listed' : Array Bool}
variable {t : TypeId} {pos : String} {af : Array Edge} {gd : Option (Nat × Bool)} {d i : Nat}
theorem q_lenP {v:Value}{xs:List PtT}{u e:Nat}{xo:Operand}(n:Nat)(hu:P.underlying u=some (.slice e))(h:RPt G v xs)
  (hi:ops[i]? =some ⟨some d,.call {callee:= .builtin .len,args:= #[xo],argTypes:= #[u]},t,pos,af,gd⟩) (hck:BC ops n fuel listed i=true) (hl:listed.setIfInBounds i true=listed') (f:Fr a N L)
  (hw:Region.wanted ⟨some d,.call {callee:= .builtin .len,args:= #[xo],argTypes:= #[u]},t,pos,af,gd⟩ (yielded ops a.tmps)=true) (hN:Nat.blt d N=true) (hx:AM L xo=some v)
  (k:∀a',Fr a' N ((d,.int .i64 (xs.length:Int))::L)→AnyB W P ops (Qk nn x r) T H fuel G E listed' a'):AnyB W P ops (Qk nn x r) T H (fuel+1) G E listed a:=by
 obtain⟨zs,h1,h2⟩:=h
 exact q_lenR n hu h1 hi hck hl f hw hN hx (by rw[h2.1];exact k)
theorem q_atP {v:Value}{xs:List PtT}{u e bytes:Nat}{z:Value}{xo io:Operand}{k0:IntKind}{j:Int}{y:PtT}(n:Nat)(hu:SlT P u e 3 bytes z)(h:RPt G v xs)(he:idx xs j=some y)
  (hi:ops[i]? =some ⟨some d,.indexAddr u xo io,t,pos,af,gd⟩) (hck:BC ops n fuel listed i=true) (hl:listed.setIfInBounds i true=listed') (f:Fr a N L)
  (hw:Region.wanted ⟨some d,.indexAddr u xo io,t,pos,af,gd⟩ (yielded ops a.tmps)=true) (hN:Nat.blt d N=true) (hx:AM L xo=some v) (hio:AM L io=some (.int k0 j))
  (k:∀p c a',AtR P3S G p (y.1,y.2.1,c)→RSl (RI .i64) G (hdV c) y.2.2→Fr a' N ((d,p)::L)→AnyB W P ops (Qk nn x r) T H fuel G E listed' a'):AnyB W P ops (Qk nn x r) T H (fuel+1) G E listed a:=by
 obtain⟨zs,c,h1,h2,h3⟩:=h.at he
 exact q_atR (C:=P3S) n hu h1 h2 hi hck hl f hw hN hx hio (λp a' g f'=>k p c a' g h3 f')
end
end Go.Sx

namespace Go.Sx
open IntKind
noncomputable section
def D.q1 (a:Int):Option (Int×Int×LI):=
 some (1,a,([]:LI))
def D.C (g:LI)(h a:Int):Option (Int):=
 (D.i (iandNot .u32 h a)).bind λd=>(Ar (σ:=Int×Int) (ρ:=(Int)) (fun(c,b)=>cond (decide (b<(d.length:Int))) ((idx d b).bind λe=>(idx g e).bind λf=>cond (((iand .u32 f a) !=0)&&((iand .u32 f a) !=a)) ((D.c e).bind λj=>some (.inl ((ior .u32 c j),(i64.wrap (b+1))))) (some (.inl (c,(i64.wrap (b+1)))))) (some (.inr c))) (0,0)).bind λk=>some k
def D.p0 (c:LI)(d e:Int):Option (Int):=
 (Ar (σ:=Int) (ρ:=(Int)) (fun(a:Int)=>(D.C c d a).bind λb=>cond (b==0) (some (.inr a)) (some (.inl (ior .u32 a b)))) e).bind λz=>some z
def D.i0 (j:LI)(a:Int):Option LI:=
 (Ar (σ:=LI×Int) (ρ:=LI) (fun(f,c)=>cond (c !=0) ((D.e c).bind λd=>(D.c d).bind λl=>(D.c d).bind λm=>(D.i (iandNot .u32 a m)).bind λg=>(Ar (σ:=Int×Int) (ρ:=(Int)) (fun(e,b)=>cond (decide (b<(g.length:Int))) ((idx g b).bind λo=>(D.c o).bind λp=>(D.c d).bind λq=>(D.p0 j a (ior .u32 p q)).bind λh=>cond (h !=a) (some (.inl ((ior .u32 e h),(i64.wrap (b+1))))) (some (.inl (e,(i64.wrap (b+1)))))) (some (.inr e))) (l,0)).bind λi=>(AK f ([i]:LI)).bind λr=>some (.inl (r,(iandNot .u32 c i)))) (some (.inr f))) (([]:LI),a)).bind λs=>some s
def D.E :Nat→LI→LI→Int→((List (Int×Int×LI)))→Option (((List (Int×Int×LI))))
 |0,_,_,_,_=>none
 |fuel+1,b,e,a,f=>(D.k a).bind λm=>cond (m==1) ((D.e a).bind λn=>(D.q1 n).bind λc=>(AK f ([(c.1,c.2.1,c.2.2)]:List (Int×Int×LI))).bind λo=>some o) ((D.o b a).bind λg=>((cond ((g.length:Int)==1) ((D.o e a).bind λp=>some (3,p)) (some (2,g)):Option (Int×LI))).bind fun(q,h)=>((cond ((h.length:Int)==1) ((D.i0 b a).bind λr=>some (4,r)) (some (q,h)):Option (Int×LI))).bind fun(s,i)=>(Ar (σ:=(List (Int×Int×LI))×Int×LI) (ρ:=((List (Int×Int×LI))×LI)) (fun(t:(List (Int×Int×LI))×Int×LI)=>match t with|(j,d,k)=>cond (decide (d<(i.length:Int))) ((idx i d).bind λu=>(D.E fuel b e u j).bind λl=>(AK k ([(i64.wrap ((l.length:Int)-1))]:LI)).bind λv=>some (.inl (l,(i64.wrap (d+1)),v))) (some (.inr (j,k)))) (f,0,([]:LI))).bind fun(w,x)=>(AK w ([(s,0,x)]:List (Int×Int×LI))).bind λy=>some y)
def D.p (a b:LI)(c:Int)(d:(List (Int×Int×LI))):Option (((List (Int×Int×LI)))):=D.E BP a b c d
def D.b0 (b:LL):Option (((List (Int×Int×LI)))×Bool):=
 (D.z b).bind λc=>cond (!c) (some (([]:List (Int×Int×LI)),false)) ((D.v b).bind λa=>(D.X a).bind λd=>(D.r a).bind λe=>(D.p a d e ([])).bind λf=>some (f,true))
def D.L :Nat→((List (Int×Int×LI)))→Int→Option (Int)
 |0,_,_=>none
 |fuel+1,e,f=>(idx e f).bind λa=>cond (a.1==1) ((cond (decide ((0:Int)<(a.2.2.length:Int))) (some true) ((D.b a.2.1 0 15).bind λh=>some (!h))).bind λi=>cond i (some (-1)) (some 1)) ((D.b a.1 2 4).bind λj=>cond (((!j)||(a.2.1 !=0))||(decide ((a.2.2.length:Int)<2))) (some (-1)) ((Ar (σ:=Int×Int×Int) (ρ:=(Int) ⊕ (Int)) (fun(g,b,c)=>cond (decide ((0:Int)≤c)) ((cond (decide (b<0)) (some true) ((idx a.2.2 c).bind λl=>some (l !=b))).bind λm=>cond m (some (.inr (.inr (-1)))) ((D.L fuel e b).bind λd=>cond (decide (d<0)) (some (.inr (.inr (-1)))) (some (.inl ((i64.wrap (g+d)),(i64.wrap (b-d)),(i64.wrap (c-1))))))) (some (.inr (.inl g)))) (1,(i64.wrap (f-1)),(i64.wrap ((a.2.2.length:Int)-1)))).bind λzz=>match zz with| .inl n=>(some n)| .inr z=>(some z)))
def D.m (a:(List (Int×Int×LI)))(b:Int):Option (Int):=D.L BP a b
def D.e0 :Nat→((List (Int×Int×LI)))→Int→Option LI
 |0,_,_=>none
 |fuel+1,a,b=>(idx a b).bind λh=>cond (h.1==1) ((idx a b).bind λi=>some ([i.2.1]:LI)) ((Ar (σ:=LI×Int) (ρ:=LI) (fun(e,c)=>(idx a b).bind λk=>cond (decide (c<(k.2.2.length:Int))) ((idx a b).bind λl=>(idx l.2.2 c).bind λm=>(D.e0 fuel a m).bind λf=>(Ar (σ:=LI×Int) (ρ:=LI) (fun(g,d)=>cond (decide (d<(f.length:Int))) ((idx f d).bind λo=>(D.g g o).bind λp=>some (.inl (p,(i64.wrap (d+1))))) (some (.inr g))) (e,0)).bind λq=>some (.inl (q,(i64.wrap (c+1))))) (some (.inr e))) (([]:LI),0)).bind λr=>some r)
def D.f (a:(List (Int×Int×LI)))(b:Int):Option LI:=D.e0 BP a b
def D.M0 (a:(List (Int×Int×LI))):Option (Bool):=
 (D.b (a.length:Int) 1 31).bind λh=>(cond (!h) (some true) ((D.m a (i64.wrap ((a.length:Int)-1))).bind λi=>some (i !=(a.length:Int)))).bind λj=>cond j (some false) ((Ar (σ:=Int×Int) (ρ:=(Int) ⊕ (Bool)) (fun(c,b)=>cond (decide (b<(a.length:Int))) ((idx a b).bind λl=>((cond (l.1==1) (some (i64.wrap (c+1))) (some c):Option (Int))).bind λm=>(Ar (σ:=Int×Int) (ρ:=(Unit) ⊕ (Bool)) (fun(o,d)=>(idx a b).bind λp=>cond (decide (d<(p.2.2.length:Int))) ((idx a b).bind λq=>(idx q.2.2 d).bind λr=>(D.f a r).bind λs=>(idx s 0).bind λf=>cond (decide (f≤o)) (some (.inr (.inr false))) (some (.inl (f,(i64.wrap (d+1)))))) (some (.inr (.inl ())))) ((-1),0)).bind λzz=>match zz with| .inl _=>(some (.inl (m,(i64.wrap (b+1)))))| .inr z=>(some (.inr (.inr z)))) (some (.inr (.inl c)))) (0,0)).bind λzz=>match zz with| .inl e=>((D.f a (i64.wrap ((a.length:Int)-1))).bind λg=>(cond ((g.length:Int)==e) ((idx g (i64.wrap (e-1))).bind λt=>some (t==(i64.wrap (e-1)))) (some false)).bind λu=>some u)| .inr z=>(some z))
def D.d1 (b:LL)(a:(List (Int×Int×LI))):Option (Bool):=
 (D.q b).bind λc=>(cond c ((D.M0 a).bind λd=>some d) (some false)).bind λe=>cond e ((D.f a (i64.wrap ((a.length:Int)-1))).bind λf=>some ((f.length:Int)==(b.length:Int))) (some false)
def D.s0 (e:LL)(b:LI)(f:Int):Option (Bool):=
 (Ar (σ:=Int×Int) (ρ:=(Int)) (fun(c,a)=>cond (decide (a<(b.length:Int))) ((idx e f).bind λh=>(idx b a).bind λi=>(D.d h i).bind λj=>cond j (some (.inl ((i64.wrap (c+1)),(i64.wrap (a+1))))) (some (.inl (c,(i64.wrap (a+1)))))) (some (.inr c))) (0,0)).bind λd=>some ((decide ((0:Int)<d))&&(decide (d<(b.length:Int))))
def D.K (d:LL)(b c:LI):Option (Int):=
 (Ar (σ:=Int) (ρ:=(Unit) ⊕ (Int)) (fun(a:Int)=>cond (decide (a<(b.length:Int))) ((idx b a).bind λe=>(D.d c e).bind λf=>(cond (!f) ((idx b a).bind λg=>(D.s0 d c g).bind λh=>some h) (some false)).bind λi=>cond i ((idx b a).bind λj=>some (.inr (.inr j))) (some (.inl (i64.wrap (a+1))))) (some (.inr (.inl ())))) 0).bind λzz=>match zz with| .inl _=>(some (-1))| .inr z=>(some z)
def D.d0 (a:LL)(b:LI):Option (Bool):=
 (D.q a).bind λc=>(cond c ((D.N a b).bind λd=>some d) (some false)).bind λe=>cond (e&&(decide ((0:Int)<(b.length:Int)))) ((D.t a).bind λf=>(D.K a f b).bind λg=>some (decide (g<0))) (some false)
def D.T0 (e:LL)(a:(List (Int×Int×LI)))(c:Int):Option LL:=
 (Ar (σ:=LI×Int) (ρ:=LI) (fun(d,b)=>(idx a c).bind λg=>cond (decide (b<(g.2.2.length:Int))) ((idx a c).bind λh=>(idx h.2.2 b).bind λi=>(D.f a i).bind λj=>(idx j 0).bind λk=>(AK d ([k]:LI)).bind λl=>some (.inl (l,(i64.wrap (b+1))))) (some (.inr d))) (([]:LI),0)).bind λm=>(D.s1 e m).bind λn=>some n.1
def D.x0 (c:LL)(d e:LI):Option LI:=
 (D.h e).bind λf=>(Ar (σ:=LI) (ρ:=LI) (fun(a:LI)=>(D.K c d a).bind λb=>cond (decide (b<0)) (some (.inr a)) ((D.g a b).bind λg=>some (.inl g))) f).bind λz=>some z
def D.M (a:LL):Option (Bool):=
 (D.q a).bind λe=>cond ((!e)||(decide ((a.length:Int)<4))) (some false) ((D.t a).bind λf=>(Ar (σ:=LI×Int) (ρ:=(Unit) ⊕ (Bool)) (fun(b,c)=>cond (decide (c<(b.length:Int))) ((Ar (σ:=Int) (ρ:=(Unit) ⊕ (Bool)) (fun(d:Int)=>cond (decide (d<c)) ((D.x0 a b ([d,c]:LI)).bind λh=>cond (decide ((h.length:Int)<(b.length:Int))) (some (.inr (.inr false))) (some (.inl (i64.wrap (d+1))))) (some (.inr (.inl ())))) 0).bind λzz=>match zz with| .inl _=>(some (.inl (b,(i64.wrap (c+1)))))| .inr z=>(some (.inr (.inr z)))) (some (.inr (.inl ())))) (f,0)).bind λzz=>match zz with| .inl _=>(some true)| .inr z=>(some z))
def D.E0 (f:LL)(c:(List (Int×Int×LI)))(e:Int):Option (Bool):=
 (idx c e).bind λa=>cond (a.1==1) (some true) ((D.T0 f c e).bind λd=>cond (a.1==4) ((D.M d).bind λg=>some g) ((Ar (σ:=Int) (ρ:=(Unit) ⊕ (Bool)) (fun(b:Int)=>cond (decide (b<(a.2.2.length:Int))) ((idx a.2.2 b).bind λh=>(idx c h).bind λi=>cond (i.1==a.1) (some (.inr (.inr false))) ((idx d b).bind λj=>(cond ((decide ((0:Int)<(j.length:Int)))&&(a.1==2)) (some true) ((idx d b).bind λk=>some ((decide ((k.length:Int)<(i64.wrap ((a.2.2.length:Int)-1))))&&(a.1==3)))).bind λl=>cond l (some (.inr (.inr false))) (some (.inl (i64.wrap (b+1)))))) (some (.inr (.inl ())))) 0).bind λzz=>match zz with| .inl _=>(some true)| .inr z=>(some z)))
def D.u0 (c:LL)(a:(List (Int×Int×LI))):Option (Bool):=
 (D.d1 c a).bind λd=>cond (!d) (some false) ((Ar (σ:=Int) (ρ:=(Unit) ⊕ (Bool)) (fun(b:Int)=>cond (decide (b<(a.length:Int))) ((D.f a b).bind λe=>(D.d0 c e).bind λf=>(cond (!f) (some true) ((D.E0 c a b).bind λg=>some (!g))).bind λh=>cond h (some (.inr (.inr false))) (some (.inl (i64.wrap (b+1))))) (some (.inr (.inl ())))) 0).bind λzz=>match zz with| .inl _=>(some true)| .inr z=>(some z))
def D.r1 (a b:Int)(c:LI)(d e:Int)(f:LI):Option (Bool):=
 (cond ((a==d)&&(b==e)) ((D.U0 c f).bind λg=>some g) (some false)).bind λh=>some h
def D.J0 (b:(List (Int×Int×LI)))(e:(List (Int×Int×LI))):Option (Bool):=
 cond ((b.length:Int) !=(e.length:Int)) (some false) ((Ar (σ:=Int) (ρ:=(Unit) ⊕ (Bool)) (fun(a:Int)=>cond (decide (a<(b.length:Int))) ((idx b a).bind λc=>(idx e a).bind λd=>(D.r1 c.1 c.2.1 c.2.2 d.1 d.2.1 d.2.2).bind λf=>cond (!f) (some (.inr (.inr false))) (some (.inl (i64.wrap (a+1))))) (some (.inr (.inl ())))) 0).bind λzz=>match zz with| .inl _=>(some true)| .inr z=>(some z))
def D.x (a:(List (Int×Int×LI)))(b:(List (Int×Int×LI))):Option (Bool):=
 (D.J0 a b).bind λc=>some c
def D.C0 (b:LL)(c:(List (Int×Int×LI))):Option (Bool):=
 (D.b0 b).bind λa=>(cond a.2 ((D.x c a.1).bind λd=>some d) (some false)).bind λe=>some e
def D.f1 (c:Int):Option LI:=
 (Ar (σ:=LI×Int) (ρ:=LI) (fun(b,a)=>(D.J a).bind λe=>cond (decide (e≤c)) ((D.J a).bind λf=>cond ((iand .i64 c f) !=0) ((AK b ([a]:LI)).bind λg=>some (.inl (g,(i64.wrap (a+1))))) (some (.inl (b,(i64.wrap (a+1)))))) (some (.inr b))) (([]:LI),0)).bind λh=>some h
def D.U (b:LL):Option LL:=
 (D.q b).bind λg=>cond ((!g)||(decide ((8:Int)<(b.length:Int)))) (some ([]:LL)) ((Ar (σ:=LL×Int) (ρ:=LL) (fun(a,c)=>(D.J (b.length:Int)).bind λi=>cond (decide (c<i)) ((D.f1 c).bind λe=>(D.t b).bind λj=>(D.K b j e).bind λk=>cond (decide ((0:Int)≤k)) (some (.inl (a,(i64.wrap (c+1))))) ((Ar (σ:=Int) (ρ:=(Int)) (fun(d:Int)=>(cond (decide ((0:Int)<d)) ((idx a (i64.wrap (d-1))).bind λl=>(D.z0 e l).bind λm=>some m) (some false)).bind λn=>cond n (some (.inl (i64.wrap (d-1)))) (some (.inr d))) (a.length:Int)).bind λf=>(BW a 0 f).bind λo=>(AK ([]:LL) o).bind λp=>(AK p ([e]:LL)).bind λq=>(BW a f (a.length:Int)).bind λr=>(AK q r).bind λs=>some (.inl (s,(i64.wrap (c+1)))))) (some (.inr a))) (([]:LL),1)).bind λt=>some t)
def D.D0 (b:LL)(a:LI):Option (Bool):=
 (D.v0 b a).bind λd=>cond ((!d)||((a.length:Int)==0)) (some false) ((D.v b).bind λc=>(D.r c).bind λe=>(D.A a).bind λf=>(D.C c e f).bind λg=>some (g==0))
def D.P0 (b:LI):Option LI:=
 (Ar (σ:=LI×Int) (ρ:=LI) (fun(c,a)=>(D.r b).bind λe=>cond (decide (a≤e)) ((D.r b).bind λf=>(D.C b f a).bind λg=>cond (g==0) ((AK c ([a]:LI)).bind λh=>some (.inl (h,(IntKind.u32.wrap (a+1))))) (some (.inl (c,(IntKind.u32.wrap (a+1)))))) (some (.inr c))) (([]:LI),1)).bind λi=>(D.W0 i).bind λj=>some j
def D.j0 (a b:Int):Option (Bool):=
 some ((((iand .u32 b a) !=0)&&((iandNot .u32 b a) !=0))&&((iandNot .u32 a b) !=0))
def D.g1 (b:LI)(c:Int):Option (Int):=
 (Ar (σ:=Int) (ρ:=(Unit) ⊕ (Int)) (fun(a:Int)=>cond (decide (a<(b.length:Int))) ((idx b a).bind λd=>(D.j0 d c).bind λe=>cond e (some (.inr (.inr a))) (some (.inl (i64.wrap (a+1))))) (some (.inr (.inl ())))) 0).bind λzz=>match zz with| .inl _=>(some (-1))| .inr z=>(some z)
def D.l1 (a:LI)(b:Int):Option (Bool):=
 (D.g1 a b).bind λc=>some (decide ((0:Int)≤c))
def D.n (a:LL)(b:LI):Option (Bool):=
 (D.e1 a).bind λc=>(cond (!c) (some true) ((D.D0 a b).bind λd=>some (!d))).bind λe=>cond e (some false) ((D.A b).bind λf=>(D.v a).bind λg=>(D.P0 g).bind λh=>(D.l1 h f).bind λi=>some (!i))
def D.r0 (b c d:LI):Option (Bool):=
 cond ((decide ((b.length:Int)<2))||(decide ((c.length:Int)<(b.length:Int)))) (some false) ((BW c (i64.wrap ((c.length:Int)-(b.length:Int))) (c.length:Int)).bind λe=>(Ar (σ:=Int) (ρ:=(Unit) ⊕ (Bool)) (fun(a:Int)=>cond (decide (a<(e.length:Int))) ((idx e a).bind λf=>(idx b a).bind λg=>(cond (g !=f) (some true) ((cond (decide ((0:Int)<a)) ((idx b (i64.wrap (a-1))).bind λh=>(idx d h).bind λi=>(D.e i).bind λj=>(idx d f).bind λk=>(D.e k).bind λl=>some (decide (l<j))) (some false)).bind λm=>some m)).bind λn=>cond n (some (.inr (.inr false))) (some (.inl (i64.wrap (a+1))))) (some (.inr (.inl ())))) 0).bind λzz=>match zz with| .inl _=>(some true)| .inr z=>(some z))
def D.Y (h:(List (Int×Int×LI))):Option (LI×Bool):=
 (Ar (σ:=LI×LI×Int) (ρ:=(LI×LI) ⊕ (LI×Bool)) (fun(d,b,c)=>cond (decide (c<(h.length:Int))) ((idx h c).bind λa=>cond (a.1==1) ((D.y a.2.1 0 15).bind λl=>cond ((!l)||(decide ((0:Int)<(a.2.2.length:Int)))) (some (.inr (.inr (([]:LI),false)))) ((D.c a.2.1).bind λm=>(AK d ([c]:LI)).bind λn=>(AK b ([m]:LI)).bind λo=>some (.inl (n,o,(i64.wrap (c+1)))))) (((cond (a.1==2) (some (a.1==2)) (cond (a.1==3) (some (a.1==3)) (some (a.1==4))):Option (Bool))).bind λp=>cond p ((cond (a.2.1 !=0) (some true) ((D.r0 a.2.2 d b).bind λq=>some (!q))).bind λr=>cond r (some (.inr (.inr (([]:LI),false)))) ((Ar (σ:=Int×Int) (ρ:=(Int) ⊕ (LI×Bool)) (fun(e,f)=>cond (decide (f<(a.2.2.length:Int))) ((idx a.2.2 f).bind λi=>(idx b i).bind λt=>cond ((iand .u32 e t) !=0) (some (.inr (.inr (([]:LI),false)))) ((idx b i).bind λu=>some (.inl ((ior .u32 e u),(i64.wrap (f+1)))))) (some (.inr (.inl e)))) (0,0)).bind λzz=>match zz with| .inl v=>((BW d 0 (i64.wrap ((d.length:Int)-(a.2.2.length:Int)))).bind λw=>(AK w ([c]:LI)).bind λx=>(AK b ([v]:LI)).bind λy=>some (.inl (x,y,(i64.wrap (c+1)))))| .inr z=>(some (.inr (.inr z))))) (some (.inr (.inr (([]:LI),false)))))) (some (.inr (.inl (d,b))))) (([]:LI),([]:LI),0)).bind λzz=>match zz with| .inl (aa,g)=>(cond ((aa.length:Int) !=1) (some (([]:LI),false)) ((idx g (i64.wrap ((g.length:Int)-1))).bind λj=>(D.k j).bind λab=>(D.R ab).bind λac=>some (g,(j==ac))))| .inr z=>(some z)
def D.c1 (a:(List (Int×Int×LI)))(b:Int):Option LI:=
 (D.Y a).bind λc=>(cond (!c.2) (some true) ((D.y b 0 (i64.wrap ((a.length:Int)-1))).bind λd=>some (!d))).bind λe=>cond e (some ([]:LI)) ((idx c.1 b).bind λf=>(D.f0 f).bind λg=>some g)
def D.S0 (b e:LI):Option (Bool):=
 (Ar (σ:=Int×Int) (ρ:=(Int)) (fun(c,a)=>cond (decide (a<(b.length:Int))) ((idx b a).bind λg=>(D.d e g).bind λh=>cond h (some (.inl ((i64.wrap (c+1)),(i64.wrap (a+1))))) (some (.inl (c,(i64.wrap (a+1)))))) (some (.inr c))) (0,0)).bind λd=>some (((decide ((0:Int)<d))&&(decide (d<(b.length:Int))))&&(decide (d<(e.length:Int))))
def D.Y0 (c:LL)(d:LI):Option (Bool):=
 (D.U c).bind λa=>(cond ((a.length:Int)==0) (some true) ((D.d0 c d).bind λe=>some (!e))).bind λf=>cond f (some false) ((Ar (σ:=Int) (ρ:=(Unit) ⊕ (Bool)) (fun(b:Int)=>cond (decide (b<(a.length:Int))) ((idx a b).bind λg=>(D.S0 g d).bind λh=>cond h (some (.inr (.inr false))) (some (.inl (i64.wrap (b+1))))) (some (.inr (.inl ())))) 0).bind λzz=>match zz with| .inl _=>(some true)| .inr z=>(some z))
def D.t0 (c:LL)(a:(List (Int×Int×LI)))(d:Int):Option (LL×Bool):=
 (D.Y a).bind λb=>(D.z c).bind λh=>(cond ((!h)||(!b.2)) (some true) ((idx b.1 (i64.wrap ((b.1.length:Int)-1))).bind λi=>(D.k i).bind λj=>some (j !=(c.length:Int)))).bind λk=>(cond k (some true) ((D.y d 0 (i64.wrap ((a.length:Int)-1))).bind λl=>some (!l))).bind λm=>(cond m (some true) ((idx a d).bind λn=>some (n.1==1))).bind λo=>cond o (some (([]:LL),false)) ((idx a d).bind λf=>(Ar (σ:=LI×Int) (ρ:=LI) (fun(g,e)=>cond (decide (e<(f.2.2.length:Int))) ((idx f.2.2 e).bind λq=>(idx b.1 q).bind λr=>(D.e r).bind λs=>(AK g ([s]:LI)).bind λt=>some (.inl (t,(i64.wrap (e+1))))) (some (.inr g))) (([]:LI),0)).bind λu=>(D.v c).bind λv=>(D.B0 v u).bind λw=>(D.F0 w).bind λx=>some (x,true))
def D.h0 (h:LL)(b:LI)(i:Bool):Option LL:=
 (Ar (σ:=LL×LI×Int) (ρ:=LL) (fun(c,d,a)=>cond (decide (a<(b.length:Int))) ((idx b a).bind λk=>(D.d d k).bind λl=>cond l (some (.inl (c,d,(i64.wrap (a+1))))) ((idx b a).bind λm=>(D.Q0 h b m i).bind λe=>(Ar (σ:=LI×Int) (ρ:=LI) (fun(g,f)=>cond (decide (f<(e.length:Int))) ((idx e f).bind λo=>(D.g g o).bind λp=>some (.inl (p,(i64.wrap (f+1))))) (some (.inr g))) (d,0)).bind λq=>(AK c ([e]:LL)).bind λr=>some (.inl (r,q,(i64.wrap (a+1)))))) (some (.inr c))) (([]:LL),([]:LI),0)).bind λs=>some s
def D.I :Nat→LL→LI→((List (Int×Int×LI)))→Option (((List (Int×Int×LI)))×Bool)
 |0,_,_,_=>none
 |fuel+1,b,a,f=>cond ((a.length:Int)==1) ((idx a 0).bind λj=>(AK f ([(1,j,([]:LI))]:List (Int×Int×LI))).bind λk=>some (k,true)) ((D.h0 b a false).bind λg=>((cond ((g.length:Int)==1) ((D.h0 b a true).bind λl=>some (3,l)) (some (2,g)):Option (Int×LL))).bind fun(m,c)=>cond ((c.length:Int)==1) (some (([]:List (Int×Int×LI)),false)) ((Ar (σ:=(List (Int×Int×LI))×LI×Int) (ρ:=((List (Int×Int×LI))×LI) ⊕ (((List (Int×Int×LI)))×Bool)) (fun(n:(List (Int×Int×LI))×LI×Int)=>match n with|(h,i,d)=>cond (decide (d<(c.length:Int))) ((idx c d).bind λo=>(D.I fuel b o h).bind λe=>cond (!e.2) (some (.inr (.inr (([]:List (Int×Int×LI)),false)))) ((AK i ([(i64.wrap ((e.1.length:Int)-1))]:LI)).bind λp=>some (.inl (e.1,p,(i64.wrap (d+1)))))) (some (.inr (.inl (h,i))))) (f,([]:LI),0)).bind λzz=>match zz with| .inl (q,r)=>((AK q ([(m,0,r)]:List (Int×Int×LI))).bind λs=>some (s,true))| .inr z=>(some z)))
def D.l (a:LL)(b:LI)(c:(List (Int×Int×LI))):Option (((List (Int×Int×LI)))×Bool):=D.I BP a b c
def D.v1 (a:LL):Option (((List (Int×Int×LI)))×Bool):=
 (D.q a).bind λc=>cond ((!c)||((a.length:Int)==0)) (some (([]:List (Int×Int×LI)),false)) ((((D.t a).bind λd=>(D.l a d ([]:List (Int×Int×LI))).bind λb=>some (b.1,b.2):Option ((List (Int×Int×LI))×Bool))).bind fun(e,f)=>some (e,f))
def D.Z0 (a:LL):Option (Bool):=
 (D.v1 a).bind λb=>some b.2
def D.n1 (k:LI):Option (Bool):=
 (D.i1 k).bind λn=>cond n (some true) ((D.y0 k 1015).bind λh=>(D.n0 h.1 h.2.1 h.2.2 6).bind λd=>(D.j d.2.1 d.2.2.1 d.2.2.2 2).bind λe=>((cond (e.1==0) ((D.o0 e.2.1 e.2.2.1 e.2.2.2 6 2).bind λo=>some o.1) (some d.1):Option LL)).bind λa=>(D.b0 a).bind λf=>(cond (!f.2) (some true) ((D.u0 a f.1).bind λp=>some (!p))).bind λq=>(cond q (some true) ((D.C0 a f.1).bind λr=>some (!r))).bind λs=>cond s (some false) ((D.U a).bind λl=>(Ar (σ:=Int×Int) (ρ:=(Int)) (fun(i,g)=>cond (decide (g<(l.length:Int))) ((idx l g).bind λu=>(D.n a u).bind λv=>cond v (some (.inl ((i64.wrap (i+1)),(i64.wrap (g+1))))) (some (.inl (i,(i64.wrap (g+1)))))) (some (.inr i))) (0,0)).bind λw=>(Ar (σ:=(List (Int×Int×LI))×Bool×Int) (ρ:=((List (Int×Int×LI))×Bool) ⊕ (Bool)) (fun(x:(List (Int×Int×LI))×Bool×Int)=>match x with|(b,m,c)=>cond (decide (c<(b.length:Int))) ((D.c1 b c).bind λy=>(D.Y0 a y).bind λaa=>cond (!aa) (some (.inr (.inr false))) ((idx b c).bind λab=>cond (ab.1==4) ((D.t0 a b c).bind λj=>(cond (!j.2) (some true) ((D.M j.1).bind λac=>some (!ac))).bind λad=>(cond ad (some true) ((idx b c).bind λae=>some ((j.1.length:Int) !=(ae.2.2.length:Int)))).bind λaf=>cond af (some (.inr (.inr false))) (some (.inl (b,true,(i64.wrap (c+1)))))) (some (.inl (b,m,(i64.wrap (c+1))))))) (some (.inr (.inl (b,m))))) (f.1,false,0)).bind λzz=>match zz with| .inl (ag,ah)=>((cond (w==(ag.length:Int)) ((D.Z0 a).bind λai=>some (ah !=ai)) (some false)).bind λaj=>some aj)| .inr z=>(some z)))
end
end Go.Sx

namespace Go.Sx
end Go.Sx

namespace Go.Sx
end Go.Sx

namespace Go.Sx
end Go.Sx

namespace Go.Sx
end Go.Sx

namespace Go.Sx
end Go.Sx

namespace Go.Proofs
open Go.Shelf
def Tryz.lays125_ren :Go.Shelf.Ren:=⟨fun|125=>95|128=>107|129=>108|n=>n,fun|46=>49|3=>3|51=>57|53=>26|4=>4|5=>5|9=>9|n=>n,fun|n=>n⟩
theorem Tryz.lays125 :Go.Proofs.Lays.n125 Tryz.prog Tryz.lays125_ren:={
 mixed:=by kernel_rfl
 f125:=Tryz.func95.trans (congrArg some (by kernel_rfl))
 f128:=Tryz.func107.trans (congrArg some (by kernel_rfl))
 f129:=Tryz.func108.trans (congrArg some (by kernel_rfl))
 t3:=Tryz.underlying3
 a3:=Tryz.isAgg3
 z3:=Tryz.sizeOf3
 v3:=Tryz.zeroValue3
 t4:=Tryz.underlying4
 a4:=Tryz.isAgg4
 z4:=Tryz.sizeOf4
 v4:=Tryz.zeroValue4
 t5:=Tryz.underlying5
 a5:=Tryz.isAgg5
 z5:=Tryz.sizeOf5
 v5:=Tryz.zeroValue5
 t9:=Tryz.underlying9
 a9:=Tryz.isAgg9
 z9:=Tryz.sizeOf9
 v9:=Tryz.zeroValue9
 t46:=Tryz.underlying49
 a46:=Tryz.isAgg49
 z46:=Tryz.sizeOf49
 v46:=Tryz.zeroValue49
 t51:=Tryz.underlying57
 a51:=Tryz.isAgg57
 z51:=Tryz.sizeOf57
 v51:=Tryz.zeroValue57
 t53:=Tryz.underlying26
 a53:=Tryz.isAgg26
 z53:=Tryz.sizeOf26
 v53:=Tryz.zeroValue26}
theorem Tryz.bits_Len (x:Int)(w:World)(h0:0≤x)(h1:x≤18446744073709551615):
  Calls Tryz.prog 95 #[.int .u64 x] w λe w'=>e= .returned (.int .i64 (Lib.bitLen x.toNat))∧w'=w:=Any.bits_Len Tryz.lays125 x w h0 h1
end Go.Proofs
namespace Go.Proofs.YthdcaieaajekcaaGreatDoor
open Go Go.Sx
theorem Wk.S {W w:World}{G:GH}{H:List Itm}{x0:Int}(m:Mem W G w H){y:Int}(hd:D.S x0=some y):
  Calls Tryz.prog 95 #[(.int .u64 x0)] w (Res W G H (λ_ Ho v=>Ho=[]∧v=(.int .i64 y))):=by
 unfold D.S at hd
 split at hd
 ·rename_i h
  obtain rfl:=Option.some.inj hd
  exact(Tryz.bits_Len x0 w h.1 h.2).mono (λe w' ⟨he,hw⟩=>by subst hw;exact⟨_,he,G,[],GLe.refl G,m,rfl,rfl⟩)
 ·cases hd
end Go.Proofs.YthdcaieaajekcaaGreatDoor



namespace Go.Sx
noncomputable def DG.insertionSort {α:Type}(cmp:α→α→Option Int)(x0:(List α))(x1:Int)(x2:Int):Option (((List α))):=
 (Ar (σ:=(List α)×Int) (ρ:=((List α))) (fun(s_560:(List α)×Int)=>match s_560 with|(l_563,x_566)=>cond (decide (x_566<x2)) ((Ar (σ:=(List α)×Int) (ρ:=((List α))) (fun(s_984:(List α)×Int)=>match s_984 with|(l_987,x_990)=>(cond (decide (x1<x_990)) ((idx l_987 x_990).bind λe_1079=>(idx l_987 (IntKind.i64.wrap (x_990-1))).bind λe_1085=>(cmp e_1079 e_1085).bind λy_1091=>some (decide (y_1091<0))) (some false)).bind λb_1077=>cond b_1077 ((idx l_987 (IntKind.i64.wrap (x_990-1))).bind λe_1097=>(idx l_987 x_990).bind λe_1103=>(idx l_987 x_990).bind λe_1109=>(idx (l_987.set (Int.toNat x_990) e_1097) (IntKind.i64.wrap (x_990-1))).bind λe_1117=>some (.inl (((l_987.set (Int.toNat x_990) e_1097).set (Int.toNat (IntKind.i64.wrap (x_990-1))) e_1103),(IntKind.i64.wrap (x_990-1))))) (some (.inr l_987))) (l_563,x_566)).bind λl_1056=>some (.inl (l_1056,(IntKind.i64.wrap (x_566+1))))) (some (.inr l_563))) (x0,(IntKind.i64.wrap (x1+1)))).bind λl_844=>some l_844
noncomputable def DG.siftDown {α:Type}(cmp:α→α→Option Int)(x0:(List α))(x1:Int)(x2:Int)(x3:Int):Option (((List α))):=
 (Ar (σ:=(List α)×Int) (ρ:=((List α)) ⊕ (((List α)))) (fun(s_186:(List α)×Int)=>match s_186 with|(l_189,x_192)=>cond (decide (x2≤(IntKind.i64.wrap ((IntKind.i64.wrap (2*x_192))+1)))) (some (.inr (.inl l_189))) ((cond (decide ((IntKind.i64.wrap ((IntKind.i64.wrap ((IntKind.i64.wrap (2*x_192))+1))+1))<x2)) ((idx l_189 (IntKind.i64.wrap (x3+(IntKind.i64.wrap ((IntKind.i64.wrap (2*x_192))+1))))).bind λe_307=>(idx l_189 (IntKind.i64.wrap ((IntKind.i64.wrap (x3+(IntKind.i64.wrap ((IntKind.i64.wrap (2*x_192))+1))))+1))).bind λe_313=>(cmp e_307 e_313).bind λy_319=>some (decide (y_319<0))) (some false)).bind λb_305=>((cond b_305 (some (IntKind.i64.wrap ((IntKind.i64.wrap ((IntKind.i64.wrap (2*x_192))+1))+1))) (some (IntKind.i64.wrap ((IntKind.i64.wrap (2*x_192))+1))):Option (Int))).bind λx_328=>(idx l_189 (IntKind.i64.wrap (x3+x_192))).bind λe_331=>(idx l_189 (IntKind.i64.wrap (x3+x_328))).bind λe_337=>(cmp e_331 e_337).bind λy_343=>cond (!(decide (y_343<0))) (some (.inr (.inr l_189))) ((idx l_189 (IntKind.i64.wrap (x3+x_328))).bind λe_349=>(idx l_189 (IntKind.i64.wrap (x3+x_192))).bind λe_355=>(idx l_189 (IntKind.i64.wrap (x3+x_192))).bind λe_361=>(idx (l_189.set (Int.toNat (IntKind.i64.wrap (x3+x_192))) e_349) (IntKind.i64.wrap (x3+x_328))).bind λe_369=>some (.inl (((l_189.set (Int.toNat (IntKind.i64.wrap (x3+x_192))) e_349).set (Int.toNat (IntKind.i64.wrap (x3+x_328))) e_355),x_328))))) (x0,x1)).bind λzz=>match zz with| .inl l_283=>(some l_283)| .inr z=>(some z)
noncomputable def DG.heapSort {α:Type}(cmp:α→α→Option Int)(x0:(List α))(x1:Int)(x2:Int):Option (((List α))):=
 (Ar (σ:=(List α)×Int) (ρ:=((List α))) (fun(s_30:(List α)×Int)=>match s_30 with|(l_33,x_36)=>cond (decide ((0:Int)≤x_36)) ((DG.siftDown cmp l_33 x_36 (IntKind.i64.wrap (x2-x1)) x1).bind λy_54=>some (.inl (y_54,(IntKind.i64.wrap (x_36-1))))) (some (.inr l_33))) (x0,(IntKind.i64.wrap (Int.tdiv (IntKind.i64.wrap ((IntKind.i64.wrap (x2-x1))-1)) 2)))).bind λl_49=>(Ar (σ:=(List α)×Int) (ρ:=((List α))) (fun(s_144:(List α)×Int)=>match s_144 with|(l_147,x_150)=>cond (decide ((0:Int)≤x_150)) ((idx l_147 (IntKind.i64.wrap (x1+x_150))).bind λe_194=>(idx l_147 x1).bind λe_200=>(idx l_147 x1).bind λe_206=>(idx (l_147.set (Int.toNat x1) e_194) (IntKind.i64.wrap (x1+x_150))).bind λe_214=>(DG.siftDown cmp ((l_147.set (Int.toNat x1) e_194).set (Int.toNat (IntKind.i64.wrap (x1+x_150))) e_200) 0 x_150 x1).bind λy_220=>some (.inl (y_220,(IntKind.i64.wrap (x_150-1))))) (some (.inr l_147))) (l_49,(IntKind.i64.wrap ((IntKind.i64.wrap (x2-x1))-1)))).bind λl_189=>some l_189
noncomputable def DG.breakPatterns {α:Type}(cmp:α→α→Option Int)(x0:(List α))(x1:Int)(x2:Int):Option (((List α))):=
 cond (decide ((8:Int)≤(IntKind.i64.wrap (x2-x1)))) ((D.l0 (IntKind.i64.wrap (x2-x1))).bind λy_4=>(Ar (σ:=(List α)×Int×Int) (ρ:=((List α))) (fun(s_103:(List α)×Int×Int)=>match s_103 with|(l_106,x_109,x_110)=>cond (decide (x_109≤(IntKind.i64.wrap ((IntKind.i64.wrap (x1+(IntKind.i64.wrap ((IntKind.i64.wrap (Int.tdiv (IntKind.i64.wrap (x2-x1)) 4))*2))))+1)))) ((D.O0 x_110).bind λy_159=>((cond (decide ((IntKind.i64.wrap (x2-x1))≤(IntKind.i64.wrap (iand .u64 y_159.1 (IntKind.u64.wrap (y_4-1)))))) (some (IntKind.i64.wrap ((IntKind.i64.wrap (iand .u64 y_159.1 (IntKind.u64.wrap (y_4-1))))-(IntKind.i64.wrap (x2-x1))))) (some (IntKind.i64.wrap (iand .u64 y_159.1 (IntKind.u64.wrap (y_4-1))))):Option (Int))).bind λx_170=>(idx l_106 (IntKind.i64.wrap (x1+x_170))).bind λe_173=>(idx l_106 x_109).bind λe_179=>(idx l_106 x_109).bind λe_185=>(idx (l_106.set (Int.toNat x_109) e_173) (IntKind.i64.wrap (x1+x_170))).bind λe_193=>some (.inl (((l_106.set (Int.toNat x_109) e_173).set (Int.toNat (IntKind.i64.wrap (x1+x_170))) e_179),(IntKind.i64.wrap (x_109+1)),y_159.2))) (some (.inr l_106))) (x0,(IntKind.i64.wrap ((IntKind.i64.wrap (x1+(IntKind.i64.wrap ((IntKind.i64.wrap (Int.tdiv (IntKind.i64.wrap (x2-x1)) 4))*2))))-1)),(IntKind.u64.wrap (IntKind.i64.wrap (x2-x1))))).bind λl_154=>some l_154) (some x0)
noncomputable def DG.order2 {α:Type}(cmp:α→α→Option Int)(x0:(List α))(x1:Int)(x2:Int)(x3_0:Int):Option (Int×Int×((List α))×Int):=
 (idx x0 x2).bind λe_1=>(idx x0 x1).bind λe_7=>(cmp e_1 e_7).bind λy_13=>cond (decide (y_13<0)) (some (x2,x1,x0,(IntKind.i64.wrap (x3_0+1)))) (some (x1,x2,x0,x3_0))
noncomputable def DG.median {α:Type}(cmp:α→α→Option Int)(x0:(List α))(x1:Int)(x2:Int)(x3:Int)(x4_0:Int):Option (Int×((List α))×Int):=
 (DG.order2 cmp x0 x1 x2 x4_0).bind λy_1=>(DG.order2 cmp y_1.2.2.1 y_1.2.1 x3 y_1.2.2.2).bind λy_10=>(DG.order2 cmp y_10.2.2.1 y_1.1 y_10.1 y_10.2.2.2).bind λy_19=>some (y_19.2.1,y_19.2.2.1,y_19.2.2.2)
noncomputable def DG.medianAdjacent {α:Type}(cmp:α→α→Option Int)(x0:(List α))(x1:Int)(x2_0:Int):Option (Int×((List α))×Int):=
 (DG.median cmp x0 (IntKind.i64.wrap (x1-1)) x1 (IntKind.i64.wrap (x1+1)) x2_0).bind λy_1=>some (y_1.1,y_1.2.1,y_1.2.2)
noncomputable def DG.choosePivot {α:Type}(cmp:α→α→Option Int)(x0:(List α))(x1:Int)(x2:Int):Option (Int×Int×((List α))):=
 cond (decide ((8:Int)≤(IntKind.i64.wrap (x2-x1)))) (((cond (decide ((50:Int)≤(IntKind.i64.wrap (x2-x1)))) ((DG.medianAdjacent cmp x0 (IntKind.i64.wrap (x1+(IntKind.i64.wrap ((IntKind.i64.wrap (Int.tdiv (IntKind.i64.wrap (x2-x1)) 4))*1)))) 0).bind λy_44=>(DG.medianAdjacent cmp y_44.2.1 (IntKind.i64.wrap (x1+(IntKind.i64.wrap ((IntKind.i64.wrap (Int.tdiv (IntKind.i64.wrap (x2-x1)) 4))*2)))) y_44.2.2).bind λy_53=>(DG.medianAdjacent cmp y_53.2.1 (IntKind.i64.wrap (x1+(IntKind.i64.wrap ((IntKind.i64.wrap (Int.tdiv (IntKind.i64.wrap (x2-x1)) 4))*3)))) y_53.2.2).bind λy_62=>some (y_62.2.1,y_44.1,y_53.1,y_62.1,y_62.2.2)) (some (x0,(IntKind.i64.wrap (x1+(IntKind.i64.wrap ((IntKind.i64.wrap (Int.tdiv (IntKind.i64.wrap (x2-x1)) 4))*1)))),(IntKind.i64.wrap (x1+(IntKind.i64.wrap ((IntKind.i64.wrap (Int.tdiv (IntKind.i64.wrap (x2-x1)) 4))*2)))),(IntKind.i64.wrap (x1+(IntKind.i64.wrap ((IntKind.i64.wrap (Int.tdiv (IntKind.i64.wrap (x2-x1)) 4))*3)))),0)):Option ((List α)×Int×Int×Int×Int))).bind fun(l_35,x_38,x_39,x_40,x_41)=>(DG.median cmp l_35 x_38 x_39 x_40 x_41).bind λy_71=>cond (y_71.2.2==0) (some (y_71.1,1,y_71.2.1)) (cond (y_71.2.2==12) (some (y_71.1,2,y_71.2.1)) (some (y_71.1,0,y_71.2.1)))) (cond ((0:Int)==0) (some ((IntKind.i64.wrap (x1+(IntKind.i64.wrap ((IntKind.i64.wrap (Int.tdiv (IntKind.i64.wrap (x2-x1)) 4))*2)))),1,x0)) (cond ((0:Int)==12) (some ((IntKind.i64.wrap (x1+(IntKind.i64.wrap ((IntKind.i64.wrap (Int.tdiv (IntKind.i64.wrap (x2-x1)) 4))*2)))),2,x0)) (some ((IntKind.i64.wrap (x1+(IntKind.i64.wrap ((IntKind.i64.wrap (Int.tdiv (IntKind.i64.wrap (x2-x1)) 4))*2)))),0,x0))))
noncomputable def DG.reverseRange {α:Type}(cmp:α→α→Option Int)(x0:(List α))(x1:Int)(x2:Int):Option (((List α))):=
 (Ar (σ:=(List α)×Int×Int) (ρ:=((List α))) (fun(s_65:(List α)×Int×Int)=>match s_65 with|(l_68,x_71,x_72)=>cond (decide (x_71<x_72)) ((idx l_68 x_72).bind λe_107=>(idx l_68 x_71).bind λe_113=>(idx l_68 x_71).bind λe_119=>(idx (l_68.set (Int.toNat x_71) e_107) x_72).bind λe_127=>some (.inl (((l_68.set (Int.toNat x_71) e_107).set (Int.toNat x_72) e_113),(IntKind.i64.wrap (x_71+1)),(IntKind.i64.wrap (x_72-1))))) (some (.inr l_68))) (x0,x1,(IntKind.i64.wrap (x2-1)))).bind λl_102=>some l_102
noncomputable def DG.partialInsertionSort {α:Type}(cmp:α→α→Option Int)(x0:(List α))(x1:Int)(x2:Int):Option (Bool×((List α))):=
 (Ar (σ:=(List α)×Int×Int) (ρ:=((List α)) ⊕ (Bool×((List α)))) (fun(s_1625:(List α)×Int×Int)=>match s_1625 with|(l_1628,x_1631,x_1632)=>cond (decide (x_1632<5)) ((Ar (σ:=Int) (ρ:=(Int)) (fun(x_2530:Int)=>(cond (decide (x_2530<x2)) ((idx l_1628 x_2530).bind λe_2591=>(idx l_1628 (IntKind.i64.wrap (x_2530-1))).bind λe_2597=>(cmp e_2591 e_2597).bind λy_2603=>some (!(decide (y_2603<0)))) (some false)).bind λb_2589=>cond b_2589 (some (.inl (IntKind.i64.wrap (x_2530+1)))) (some (.inr x_2530))) x_1631).bind λx_2570=>cond (x_2570==x2) (some (.inr (.inr (true,l_1628)))) (cond (decide ((IntKind.i64.wrap (x2-x1))<50)) (some (.inr (.inr (false,l_1628)))) ((idx l_1628 (IntKind.i64.wrap (x_2570-1))).bind λe_2611=>(idx l_1628 x_2570).bind λe_2617=>(idx l_1628 x_2570).bind λe_2623=>(idx (l_1628.set (Int.toNat x_2570) e_2611) (IntKind.i64.wrap (x_2570-1))).bind λe_2631=>((cond (decide ((2:Int)≤(IntKind.i64.wrap (x_2570-x1)))) ((Ar (σ:=(List α)×Int) (ρ:=((List α))) (fun(s_2947:(List α)×Int)=>match s_2947 with|(l_2950,x_2953)=>cond (decide ((1:Int)≤x_2953)) ((idx l_2950 x_2953).bind λe_3006=>(idx l_2950 (IntKind.i64.wrap (x_2953-1))).bind λe_3012=>(cmp e_3006 e_3012).bind λy_3018=>cond (!(decide (y_3018<0))) (some (.inr l_2950)) ((idx l_2950 (IntKind.i64.wrap (x_2953-1))).bind λe_3024=>(idx l_2950 x_2953).bind λe_3030=>(idx l_2950 x_2953).bind λe_3036=>(idx (l_2950.set (Int.toNat x_2953) e_3024) (IntKind.i64.wrap (x_2953-1))).bind λe_3044=>some (.inl (((l_2950.set (Int.toNat x_2953) e_3024).set (Int.toNat (IntKind.i64.wrap (x_2953-1))) e_3030),(IntKind.i64.wrap (x_2953-1)))))) (some (.inr l_2950))) (((l_1628.set (Int.toNat x_2570) e_2611).set (Int.toNat (IntKind.i64.wrap (x_2570-1))) e_2617),(IntKind.i64.wrap (x_2570-1)))).bind λl_3001=>some l_3001) (some ((l_1628.set (Int.toNat x_2570) e_2611).set (Int.toNat (IntKind.i64.wrap (x_2570-1))) e_2617)):Option ((List α)))).bind λl_2843=>cond (decide ((2:Int)≤(IntKind.i64.wrap (x2-x_2570)))) ((Ar (σ:=(List α)×Int) (ρ:=((List α))) (fun(s_3150:(List α)×Int)=>match s_3150 with|(l_3153,x_3156)=>cond (decide (x_3156<x2)) ((idx l_3153 x_3156).bind λe_3209=>(idx l_3153 (IntKind.i64.wrap (x_3156-1))).bind λe_3215=>(cmp e_3209 e_3215).bind λy_3221=>cond (!(decide (y_3221<0))) (some (.inr l_3153)) ((idx l_3153 (IntKind.i64.wrap (x_3156-1))).bind λe_3227=>(idx l_3153 x_3156).bind λe_3233=>(idx l_3153 x_3156).bind λe_3239=>(idx (l_3153.set (Int.toNat x_3156) e_3227) (IntKind.i64.wrap (x_3156-1))).bind λe_3247=>some (.inl (((l_3153.set (Int.toNat x_3156) e_3227).set (Int.toNat (IntKind.i64.wrap (x_3156-1))) e_3233),(IntKind.i64.wrap (x_3156+1)))))) (some (.inr l_3153))) (l_2843,(IntKind.i64.wrap (x_2570+1)))).bind λl_3204=>some (.inl (l_3204,x_2570,(IntKind.i64.wrap (x_1632+1))))) (some (.inl (l_2843,x_2570,(IntKind.i64.wrap (x_1632+1)))))))) (some (.inr (.inl l_1628)))) (x0,(IntKind.i64.wrap (x1+1)),0)).bind λzz=>match zz with| .inl l_2442=>(some (false,l_2442))| .inr z=>(some z)
noncomputable def DG.partitionEqual {α:Type}(cmp:α→α→Option Int)(x0:(List α))(x1:Int)(x2:Int)(x3:Int):Option (Int×((List α))):=
 (idx x0 x3).bind λe_1=>(idx x0 x1).bind λe_7=>(idx x0 x1).bind λe_13=>(idx (x0.set (Int.toNat x1) e_1) x3).bind λe_21=>(Ar (σ:=(List α)×Int×Int) (ρ:=((List α)×Int)) (fun(s_739:(List α)×Int×Int)=>match s_739 with|(l_742,x_745,x_746)=>(Ar (σ:=Int) (ρ:=(Int)) (fun(x_1188:Int)=>(cond (decide (x_1188≤x_746)) ((idx l_742 x1).bind λe_1249=>(idx l_742 x_1188).bind λe_1255=>(cmp e_1249 e_1255).bind λy_1261=>some (!(decide (y_1261<0)))) (some false)).bind λb_1247=>cond b_1247 (some (.inl (IntKind.i64.wrap (x_1188+1)))) (some (.inr x_1188))) x_745).bind λx_1228=>(Ar (σ:=Int) (ρ:=(Int)) (fun(x_1350:Int)=>(cond (decide (x_1228≤x_1350)) ((idx l_742 x1).bind λe_1411=>(idx l_742 x_1350).bind λe_1417=>(cmp e_1411 e_1417).bind λy_1423=>some (decide (y_1423<0))) (some false)).bind λb_1409=>cond b_1409 (some (.inl (IntKind.i64.wrap (x_1350-1)))) (some (.inr x_1350))) x_746).bind λx_1390=>cond (decide (x_1390<x_1228)) (some (.inr (l_742,x_1228))) ((idx l_742 x_1390).bind λe_1430=>(idx l_742 x_1228).bind λe_1436=>(idx l_742 x_1228).bind λe_1442=>(idx (l_742.set (Int.toNat x_1228) e_1430) x_1390).bind λe_1450=>some (.inl (((l_742.set (Int.toNat x_1228) e_1430).set (Int.toNat x_1390) e_1436),(IntKind.i64.wrap (x_1228+1)),(IntKind.i64.wrap (x_1390-1)))))) (((x0.set (Int.toNat x1) e_1).set (Int.toNat x3) e_7),(IntKind.i64.wrap (x1+1)),(IntKind.i64.wrap (x2-1)))).bind fun(l_1100,x_1103)=>some (x_1103,l_1100)
noncomputable def DG.partition {α:Type}(cmp:α→α→Option Int)(x0:(List α))(x1:Int)(x2:Int)(x3:Int):Option (Int×Bool×((List α))):=
 (idx x0 x3).bind λe_1=>(idx x0 x1).bind λe_7=>(idx x0 x1).bind λe_13=>(idx (x0.set (Int.toNat x1) e_1) x3).bind λe_21=>(Ar (σ:=Int) (ρ:=(Int)) (fun(x_110:Int)=>(cond (decide (x_110≤(IntKind.i64.wrap (x2-1)))) ((idx ((x0.set (Int.toNat x1) e_1).set (Int.toNat x3) e_7) x_110).bind λe_171=>(idx ((x0.set (Int.toNat x1) e_1).set (Int.toNat x3) e_7) x1).bind λe_177=>(cmp e_171 e_177).bind λy_183=>some (decide (y_183<0))) (some false)).bind λb_169=>cond b_169 (some (.inl (IntKind.i64.wrap (x_110+1)))) (some (.inr x_110))) (IntKind.i64.wrap (x1+1))).bind λx_150=>(Ar (σ:=Int) (ρ:=(Int)) (fun(x_272:Int)=>(cond (decide (x_150≤x_272)) ((idx ((x0.set (Int.toNat x1) e_1).set (Int.toNat x3) e_7) x_272).bind λe_333=>(idx ((x0.set (Int.toNat x1) e_1).set (Int.toNat x3) e_7) x1).bind λe_339=>(cmp e_333 e_339).bind λy_345=>some (!(decide (y_345<0)))) (some false)).bind λb_331=>cond b_331 (some (.inl (IntKind.i64.wrap (x_272-1)))) (some (.inr x_272))) (IntKind.i64.wrap (x2-1))).bind λx_312=>cond (decide (x_312<x_150)) ((idx ((x0.set (Int.toNat x1) e_1).set (Int.toNat x3) e_7) x1).bind λe_352=>(idx ((x0.set (Int.toNat x1) e_1).set (Int.toNat x3) e_7) x_312).bind λe_358=>(idx ((x0.set (Int.toNat x1) e_1).set (Int.toNat x3) e_7) x_312).bind λe_364=>(idx (((x0.set (Int.toNat x1) e_1).set (Int.toNat x3) e_7).set (Int.toNat x_312) e_352) x1).bind λe_372=>some (x_312,true,((((x0.set (Int.toNat x1) e_1).set (Int.toNat x3) e_7).set (Int.toNat x_312) e_352).set (Int.toNat x1) e_358))) ((idx ((x0.set (Int.toNat x1) e_1).set (Int.toNat x3) e_7) x_312).bind λe_378=>(idx ((x0.set (Int.toNat x1) e_1).set (Int.toNat x3) e_7) x_150).bind λe_384=>(idx ((x0.set (Int.toNat x1) e_1).set (Int.toNat x3) e_7) x_150).bind λe_390=>(idx (((x0.set (Int.toNat x1) e_1).set (Int.toNat x3) e_7).set (Int.toNat x_150) e_378) x_312).bind λe_398=>(Ar (σ:=(List α)×Int×Int) (ρ:=((List α)×Int)) (fun(s_1116:(List α)×Int×Int)=>match s_1116 with|(l_1119,x_1122,x_1123)=>(Ar (σ:=Int) (ρ:=(Int)) (fun(x_1565:Int)=>(cond (decide (x_1565≤x_1123)) ((idx l_1119 x_1565).bind λe_1626=>(idx l_1119 x1).bind λe_1632=>(cmp e_1626 e_1632).bind λy_1638=>some (decide (y_1638<0))) (some false)).bind λb_1624=>cond b_1624 (some (.inl (IntKind.i64.wrap (x_1565+1)))) (some (.inr x_1565))) x_1122).bind λx_1605=>(Ar (σ:=Int) (ρ:=(Int)) (fun(x_1727:Int)=>(cond (decide (x_1605≤x_1727)) ((idx l_1119 x_1727).bind λe_1788=>(idx l_1119 x1).bind λe_1794=>(cmp e_1788 e_1794).bind λy_1800=>some (!(decide (y_1800<0)))) (some false)).bind λb_1786=>cond b_1786 (some (.inl (IntKind.i64.wrap (x_1727-1)))) (some (.inr x_1727))) x_1123).bind λx_1767=>cond (decide (x_1767<x_1605)) (some (.inr (l_1119,x_1767))) ((idx l_1119 x_1767).bind λe_1807=>(idx l_1119 x_1605).bind λe_1813=>(idx l_1119 x_1605).bind λe_1819=>(idx (l_1119.set (Int.toNat x_1605) e_1807) x_1767).bind λe_1827=>some (.inl (((l_1119.set (Int.toNat x_1605) e_1807).set (Int.toNat x_1767) e_1813),(IntKind.i64.wrap (x_1605+1)),(IntKind.i64.wrap (x_1767-1)))))) (((((x0.set (Int.toNat x1) e_1).set (Int.toNat x3) e_7).set (Int.toNat x_150) e_378).set (Int.toNat x_312) e_384),(IntKind.i64.wrap (x_150+1)),(IntKind.i64.wrap (x_312-1)))).bind fun(l_1477,x_1480)=>(idx l_1477 x1).bind λe_1833=>(idx l_1477 x_1480).bind λe_1839=>(idx l_1477 x_1480).bind λe_1845=>(idx (l_1477.set (Int.toNat x_1480) e_1833) x1).bind λe_1853=>some (x_1480,false,((l_1477.set (Int.toNat x_1480) e_1833).set (Int.toNat x1) e_1839)))
noncomputable def DG.pdqsortR {α:Type}(cmp:α→α→Option Int):Nat→((List α))→Int→Int→Int→Option (((List α)))
 |0,_,_,_,_=>none
 |fuel+1,x0,x1,x2,x3=>(Ar (σ:=(List α)×Int×Int×Int×Bool×Bool) (ρ:=(((List α)))) (fun(s_398:(List α)×Int×Int×Int×Bool×Bool)=>match s_398 with|(l_401,x_404,x_405,x_406,b_407,b_408)=>cond (decide ((IntKind.i64.wrap (x_405-x_404))≤12)) ((DG.insertionSort cmp l_401 x_404 x_405).bind λy_411=>some (.inr y_411)) (cond (x_406==0) ((DG.heapSort cmp l_401 x_404 x_405).bind λy_421=>some (.inr y_421)) (((cond (!b_407) ((DG.breakPatterns cmp l_401 x_404 x_405).bind λy_449=>some (y_449,(IntKind.i64.wrap (x_406-1)))) (some (l_401,x_406)):Option ((List α)×Int))).bind fun(l_443,x_446)=>(DG.choosePivot cmp l_443 x_404 x_405).bind λy_458=>((cond (y_458.2.1==2) ((DG.reverseRange cmp y_458.2.2 x_404 x_405).bind λy_487=>some (y_487,(IntKind.i64.wrap ((IntKind.i64.wrap (x_405-1))-(IntKind.i64.wrap (y_458.1-x_404)))),1)) (some (y_458.2.2,y_458.1,y_458.2.1)):Option ((List α)×Int×Int))).bind fun(l_480,x_483,x_484)=>((cond ((b_407&&b_408)&&(x_484==1)) ((DG.partialInsertionSort cmp l_480 x_404 x_405).bind λy_521=>cond y_521.1 (some (.inr y_521.2)) (some (.inl y_521.2))) (some (.inl l_480)):Option (((List α)) ⊕ (((List α)))))).bind λq=>match q with| .inl l_516=>((cond (decide ((0:Int)<x_404)) ((idx l_516 (IntKind.i64.wrap (x_404-1))).bind λe_550=>(idx l_516 x_483).bind λe_556=>(cmp e_550 e_556).bind λy_562=>some (!(decide (y_562<0)))) (some false)).bind λb_548=>cond b_548 ((DG.partitionEqual cmp l_516 x_404 x_405 x_483).bind λy_568=>some (.inl (y_568.2,y_568.1,x_405,x_446,b_407,b_408))) ((DG.partition cmp l_516 x_404 x_405 x_483).bind λy_577=>cond (decide ((IntKind.i64.wrap (y_577.1-x_404))<(IntKind.i64.wrap (x_405-y_577.1)))) ((DG.pdqsortR cmp fuel y_577.2.2 x_404 y_577.1 x_446).bind λy_587=>some (.inl (y_587,(IntKind.i64.wrap (y_577.1+1)),x_405,x_446,(decide ((IntKind.i64.wrap (Int.tdiv (IntKind.i64.wrap (x_405-x_404)) 8))≤(IntKind.i64.wrap (y_577.1-x_404)))),y_577.2.1))) ((DG.pdqsortR cmp fuel y_577.2.2 (IntKind.i64.wrap (y_577.1+1)) x_405 x_446).bind λy_596=>some (.inl (y_596,x_404,y_577.1,x_446,(decide ((IntKind.i64.wrap (Int.tdiv (IntKind.i64.wrap (x_405-x_404)) 8))≤(IntKind.i64.wrap (x_405-y_577.1)))),y_577.2.1)))))| .inr q=>(some (.inr q))))) (x0,x1,x2,x3,true,true)).bind λz=>some z
noncomputable def DG.pdqsort {α:Type}(cmp:α→α→Option Int)(x0:(List α))(x1:Int)(x2:Int)(x3:Int):Option (((List α))):=DG.pdqsortR cmp BP x0 x1 x2 x3
noncomputable def DG.Sort {α:Type}(cmp:α→α→Option Int)(x0:(List α)):Option (((List α))):=
 (D.S (IntKind.u64.wrap (x0.length:Int))).bind λy_1=>(DG.pdqsort cmp x0 0 (x0.length:Int) y_1).bind λy_8=>some y_8
end Go.Sx

namespace Go.Sx.Gs
class Srtd (α:Type) where
 dflt:α
 key:α→Int
 good:α→Prop
 cmp:α→α→Option Int
 law:∀x y,good x→good y→∃v,cmp x y=some v∧decide (v<0)=decide (key x<key y)
variable {α : Type} [Srtd α]
def el (l:List α)(i:Int):α:=l.getD i.toNat Srtd.dflt
def at' (l:List α)(i:Int):Int:=Srtd.key (el l i)
theorem Ba {l:List α}{i:Int}(h0:0≤i)(h1:i<l.length):idx l i=some (el l i):=by
 unfold idx el
 rw[if_pos h0]
 have:i.toNat<l.length:=by omega
 simp[this]
theorem el_set {l:List α}{i k:Int}{x:α}(h0:0≤i)(h1:i<l.length)(hk:0≤k):el (l.set i.toNat x) k=if k=i then x else el l k:=by
 unfold el
 by_cases h:k=i
 ·subst h
  have:k.toNat<l.length:=by omega
  simp[this]
 ·rw[if_neg h]
  have:i.toNat≠k.toNat:=by omega
  simp[List.getD_eq_getElem?_getD,List.getElem?_set_ne this]
def sw (l:List α)(i j:Int):List α:=(l.set i.toNat (el l j)).set j.toNat (el l i)
theorem sw_len (l:List α)(i j:Int):(sw l i j).length=l.length:=by simp[sw]
theorem BA {l:List α}{i j k:Int}(hi:0≤i)(hi':i<l.length)(hj:0≤j)(hj':j<l.length)(hk:0≤k):
  at' (sw l i j) k=if k=j then at' l i else if k=i then at' l j else at' l k:=by
 unfold sw at'
 rw[el_set hj (by simpa using hj') hk]
 split
 ·rfl
 ·rw[el_set hi hi' hk]
  split<;>rfl
omit [Srtd α] in
theorem CW (z:α):∀(l:List α) (j:Nat),j<l.length→List.Perm (l.set j z) (z::l.eraseIdx j)
 |[],j,h=>by simp at h
 |x::l,0,_=>by simp
 |x::l,j+1,h=>by
  simp only[List.set_cons_succ,List.eraseIdx_cons_succ]
  exact((CW z l j (by simpa using h)).cons x).trans (List.Perm.swap _ _ _)
omit [Srtd α] in
theorem perm_erase (l:List α)(j:Nat)(h:j<l.length):List.Perm l (l[j]::l.eraseIdx j):=by
 have:=CW l[j] l j h
 rwa [List.set_getElem_self] at this
omit [Srtd α] in
theorem set_perm :∀(l:List α) (i j:Nat) (x y:α),l[i]? =some x→l[j]? =some y→List.Perm ((l.set i y).set j x) l
 |[],i,j,x,y,h,_=>by simp at h
 |z::l,0,0,x,y,h,h'=>by simp at h h';subst h;simp
 |z::l,0,j+1,x,y,h,h'=>by
  simp at h h'
  subst h
  simp only[List.set_cons_zero,List.set_cons_succ]
  obtain⟨hj,rfl⟩:=List.getElem?_eq_some_iff.1 h'
  have h1:=CW z l j hj
  have h2:=perm_erase l j hj
  exact((h1.cons _).trans (List.Perm.swap _ _ _)).trans (h2.symm.cons z)
 |z::l,i+1,0,x,y,h,h'=>by
  simp at h h'
  subst h'
  simp only[List.set_cons_zero,List.set_cons_succ]
  obtain⟨hj,rfl⟩:=List.getElem?_eq_some_iff.1 h
  have h1:=CW z l i hj
  have h2:=perm_erase l i hj
  exact((h1.cons _).trans (List.Perm.swap _ _ _)).trans (h2.symm.cons z)
 |z::l,i+1,j+1,x,y,h,h'=>by
  simp at h h'
  simp only[List.set_cons_succ]
  exact(set_perm l i j x y h h').cons z
theorem sw_perm {l:List α}{i j:Int}(hi:0≤i)(hi':i<l.length)(hj:0≤j)(hj':j<l.length):List.Perm (sw l i j) l:=by
 have h1:i.toNat<l.length:=by omega
 have h2:j.toNat<l.length:=by omega
 exact set_perm l i.toNat j.toNat _ _ (by simp[el,h1]) (by simp[el,h2])
structure Rg (a b:Int)(l l':List α):Prop where
 len:l'.length=l.length
 perm:List.Perm l' l
 out:∀k,0≤k→(k<a∨b≤k)→at' l' k=at' l k
 all:∀Q:Int→Prop,(∀k,a≤k→k<b→Q (at' l k))→∀k,a≤k→k<b→Q (at' l' k)
theorem Rg.refl (a b:Int)(l:List α):Rg a b l l:=⟨rfl,List.Perm.refl _,λ_ _ _=>rfl,λ_ h=>h⟩
theorem Rg.trans {a b:Int}{l l' l'':List α}(h:Rg a b l l')(h':Rg a b l' l''):Rg a b l l'':=
 ⟨h'.len.trans h.len,h'.perm.trans h.perm,λk h0 hk=>(h'.out k h0 hk).trans (h.out k h0 hk),λQ hQ=>h'.all Q (h.all Q hQ)⟩
theorem Rg.swap {a b i j:Int}{l:List α}(ha:0≤a)(hb:b≤l.length)(hi:a≤i)(hi':i<b)(hj:a≤j)(hj':j<b):Rg a b l (sw l i j):=by
 refine⟨sw_len _ _ _,sw_perm (by omega) (by omega) (by omega) (by omega),λk h0 hk=> ?_,λQ hQ k h1 h2=> ?_⟩
 ·rw[BA (by omega) (by omega) (by omega) (by omega) h0,if_neg (by omega),if_neg (by omega)]
 ·rw[BA (by omega) (by omega) (by omega) (by omega) (by omega)]
  split
  ·exact hQ i hi hi'
  ·split
   ·exact hQ j hj hj'
   ·exact hQ k h1 h2
theorem Rg.widen {a b a' b':Int}{l l':List α}(h:Rg a b l l')(ha:a'≤a)(hb:b≤b')(h0:0≤a'):Rg a' b' l l':=by
 refine⟨h.len,h.perm,λk h0 hk=>h.out k h0 (by omega),λQ hQ k h1 h2=> ?_⟩
 by_cases hk:a≤k∧k<b
 ·exact h.all Q (λk h3 h4=>hQ k (by omega) (by omega)) k hk.1 hk.2
 ·rw[h.out k (by omega) (by omega)];exact hQ k h1 h2
def Srt (l:List α)(a b:Int):Prop:=∀i j,a≤i→i<j→j<b→at' l i≤at' l j
def Good (l:List α):Prop:=∀x∈l,Srtd.good x
theorem Rg.good {a b:Int}{l l':List α}(h:Rg a b l l')(hg:Good l):Good l':=λx hx=>hg x (h.perm.mem_iff.1 hx)
theorem Good.el {l:List α}(h:Good l){i:Int}(h0:0≤i)(h1:i<l.length):Srtd.good (el l i):=by
 unfold Gs.el
 have:i.toNat<l.length:=by omega
 rw[A6 this]
 exact h _ (List.getElem_mem this)
theorem CG {l:List α}(h:Good l){i j:Int}(h0:0≤i)(h1:i<l.length)(h2:0≤j)(h3:j<l.length):∃v,Srtd.cmp (el l i) (el l j)=some v∧decide (v<0)=decide (at' l i<at' l j):=
 Srtd.law _ _ (h.el h0 h1) (h.el h2 h3)
theorem BJ {l:List α}{i j:Int}{x:α}(h0:0≤i)(h1:i<l.length):idx (l.set j.toNat x) i=some (el (l.set j.toNat x) i):=Ba h0 (by simpa using h1)
end Go.Sx.Gs

namespace Go.Sx.Gs
variable {α : Type} [Srtd α]
theorem ES (l0:List α)(a b:Int)(ha:0≤a)(hab:a≤b)(hb:b≤l0.length)(hlen:l0.length≤1100000)(hG:Good l0):
  ∃l',DG.insertionSort Srtd.cmp l0 a b=some l'∧Rg a b l0 l'∧Srt l' a b:=by
 unfold DG.insertionSort
 rw[w64 (show-9223372036854775808≤a+1 by omega) (by omega)]
 refine AO (λs=>Rg a b l0 s.1∧Srt s.1 a s.2∧a+1≤s.2∧s.2≤b+1) (λs=>(b-s.2).toNat) (λr=>Rg a b l0 r∧Srt r a b) ?_ ?_ ?_
 ·rintro⟨l,i⟩ ⟨hR,hS,h1,h2⟩
  dsimp only at hR hS h1 h2 ⊢
  have hll:=hR.len
  by_cases hi:i<b
  ·simp only[hi,decide_true,cT]
   rw[w64 (show-9223372036854775808≤i+1 by omega) (by omega)]
   refine AO (λs=>Rg a b l0 s.1∧a≤s.2∧s.2≤i∧∀p q,a≤p→p<q→q≤i→q≠s.2→at' s.1 p≤at' s.1 q) (λs=>(s.2-a).toNat) (λr=>Rg a b l0 r∧Srt r a (i+1)) ?_ ?_ ?_
   ·rintro⟨m,j⟩ ⟨hR',g1,g2,hS'⟩
    dsimp only at hR' g1 g2 hS' ⊢
    have hml:=hR'.len
    rw[w64 (show-9223372036854775808≤j-1 by omega) (by omega)]
    by_cases hj:a<j
    ·have r1:idx m j=some (el m j):=Ba (by omega) (by omega)
     have r2:idx m (j-1)=some (el m (j-1)):=Ba (by omega) (by omega)
     have r3:∀x,idx (m.set j.toNat x) (j-1)=some (el (m.set j.toNat x) (j-1)):=λx=>BJ (by omega) (by omega)
     obtain⟨v,cv,hv⟩:=CG (hR'.good hG) (i:=j) (j:=j-1) (by omega) (by omega) (by omega) (by omega)
     by_cases hlt:at' m j<at' m (j-1)
     ·refine⟨.inl (sw m j (j-1),j-1),?_,⟨hR'.trans (Rg.swap ha (by omega) (by omega) (by omega) (by omega) (by omega)),by dsimp only;omega,by dsimp only;omega,?_⟩,by dsimp only;omega⟩
      ·simp only[r1,r2,r3,hj,cv,hv,hlt,decide_true,cT,bs]
       rfl
      ·intro p q k1 k2 k3 k4
       dsimp only at k4 ⊢
       rw[BA (by omega) (by omega) (by omega) (by omega) (by omega),BA (by omega) (by omega) (by omega) (by omega) (by omega)]
       by_cases c1:q=j
       ·subst c1
        rw[if_neg (show¬q=q-1 by omega),if_pos rfl]
        by_cases c2:p=q-1
        ·rw[if_pos c2];omega
        ·rw[if_neg c2,if_neg (by omega)]
         exact hS' p (q-1) k1 (by omega) (by omega) (by omega)
       ·rw[if_neg (show¬q=j-1 by omega),if_neg c1]
        by_cases c2:p=j-1
        ·rw[if_pos c2]
         exact hS' j q (by omega) (by omega) k3 c1
        ·rw[if_neg c2]
         by_cases c3:p=j
         ·rw[if_pos c3]
          exact hS' (j-1) q (by omega) (by omega) k3 c1
         ·rw[if_neg c3]
          exact hS' p q k1 k2 k3 c1
     ·refine⟨.inr m,?_,hR',?_⟩
      ·simp only[r1,r2,hj,cv,hv,hlt,decide_true,decide_false,cT,cF,bs]
      ·intro p q k1 k2 k3
       by_cases c1:q=j
       ·subst c1
        by_cases c2:p=q-1
        ·subst c2;omega
        ·have:=hS' p (q-1) k1 (by omega) (by omega) (by omega)
         omega
       ·exact hS' p q k1 k2 (by omega) c1
    ·refine⟨.inr m,?_,hR',?_⟩
     ·simp only[hj,decide_false,cF,bs]
     ·intro p q k1 k2 k3
      exact hS' p q k1 k2 (by omega) (by omega)
   ·exact⟨hR,by dsimp only;omega,Int.le_refl _,λp q k1 k2 k3 k4=>hS p q k1 k2 (by dsimp only at k4 ⊢;omega)⟩
   ·rintro r ⟨hR',hS'⟩
    exact⟨.inl (r,i+1),rfl,⟨hR',hS',by dsimp only;omega,by dsimp only;omega⟩,by dsimp only;omega⟩
  ·refine⟨.inr l,by simp only[hi,decide_false,cF],hR,?_⟩
   intro p q k1 k2 k3
   exact hS p q k1 k2 (by omega)
 ·exact⟨Rg.refl _ _ _,λp q k1 k2 k3=>by dsimp only at k3;omega,by dsimp only;omega,by dsimp only;omega⟩
 ·rintro r hr
  exact⟨r,rfl,hr⟩
end Go.Sx.Gs

namespace Go.Sx.Gs
variable {α : Type} [Srtd α]
theorem Fe (l0:List α)(a b:Int)(ha:0≤a)(hab:a≤b)(hb:b≤l0.length)(hlen:l0.length≤1100000):
  ∃l',DG.reverseRange Srtd.cmp l0 a b=some l'∧Rg a b l0 l':=by
 unfold DG.reverseRange
 rw[w64 (show-9223372036854775808≤b-1 by omega) (by omega)]
 refine AO (λs=>Rg a b l0 s.1∧a≤s.2.1∧s.2.1≤b∧s.2.2<b∧a-1≤s.2.2) (λs=>(s.2.2-s.2.1).toNat) (λr=>Rg a b l0 r) ?_ ?_ ?_
 ·rintro⟨l,i,j⟩ ⟨hR,h1,h2,h3,h4⟩
  dsimp only at hR h1 h2 h3 h4 ⊢
  have hll:=hR.len
  by_cases hi:i<j
  ·have r1:idx l i=some (el l i):=Ba (by omega) (by omega)
   have r2:idx l j=some (el l j):=Ba (by omega) (by omega)
   have r3:∀x,idx (l.set i.toNat x) j=some (el (l.set i.toNat x) j):=λx=>BJ (by omega) (by omega)
   rw[w64 (show-9223372036854775808≤i+1 by omega) (by omega),w64 (show-9223372036854775808≤j-1 by omega) (by omega)]
   refine⟨.inl (sw l i j,i+1,j-1),?_,⟨hR.trans (Rg.swap ha (by omega) (by omega) (by omega) (by omega) (by omega)),by dsimp only;omega,by dsimp only;omega,by dsimp only;omega,by dsimp only;omega⟩,by dsimp only;omega⟩
   simp only[r1,r2,r3,hi,decide_true,cT,bs]
   rfl
  ·exact⟨.inr l,by simp only[hi,decide_false,cF],hR⟩
 ·exact⟨Rg.refl _ _ _,by dsimp only;omega,by dsimp only;omega,by dsimp only;omega,by dsimp only;omega⟩
 ·rintro r hr
  exact⟨r,rfl,hr⟩
theorem scanUp {β:Type}{k:Int→Option β}{Q:β→Prop}(l:List α)(hG:Good l)(a hi i0:Int)(ha:0≤a)(ha':a<l.length)(h0:0≤i0)(h1:i0≤hi+1)(h2:hi<l.length)(hlen:l.length≤1100000)
  (hk:∀i,i0≤i→i≤hi+1→(∀q,i0≤q→q<i→at' l q<at' l a)→(i≤hi→¬at' l i<at' l a)→∃y,k i=some y∧Q y):
  ∃y,(Ar (σ:=Int) (ρ:=(Int)) (fun(x:Int)=>(cond (decide (x≤hi)) ((idx l x).bind λe=>(idx l a).bind λe'=>(Srtd.cmp e e').bind λy=>some (decide (y<0))) (some false)).bind λb=>cond b (some (.inl (IntKind.i64.wrap (x+1)))) (some (.inr x))) i0).bind k=some y∧Q y:=by
 refine AO (λi=>i0≤i∧i≤hi+1∧∀q,i0≤q→q<i→at' l q<at' l a) (λi=>(hi+1-i).toNat) (λi=>i0≤i∧i≤hi+1∧(∀q,i0≤q→q<i→at' l q<at' l a)∧(i≤hi→¬at' l i<at' l a)) ?_ ?_ ?_
 ·rintro i ⟨g1,g2,g3⟩
  by_cases hi':i≤hi
  ·have r1:idx l i=some (el l i):=Ba (by omega) (by omega)
   have r2:idx l a=some (el l a):=Ba (by omega) (by omega)
   obtain⟨v,cv,hv⟩:=CG hG (i:=i) (j:=a) (by omega) (by omega) (by omega) (by omega)
   by_cases hlt:at' l i<at' l a
   ·refine⟨.inl (i+1),?_,⟨by omega,by omega,λq q1 q2=> ?_⟩,by dsimp only;omega⟩
    ·simp only[r1,r2,hi',cv,hv,hlt,decide_true,cT,bs]
     rw[w64 (by omega) (by omega)]
    ·by_cases e:q=i
     ·rw[e];exact hlt
     ·exact g3 q q1 (by omega)
   ·exact⟨.inr i,by simp only[r1,r2,hi',cv,hv,hlt,decide_true,decide_false,cT,cF,bs],g1,g2,g3,λ_=>hlt⟩
  ·exact⟨.inr i,by simp only[hi',decide_false,cF,bs],g1,g2,g3,λh=>absurd h hi'⟩
 ·exact⟨Int.le_refl _,h1,λq q1 q2=>by omega⟩
 ·rintro i ⟨g1,g2,g3,g4⟩
  exact hk i g1 g2 g3 g4
theorem scanDown {β:Type}{k:Int→Option β}{Q:β→Prop}(l:List α)(hG:Good l)(a lo j0:Int)(ha:0≤a)(ha':a<l.length)(h0:0≤lo)(h1:lo≤j0+1)(h2:j0<l.length)(hlen:l.length≤1100000)
  (hk:∀j,lo≤j+1→j≤j0→(∀q,j<q→q≤j0→¬at' l q<at' l a)→(lo≤j→at' l j<at' l a)→∃y,k j=some y∧Q y):
  ∃y,(Ar (σ:=Int) (ρ:=(Int)) (fun(x:Int)=>(cond (decide (lo≤x)) ((idx l x).bind λe=>(idx l a).bind λe'=>(Srtd.cmp e e').bind λy=>some (!(decide (y<0)))) (some false)).bind λb=>cond b (some (.inl (IntKind.i64.wrap (x-1)))) (some (.inr x))) j0).bind k=some y∧Q y:=by
 refine AO (λj=>lo≤j+1∧j≤j0∧∀q,j<q→q≤j0→¬at' l q<at' l a) (λj=>(j+1-lo).toNat) (λj=>lo≤j+1∧j≤j0∧(∀q,j<q→q≤j0→¬at' l q<at' l a)∧(lo≤j→at' l j<at' l a)) ?_ ?_ ?_
 ·rintro j ⟨g1,g2,g3⟩
  by_cases hi':lo≤j
  ·have r1:idx l j=some (el l j):=Ba (by omega) (by omega)
   have r2:idx l a=some (el l a):=Ba (by omega) (by omega)
   obtain⟨v,cv,hv⟩:=CG hG (i:=j) (j:=a) (by omega) (by omega) (by omega) (by omega)
   by_cases hlt:at' l j<at' l a
   ·exact⟨.inr j,by simp only[r1,r2,hi',cv,hv,hlt,decide_true,Bool.not_true,cT,cF,bs],g1,g2,g3,λ_=>hlt⟩
   ·refine⟨.inl (j-1),?_,⟨by omega,by omega,λq q1 q2=> ?_⟩,by dsimp only;omega⟩
    ·simp only[r1,r2,hi',cv,hv,hlt,decide_true,decide_false,Bool.not_false,cT,bs]
     rw[w64 (by omega) (by omega)]
    ·by_cases e:q=j
     ·rw[e];exact hlt
     ·exact g3 q (by omega) q2
  ·exact⟨.inr j,by simp only[hi',decide_false,cF,bs],g1,g2,g3,λh=>absurd h hi'⟩
 ·exact⟨h1,Int.le_refl _,λq q1 q2=>by omega⟩
 ·rintro j ⟨g1,g2,g3,g4⟩
  exact hk j g1 g2 g3 g4
structure Parted (l0 l':List α)(a b mid:Int):Prop where
 rg:Rg a b l0 l'
 lo:a≤mid
 hi:mid<b
 left:∀k,a≤k→k<mid→at' l' k≤at' l' mid
 right:∀k,mid<k→k<b→at' l' mid≤at' l' k
theorem partition_spec (l0:List α)(a b p:Int)(ha:0≤a)(hb:b≤l0.length)(hlen:l0.length≤1100000)(hG:Good l0)(hp:a≤p)(hp':p<b):
  ∃y,DG.partition Srtd.cmp l0 a b p=some y∧Parted l0 y.2.2 a b y.1:=by
 unfold DG.partition
 have r1:idx l0 p=some (el l0 p):=Ba (by omega) (by omega)
 have r2:idx l0 a=some (el l0 a):=Ba (by omega) (by omega)
 have r3:∀x,idx (l0.set a.toNat x) p=some (el (l0.set a.toNat x) p):=λx=>BJ (by omega) (by omega)
 simp only[r1,r2,r3,bs]
 rw[show (l0.set a.toNat (el l0 p)).set p.toNat (el l0 a)=sw l0 a p from rfl]
 have hR0:Rg a b l0 (sw l0 a p):=Rg.swap ha hb (by omega) (by omega) hp hp'
 generalize sw l0 a p=m0 at hR0 ⊢
 have hm0:=hR0.len
 rw[w64 (show-9223372036854775808≤b-1 by omega) (by omega),w64 (show-9223372036854775808≤a+1 by omega) (by omega)]
 refine scanUp m0 (hR0.good hG) a (b-1) (a+1) ha (by omega) (by omega) (by omega) (by omega) (by omega) (λi i1 i2 i3 i4=> ?_)
 refine scanDown m0 (hR0.good hG) a i (b-1) ha (by omega) (by omega) (by omega) (by omega) (by omega) (λj j1 j2 j3 j4=> ?_)
 have q1:idx m0 a=some (el m0 a):=Ba (by omega) (by omega)
 have q2:idx m0 j=some (el m0 j):=Ba (by omega) (by omega)
 by_cases hij:j<i
 ·have q3:∀x,idx (m0.set j.toNat x) a=some (el (m0.set j.toNat x) a):=λx=>BJ (by omega) (by omega)
  refine⟨(j,true,sw m0 j a),?_,⟨hR0.trans (Rg.swap ha (by omega) (by omega) (by omega) (by omega) (by omega)),by dsimp only;omega,by dsimp only;omega,λk k1 k2=> ?_,λk k1 k2=> ?_⟩⟩
  ·simp only[q1,q2,q3,hij,decide_true,cT,bs]
   rfl
  ·dsimp only at k1 k2 ⊢
   rw[BA (by omega) (by omega) (by omega) (by omega) (by omega),BA (by omega) (by omega) (by omega) (by omega) (by omega)]
   rw[if_neg (show¬j=a by omega),if_pos rfl]
   by_cases e:k=a
   ·rw[if_pos e]
    have:=i3 j (by omega) (by omega);omega
   ·rw[if_neg e,if_neg (by omega)]
    have:=i3 k (by omega) (by omega);omega
  ·dsimp only at k1 k2 ⊢
   rw[BA (by omega) (by omega) (by omega) (by omega) (by omega),BA (by omega) (by omega) (by omega) (by omega) (by omega)]
   rw[if_neg (show¬k=a by omega),if_neg (show¬k=j by omega)]
   have hk:=j3 k (by omega) (by omega)
   by_cases e:j=a
   ·rw[if_pos e];subst e;omega
   ·rw[if_neg e,if_pos rfl];omega
 ·have q4:idx m0 i=some (el m0 i):=Ba (by omega) (by omega)
  have q5:∀x,idx (m0.set i.toNat x) j=some (el (m0.set i.toNat x) j):=λx=>BJ (by omega) (by omega)
  simp only[q1,q2,q4,q5,hij,decide_false,cF,bs]
  rw[show (m0.set i.toNat (el m0 j)).set j.toNat (el m0 i)=sw m0 i j from rfl]
  have hia:=i4 (by omega)
  have hja:=j4 (by omega)
  have hne:i<j:=by
   rcases Int.lt_or_eq_of_le (show i≤j by omega) with h|h
   ·exact h
   ·subst h;exact absurd hja hia
  have hR1:Rg a b l0 (sw m0 i j):=hR0.trans (Rg.swap ha (by omega) (by omega) (by omega) (by omega) (by omega))
  have ea:at' (sw m0 i j) a=at' m0 a:=by rw[BA (by omega) (by omega) (by omega) (by omega) (by omega),if_neg (by omega),if_neg (by omega)]
  have hlo:∀q,a+1≤q→q<i+1→at' (sw m0 i j) q<at' (sw m0 i j) a:=λq h1 h2=>by
   rw[ea,BA (by omega) (by omega) (by omega) (by omega) (by omega),if_neg (by omega)]
   by_cases e:q=i
   ·rw[if_pos e];exact hja
   ·rw[if_neg e];exact i3 q h1 (by omega)
  have hhi:∀q,j-1<q→q<b→¬at' (sw m0 i j) q<at' (sw m0 i j) a:=λq h1 h2=>by
   rw[ea,BA (by omega) (by omega) (by omega) (by omega) (by omega)]
   by_cases e:q=j
   ·rw[if_pos e];exact hia
   ·rw[if_neg e,if_neg (by omega)];exact j3 q (by omega) (by omega)
  rw[w64 (show-9223372036854775808≤i+1 by omega) (by omega),w64 (show-9223372036854775808≤j-1 by omega) (by omega)]
  generalize sw m0 i j=m1 at hR1 hlo hhi ⊢
  refine AO (λs=>Rg a b l0 s.1∧a+1≤s.2.1∧s.2.1≤s.2.2+1∧s.2.2<b∧(∀q,a+1≤q→q<s.2.1→at' s.1 q<at' s.1 a)∧(∀q,s.2.2<q→q<b→¬at' s.1 q<at' s.1 a)) (λs=>(s.2.2+1-s.2.1).toNat)
   (λs=>Rg a b l0 s.1∧a≤s.2∧s.2<b∧(∀q,a+1≤q→q≤s.2→at' s.1 q<at' s.1 a)∧(∀q,s.2<q→q<b→¬at' s.1 q<at' s.1 a)) ?_ ?_ ?_
  ·rintro⟨m,u,v⟩ ⟨hR,g1,g2,g3,g4,g5⟩
   dsimp only at hR g1 g2 g3 g4 g5 ⊢
   have hml:=hR.len
   refine scanUp m (hR.good hG) a v u ha (by omega) (by omega) (by omega) (by omega) (by omega) (λi i1 i2 i3 i4=> ?_)
   refine scanDown m (hR.good hG) a i v ha (by omega) (by omega) (by omega) (by omega) (by omega) (λj j1 j2 j3 j4=> ?_)
   have f1:∀q,a+1≤q→q<i→at' m q<at' m a:=λq h1 h2=>by
    by_cases h:q<u
    ·exact g4 q h1 h
    ·exact i3 q (by omega) h2
   have f2:∀q,j<q→q<b→¬at' m q<at' m a:=λq h1 h2=>by
    by_cases h:q≤v
    ·exact j3 q h1 h
    ·exact g5 q (by omega) h2
   by_cases hij:j<i
   ·exact⟨.inr (m,j),by simp only[hij,decide_true,cT],hR,by dsimp only;omega,by dsimp only;omega,λq h1 h2=>f1 q h1 (by dsimp only at h2;omega),f2⟩
   ·have t1:idx m i=some (el m i):=Ba (by omega) (by omega)
    have t2:idx m j=some (el m j):=Ba (by omega) (by omega)
    have t3:∀x,idx (m.set i.toNat x) j=some (el (m.set i.toNat x) j):=λx=>BJ (by omega) (by omega)
    have hia:=i4 (by omega)
    have hja:=j4 (by omega)
    have hne:i<j:=by
     rcases Int.lt_or_eq_of_le (show i≤j by omega) with h|h
     ·exact h
     ·subst h;exact absurd hja hia
    have ea:at' (sw m i j) a=at' m a:=by rw[BA (by omega) (by omega) (by omega) (by omega) (by omega),if_neg (by omega),if_neg (by omega)]
    rw[w64 (show-9223372036854775808≤i+1 by omega) (by omega),w64 (show-9223372036854775808≤j-1 by omega) (by omega)]
    refine⟨.inl (sw m i j,i+1,j-1),?_,⟨hR.trans (Rg.swap ha (by omega) (by omega) (by omega) (by omega) (by omega)),by dsimp only;omega,by dsimp only;omega,by dsimp only;omega,λq h1 h2=> ?_,λq h1 h2=> ?_⟩,by dsimp only;omega⟩
    ·simp only[t1,t2,t3,hij,decide_false,cF,bs]
     rfl
    ·dsimp only at h2 ⊢
     rw[ea,BA (by omega) (by omega) (by omega) (by omega) (by omega),if_neg (by omega)]
     by_cases e:q=i
     ·rw[if_pos e];exact hja
     ·rw[if_neg e];exact f1 q h1 (by omega)
    ·dsimp only at h1 ⊢
     rw[ea,BA (by omega) (by omega) (by omega) (by omega) (by omega)]
     by_cases e:q=j
     ·rw[if_pos e];exact hia
     ·rw[if_neg e,if_neg (by omega)];exact f2 q (by omega) h2
  ·exact⟨hR1,by dsimp only;omega,by dsimp only;omega,by dsimp only;omega,hlo,hhi⟩
  ·rintro⟨m,v⟩ ⟨hR,g1,g2,g3,g4⟩
   dsimp only at hR g1 g2 g3 g4 ⊢
   have hml:=hR.len
   have t1:idx m a=some (el m a):=Ba (by omega) (by omega)
   have t2:idx m v=some (el m v):=Ba (by omega) (by omega)
   have t3:∀x,idx (m.set v.toNat x) a=some (el (m.set v.toNat x) a):=λx=>BJ (by omega) (by omega)
   refine⟨(v,false,sw m v a),?_,⟨hR.trans (Rg.swap ha (by omega) (by omega) (by omega) (by omega) (by omega)),g1,g2,λk k1 k2=> ?_,λk k1 k2=> ?_⟩⟩
   ·simp only[t1,t2,t3,bs]
    rfl
   ·dsimp only at k1 k2 ⊢
    rw[BA (by omega) (by omega) (by omega) (by omega) (by omega),BA (by omega) (by omega) (by omega) (by omega) (by omega)]
    rw[if_neg (show¬v=a by omega),if_pos rfl]
    by_cases e:k=a
    ·rw[if_pos e]
     have:=g3 v (by omega) (by omega);omega
    ·rw[if_neg e,if_neg (by omega)]
     have:=g3 k (by omega) (by omega);omega
   ·dsimp only at k1 k2 ⊢
    rw[BA (by omega) (by omega) (by omega) (by omega) (by omega),BA (by omega) (by omega) (by omega) (by omega) (by omega)]
    rw[if_neg (show¬k=a by omega),if_neg (show¬k=v by omega)]
    have hk:=g4 k (by omega) (by omega)
    by_cases e:v=a
    ·rw[if_pos e];subst e;omega
    ·rw[if_neg e,if_pos rfl];omega
end Go.Sx.Gs

namespace Go.Sx.Gs
variable {α : Type} [Srtd α]
theorem scanUp2 {β:Type}{k:Int→Option β}{Q:β→Prop}(l:List α)(hG:Good l)(a hi i0:Int)(ha:0≤a)(ha':a<l.length)(h0:0≤i0)(h1:i0≤hi+1)(h2:hi<l.length)(hlen:l.length≤1100000)
  (hk:∀i,i0≤i→i≤hi+1→(∀q,i0≤q→q<i→¬at' l a<at' l q)→(i≤hi→at' l a<at' l i)→∃y,k i=some y∧Q y):
  ∃y,(Ar (σ:=Int) (ρ:=(Int)) (fun(x:Int)=>(cond (decide (x≤hi)) ((idx l a).bind λe=>(idx l x).bind λe'=>(Srtd.cmp e e').bind λy=>some (!(decide (y<0)))) (some false)).bind λb=>cond b (some (.inl (IntKind.i64.wrap (x+1)))) (some (.inr x))) i0).bind k=some y∧Q y:=by
 refine AO (λi=>i0≤i∧i≤hi+1∧∀q,i0≤q→q<i→¬at' l a<at' l q) (λi=>(hi+1-i).toNat) (λi=>i0≤i∧i≤hi+1∧(∀q,i0≤q→q<i→¬at' l a<at' l q)∧(i≤hi→at' l a<at' l i)) ?_ ?_ ?_
 ·rintro i ⟨g1,g2,g3⟩
  by_cases hi':i≤hi
  ·have r1:idx l i=some (el l i):=Ba (by omega) (by omega)
   have r2:idx l a=some (el l a):=Ba (by omega) (by omega)
   obtain⟨v,cv,hv⟩:=CG hG (i:=a) (j:=i) (by omega) (by omega) (by omega) (by omega)
   by_cases hlt:at' l a<at' l i
   ·exact⟨.inr i,by simp only[r1,r2,hi',cv,hv,hlt,decide_true,Bool.not_true,cT,cF,bs],g1,g2,g3,λ_=>hlt⟩
   ·refine⟨.inl (i+1),?_,⟨by omega,by omega,λq q1 q2=> ?_⟩,by dsimp only;omega⟩
    ·simp only[r1,r2,hi',cv,hv,hlt,decide_true,decide_false,Bool.not_false,cT,bs]
     rw[w64 (by omega) (by omega)]
    ·by_cases e:q=i
     ·rw[e];exact hlt
     ·exact g3 q q1 (by omega)
  ·exact⟨.inr i,by simp only[hi',decide_false,cF,bs],g1,g2,g3,λh=>absurd h hi'⟩
 ·exact⟨Int.le_refl _,h1,λq q1 q2=>by omega⟩
 ·rintro i ⟨g1,g2,g3,g4⟩
  exact hk i g1 g2 g3 g4
theorem scanDown2 {β:Type}{k:Int→Option β}{Q:β→Prop}(l:List α)(hG:Good l)(a lo j0:Int)(ha:0≤a)(ha':a<l.length)(h0:0≤lo)(h1:lo≤j0+1)(h2:j0<l.length)(hlen:l.length≤1100000)
  (hk:∀j,lo≤j+1→j≤j0→(∀q,j<q→q≤j0→at' l a<at' l q)→(lo≤j→¬at' l a<at' l j)→∃y,k j=some y∧Q y):
  ∃y,(Ar (σ:=Int) (ρ:=(Int)) (fun(x:Int)=>(cond (decide (lo≤x)) ((idx l a).bind λe=>(idx l x).bind λe'=>(Srtd.cmp e e').bind λy=>some (decide (y<0))) (some false)).bind λb=>cond b (some (.inl (IntKind.i64.wrap (x-1)))) (some (.inr x))) j0).bind k=some y∧Q y:=by
 refine AO (λj=>lo≤j+1∧j≤j0∧∀q,j<q→q≤j0→at' l a<at' l q) (λj=>(j+1-lo).toNat) (λj=>lo≤j+1∧j≤j0∧(∀q,j<q→q≤j0→at' l a<at' l q)∧(lo≤j→¬at' l a<at' l j)) ?_ ?_ ?_
 ·rintro j ⟨g1,g2,g3⟩
  by_cases hi':lo≤j
  ·have r1:idx l j=some (el l j):=Ba (by omega) (by omega)
   have r2:idx l a=some (el l a):=Ba (by omega) (by omega)
   obtain⟨v,cv,hv⟩:=CG hG (i:=a) (j:=j) (by omega) (by omega) (by omega) (by omega)
   by_cases hlt:at' l a<at' l j
   ·refine⟨.inl (j-1),?_,⟨by omega,by omega,λq q1 q2=> ?_⟩,by dsimp only;omega⟩
    ·simp only[r1,r2,hi',cv,hv,hlt,decide_true,cT,bs]
     rw[w64 (by omega) (by omega)]
    ·by_cases e:q=j
     ·rw[e];exact hlt
     ·exact g3 q (by omega) q2
   ·exact⟨.inr j,by simp only[r1,r2,hi',cv,hv,hlt,decide_true,decide_false,cT,cF,bs],g1,g2,g3,λ_=>hlt⟩
  ·exact⟨.inr j,by simp only[hi',decide_false,cF,bs],g1,g2,g3,λh=>absurd h hi'⟩
 ·exact⟨h1,Int.le_refl _,λq q1 q2=>by omega⟩
 ·rintro j ⟨g1,g2,g3,g4⟩
  exact hk j g1 g2 g3 g4
theorem EO (l0:List α)(a b p:Int)(ha:0≤a)(hb:b≤l0.length)(hlen:l0.length≤1100000)(hG:Good l0)(hp:a≤p)(hp':p<b):
  ∃y,DG.partitionEqual Srtd.cmp l0 a b p=some y∧Rg a b l0 y.2∧a<y.1∧y.1≤b∧(∀k,a≤k→k<y.1→at' y.2 k≤at' l0 p)∧(∀k,y.1≤k→k<b→at' l0 p<at' y.2 k):=by
 unfold DG.partitionEqual
 have r1:idx l0 p=some (el l0 p):=Ba (by omega) (by omega)
 have r2:idx l0 a=some (el l0 a):=Ba (by omega) (by omega)
 have r3:∀x,idx (l0.set a.toNat x) p=some (el (l0.set a.toNat x) p):=λx=>BJ (by omega) (by omega)
 simp only[r1,r2,r3,bs]
 rw[show (l0.set a.toNat (el l0 p)).set p.toNat (el l0 a)=sw l0 a p from rfl]
 have hR0:Rg a b l0 (sw l0 a p):=Rg.swap ha hb (by omega) (by omega) hp hp'
 have ep:at' (sw l0 a p) a=at' l0 p:=by
  rw[BA (by omega) (by omega) (by omega) (by omega) (by omega)]
  by_cases e:a=p
  ·rw[if_pos e,e]
  ·rw[if_neg e,if_pos rfl]
 generalize sw l0 a p=m0 at hR0 ep ⊢
 rw[w64 (show-9223372036854775808≤b-1 by omega) (by omega),w64 (show-9223372036854775808≤a+1 by omega) (by omega)]
 refine AO (λs=>Rg a b l0 s.1∧a+1≤s.2.1∧s.2.1≤s.2.2+1∧s.2.2<b∧at' s.1 a=at' l0 p∧(∀q,a+1≤q→q<s.2.1→¬at' s.1 a<at' s.1 q)∧(∀q,s.2.2<q→q<b→at' s.1 a<at' s.1 q)) (λs=>(s.2.2+1-s.2.1).toNat)
  (λs=>Rg a b l0 s.1∧a+1≤s.2∧s.2≤b∧at' s.1 a=at' l0 p∧(∀q,a+1≤q→q<s.2→¬at' s.1 a<at' s.1 q)∧(∀q,s.2≤q→q<b→at' s.1 a<at' s.1 q)) ?_ ?_ ?_
 ·rintro⟨m,u,v⟩ ⟨hR,g1,g2,g3,g6,g4,g5⟩
  dsimp only at hR g1 g2 g3 g4 g5 g6 ⊢
  have hml:=hR.len
  refine scanUp2 m (hR.good hG) a v u ha (by omega) (by omega) (by omega) (by omega) (by omega) (λi i1 i2 i3 i4=> ?_)
  refine scanDown2 m (hR.good hG) a i v ha (by omega) (by omega) (by omega) (by omega) (by omega) (λj j1 j2 j3 j4=> ?_)
  have f1:∀q,a+1≤q→q<i→¬at' m a<at' m q:=λq h1 h2=>by
   by_cases h:q<u
   ·exact g4 q h1 h
   ·exact i3 q (by omega) h2
  have f2:∀q,j<q→q<b→at' m a<at' m q:=λq h1 h2=>by
   by_cases h:q≤v
   ·exact j3 q h1 h
   ·exact g5 q (by omega) h2
  by_cases hij:j<i
  ·exact⟨.inr (m,i),by simp only[hij,decide_true,cT],hR,by dsimp only;omega,by dsimp only;omega,g6,f1,λq h1 h2=>f2 q (by dsimp only at h1;omega) h2⟩
  ·have t1:idx m i=some (el m i):=Ba (by omega) (by omega)
   have t2:idx m j=some (el m j):=Ba (by omega) (by omega)
   have t3:∀x,idx (m.set i.toNat x) j=some (el (m.set i.toNat x) j):=λx=>BJ (by omega) (by omega)
   have hia:=i4 (by omega)
   have hja:=j4 (by omega)
   have hne:i<j:=by
    rcases Int.lt_or_eq_of_le (show i≤j by omega) with h|h
    ·exact h
    ·subst h;exact absurd hia hja
   have ea:at' (sw m i j) a=at' m a:=by rw[BA (by omega) (by omega) (by omega) (by omega) (by omega),if_neg (by omega),if_neg (by omega)]
   rw[w64 (show-9223372036854775808≤i+1 by omega) (by omega),w64 (show-9223372036854775808≤j-1 by omega) (by omega)]
   refine⟨.inl (sw m i j,i+1,j-1),?_,⟨hR.trans (Rg.swap ha (by omega) (by omega) (by omega) (by omega) (by omega)),by dsimp only;omega,by dsimp only;omega,by dsimp only;omega,by dsimp only;rw[ea];exact g6,λq h1 h2=> ?_,λq h1 h2=> ?_⟩,by dsimp only;omega⟩
   ·simp only[t1,t2,t3,hij,decide_false,cF,bs]
    rfl
   ·dsimp only at h2 ⊢
    rw[ea,BA (by omega) (by omega) (by omega) (by omega) (by omega),if_neg (by omega)]
    by_cases e:q=i
    ·rw[if_pos e];exact hja
    ·rw[if_neg e];exact f1 q h1 (by omega)
   ·dsimp only at h1 ⊢
    rw[ea,BA (by omega) (by omega) (by omega) (by omega) (by omega)]
    by_cases e:q=j
    ·rw[if_pos e];exact hia
    ·rw[if_neg e,if_neg (by omega)];exact f2 q (by omega) h2
 ·exact⟨hR0,by dsimp only;omega,by dsimp only;omega,by dsimp only;omega,ep,λq h1 h2=>by dsimp only at h2;omega,λq h1 h2=>by dsimp only at h1;omega⟩
 ·rintro⟨m,v⟩ ⟨hR,g1,g2,g3,g4,g5⟩
  refine⟨(v,m),rfl,hR,by dsimp only at*;omega,g2,λk k1 k2=> ?_,λk k1 k2=> ?_⟩
  ·dsimp only at*
   by_cases e:k=a
   ·rw[e,g3];exact Int.le_refl _
   ·have:=g4 k (by omega) k2;omega
  ·dsimp only at*
   have:=g5 k k1 k2;omega
theorem Ed (l:List α)(hG:Good l)(a b s:Int)(ha:0≤a)(ha':a<l.length)(hb:0≤b)(hb':b<l.length):
  ∃y,DG.order2 Srtd.cmp l a b s=some y∧y.2.2.1=l∧((y.1=a∧y.2.1=b)∨(y.1=b∧y.2.1=a)):=by
 have r1:idx l a=some (el l a):=Ba ha ha'
 have r2:idx l b=some (el l b):=Ba hb hb'
 unfold DG.order2
 obtain⟨v,cv,hv⟩:=CG hG (i:=b) (j:=a) hb hb' ha ha'
 simp only[r1,r2,cv,hv,bs]
 by_cases h:at' l b<at' l a
 ·simp only[h,decide_true,cT];exact⟨_,rfl,rfl,.inr ⟨rfl,rfl⟩⟩
 ·simp only[h,decide_false,cF];exact⟨_,rfl,rfl,.inl ⟨rfl,rfl⟩⟩
theorem Fj (l:List α)(hG:Good l)(a b c s:Int)(ha:0≤a)(ha':a<l.length)(hb:0≤b)(hb':b<l.length)(hc:0≤c)(hc':c<l.length):
  ∃y,DG.median Srtd.cmp l a b c s=some y∧y.2.1=l∧(y.1=a∨y.1=b∨y.1=c):=by
 unfold DG.median
 obtain⟨y1,h1,e1,c1⟩:=Ed l hG a b s ha ha' hb hb'
 rw[h1,bs,e1]
 have b1:0≤y1.2.1∧y1.2.1<l.length∧0≤y1.1∧y1.1<l.length:=by rcases c1 with⟨c,d⟩|⟨c,d⟩<;>rw[c,d]<;>exact⟨by assumption,by assumption,by assumption,by assumption⟩
 obtain⟨y2,h2,e2,c2⟩:=Ed l hG y1.2.1 c y1.2.2.2 b1.1 b1.2.1 hc hc'
 rw[h2,bs,e2]
 have b2:0≤y2.1∧y2.1<l.length:=by rcases c2 with⟨c,d⟩|⟨c,d⟩<;>rw[c]<;>exact⟨by omega,by omega⟩
 obtain⟨y3,h3,e3,c3⟩:=Ed l hG y1.1 y2.1 y2.2.2.2 b1.2.2.1 b1.2.2.2 b2.1 b2.2
 rw[h3,bs]
 refine⟨_,rfl,e3,?_⟩
 dsimp only
 omega
theorem Dq (l:List α)(hG:Good l)(p s:Int)(h0:1≤p)(h1:p+1<l.length)(hlen:l.length≤1100000):
  ∃y,DG.medianAdjacent Srtd.cmp l p s=some y∧y.2.1=l∧p-1≤y.1∧y.1≤p+1:=by
 unfold DG.medianAdjacent
 rw[w64 (show-9223372036854775808≤p-1 by omega) (by omega),w64 (show-9223372036854775808≤p+1 by omega) (by omega)]
 obtain⟨y,h,e,c⟩:=Fj l hG (p-1) p (p+1) s (by omega) (by omega) (by omega) (by omega) (by omega) (by omega)
 rw[h,bs]
 exact⟨_,rfl,e,by dsimp only;omega,by dsimp only;omega⟩
theorem Fz (l:List α)(hG:Good l)(a b:Int)(ha:0≤a)(hb:b≤l.length)(h8:8≤b-a)(hlen:l.length≤1100000):
  ∃y,DG.choosePivot Srtd.cmp l a b=some y∧y.2.2=l∧a≤y.1∧y.1<b:=by
 unfold DG.choosePivot
 rw[w64 (show-9223372036854775808≤b-a by omega) (by omega)]
 have e4:(b-a).tdiv 4=(b-a)/4:=Int.tdiv_eq_ediv_of_nonneg (by omega)
 rw[e4,w64 (show-9223372036854775808≤(b-a)/4 by omega) (by omega)]
 rw[w64 (show-9223372036854775808≤(b-a)/4*1 by omega) (by omega),w64 (show-9223372036854775808≤(b-a)/4*2 by omega) (by omega),w64 (show-9223372036854775808≤(b-a)/4*3 by omega) (by omega)]
 rw[w64 (show-9223372036854775808≤a+(b-a)/4*1 by omega) (by omega),w64 (show-9223372036854775808≤a+(b-a)/4*2 by omega) (by omega),w64 (show-9223372036854775808≤a+(b-a)/4*3 by omega) (by omega)]
 simp only[h8,decide_true,cT]
 refine B4 (λq:List α×Int×Int×Int×Int=>q.1=l∧(a≤q.2.1∧q.2.1<b)∧(a≤q.2.2.1∧q.2.2.1<b)∧(a≤q.2.2.2.1∧q.2.2.2.1<b)) ?_ ?_
 ·by_cases h50:50≤b-a
  ·simp only[h50,decide_true,cT]
   obtain⟨y1,h1,e1,c1⟩:=Dq l hG (a+(b-a)/4*1) 0 (by omega) (by omega) hlen
   rw[h1,bs,e1]
   obtain⟨y2,h2,e2,c2⟩:=Dq l hG (a+(b-a)/4*2) y1.2.2 (by omega) (by omega) hlen
   rw[h2,bs,e2]
   obtain⟨y3,h3,e3,c3⟩:=Dq l hG (a+(b-a)/4*3) y2.2.2 (by omega) (by omega) hlen
   rw[h3,bs]
   exact⟨_,rfl,e3,⟨by dsimp only;omega,by dsimp only;omega⟩,⟨by dsimp only;omega,by dsimp only;omega⟩,⟨by dsimp only;omega,by dsimp only;omega⟩⟩
  ·simp only[h50,decide_false,cF]
   exact⟨_,rfl,rfl,⟨by dsimp only;omega,by dsimp only;omega⟩,⟨by dsimp only;omega,by dsimp only;omega⟩,⟨by dsimp only;omega,by dsimp only;omega⟩⟩
 ·rintro⟨q,i,j,k,sw⟩ ⟨rfl,g1,g2,g3⟩
  dsimp only at g1 g2 g3 hb hlen ⊢
  obtain⟨y,h1,e1,c1⟩:=Fj q hG i j k sw (by omega) (by omega) (by omega) (by omega) (by omega) (by omega)
  rw[h1,bs,e1]
  have hy:a≤y.1∧y.1<b:=by omega
  cases (y.2.2==0)
  ·cases (y.2.2==12)
   ·exact⟨_,rfl,rfl,hy⟩
   ·exact⟨_,rfl,rfl,hy⟩
  ·exact⟨_,rfl,rfl,hy⟩
end Go.Sx.Gs

namespace Go.Sx
theorem iand_small (y m:Int)(h0:0≤m)(h1:m<4294967296):0≤iand .u64 y m∧iand .u64 y m≤m:=by
 unfold iand
 have e:(BitVec.ofInt IntKind.u64.bits y&&&BitVec.ofInt IntKind.u64.bits m).toNat≤(BitVec.ofInt IntKind.u64.bits m).toNat:=by
  rw[BitVec.toNat_and];exact Nat.and_le_right
 have e2:(BitVec.ofInt IntKind.u64.bits m).toNat=m.toNat:=by
  rw[BitVec.toNat_ofInt]
  show (m%(2^64:Nat)).toNat=m.toNat
  congr 1
  omega
 rw[e2] at e
 generalize (BitVec.ofInt IntKind.u64.bits y&&&BitVec.ofInt IntKind.u64.bits m).toNat=t at e
 have:IntKind.u64.wrap (t:Int)=t:=by
  simp only[IntKind.wrap,IntKind.bits,IntKind.signed]
  simp
  omega
 rw[this]
 omega
theorem wu64 {x:Int}(h1:0≤x)(h2:x<18446744073709551616):IntKind.u64.wrap x=x:=by
 simp only[IntKind.wrap,IntKind.bits,IntKind.signed]
 simp
 omega
end Go.Sx

namespace Go.Sx.Gs
variable {α : Type} [Srtd α]
theorem Ej (l0:List α)(hG:Good l0)(a b:Int)(ha:0≤a)(hab:a<b)(hb:b≤l0.length)(hlen:l0.length≤1100000)
  (hpre:0<a→∀k,a≤k→k<b→at' l0 (a-1)≤at' l0 k):
  ∃y,DG.partialInsertionSort Srtd.cmp l0 a b=some y∧Rg a b l0 y.2∧(y.1=true→Srt y.2 a b):=by
 unfold DG.partialInsertionSort
 rw[w64 (show-9223372036854775808≤a+1 by omega) (by omega),w64 (show-9223372036854775808≤b-a by omega) (by omega)]
 refine AO (λs=>Rg a b l0 s.1∧a+1≤s.2.1∧s.2.1≤b∧Srt s.1 a s.2.1∧0≤s.2.2∧s.2.2≤5) (λs=>(5-s.2.2).toNat)
  (λr=>match r with| .inl l=>Rg a b l0 l| .inr y=>Rg a b l0 y.2∧(y.1=true→Srt y.2 a b)) ?_ ⟨Rg.refl _ _ _,by dsimp only;omega,by dsimp only;omega,λp q k1 k2 k3=>by dsimp only at k3;omega,by dsimp only;omega,by dsimp only;omega⟩ ?_
 ·rintro⟨l,i,j⟩ ⟨hR,g1,g2,g3,g4,g5⟩
  dsimp only at hR g1 g2 g3 g4 g5 ⊢
  have hll:=hR.len
  by_cases hj:j<5
  ·simp only[hj,decide_true,cT]
   refine AO (λi=>a+1≤i∧i≤b∧Srt l a i) (λi=>(b-i).toNat) (λi=>a+1≤i∧i≤b∧Srt l a i∧(i<b→at' l i<at' l (i-1))) ?_ ⟨g1,g2,g3⟩ ?_
   ·rintro i ⟨g1,g2,g3⟩
    by_cases hi:i<b
    ·have r1:idx l i=some (el l i):=Ba (by omega) (by omega)
     have r2:idx l (i-1)=some (el l (i-1)):=Ba (by omega) (by omega)
     have e1:IntKind.i64.wrap (i-1)=i-1:=w64 (by omega) (by omega)
     obtain⟨v,cv,hv⟩:=CG (hR.good hG) (i:=i) (j:=i-1) (by omega) (by omega) (by omega) (by omega)
     by_cases hlt:at' l i<at' l (i-1)
     ·exact⟨.inr i,by simp only[r1,r2,e1,hi,cv,hv,hlt,decide_true,Bool.not_true,cT,cF,bs],g1,g2,g3,λ_=>hlt⟩
     ·refine⟨.inl (i+1),?_,⟨by omega,by omega,λp q k1 k2 k3=> ?_⟩,by dsimp only;omega⟩
      ·simp only[r1,r2,e1,hi,cv,hv,hlt,decide_true,decide_false,Bool.not_false,cT,bs]
       rw[w64 (by omega) (by omega)]
      ·by_cases e:q=i
       ·subst e
        by_cases e2:p=q-1
        ·subst e2;omega
        ·have:=g3 p (q-1) k1 (by omega) (by omega);omega
       ·exact g3 p q k1 k2 (by omega)
    ·exact⟨.inr i,by simp only[hi,decide_false,cF,bs],g1,g2,g3,λh=>absurd h hi⟩
   ·rintro i ⟨g1,g2,g3,g6⟩
    by_cases he:i=b
    ·have:(i==b)=true:=by simp[he]
     simp only[this,cT]
     exact⟨_,rfl,hR,λ_=>by rw[←he];exact g3⟩
    ·have:(i==b)=false:=by simp[he]
     simp only[this,cF]
     by_cases h50:b-a<50
     ·simp only[h50,decide_true,cT]
      exact⟨_,rfl,hR,λh=>by cases h⟩
     ·simp only[h50,decide_false,cF]
      have hib:i<b:=by omega
      have hlt:=g6 hib
      have e1:IntKind.i64.wrap (i-1)=i-1:=w64 (by omega) (by omega)
      have r1:idx l i=some (el l i):=Ba (by omega) (by omega)
      have r2:idx l (i-1)=some (el l (i-1)):=Ba (by omega) (by omega)
      have r3:∀x,idx (l.set i.toNat x) (i-1)=some (el (l.set i.toNat x) (i-1)):=λx=>BJ (by omega) (by omega)
      simp only[e1,r1,r2,r3,bs]
      rw[show (l.set i.toNat (el l (i-1))).set (i-1).toNat (el l i)=sw l i (i-1) from rfl]
      have hR1:Rg a b l0 (sw l i (i-1)):=hR.trans (Rg.swap ha (by omega) (by omega) (by omega) (by omega) (by omega))
      have hS1:∀p q,a≤p→p<q→q≤i-1→q≠i-1→at' (sw l i (i-1)) p≤at' (sw l i (i-1)) q:=λp q k1 k2 k3 k4=>by
       rw[BA (by omega) (by omega) (by omega) (by omega) (by omega),BA (by omega) (by omega) (by omega) (by omega) (by omega)]
       rw[if_neg (by omega),if_neg (by omega),if_neg (by omega),if_neg (by omega)]
       exact g3 p q k1 k2 (by omega)
      generalize sw l i (i-1)=m at hR1 hS1 ⊢
      have hml:=hR1.len
      have hpre':∀m',Rg a b l0 m'→0<a→∀k,a≤k→k<b→at' m' (a-1)≤at' m' k:=λm' hr h0 k k1 k2=>by
       rw[hr.out (a-1) (by omega) (.inl (by omega))]
       exact hr.all (λx=>at' l0 (a-1)≤x) (hpre h0) k k1 k2
      rw[w64 (show-9223372036854775808≤i-a by omega) (by omega),w64 (show-9223372036854775808≤b-i by omega) (by omega),w64 (show-9223372036854775808≤i+1 by omega) (by omega),w64 (show-9223372036854775808≤j+1 by omega) (by omega)]
      refine B4 (λm=>Rg a b l0 m∧Srt m a i) ?_ ?_
      ·by_cases h2:2≤i-a
       ·simp only[h2,decide_true,cT]
        refine AO (λs=>Rg a b l0 s.1∧a≤s.2∧s.2≤i-1∧∀p q,a≤p→p<q→q≤i-1→q≠s.2→at' s.1 p≤at' s.1 q) (λs=>s.2.toNat) (λr=>Rg a b l0 r∧Srt r a i) ?_ ⟨hR1,by dsimp only;omega,Int.le_refl _,hS1⟩ (λr hr=>⟨r,rfl,hr⟩)
        rintro⟨m,j⟩ ⟨hR',q1,q2,hS'⟩
        dsimp only at hR' q1 q2 hS' ⊢
        have hml:=hR'.len
        by_cases hj1:1≤j
        ·have f1:idx m j=some (el m j):=Ba (by omega) (by omega)
         have f2:idx m (j-1)=some (el m (j-1)):=Ba (by omega) (by omega)
         have f3:∀x,idx (m.set j.toNat x) (j-1)=some (el (m.set j.toNat x) (j-1)):=λx=>BJ (by omega) (by omega)
         have e2:IntKind.i64.wrap (j-1)=j-1:=w64 (by omega) (by omega)
         obtain⟨v,cv,hv⟩:=CG (hR'.good hG) (i:=j) (j:=j-1) (by omega) (by omega) (by omega) (by omega)
         by_cases hlt:at' m j<at' m (j-1)
         ·have hja:a<j:=by
           rcases Int.lt_or_eq_of_le q1 with h|h
           ·exact h
           ·subst h
            have:=hpre' m hR' (by omega) a (Int.le_refl _) hab
            omega
          refine⟨.inl (sw m j (j-1),j-1),?_,⟨hR'.trans (Rg.swap ha (by omega) (by omega) (by omega) (by omega) (by omega)),by dsimp only;omega,by dsimp only;omega,?_⟩,by dsimp only;omega⟩
          ·simp only[hj1,decide_true,cT,e2,f1,f2,f3,cv,hv,hlt,Bool.not_true,cF,bs]
           rfl
          ·intro p q k1 k2 k3 k4
           dsimp only at k4 ⊢
           rw[BA (by omega) (by omega) (by omega) (by omega) (by omega),BA (by omega) (by omega) (by omega) (by omega) (by omega)]
           by_cases c1:q=j
           ·subst c1
            rw[if_neg (show¬q=q-1 by omega),if_pos rfl]
            by_cases c2:p=q-1
            ·rw[if_pos c2];omega
            ·rw[if_neg c2,if_neg (by omega)]
             exact hS' p (q-1) k1 (by omega) (by omega) (by omega)
           ·rw[if_neg (show¬q=j-1 by omega),if_neg c1]
            by_cases c2:p=j-1
            ·rw[if_pos c2]
             exact hS' j q (by omega) (by omega) k3 c1
            ·rw[if_neg c2]
             by_cases c3:p=j
             ·rw[if_pos c3]
              exact hS' (j-1) q (by omega) (by omega) k3 c1
             ·rw[if_neg c3]
              exact hS' p q k1 k2 k3 c1
         ·refine⟨.inr m,?_,hR',?_⟩
          ·simp only[hj1,decide_true,cT,e2,f1,f2,cv,hv,hlt,decide_false,Bool.not_false,bs]
          ·intro p q k1 k2 k3
           by_cases c1:q=j
           ·subst c1
            by_cases c2:p=q-1
            ·subst c2;omega
            ·have:=hS' p (q-1) k1 (by omega) (by omega) (by omega)
             omega
           ·exact hS' p q k1 k2 (by omega) c1
        ·refine⟨.inr m,?_,hR',?_⟩
         ·simp only[hj1,decide_false,cF]
         ·intro p q k1 k2 k3
          exact hS' p q k1 k2 (by omega) (by omega)
       ·simp only[h2,decide_false,cF]
        exact⟨_,rfl,hR1,λp q k1 k2 k3=>by omega⟩
      ·rintro m1 ⟨hR2,hS2⟩
       have hm1:=hR2.len
       by_cases h2:2≤b-i
       ·simp only[h2,decide_true,cT]
        refine AO (λs=>Rg a b l0 s.1∧Srt s.1 a i∧i+1≤s.2∧s.2≤b) (λs=>(b-s.2).toNat) (λr=>Rg a b l0 r∧Srt r a i) ?_ ⟨hR2,hS2,by dsimp only;omega,by dsimp only;omega⟩ ?_
        ·rintro⟨m,q⟩ ⟨hR',hS',q1,q2⟩
         dsimp only at hR' hS' q1 q2 ⊢
         have hml:=hR'.len
         by_cases hq:q<b
         ·have f1:idx m q=some (el m q):=Ba (by omega) (by omega)
          have f2:idx m (q-1)=some (el m (q-1)):=Ba (by omega) (by omega)
          have f3:∀x,idx (m.set q.toNat x) (q-1)=some (el (m.set q.toNat x) (q-1)):=λx=>BJ (by omega) (by omega)
          have e2:IntKind.i64.wrap (q-1)=q-1:=w64 (by omega) (by omega)
          have e3:IntKind.i64.wrap (q+1)=q+1:=w64 (by omega) (by omega)
          obtain⟨v,cv,hv⟩:=CG (hR'.good hG) (i:=q) (j:=q-1) (by omega) (by omega) (by omega) (by omega)
          by_cases hlt:at' m q<at' m (q-1)
          ·refine⟨.inl (sw m q (q-1),q+1),?_,⟨hR'.trans (Rg.swap ha (by omega) (by omega) (by omega) (by omega) (by omega)),λp r k1 k2 k3=> ?_,by dsimp only;omega,by dsimp only;omega⟩,by dsimp only;omega⟩
           ·simp only[hq,decide_true,cT,e2,e3,f1,f2,f3,cv,hv,hlt,Bool.not_true,cF,bs]
            rfl
           ·dsimp only
            rw[BA (by omega) (by omega) (by omega) (by omega) (by omega),BA (by omega) (by omega) (by omega) (by omega) (by omega)]
            rw[if_neg (by omega),if_neg (by omega),if_neg (by omega),if_neg (by omega)]
            exact hS' p r k1 k2 k3
          ·refine⟨.inr m,?_,hR',hS'⟩
           simp only[hq,decide_true,cT,e2,f1,f2,cv,hv,hlt,decide_false,Bool.not_false,bs]
         ·exact⟨.inr m,by simp only[hq,decide_false,cF],hR',hS'⟩
        ·rintro m2 ⟨hR3,hS3⟩
         exact⟨_,rfl,⟨hR3,g1,g2,hS3,by dsimp only;omega,by dsimp only;omega⟩,by dsimp only;omega⟩
       ·simp only[h2,decide_false,cF]
        exact⟨_,rfl,⟨hR2,g1,g2,hS2,by dsimp only;omega,by dsimp only;omega⟩,by dsimp only;omega⟩
  ·simp only[hj,decide_false,cF]
   exact⟨_,rfl,hR⟩
 ·rintro(l|y) h
  ·exact⟨_,rfl,h,λh=>by cases h⟩
  ·exact⟨_,rfl,h⟩
theorem Fg :∀x:Nat,1≤x→x<2^64→x<2^(Lib.bitLen x)∧2^(Lib.bitLen x)≤2*x:=by
 intro x
 induction x using Nat.strongRecOn with
 |ind x ih=>
  intro h1 h2
  rw[Lib.bitLen_half x (by omega) h2]
  by_cases h:x=1
  ·subst h;decide
  ·obtain⟨a,b⟩:=ih (x/2) (by omega) (by omega) (by omega)
   rw[Nat.add_comm,Nat.pow_succ]
   generalize 2^Lib.bitLen (x/2)=p at a b
   omega
theorem pow2_spec (n:Int)(h1:8≤n)(h2:n≤1100000):∃y,D.l0 n=some y∧n<y∧y≤2*n:=by
 obtain⟨m,rfl⟩:∃m:Nat,n=(m:Int):=⟨n.toNat,by omega⟩
 obtain⟨k1,k2⟩:=Fg m (by omega) (by omega)
 have hb:Lib.bitLen m<22:=by
  apply Classical.byContradiction
  intro hc
  have:2^22≤2^Lib.bitLen m:=Nat.pow_le_pow_right (by omega) (by omega)
  omega
 unfold D.l0
 rw[wu64 (by omega) (by omega)]
 unfold D.S
 rw[if_pos (by omega),bs]
 have:decide (((Lib.bitLen m:Nat):Int)<0)=false:=by simp
 rw[Int.toNat_natCast,this,cF]
 have e:ishl .u64 1 ((Lib.bitLen m:Nat):Int)=((2^Lib.bitLen m:Nat):Int):=by
  show IntKind.u64.wrap (1*2^(min (((Lib.bitLen m:Nat):Int)).toNat 64))=_
  rw[Int.toNat_natCast,show min (Lib.bitLen m) 64=Lib.bitLen m by omega,Int.one_mul]
  have e':((2^Lib.bitLen m:Nat):Int)=(2:Int)^Lib.bitLen m:=by simp
  rw[←e',wu64 (by omega) (by omega)]
 rw[e]
 exact⟨_,rfl,by omega,by omega⟩
theorem EU (l0:List α)(a b:Int)(ha:0≤a)(hb:b≤l0.length)(h8:8≤b-a)(hlen:l0.length≤1100000):
  ∃l',DG.breakPatterns Srtd.cmp l0 a b=some l'∧Rg a b l0 l':=by
 unfold DG.breakPatterns
 rw[w64 (show-9223372036854775808≤b-a by omega) (by omega)]
 have e4:(b-a).tdiv 4=(b-a)/4:=Int.tdiv_eq_ediv_of_nonneg (by omega)
 rw[e4,w64 (show-9223372036854775808≤(b-a)/4 by omega) (by omega)]
 rw[w64 (show-9223372036854775808≤(b-a)/4*2 by omega) (by omega)]
 rw[w64 (show-9223372036854775808≤a+(b-a)/4*2 by omega) (by omega)]
 rw[w64 (show-9223372036854775808≤a+(b-a)/4*2+1 by omega) (by omega),w64 (show-9223372036854775808≤a+(b-a)/4*2-1 by omega) (by omega)]
 simp only[h8,decide_true,cT]
 obtain⟨y,hy,g1,g2⟩:=pow2_spec (b-a) h8 (by omega)
 rw[hy,bs,wu64 (show 0≤y-1 by omega) (by omega)]
 refine AO (λs=>Rg a b l0 s.1∧a+(b-a)/4*2-1≤s.2.1∧s.2.1≤a+(b-a)/4*2+2) (λs=>(a+(b-a)/4*2+2-s.2.1).toNat) (λr=>Rg a b l0 r) ?_ ?_ ?_
 ·rintro⟨l,i,z⟩ ⟨hR,k1,k2⟩
  dsimp only at hR k1 k2 ⊢
  have hll:=hR.len
  by_cases hi:i≤a+(b-a)/4*2+1
  ·simp only[hi,decide_true,cT,D.O0,bs]
   obtain⟨t1,t2⟩:=iand_small (Bk .u64 (Bk .u64 (Bk .u64 z (ishl .u64 z 13)) (BI .u64 (Bk .u64 z (ishl .u64 z 13)) 7)) (ishl .u64 (Bk .u64 (Bk .u64 z (ishl .u64 z 13)) (BI .u64 (Bk .u64 z (ishl .u64 z 13)) 7)) 17)) (y-1) (by omega) (by omega)
   revert t1 t2
   generalize iand .u64 (Bk .u64 (Bk .u64 (Bk .u64 z (ishl .u64 z 13)) (BI .u64 (Bk .u64 z (ishl .u64 z 13)) 7)) (ishl .u64 (Bk .u64 (Bk .u64 z (ishl .u64 z 13)) (BI .u64 (Bk .u64 z (ishl .u64 z 13)) 7)) 17)) (y-1)=t
   generalize (Bk .u64 (Bk .u64 (Bk .u64 z (ishl .u64 z 13)) (BI .u64 (Bk .u64 z (ishl .u64 z 13)) 7)) (ishl .u64 (Bk .u64 (Bk .u64 z (ishl .u64 z 13)) (BI .u64 (Bk .u64 z (ishl .u64 z 13)) 7)) 17))=z'
   intro t1 t2
   rw[w64 (show-9223372036854775808≤t by omega) (by omega),w64 (show-9223372036854775808≤t-(b-a) by omega) (by omega)]
   have hc:∃o,(bif decide (b-a≤t) then some (t-(b-a)) else some t)=some o∧0≤o∧o<b-a:=by
    by_cases h:b-a≤t
    ·exact⟨t-(b-a),by simp[h],by omega,by omega⟩
    ·exact⟨t,by simp[h],by omega,by omega⟩
   obtain⟨o,ho,o1,o2⟩:=hc
   rw[ho,bs,w64 (show-9223372036854775808≤a+o by omega) (by omega),w64 (show-9223372036854775808≤i+1 by omega) (by omega)]
   have r1:idx l i=some (el l i):=Ba (by omega) (by omega)
   have r2:idx l (a+o)=some (el l (a+o)):=Ba (by omega) (by omega)
   have r3:∀x,idx (l.set i.toNat x) (a+o)=some (el (l.set i.toNat x) (a+o)):=λx=>BJ (by omega) (by omega)
   refine⟨.inl (sw l i (a+o),i+1,z'),?_,⟨hR.trans (Rg.swap ha (by omega) (by omega) (by omega) (by omega) (by omega)),by dsimp only;omega,by dsimp only;omega⟩,by dsimp only;omega⟩
   simp only[r1,r2,r3,bs]
   rfl
  ·exact⟨.inr l,by simp only[hi,decide_false,cF],hR⟩
 ·exact⟨Rg.refl _ _ _,by dsimp only;omega,by dsimp only;omega⟩
 ·rintro r hr
  exact⟨r,rfl,hr⟩
end Go.Sx.Gs

namespace Go.Sx.Gs
variable {α : Type} [Srtd α]
def kid (i c:Int):Prop:=c=2*i+1∨c=2*i+2
theorem EJ (l0:List α)(hG:Good l0)(lo hi f:Int)(h0:0≤lo)(hf:0≤f)(hlh:lo≤hi)(hb:f+hi≤l0.length)(hlen:l0.length≤1100000)
  (hH:∀i c,lo<i→kid i c→c<hi→at' l0 (f+c)≤at' l0 (f+i)):
  ∃l',DG.siftDown Srtd.cmp l0 lo hi f=some l'∧Rg (f+lo) (f+hi) l0 l'∧∀i c,lo≤i→kid i c→c<hi→at' l' (f+c)≤at' l' (f+i):=by
 unfold DG.siftDown
 refine AO (λs=>Rg (f+lo) (f+hi) l0 s.1∧lo≤s.2∧s.2≤hi∧(∀i c,lo≤i→i≠s.2→kid i c→c<hi→at' s.1 (f+c)≤at' s.1 (f+i))∧(∀p c,lo≤p→kid p s.2→kid s.2 c→c<hi→at' s.1 (f+c)≤at' s.1 (f+p)))
  (λs=>(hi-s.2).toNat)
  (λr=>match r with| .inl l'=>Rg (f+lo) (f+hi) l0 l'∧∀i c,lo≤i→kid i c→c<hi→at' l' (f+c)≤at' l' (f+i)| .inr l'=>Rg (f+lo) (f+hi) l0 l'∧∀i c,lo≤i→kid i c→c<hi→at' l' (f+c)≤at' l' (f+i)) ?_
  ⟨Rg.refl _ _ _,Int.le_refl _,hlh,λi c h1 h2 h3 h4=>hH i c (by dsimp only at h2;omega) h3 h4,λp c h1 h2 h3 h4=>by unfold kid at h2;dsimp only at h2;omega⟩ ?_
 ·rintro⟨l,r⟩ ⟨hR,g1,g2,g3,g4⟩
  dsimp only at hR g1 g2 g3 g4 ⊢
  have hll:=hR.len
  rw[w64 (show-9223372036854775808≤2*r by omega) (by omega),w64 (show-9223372036854775808≤2*r+1 by omega) (by omega)]
  rw[w64 (show-9223372036854775808≤2*r+1+1 by omega) (by omega),w64 (show-9223372036854775808≤f+(2*r+1) by omega) (by omega),w64 (show-9223372036854775808≤f+(2*r+1)+1 by omega) (by omega),w64 (show-9223372036854775808≤f+r by omega) (by omega)]
  by_cases hc:hi≤2*r+1
  ·simp only[hc,decide_true,cT]
   refine⟨_,rfl,hR,λi c h1 h2 h3=> ?_⟩
   by_cases e:i=r
   ·subst e;unfold kid at h2;omega
   ·exact g3 i c h1 e h2 h3
  ·simp only[hc,decide_false,cF]
   refine B4 (λb:Bool=>(b=true→2*r+2<hi∧at' l (f+(2*r+1))<at' l (f+(2*r+2)))∧(b=false→2*r+2<hi→at' l (f+(2*r+2))≤at' l (f+(2*r+1)))) ?_ ?_
   ·by_cases h2:2*r+1+1<hi
    ·have r1:idx l (f+(2*r+1))=some (el l (f+(2*r+1))):=Ba (by omega) (by omega)
     have r2:idx l (f+(2*r+1)+1)=some (el l (f+(2*r+1)+1)):=Ba (by omega) (by omega)
     obtain⟨v,cv,hv⟩:=CG (hR.good hG) (i:=f+(2*r+1)) (j:=f+(2*r+1)+1) (by omega) (by omega) (by omega) (by omega)
     simp only[h2,decide_true,cT,r1,r2,cv,hv,bs]
     rw[show f+(2*r+1)+1=f+(2*r+2) by omega]
     refine⟨_,rfl,λh=>⟨by omega,of_decide_eq_true h⟩,λh _=> ?_⟩
     have:=of_decide_eq_false h
     omega
    ·simp only[h2,decide_false,cF]
     exact⟨_,rfl,(λh=>by cases h),(λ_ h=>by omega)⟩
   ·rintro b ⟨hbb,hbf⟩
    have hch:∃c,(bif b then some (2*r+1+1) else some (2*r+1))=some c∧(b=true→c=2*r+2)∧(b=false→c=2*r+1):=by
     cases b
     ·exact⟨2*r+1,rfl,by simp,by simp⟩
     ·exact⟨2*r+2,by simp;omega,by simp,by simp⟩
    obtain⟨c,ec,c1,c2⟩:=hch
    have hkc:kid r c:=by unfold kid;cases b<;>simp at c1 c2<;>omega
    have hchi:c<hi:=by
     cases b
     ·have:=c2 rfl;omega
     ·have:=c1 rfl;have:=hbb rfl;omega
    rw[ec,bs,w64 (show-9223372036854775808≤f+c by unfold kid at hkc;omega) (by omega)]
    have hcr:r<c:=by unfold kid at hkc;omega
    have t1:idx l (f+r)=some (el l (f+r)):=Ba (by omega) (by omega)
    have t2:idx l (f+c)=some (el l (f+c)):=Ba (by omega) (by omega)
    have t3:∀x,idx (l.set (f+r).toNat x) (f+c)=some (el (l.set (f+r).toNat x) (f+c)):=λx=>BJ (by omega) (by omega)
    obtain⟨v,cv,hv⟩:=CG (hR.good hG) (i:=f+r) (j:=f+c) (by omega) (by omega) (by omega) (by omega)
    have hbest:∀d,kid r d→d<hi→at' l (f+d)≤at' l (f+c):=λd hd hdh=>by
     cases b
     ·have e:=c2 rfl
      subst e
      rcases hd with rfl|rfl
      ·exact Int.le_refl _
      ·exact hbf rfl hdh
     ·have e:=c1 rfl
      subst e
      rcases hd with rfl|rfl
      ·have:=(hbb rfl).2;omega
      ·exact Int.le_refl _
    by_cases hlt:at' l (f+r)<at' l (f+c)
    ·refine⟨.inl (sw l (f+r) (f+c),c),?_,⟨hR.trans (Rg.swap (by omega) (by omega) (by omega) (by omega) (by omega) (by omega)),by dsimp only;omega,by dsimp only;omega,λi d h1 h2 h3 h4=> ?_,λp d h1 h2 h3 h4=> ?_⟩,by dsimp only;omega⟩
     ·simp only[t1,t2,t3,cv,hv,hlt,decide_true,Bool.not_true,cF,bs]
      rfl
     ·dsimp only at h2 ⊢
      have hd0:i<d:=by unfold kid at h3;omega
      rw[BA (by omega) (by omega) (by omega) (by omega) (by omega),BA (by omega) (by omega) (by omega) (by omega) (by omega)]
      rw[if_neg (show¬f+i=f+c by omega)]
      by_cases e:i=r
      ·subst e
       rw[if_pos rfl]
       by_cases e2:d=c
       ·subst e2;rw[if_pos rfl];omega
       ·rw[if_neg (show¬f+d=f+c by omega),if_neg (show¬f+d=f+i by omega)]
        exact hbest d h3 h4
      ·rw[if_neg (show¬f+i=f+r by omega)]
       have e2:d≠c:=λe2=>by subst e2;unfold kid at h3 hkc;omega
       rw[if_neg (show¬f+d=f+c by omega)]
       by_cases e3:d=r
       ·subst e3
        rw[if_pos rfl]
        exact g4 i c h1 h3 hkc hchi
       ·rw[if_neg (show¬f+d=f+r by omega)]
        exact g3 i d h1 e h3 h4
     ·dsimp only at h2 h3 ⊢
      have e:p=r:=by unfold kid at h2 hkc;omega
      subst e
      have hd0:c<d:=by unfold kid at h3;omega
      rw[BA (by omega) (by omega) (by omega) (by omega) (by omega),BA (by omega) (by omega) (by omega) (by omega) (by omega)]
      rw[if_neg (show¬f+d=f+c by omega),if_neg (show¬f+d=f+p by omega),if_neg (show¬f+p=f+c by omega),if_pos rfl]
      exact g3 c d (by omega) (by omega) h3 h4
    ·refine⟨.inr (.inr l),?_,hR,λi d h1 h2 h3=> ?_⟩
     ·simp only[t1,t2,cv,hv,hlt,decide_false,Bool.not_false,cT,bs]
     ·by_cases e:i=r
      ·subst e
       have:=hbest d h2 h3
       omega
      ·exact g3 i d h1 e h2 h3
 ·rintro(l|l) h
  ·exact⟨_,rfl,h⟩
  ·exact⟨_,rfl,h⟩
theorem heap_root {l:List α}{f hi:Int}(hH:∀i c,0≤i→kid i c→c<hi→at' l (f+c)≤at' l (f+i)):∀(n:Nat) (k:Int),k.toNat≤n→0≤k→k<hi→at' l (f+k)≤at' l (f+0):=by
 intro n
 induction n with
 |zero=>intro k h1 h2 h3;rw[show k=0 by omega];exact Int.le_refl _
 |succ n ih=>
  intro k h1 h2 h3
  by_cases h:k=0
  ·subst h;exact Int.le_refl _
  ·have hk:kid ((k-1)/2) k:=by unfold kid;omega
   have a:=hH ((k-1)/2) k (by omega) hk h3
   have b:=ih ((k-1)/2) (by omega) (by omega) (by omega)
   omega
theorem heapSort_spec (l0:List α)(hG:Good l0)(a b:Int)(ha:0≤a)(hab:a≤b)(hb:b≤l0.length)(hlen:l0.length≤1100000):
  ∃l',DG.heapSort Srtd.cmp l0 a b=some l'∧Rg a b l0 l'∧Srt l' a b:=by
 unfold DG.heapSort
 rw[w64 (show-9223372036854775808≤b-a by omega) (by omega),w64 (show-9223372036854775808≤b-a-1 by omega) (by omega)]
 have e2: -1≤(b-a-1).tdiv 2∧(b-a-1).tdiv 2≤b-a∧b-a≤2*(b-a-1).tdiv 2+2:=by
  by_cases h:1≤b-a
  ·rw[Int.tdiv_eq_ediv_of_nonneg (by omega)];omega
  ·have:b-a-1= -1:=by omega
   have e:(-1:Int).tdiv 2=0:=by decide
   rw[this,e];omega
 rw[w64 (show-9223372036854775808≤(b-a-1).tdiv 2 by omega) (by omega)]
 generalize (b-a-1).tdiv 2=st at e2
 refine AO (λs=>Rg a b l0 s.1∧-1≤s.2∧s.2≤b-a∧∀i c,s.2<i→kid i c→c<b-a→at' s.1 (a+c)≤at' s.1 (a+i)) (λs=>(s.2+1).toNat)
  (λr=>Rg a b l0 r∧∀i c,0≤i→kid i c→c<b-a→at' r (a+c)≤at' r (a+i)) ?_ ⟨Rg.refl _ _ _,by dsimp only;omega,by dsimp only;omega,λi c h1 h2 h3=>by unfold kid at h2;dsimp only at h1;omega⟩ ?_
 ·rintro⟨l,i⟩ ⟨hR,g1,g2,g3⟩
  dsimp only at hR g1 g2 g3 ⊢
  have hll:=hR.len
  by_cases hi:0≤i
  ·simp only[hi,decide_true,cT]
   obtain⟨l',e,r1,r2⟩:=EJ l (hR.good hG) i (b-a) a hi ha (by omega) (by omega) (by omega) g3
   rw[e,bs,w64 (show-9223372036854775808≤i-1 by omega) (by omega)]
   exact⟨_,rfl,⟨hR.trans (r1.widen (by omega) (by omega) ha),by dsimp only;omega,by dsimp only;omega,λp c h1 h2 h3=>r2 p c (by dsimp only at h1;omega) h2 h3⟩,by dsimp only;omega⟩
  ·simp only[hi,decide_false,cF]
   exact⟨_,rfl,hR,λp c h1 h2 h3=>g3 p c (by omega) h2 h3⟩
 ·rintro l1 ⟨hR1,hH1⟩
  refine AO (λs=>Rg a b l0 s.1∧-1≤s.2∧s.2<b-a∧(∀i c,0≤i→kid i c→c≤s.2→at' s.1 (a+c)≤at' s.1 (a+i))∧(∀p q,s.2<p→p<q→q<b-a→at' s.1 (a+p)≤at' s.1 (a+q))∧(∀p q,0≤p→p≤s.2→s.2<q→q<b-a→at' s.1 (a+p)≤at' s.1 (a+q))) (λs=>(s.2+1).toNat)
   (λr=>Rg a b l0 r∧Srt r a b) ?_ ⟨hR1,by dsimp only;omega,by dsimp only;omega,λi c h1 h2 h3=>hH1 i c h1 h2 (by dsimp only at h3;omega),λp q h1 h2 h3=>by dsimp only at h1;omega,λp q h1 h2 h3 h4=>by dsimp only at h3;omega⟩ (λr hr=>⟨r,rfl,hr⟩)
  rintro⟨l,i⟩ ⟨hR,g1,g2,g3,g4,g5⟩
  dsimp only at hR g1 g2 g3 g4 g5 ⊢
  have hll:=hR.len
  by_cases hi:0≤i
  ·rw[w64 (show-9223372036854775808≤a+i by omega) (by omega)]
   have t1:idx l a=some (el l a):=Ba (by omega) (by omega)
   have t2:idx l (a+i)=some (el l (a+i)):=Ba (by omega) (by omega)
   have t3:∀x,idx (l.set a.toNat x) (a+i)=some (el (l.set a.toNat x) (a+i)):=λx=>BJ (by omega) (by omega)
   simp only[hi,decide_true,cT,t1,t2,t3,bs]
   rw[show (l.set a.toNat (el l (a+i))).set (a+i).toNat (el l a)=sw l a (a+i) from rfl]
   have hRs:Rg a (a+(i+1)) l (sw l a (a+i)):=Rg.swap ha (by omega) (by omega) (by omega) (by omega) (by omega)
   have sat:∀k,0≤k→at' (sw l a (a+i)) (a+k)=if k=i then at' l a else if k=0 then at' l (a+i) else at' l (a+k):=λk hk=>by
    rw[BA (by omega) (by omega) (by omega) (by omega) (by omega)]
    by_cases c1:k=i
    ·subst c1;simp
    ·rw[if_neg (show¬a+k=a+i by omega),if_neg c1]
     by_cases c2:k=0
     ·subst c2;simp
     ·rw[if_neg (show¬a+k=a by omega),if_neg c2]
   have hroot:∀k,0≤k→k≤i→at' l (a+k)≤at' l a:=λk k1 k2=>by
    have:=heap_root (hi:=i+1) (λp c h1 h2 h3=>g3 p c h1 h2 (by omega)) k.toNat k (Nat.le_refl _) k1 (by omega)
    rwa [Int.add_zero] at this
   have hsl:(sw l a (a+i)).length=l.length:=sw_len _ _ _
   obtain⟨l',e,r1,r2⟩:=EJ (sw l a (a+i)) (hRs.good (hR.good hG)) 0 i a (Int.le_refl _) ha hi (by omega) (by omega) (λp c h1 h2 h3=>by
    have hc:p<c:=by unfold kid at h2;omega
    rw[sat c (by omega),sat p (by omega),if_neg (by omega),if_neg (by omega),if_neg (by omega),if_neg (by omega)]
    exact g3 p c (by omega) h2 (by omega))
   rw[e,bs,w64 (show-9223372036854775808≤i-1 by omega) (by omega)]
   rw[Int.add_zero] at r1
   have same:∀k,i≤k→at' l' (a+k)=at' (sw l a (a+i)) (a+k):=λk hk=>r1.out (a+k) (by omega) (.inr (by omega))
   have big:∀k,i<k→k<b-a→at' l' (a+k)=at' l (a+k):=λk hk hk2=>by
    rw[same k (by omega),sat k (by omega),if_neg (by omega),if_neg (by omega)]
   have ati:at' l' (a+i)=at' l a:=by rw[same i (Int.le_refl _),sat i hi,if_pos rfl]
   have low:∀Q:Int→Prop,(∀k,0≤k→k≤i→Q (at' l (a+k)))→∀k,0≤k→k<i→Q (at' l' (a+k)):=λQ hQ k k1 k2=>
    r1.all Q (λm m1 m2=>by
     have h1:=sat (m-a) (by omega)
     rw[show a+(m-a)=m by omega] at h1
     rw[h1]
     split
     ·have:=hQ 0 (by omega) hi;rwa [Int.add_zero] at this
     ·split
      ·exact hQ i hi (Int.le_refl _)
      ·have:=hQ (m-a) (by omega) (by omega);rwa [show a+(m-a)=m by omega] at this) (a+k) (by omega) (by omega)
   refine⟨_,rfl,⟨hR.trans ((hRs.widen (Int.le_refl a) (by omega) ha).trans (r1.widen (Int.le_refl a) (by omega) ha)),by dsimp only;omega,by dsimp only;omega,λp c h1 h2 h3=> ?_,λp q h1 h2 h3=> ?_,λp q h1 h2 h3 h4=> ?_⟩,by dsimp only;omega⟩
   ·dsimp only at h3 ⊢;exact r2 p c h1 h2 (by omega)
   ·dsimp only at h1 ⊢
    by_cases c1:p=i
    ·subst c1
     rw[ati,big q h2 h3]
     have:=g5 0 q (Int.le_refl _) hi h2 h3
     rwa [Int.add_zero] at this
    ·rw[big p (by omega) (by omega),big q (by omega) h3]
     exact g4 p q (by omega) h2 h3
   ·dsimp only at h2 h3 ⊢
    by_cases c1:q=i
    ·subst c1
     rw[ati]
     exact low (λx=>x≤at' l a) hroot p h1 (by omega)
    ·rw[big q (by omega) h4]
     exact low (λx=>x≤at' l (a+q)) (λk k1 k2=>g5 k q k1 k2 (by omega) h4) p h1 (by omega)
  ·simp only[hi,decide_false,cF]
   refine⟨_,rfl,hR,λp q h1 h2 h3=> ?_⟩
   have:=g4 (p-a) (q-a) (by omega) (by omega) (by omega)
   rwa [show a+(p-a)=p by omega,show a+(q-a)=q by omega] at this
end Go.Sx.Gs

namespace Go.Sx.Gs
variable {α : Type} [Srtd α]
def Out (l:List α)(a0 b0 a b:Int):Prop:=∀i j,a0≤i→i<j→j<b0→¬(a≤i∧j<b)→at' l i≤at' l j
theorem Out.keep {a0 a b b0:Int}{l l':List α}(h:Rg a b l l')(h0:0≤a0)(ha:a0≤a)(hb:b≤b0)(c:Out l a0 b0 a b):Out l' a0 b0 a b:=by
 intro i j h1 h2 h3 h4
 by_cases hi:a≤i∧i<b
 ·rw[h.out j (by omega) (by omega)]
  exact h.all (λx=>x≤at' l j) (λk k1 k2=>c k j (by omega) (by omega) h3 (by omega)) i hi.1 hi.2
 ·rw[h.out i (by omega) (by omega)]
  by_cases hj:a≤j∧j<b
  ·exact h.all (λx=>at' l i≤x) (λk k1 k2=>c i k (by omega) (by omega) (by omega) (by omega)) j hj.1 hj.2
  ·rw[h.out j (by omega) (by omega)];exact c i j h1 h2 h3 h4
theorem pdqsort_spec :∀(n:Nat) (l0:List α) (a0 b0 lim:Int),0≤a0→a0≤b0→b0≤l0.length→l0.length≤1100000→Good l0→0≤lim→lim≤64→
  (0<a0→∀k,a0≤k→k<b0→at' l0 (a0-1)≤at' l0 k)→b0-a0<n→∃l',DG.pdqsortR Srtd.cmp n l0 a0 b0 lim=some l'∧Rg a0 b0 l0 l'∧Srt l' a0 b0:=by
 intro n
 induction n with
 |zero=>intro l0 a0 b0 lim h1 h2 h3 h4 hG h7 h8 h9 h10;omega
 |succ n ih=>
  intro l0 a0 b0 lim h1 h2 h3 h4 hG h7 h8 h9 h10
  unfold DG.pdqsortR
  refine AO (λs=>Rg a0 b0 l0 s.1∧Out s.1 a0 b0 s.2.1 s.2.2.1∧a0≤s.2.1∧s.2.1≤s.2.2.1∧s.2.2.1≤b0∧0≤s.2.2.2.1∧s.2.2.2.1≤64∧(0<s.2.1→∀k,s.2.1≤k→k<s.2.2.1→at' s.1 (s.2.1-1)≤at' s.1 k))
   (λs=>(s.2.2.1-s.2.1).toNat) (λr=>Rg a0 b0 l0 r∧Srt r a0 b0) ?_ ?_ ?_
  ·rintro⟨l,a,b,lm,bal,par⟩ ⟨hR,hO,g1,g2,g3,g5,g6,g7⟩
   dsimp only at hR hO g1 g2 g3 g5 g6 g7 ⊢
   have hll:=hR.len
   have fin:∀l',Rg a b l l'→Srt l' a b→Rg a0 b0 l0 l'∧Srt l' a0 b0:=λl' hr hs=>
    ⟨hR.trans (hr.widen g1 g3 h1),λi j k1 k2 k3=>by
     by_cases hc:a≤i∧j<b
     ·exact hs i j hc.1 k2 hc.2
     ·exact(hO.keep hr h1 g1 g3) i j k1 k2 k3 hc⟩
   rw[w64 (show-9223372036854775808≤b-a by omega) (by omega)]
   by_cases hs:b-a≤12
   ·obtain⟨l',e,r1,r2⟩:=ES l a b (by omega) g2 (by omega) (by omega) (hR.good hG)
    refine⟨.inr l',?_,fin l' r1 r2⟩
    simp only[hs,decide_true,cT,e,bs]
   ·simp only[hs,decide_false,cF]
    by_cases hlm:lm=0
    ·have hl0:(lm==0)=true:=by simp[hlm]
     obtain⟨l',e,r1,r2⟩:=heapSort_spec l (hR.good hG) a b (by omega) g2 (by omega) (by omega)
     refine⟨.inr l',?_,fin l' r1 r2⟩
     simp only[hl0,cT,e,bs]
    have hl0:(lm==0)=false:=by simp[hlm]
    simp only[hl0,cF]
    refine B4 (λq:List α×Int=>Rg a b l q.1∧0≤q.2∧q.2≤64) ?_ ?_
    ·cases bal
     ·obtain⟨l1,e,r1⟩:=EU l a b (by omega) (by omega) (by omega) (by omega)
      refine⟨(l1,lm-1),?_,r1,by dsimp only;omega,by dsimp only;omega⟩
      simp only[Bool.not_false,cT,e,bs]
      rw[w64 (by omega) (by omega)]
     ·exact⟨(l,lm),rfl,Rg.refl _ _ _,by dsimp only;omega,by dsimp only;omega⟩
    rintro⟨l1,lm1⟩ ⟨hr1,k2,k3⟩
    dsimp only at hr1 k2 k3 ⊢
    have hl1:=hr1.len
    obtain⟨y,ey,c1,c2,c3⟩:=Fz l1 ((hR.trans (hr1.widen g1 g3 h1)).good hG) a b (by omega) (by omega) (by omega) (by omega)
    rw[ey,bs]
    refine B4 (λq:List α×Int×Int=>Rg a b l q.1∧a≤q.2.1∧q.2.1<b) ?_ ?_
    ·cases (y.2.1==2)
     ·exact⟨_,rfl,by dsimp only;rw[c1];exact hr1,c2,c3⟩
     ·obtain⟨l2,e2,r2⟩:=Fe l1 a b (by omega) (by omega) (by omega) (by omega)
      rw[c1]
      simp only[cT,e2,bs]
      rw[w64 (show-9223372036854775808≤b-1 by omega) (by omega),w64 (show-9223372036854775808≤y.1-a by omega) (by omega),w64 (show-9223372036854775808≤b-1-(y.1-a) by omega) (by omega)]
      exact⟨_,rfl,hr1.trans r2,by dsimp only;omega,by dsimp only;omega⟩
    rintro⟨l2,p,hint⟩ ⟨hr2,p1,p2⟩
    dsimp only at hr2 p1 p2 ⊢
    have hl2:=hr2.len
    refine B4 (λq:List α ⊕ List α=>match q with| .inl q=>Rg a b l q| .inr q=>Rg a b l q∧Srt q a b) ?_ ?_
    ·cases ((bal&&par)&&(hint==1))
     ·exact⟨.inl l2,rfl,hr2⟩
     ·obtain⟨y2,e2,d1,d2⟩:=Ej l2 ((hR.trans (hr2.widen g1 g3 h1)).good hG) a b (by omega) (by omega) (by omega) (by omega) (λha k m1 m2=>by
       rw[hr2.out (a-1) (by omega) (.inl (by omega))]
       exact hr2.all (λx=>at' l (a-1)≤x) (g7 ha) k m1 m2)
      simp only[cT,e2,bs]
      cases hy:y2.1
      ·exact⟨.inl y2.2,rfl,hr2.trans d1⟩
      ·exact⟨.inr y2.2,rfl,hr2.trans d1,d2 hy⟩
    rintro(q|q) hq
    case inr=>
     exact⟨.inr q,rfl,fin q hq.1 hq.2⟩
    dsimp only at hq ⊢
    clear hr2 hl2
    have hr2:Rg a b l q:=hq
    have hl2:=hr2.len
    have hGq:Good q:=(hR.trans (hr2.widen g1 g3 h1)).good hG
    have hO2:=hO.keep hr2 h1 g1 g3
    have g7':0<a→∀k,a≤k→k<b→at' q (a-1)≤at' q k:=λha k m1 m2=>by
     rw[hr2.out (a-1) (by omega) (.inl (by omega))]
     exact hr2.all (λx=>at' l (a-1)≤x) (g7 ha) k m1 m2
    refine B4 (λc:Bool=>c=true→0<a∧at' q p≤at' q (a-1)) ?_ ?_
    ·by_cases ha:0<a
     ·have r1:idx q (a-1)=some (el q (a-1)):=Ba (by omega) (by omega)
      have r2:idx q p=some (el q p):=Ba (by omega) (by omega)
      rw[w64 (show-9223372036854775808≤a-1 by omega) (by omega)]
      obtain⟨v,cv,hv⟩:=CG hGq (i:=a-1) (j:=p) (by omega) (by omega) (by omega) (by omega)
      simp only[ha,decide_true,cT,r1,r2,cv,hv,bs]
      exact⟨_,rfl,λh=>⟨by trivial,by simpa using h⟩⟩
     ·simp only[ha,decide_false,cF]
      exact⟨_,rfl,λh=>by cases h⟩
    intro c hc
    cases c
    ·
     simp only[cF]
     obtain⟨⟨mid,par',l3⟩,e3,P⟩:=partition_spec q a b p (by omega) (by omega) (by omega) hGq p1 p2
     rw[e3,bs]
     obtain⟨hr3,m1,m2,m3,m4⟩:=P
     dsimp only at hr3 m1 m2 m3 m4 ⊢
     have hl3:=hr3.len
     have hO3:=hO2.keep hr3 h1 g1 g3
     have g7'':0<a→∀k,a≤k→k<b→at' l3 (a-1)≤at' l3 k:=λha k n1 n2=>by
      rw[hr3.out (a-1) (by omega) (.inl (by omega))]
      exact hr3.all (λx=>at' q (a-1)≤x) (g7' ha) k n1 n2
     have hR3:Rg a0 b0 l0 l3:=hR.trans ((hr2.trans hr3).widen g1 g3 h1)
     rw[w64 (show-9223372036854775808≤mid-a by omega) (by omega),w64 (show-9223372036854775808≤b-mid by omega) (by omega),w64 (show-9223372036854775808≤mid+1 by omega) (by omega)]
     by_cases hside:mid-a<b-mid
     ·simp only[hside,decide_true,cT]
      obtain⟨l4,e4,r4,s4⟩:=ih l3 a mid lm1 (by omega) m1 (by omega) (by omega) (hR3.good hG) k2 k3 (λha k n1 n2=>g7'' ha k n1 (by omega)) (by omega)
      rw[e4,bs]
      have hl4:=r4.len
      have em:∀k,mid≤k→at' l4 k=at' l3 k:=λk hk=>r4.out k (by omega) (.inr hk)
      have lf:∀k,a≤k→k<mid→at' l4 k≤at' l4 mid:=λk n1 n2=>by
       rw[em mid (Int.le_refl _)];exact r4.all (λx=>x≤at' l3 mid) m3 k n1 n2
      refine⟨.inl _,rfl,⟨hR3.trans (r4.widen g1 (by omega) h1),?_,by dsimp only;omega,by dsimp only;omega,g3,k2,k3,?_⟩,by dsimp only;omega⟩
      ·have hO4:=hO3.keep (r4.widen (Int.le_refl a) (by omega) (by omega)) h1 g1 g3
       intro i j n1 n2 n3 n4
       dsimp only at n4 ⊢
       by_cases hin:a≤i∧j<b
       ·by_cases hj:j<mid
        ·exact s4 i j hin.1 n2 hj
        ·have hi:i≤mid:=by omega
         have e1:at' l4 i≤at' l4 mid:=by
          by_cases e:i=mid
          ·rw[e];exact Int.le_refl _
          ·exact lf i hin.1 (by omega)
         have e2:at' l4 mid≤at' l4 j:=by
          by_cases e:j=mid
          ·rw[e];exact Int.le_refl _
          ·rw[em mid (Int.le_refl _),em j (by omega)];exact m4 j (by omega) hin.2
         omega
       ·exact hO4 i j n1 n2 n3 hin
      ·intro _ k n1 n2
       dsimp only at n1 n2 ⊢
       rw[show mid+1-1=mid by omega,em mid (Int.le_refl _),em k (by omega)]
       exact m4 k (by omega) n2
     ·simp only[hside,decide_false,cF]
      obtain⟨l4,e4,r4,s4⟩:=ih l3 (mid+1) b lm1 (by omega) (by omega) (by omega) (by omega) (hR3.good hG) k2 k3 (λ_ k n1 n2=>by rw[show mid+1-1=mid by omega];exact m4 k (by omega) n2) (by omega)
      rw[e4,bs]
      have hl4:=r4.len
      have em:∀k,0≤k→k≤mid→at' l4 k=at' l3 k:=λk h0 hk=>r4.out k h0 (.inl (by omega))
      have rt:∀k,mid<k→k<b→at' l4 mid≤at' l4 k:=λk n1 n2=>by
       rw[em mid (by omega) (Int.le_refl _)];exact r4.all (λx=>at' l3 mid≤x) (λk q1 q2=>m4 k (by omega) q2) k (by omega) n2
      refine⟨.inl _,rfl,⟨hR3.trans (r4.widen (by omega) g3 h1),?_,g1,m1,by dsimp only;omega,k2,k3,?_⟩,by dsimp only;omega⟩
      ·have hO4:=hO3.keep (r4.widen (by omega) (Int.le_refl b) (by omega)) h1 g1 g3
       intro i j n1 n2 n3 n4
       dsimp only at n4 ⊢
       by_cases hin:a≤i∧j<b
       ·by_cases hi:mid<i
        ·exact s4 i j (by omega) n2 hin.2
        ·have hj:mid≤j:=by omega
         have e1:at' l4 i≤at' l4 mid:=by
          by_cases e:i=mid
          ·rw[e];exact Int.le_refl _
          ·rw[em i (by omega) (by omega),em mid (by omega) (Int.le_refl _)];exact m3 i hin.1 (by omega)
         have e2:at' l4 mid≤at' l4 j:=by
          by_cases e:j=mid
          ·rw[e];exact Int.le_refl _
          ·exact rt j (by omega) hin.2
         omega
       ·exact hO4 i j n1 n2 n3 hin
      ·intro ha k n1 n2
       dsimp only at ha n1 n2 ⊢
       rw[em (a-1) (by omega) (by omega),em k (by omega) (by omega)]
       exact g7'' ha k n1 (by omega)
    ·
     simp only[cT]
     obtain⟨hc1,hc2⟩:=hc rfl
     obtain⟨⟨mid,l3⟩,e3,hr3,m1,m2,m3,m4⟩:=EO q a b p (by omega) (by omega) (by omega) hGq p1 p2
     rw[e3,bs]
     dsimp only at hr3 m1 m2 m3 m4 ⊢
     have hl3:=hr3.len
     have hO3:=hO2.keep hr3 h1 g1 g3
     have lw:∀k,a≤k→k<b→at' q p≤at' l3 k:=λk n1 n2=>
      hr3.all (λx=>at' q p≤x) (λk q1 q2=>Int.le_trans hc2 (g7' hc1 k q1 q2)) k n1 n2
     refine⟨.inl _,rfl,⟨hR.trans ((hr2.trans hr3).widen g1 g3 h1),?_,by dsimp only;omega,m2,g3,k2,k3,?_⟩,by dsimp only;omega⟩
     ·intro i j n1 n2 n3 n4
      dsimp only at n4 ⊢
      by_cases hin:a≤i∧j<b
      ·have:=m3 i hin.1 (by omega)
       have:=lw j (by omega) hin.2
       omega
      ·exact hO3 i j n1 n2 n3 hin
     ·intro _ k n1 n2
      dsimp only at n1 n2 ⊢
      have:=m3 (mid-1) (by omega) (by omega)
      have:=m4 k n1 n2
      omega
  ·exact⟨Rg.refl _ _ _,λi j n1 n2 n3 n4=>by dsimp only at n4;omega,Int.le_refl _,h2,Int.le_refl _,h7,h8,h9⟩
  ·rintro r hr
   exact⟨r,rfl,hr⟩
theorem sort_spec (l:List α)(hG:Good l)(hlen:l.length≤1100000):∃l',DG.Sort Srtd.cmp l=some l'∧List.Perm l' l∧Srt l' 0 l'.length:=by
 unfold DG.Sort
 rw[wu64 (by omega) (by omega)]
 unfold D.S
 rw[if_pos (by omega),bs]
 have hb:Lib.bitLen l.length≤64:=by
  by_cases h:1≤l.length
  ·obtain⟨_,k2⟩:=Fg l.length h (by omega)
   apply Classical.byContradiction
   intro hc
   have:2^22≤2^Lib.bitLen l.length:=Nat.pow_le_pow_right (by omega) (by omega)
   omega
  ·have:l.length=0:=by omega
   rw[this];decide
 have hf:=C5
 obtain⟨l',e,r,s⟩:=pdqsort_spec BP l 0 (l.length:Int) ((Lib.bitLen l.length:Nat):Int) (Int.le_refl _) (by omega) (Int.le_refl _) (by omega) hG (by omega) (by omega) (λh=>by omega) (by omega)
 unfold DG.pdqsort
 rw[Int.toNat_natCast,e]
 refine⟨l',rfl,r.perm,?_⟩
 rw[r.len];exact s
end Go.Sx.Gs

namespace Go.Sx
end Go.Sx

set_option maxRecDepth 100000
namespace Go.Proofs.YthdcaieaajekcaaGreatDoor
open Go Go.Sx
open Go.Proofs.Tryz Go.Proofs.YthdcaieaajekcaaGreatDoor.Tryz IntKind
variable {W w : World} {G : GH} {H : List Itm}
theorem AR :prog.follows .mixedOrders=true:=by kernel_rfl
theorem Pl2 :Cf prog 2:=isAgg2
theorem T39 :SlT prog 39 2 1 8 (iv 0):=⟨underlying39,Tryz.t2,by kernel_rfl,by kernel_rfl,by kernel_rfl,by kernel_rfl⟩
theorem Pl5 :Cf prog 5:=isAgg5
theorem Pl124 :Cf prog 124:=isAgg124
theorem Pl3 :Cf prog 3:=isAgg3
theorem T75 :SlT prog 75 3 1 8 (iv 0):=⟨underlying75,Tryz.t3,by kernel_rfl,by kernel_rfl,by kernel_rfl,by kernel_rfl⟩
theorem Wk.k1 {v0:Value}{x0:LI}{x1:Int}(m:Mem W G w (H))(h0:R1 G v0 x0){y:Int}(hd:D.k1 x0 x1=some y):
  Calls prog 89 #[v0,iv x1] w (Res W G H (λ_ Ho v=>Ho=[]∧v=(iv y))):=by
 refine Aw (args:=[v0,iv x1]) (N:=19) [.tmp 4] func89 Z Z (lb Z) Z λa f=> ?_
 unfold D.k1 at hd
 refine Af (Ac f Z λa f=>Aa (Ag (Af (Ab f Z λa f=>AS underlying39 f Z Z h0 λa f=>Ab f Z λa f=>Aa (Bd hd λaa ab hd=> ?_)))))
 refine AH (λa w=>∃q_19':Unit,aa= .inl q_19'∧∃(ac:GH),GLe G ac∧Fr a 19 []∧Mem W ac w (H)) ?_ ?_
 ·refine Al (AE (λad a w=>∃ae:Int,ae=ad∧∃(af:GH),GLe G af∧Fr a 19 [(0,v0),(1,iv x1),(7,(iv (x0.length:Int))),(8,iv ae)]∧Mem W af w (H)) ab ⟨_,Z,_,gr,f.k Z,m⟩ ?_)
  clear ab f m
  rintro ad ag ah ai a w ⟨ae,rfl,af,aj,f,m⟩
  refine have h0:=rd1 aj h0;Af (Ah f Z Z AJ λa f=>Aa (Ag ?_))
  rcases Ae ah with⟨ak,ah⟩|⟨ak,ah⟩
  ·refine An f Z ak (Ao (Ag (Al (Af (Ab f Z λa f=>Ac f Z λa f=>Az (Ab f Z λa f=>Ab f Z λa f=>Ab f Z λa f=>Bd ah λal am ah=>Bt T39 f Z Z Z h0 am λan ao a ap aq f=> ?_))))))
   subst aq
   refine AL m Pl2 f Z Z ap λa f=>Ah f Z Z Bf λa f=>Aa ?_
   rcases Ae ah with⟨ar,ah⟩|⟨ar,ah⟩
   ·refine An f Z ar (Af (Ab f Z λa f=>Ac f Z λa f=>Aa (Aq ?_)))
    obtain rfl:=sj ah
    obtain rfl:=ai _ rfl
    obtain rfl:=sj hd
    exact⟨[iv ae],f.g Z,f.d,_,[],aj,m,Z,Z⟩
   ·refine Ai f Z ar (Ao (Ak (Ah f Z Z Ax λa f=>Ab f Z λa f=>Aa ?_)))
    obtain rfl:=sj ah
    exact⟨_,Z,_,Z,_,aj,f.k Z,m⟩
  ·refine Ai f Z ak (AB Z ?_)
   obtain rfl:=sj ah
   obtain rfl:=ai _ rfl
   exact⟨_,Z,_,aj,f.weak trivial,m⟩
 ·rintro a w ⟨_,rfl,ac,au,f,m⟩
  refine Af (Ac f Z λa f=>Aa (Aq ?_))
  obtain rfl:=sj hd
  exact⟨[(iv (-1))],f.g Z,f.d,_,[],au,m,Z,Z⟩
theorem Wk.c0 {v0:Value}{x0:LI}{x1:Int}(m:Mem W G w (H))(h0:R1 G v0 x0){y:Bool}(hd:D.c0 x0 x1=some y):
  Calls prog 62 #[v0,iv x1] w (Res W G H (λ_ Ho v=>Ho=[]∧v=(.bool y))):=by
 refine Aw (args:=[v0,iv x1]) (N:=9) [.tmp 4] func62 Z Z (lb Z) Z λa f=> ?_
 unfold D.c0 at hd
 refine Af (Ac f Z λa f=>Az (Ab f Z λa f=>Ab f Z λa f=>Bd hd λaa ab hd=>A1 f Z call89 (Wk.k1 m h0 ab) λac w ad m a f=>Ah f Z Z Ck λa f=>Ac f Z λa f=>Aa (Aq ?_)))
 obtain rfl:=sj hd
 exact⟨[(.bool (decide ((0:Int)≤aa)))],f.g Z,f.d,_,[],ad,m,Z,Z⟩
theorem Wk.a1 {x0:Int}(m:Mem W G w (H)){y:Int}(hd:D.a1 x0=some y):
  Calls prog 84 #[(.int .u32 x0)] w (Res W G H (λ_ Ho v=>Ho=[]∧v=(iv y))):=by
 refine Aw (args:=[(.int .u32 x0)]) (N:=21) [.tmp 2] func84 Z Z (lb Z) Z λa f=> ?_
 unfold D.a1 at hd
 refine Af (Ac f Z λa f=>Aa (Ag (A8 19 AR (by kernel_rfl) m (Am 0 19 Z f Z λa f=>q_p 1 19 Z f (λ_=>r_shr (f.e Z) (f.e Z) (by decide)) λa f=>Bd hd λaa ab hd=>q_p 2 19 Z f (λ_=>E2 (f.e Z) (f.e Z) underlying9 ab) λa f=>Am 3 19 Z f Z λa f=>q_p 4 19 Z f (λ_=>r_shr (f.e Z) (f.e Z) (by decide)) λa f=>q_p 5 19 Z f (λ_=>AP (f.e Z) (f.e Z) CY) λa f=>Bd hd λac ad hd=>q_p 6 19 Z f (λ_=>E2 (f.e Z) (f.e Z) underlying9 ad) λa f=>q_p 7 19 Z f (λ_=>AP (f.e Z) (f.e Z) Ax) λa f=>Am 8 19 Z f Z λa f=>q_p 9 19 Z f (λ_=>r_shr (f.e Z) (f.e Z) (by decide)) λa f=>q_p 10 19 Z f (λ_=>AP (f.e Z) (f.e Z) CY) λa f=>Bd hd λae af hd=>q_p 11 19 Z f (λ_=>E2 (f.e Z) (f.e Z) underlying9 af) λa f=>q_p 12 19 Z f (λ_=>AP (f.e Z) (f.e Z) Ax) λa f=>Am 13 19 Z f Z λa f=> ?_))))
 refine q_p 14 19 Z f (λ_=>AP (f.e Z) (f.e Z) CY) λa f=>Bd hd λag ah hd=>q_p 15 19 Z f (λ_=>E2 (f.e Z) (f.e Z) underlying9 ah) λa f=>q_p 16 19 Z f (λ_=>AP (f.e Z) (f.e Z) Ax) λa f=>q_p 17 19 Z f (λ_=>CU (f.e Z) ⟨_,underlying5⟩ underlying3) λa f=>q_p 18 19 Z f (λ_=>Cy (f.e Z)) λa f=>A4 λai w aj m=>Aa (Aq ?_)
 obtain rfl:=sj hd
 exact⟨[(iv (i64.wrap (IntKind.u8.wrap ((IntKind.u8.wrap ((IntKind.u8.wrap (aa+ac))+ae))+ag))))],f.g Z,f.d,_,[],aj,m,Z,Z⟩
theorem Wk.o1 {x0:Int}(hW:BD W)(m:Mem W G w (H)){y:Int}(hd:D.o1 x0=some y):
  Calls prog 85 #[(.int .u32 x0)] w (Res W G H (λ_ Ho v=>Ho=[]∧v=(iv y))):=by
 refine Aw (args:=[(.int .u32 x0)]) (N:=14) [.tmp 2] func85 Z Z (lb Z) Z λa f=> ?_
 unfold D.o1 at hd
 refine Af (Ac f Z λa f=>Aa (Ag (Af (Ab f Z λa f=>Ah f Z Z Bf λa f=>Aa ?_))))
 rcases Ae hd with⟨aa,hd⟩|⟨aa,hd⟩
 ·refine An f Z aa (Af (Ac f Z λa f=>Aa (Aq ?_)))
  obtain rfl:=sj hd
  exact⟨[iv 32],f.g Z,f.d,_,[],gr,m,Z,Z⟩
 ·refine Ai f Z aa (Ao (Af (Ab f Z λa f=>Ab f Z λa f=>l_o f (r_neg (f.e Z)) λa f=>Ah f Z Z CY λa f=>Ah f Z Z Dw λa f=>l_o f (r_shr (f.e Z) (f.e Z) (by decide)) λa f=>Bd hd λab ac hd=>l_tab hW m underlying109 sizeOf5 f Z Z ac λad a ae f=>AL m Pl5 f Z Z ae λa f=>l_o f (CU (f.e Z) ⟨_,underlying5⟩ underlying3) λa f=>Ac f Z λa f=>Aa (Aq ?_))))
  obtain rfl:=sj hd
  exact⟨[(iv (i64.wrap ab))],f.g Z,f.d,_,[],gr,m,Z,Z⟩
theorem Wk.U0 {v0 v1:Value}{x0 x1:LI}(m:Mem W G w (H))(h0:R1 G v0 x0)(h1:R1 G v1 x1){y:Bool}(hd:D.U0 x0 x1=some y):
  Calls prog 73 #[v0,v1] w (Res W G H (λ_ Ho v=>Ho=[]∧v=(.bool y))):=by
 refine Aw (args:=[v0,v1]) (N:=26) [.tmp 4] func73 Z Z (lb Z) Z λa f=> ?_
 unfold D.U0 at hd
 refine Af (Ac f Z λa f=>Aa (Ag (Af (Ab f Z λa f=>AS underlying39 f Z Z h0 λa f=>Ab f Z λa f=>AS underlying39 f Z Z h1 λa f=>Ah f Z Z BN λa f=>Aa ?_))))
 rcases Ae hd with⟨aa,hd⟩|⟨aa,hd⟩
 ·refine An f Z aa (Af (Ac f Z λa f=>Aa (Aq ?_)))
  obtain rfl:=sj hd
  exact⟨[(.bool false)],f.g Z,f.d,_,[],gr,m,Z,Z⟩
 ·refine Ai f Z aa (Ao (Ag (Af (Ab f Z λa f=>AS underlying39 f Z Z h0 λa f=>Ab f Z λa f=>Aa (Bd hd λab ac hd=> ?_)))))
  refine AH (λa w=>∃q_36':Unit,ab= .inl q_36'∧∃(ad:GH),GLe G ad∧Fr a 26 []∧Mem W ad w (H)) ?_ ?_
  ·refine Al (AE (λae a w=>∃af:Int,af=ae∧∃(ag:GH),GLe G ag∧Fr a 26 [(0,v0),(1,v1),(12,(iv (x0.length:Int))),(13,iv af)]∧Mem W ag w (H)) ac ⟨_,Z,_,gr,f.k Z,m⟩ ?_)
   clear ac f m
   rintro ae ah ai aj a w ⟨af,rfl,ag,ak,f,m⟩
   refine have h0:=rd1 ak h0;have h1:=rd1 ak h1;Af (Ah f Z Z AJ λa f=>Aa (Ag ?_))
   rcases Ae ai with⟨al,ai⟩|⟨al,ai⟩
   ·refine An f Z al (Ao (Ag (Al (Af (Ab f Z λa f=>Ac f Z λa f=>Aa (Ag (A8 9 AR (by kernel_rfl) m (Am 0 9 Z f Z λa f=>Am 1 9 Z f Z λa f=>Bd ai λam an ai=>B1 2 9 T39 h0 an Z f Z Z λao ap a aq ar f=> ?_))))))))
    subst ar
    refine BR 3 9 Pl2 aq Z f Z λa f=>Am 4 9 Z f Z λa f=>Am 5 9 Z f Z λa f=>Bd ai λau av ai=>B1 6 9 T39 h1 av Z f Z Z λaw ax a ay az f=> ?_
    subst az
    refine BR 7 9 Pl2 ay Z f Z λa f=>q_p 8 9 Z f (λ_=>AP (f.e Z) (f.e Z) BN) λa f=>A4 λaA w aB m=>Aa ?_
    rcases Ae ai with⟨aC,ai⟩|⟨aC,ai⟩
    ·refine An f Z aC (Af (Ac f Z λa f=>Aa (Aq ?_)))
     obtain rfl:=sj ai
     obtain rfl:=aj _ rfl
     obtain rfl:=sj hd
     exact⟨[(.bool false)],f.g Z,f.d,_,[],(gt ak aB),m,Z,Z⟩
    ·refine Ai f Z aC (Ao (Ak (Ah f Z Z Ax λa f=>Ab f Z λa f=>Aa ?_)))
     obtain rfl:=sj ai
     exact⟨_,Z,_,Z,_,(gt ak aB),f.k Z,m⟩
   ·refine Ai f Z al (AB Z ?_)
    obtain rfl:=sj ai
    obtain rfl:=aj _ rfl
    exact⟨_,Z,_,ak,f.weak trivial,m⟩
  ·rintro a w ⟨_,rfl,ad,aD,f,m⟩
   refine Af (Ac f Z λa f=>Aa (Aq ?_))
   obtain rfl:=sj hd
   exact⟨[(.bool true)],f.g Z,f.d,_,[],aD,m,Z,Z⟩
theorem Wk.l0 {x0:Int}(m:Mem W G w (H)){y:Int}(hd:D.l0 x0=some y):
  Calls prog 113 #[iv x0] w (Res W G H (λ_ Ho v=>Ho=[]∧v=(.int .u64 y))):=by
 refine Aw (args:=[iv x0]) (N:=7) [.tmp 2] func113 Z Z (lb Z) Z λa f=> ?_
 unfold D.l0 at hd
 refine Af (Ac f Z λa f=>Az (Ab f Z λa f=>l_o f (CU (f.e Z) ⟨_,underlying3⟩ underlying49) λa f=>Bd hd λaa ab hd=>AZ f Z call95 (Wk.S m ab) λac ad ae w af m ag a f=> ?_))
 obtain⟨rfl,rfl⟩:=ag
 obtain⟨ah,hd⟩:=CR hd
 refine l_o f (r_shl (f.e Z) (f.e Z) ah) λa f=>Ac f Z λa f=>Aa (Aq ?_)
 obtain rfl:=sj hd
 exact⟨[(.int .u64 (ishl .u64 1 aa))],f.g Z,f.d,_,[],af,m,Z,Z⟩
theorem Wk.O0 {b0:Nat}{aa:Int}(m:Mem W G w (ib b0 124 [(.int .u64 aa)]::H)){y:Int×Int}(hd:D.O0 aa=some y):
  Calls prog 114 #[pb b0] w (Res W G H (λ_ Ho v=>Ho=[ib b0 124 [(.int .u64 y.2)]]∧v=(.int .u64 y.1))):=by
 refine Aw (args:=[pb b0]) (N:=33) [.tmp 2] func114 Z Z (lb Z) Z λa f=> ?_
 unfold D.O0 at hd
 refine Af (Ac f Z λa f=>Aa (Ag (A8 9 AR (by kernel_rfl) m (Am 0 9 Z f Z λa f=>q_p 1 9 Z f (λ_=>Bm (f.e Z)) λa f=>B3 2 9 0 Pl124 Z Z Z f Z λa f=>Am 3 9 Z f Z λa f=>q_p 4 9 Z f (λ_=>Bm (f.e Z)) λa f=>B3 5 9 0 Pl124 Z Z Z f Z λa f=>q_p 6 9 Z f (λ_=>r_shl (f.e Z) (f.e Z) (by decide)) λa f=>q_p 7 9 Z f (λ_=>AP (f.e Z) (f.e Z) b_xor) λa f=>q_p 8 9 Z f (λ_=>Bm (f.e Z)) λa f=>A4 λab w ac m=>AA 0 0 (ds:=[(.int .u64 (Bk .u64 aa (ishl .u64 aa 13)))]) m sizeOf124 f Z Z Z (Ay Z AQ) Z (lb Z) Z λw m=>Aa (Ag (A8 9 AR (by kernel_rfl) m (Am 0 9 Z f Z λa f=>q_p 1 9 Z f (λ_=>Bm (f.e Z)) λa f=>B3 2 9 0 Pl124 Z Z Z f Z λa f=>Am 3 9 Z f Z λa f=>q_p 4 9 Z f (λ_=>Bm (f.e Z)) λa f=>B3 5 9 0 Pl124 Z Z Z f Z λa f=> ?_)))))))
 refine q_p 6 9 Z f (λ_=>r_shr (f.e Z) (f.e Z) (by decide)) λa f=>q_p 7 9 Z f (λ_=>AP (f.e Z) (f.e Z) b_xor) λa f=>q_p 8 9 Z f (λ_=>Bm (f.e Z)) λa f=>A4 λad w ae m=>AA 0 0 (ds:=[(.int .u64 (Bk .u64 (Bk .u64 aa (ishl .u64 aa 13)) (BI .u64 (Bk .u64 aa (ishl .u64 aa 13)) 7)))]) m sizeOf124 f Z Z Z (Ay Z AQ) Z (lb Z) Z λw m=>Aa (Ag (A8 9 AR (by kernel_rfl) m (Am 0 9 Z f Z λa f=>q_p 1 9 Z f (λ_=>Bm (f.e Z)) λa f=>B3 2 9 0 Pl124 Z Z Z f Z λa f=>Am 3 9 Z f Z λa f=>q_p 4 9 Z f (λ_=>Bm (f.e Z)) λa f=>B3 5 9 0 Pl124 Z Z Z f Z λa f=>q_p 6 9 Z f (λ_=>r_shl (f.e Z) (f.e Z) (by decide)) λa f=>q_p 7 9 Z f (λ_=>AP (f.e Z) (f.e Z) b_xor) λa f=>q_p 8 9 Z f (λ_=>Bm (f.e Z)) λa f=>A4 λaf w ag m=> ?_)))
 refine AA 0 0 (ds:=[(.int .u64 (Bk .u64 (Bk .u64 (Bk .u64 aa (ishl .u64 aa 13)) (BI .u64 (Bk .u64 aa (ishl .u64 aa 13)) 7)) (ishl .u64 (Bk .u64 (Bk .u64 aa (ishl .u64 aa 13)) (BI .u64 (Bk .u64 aa (ishl .u64 aa 13)) 7)) 17)))]) m sizeOf124 f Z Z Z (Ay Z AQ) Z (lb Z) Z λw m=>Az (Ab f Z λa f=>l_o f (Bm (f.e Z)) λa f=>AI 0 0 m Pl124 f Z Z Z Z λa f=>Ac f Z λa f=>Aa (Aq ?_))
 obtain rfl:=sj hd
 exact⟨[(.int .u64 (Bk .u64 (Bk .u64 (Bk .u64 aa (ishl .u64 aa 13)) (BI .u64 (Bk .u64 aa (ishl .u64 aa 13)) 7)) (ishl .u64 (Bk .u64 (Bk .u64 aa (ishl .u64 aa 13)) (BI .u64 (Bk .u64 aa (ishl .u64 aa 13)) 7)) 17)))],f.g Z,f.d,_,[ib b0 124 [(.int .u64 (Bk .u64 (Bk .u64 (Bk .u64 aa (ishl .u64 aa 13)) (BI .u64 (Bk .u64 aa (ishl .u64 aa 13)) 7)) (ishl .u64 (Bk .u64 (Bk .u64 aa (ishl .u64 aa 13)) (BI .u64 (Bk .u64 aa (ishl .u64 aa 13)) 7)) 17)))]],(gt ac (gt ae ag)),m,Z,Z⟩
theorem Wk.q0 {x0:Int}(m:Mem W G w (H)){y:Bool}(hd:D.q0 x0=some y):
  Calls prog 119 #[iv x0] w (Res W G H (λ_ Ho v=>Ho=[]∧v=(.bool y))):=by
 refine Aw (args:=[iv x0]) (N:=6) [.tmp 2] func119 Z Z (lb Z) Z λa f=> ?_
 unfold D.q0 at hd
 refine Af (Ac f Z λa f=>Az (Ab f Z λa f=>Ab f Z λa f=>Ah f Z Z BN λa f=>Ac f Z λa f=>Aa (Aq ?_)))
 obtain rfl:=sj hd
 exact⟨[(.bool (x0 !=x0))],f.g Z,f.d,_,[],gr,m,Z,Z⟩
theorem Wk.m0 {x0 x1:Int}(m:Mem W G w (H)){y:Int}(hd:D.m0 x0 x1=some y):
  Calls prog 117 #[iv x0,iv x1] w (Res W G H (λ_ Ho v=>Ho=[]∧v=(iv y))):=by
 refine Aw (args:=[iv x0,iv x1]) (N:=20) [.tmp 4] func117 Z Z (lb Z) Z λa f=> ?_
 unfold D.m0 at hd
 refine Af (Ac f Z λa f=>Az (Ab f Z λa f=>Bd hd λaa ab hd=>A1 f Z call119 (Wk.q0 m ab) λac w ad m a f=>Ac f Z λa f=>Az (Ab f Z λa f=>Bd hd λae af hd=>A1 f Z call119 (Wk.q0 m af) λag w ah m a f=>Ac f Z λa f=>Aa (Ag (Af (Ab f Z λa f=>Aa ?_))))))
 rcases Ae hd with⟨ai,hd⟩|⟨ai,hd⟩
 ·refine An f Z ai (Ag (Af (Ab f Z λa f=>Aa ?_)))
  rcases Ae hd with⟨aj,hd⟩|⟨aj,hd⟩
  ·refine An f Z aj (Af (Ac f Z λa f=>Aa (Aq ?_)))
   obtain rfl:=sj hd
   exact⟨[iv 0],f.g Z,f.d,_,[],(gt ad ah),m,Z,Z⟩
  ·refine Ai f Z aj (Ao (Af (Ac f Z λa f=>Aa (Aq ?_))))
   obtain rfl:=sj hd
   exact⟨[(iv (-1))],f.g Z,f.d,_,[],(gt ad ah),m,Z,Z⟩
 ·refine Ai f Z ai (Ao (Ag (Af (Ab f Z λa f=>Aa ?_))))
  rcases Ae hd with⟨ak,hd⟩|⟨ak,hd⟩
  ·refine An f Z ak (Af (Ac f Z λa f=>Aa (Aq ?_)))
   obtain rfl:=sj hd
   exact⟨[iv 1],f.g Z,f.d,_,[],(gt ad ah),m,Z,Z⟩
  ·refine Ai f Z ak (Ao (Ag (Af (Ab f Z λa f=>Ab f Z λa f=>Ah f Z Z AJ λa f=>Aa ?_))))
   rcases Ae hd with⟨al,hd⟩|⟨al,hd⟩
   ·refine An f Z al (Af (Ac f Z λa f=>Aa (Aq ?_)))
    obtain rfl:=sj hd
    exact⟨[(iv (-1))],f.g Z,f.d,_,[],(gt ad ah),m,Z,Z⟩
   ·refine Ai f Z al (Ao (Ag (Af (Ab f Z λa f=>Ab f Z λa f=>Ah f Z Z BX λa f=>Aa ?_))))
    rcases Ae hd with⟨am,hd⟩|⟨am,hd⟩
    ·refine An f Z am (Af (Ac f Z λa f=>Aa (Aq ?_)))
     obtain rfl:=sj hd
     exact⟨[iv 1],f.g Z,f.d,_,[],(gt ad ah),m,Z,Z⟩
    ·refine Ai f Z am (Ao (Af (Ac f Z λa f=>Aa (Aq ?_))))
     obtain rfl:=sj hd
     exact⟨[iv 0],f.g Z,f.d,_,[],(gt ad ah),m,Z,Z⟩
theorem Wk.A0 {v0 v1:Value}{x0 x1:LI}(m:Mem W G w (H))(h0:R1 G v0 x0)(h1:R1 G v1 x1){y:Int}(hd:D.A0 x0 x1=some y):
  Calls prog 109 #[v0,v1] w (Res W G H (λ_ Ho v=>Ho=[]∧v=(iv y))):=by
 refine Aw (args:=[v0,v1]) (N:=36) [.tmp 4] func109 Z Z (lb Z) Z λa f=> ?_
 unfold D.A0 at hd
 refine Af (Ac f Z λa f=>Aa (Ag (Af (Ab f Z λa f=>AS underlying75 f Z Z h0 λa f=>Ab f Z λa f=>Aa (Bd hd λaa ab hd=> ?_)))))
 refine AH (λa w=>∃q_47':Unit,aa= .inl q_47'∧∃(ac:GH),GLe G ac∧Fr a 36 [(0,v0),(1,v1)]∧Mem W ac w (H)) ?_ ?_
 ·refine Al (AE (λad a w=>∃ae:Int,ae=ad∧∃(af:GH),GLe G af∧Fr a 36 [(0,v0),(1,v1),(9,v0),(10,(iv (x0.length:Int))),(11,iv ae)]∧Mem W af w (H)) ab ⟨_,Z,_,gr,f.k Z,m⟩ ?_)
  clear ab f m
  rintro ad ag ah ai a w ⟨ae,rfl,af,aj,f,m⟩
  refine have h0:=rd1 aj h0;have h1:=rd1 aj h1;Af (Ah f Z Z AJ λa f=>Aa (Ag ?_))
  rcases Ae ah with⟨ak,ah⟩|⟨ak,ah⟩
  ·refine An f Z ak (Ao (Ag (Al (Af (Ab f Z λa f=>Bd ah λal am ah=>Bt T75 f Z Z Z h0 am λan ao a ap aq f=> ?_)))))
   subst aq
   refine AL m Pl3 f Z Z ap λa f=>Ac f Z λa f=>Ac f Z λa f=>Aa (Ag (Af (Ab f Z λa f=>Ab f Z λa f=>AS underlying75 f Z Z h1 λa f=>Ah f Z Z Ck λa f=>Aa ?_)))
   rcases Ae ah with⟨ar,ah⟩|⟨ar,ah⟩
   ·refine An f Z ar (Af (Ac f Z λa f=>Aa (Aq ?_)))
    obtain rfl:=sj ah
    obtain rfl:=ai _ rfl
    obtain rfl:=sj hd
    exact⟨[iv 1],f.g Z,f.d,_,[],aj,m,Z,Z⟩
   ·refine Ai f Z ar (Ao (Af (Ab f Z λa f=>Ab f Z λa f=>Bd ah λau av ah=>Bt T75 f Z Z Z h1 av λaw ax a ay az f=> ?_)))
    subst az
    refine AL m Pl3 f Z Z ay λa f=>Ac f Z λa f=>Az (Ab f Z λa f=>Ab f Z λa f=>Bd ah λaA aB ah=>A1 f Z call117 (Wk.m0 m aB) λaC w aD m a f=>Ac f Z λa f=>Az (Ab f Z λa f=>Ah f Z Z BN λa f=>Aa ?_))
    rcases Ae ah with⟨aE,ah⟩|⟨aE,ah⟩
    ·refine An f Z aE (Af (Ab f Z λa f=>Ac f Z λa f=>Aa (Aq ?_)))
     obtain rfl:=sj ah
     obtain rfl:=ai _ rfl
     obtain rfl:=sj hd
     exact⟨[iv aA],f.g Z,f.d,_,[],(gt aj aD),m,Z,Z⟩
    ·refine Ai f Z aE (Ao (Ak (Ah f Z Z Ax λa f=>Ab f Z λa f=>Aa ?_)))
     obtain rfl:=sj ah
     exact⟨_,Z,_,Z,_,(gt aj aD),f.k Z,m⟩
  ·refine Ai f Z ak (AB Z ?_)
   obtain rfl:=sj ah
   obtain rfl:=ai _ rfl
   exact⟨_,Z,_,aj,f.k Z,m⟩
 ·rintro a w ⟨_,rfl,ac,aF,f,m⟩
  refine have h0:=rd1 aF h0;have h1:=rd1 aF h1;Ag (Af (Ab f Z λa f=>AS underlying75 f Z Z h0 λa f=>Ab f Z λa f=>AS underlying75 f Z Z h1 λa f=>Ah f Z Z AJ λa f=>Aa ?_))
  rcases Ae hd with⟨aG,hd⟩|⟨aG,hd⟩
  ·refine An f Z aG (Af (Ac f Z λa f=>Aa (Aq ?_)))
   obtain rfl:=sj hd
   exact⟨[(iv (-1))],f.g Z,f.d,_,[],aF,m,Z,Z⟩
  ·refine Ai f Z aG (Ao (Af (Ac f Z λa f=>Aa (Aq ?_))))
   obtain rfl:=sj hd
   exact⟨[iv 0],f.g Z,f.d,_,[],aF,m,Z,Z⟩
end Go.Proofs.YthdcaieaajekcaaGreatDoor
