/- Parts. -/
import Derived.Test.YtgdadopbjdlddaaGreatDoorGt1
import Derived.Lib.TrailingZeros
import Derived.Lib.AppendZeros
import Derived.ChangeKeysEq
import Derived.Lib.SplitLaws
import Derived.Lib.ParseIntB
import Derived.KernelRfl
import Derived.Test.YtgdadopbjdlddaaGreatDoorProg
import Derived.Shelf.Strings.BuilderK
import Derived.Shelf.Strconv.Itoa3
import Derived.Shelf.LaysM
import Derived.Shelf.Strconv.Itoa4
import Derived.Shelf.LaysC
import Derived.Shelf.Strconv.ParseIntPublic10
import Derived.Shelf.Strings.Cut
import Derived.Shelf.Strings.Split
import Derived.Test.YtgdadopbjdlddaaGreatDoorRows
import Derived.Lib.ConvBytes
import Derived.Laws.IdiomCopy
import Derived.Lib.LaidTab
set_option linter.unusedVariables false
set_option linter.unusedSimpArgs false
set_option linter.unusedSectionVars false
namespace Go.Sx
theorem w64 {x:Int}(h1: -9223372036854775808≤x)(h2:x<9223372036854775808):IntKind.i64.wrap x=x:=by
 simp only[IntKind.wrap,IntKind.bits,IntKind.signed]
 have e:(2:Int)^64=18446744073709551616:=by decide
 have e':(2:Int)^(64-1)=9223372036854775808:=by decide
 simp
 omega
theorem dlt {i n:Nat}(h:i<n):decide ((i:Int)<(n:Int))=true:=by simp;omega
theorem Bb {n:Nat}:decide ((n:Int)<(n:Int))=false:=by simp
theorem AS {α:Type}{xs:List α}{i:Nat}(h:i<xs.length):idx xs (i:Int)=some xs[i]:=by
 unfold idx;rw[if_pos (by omega)];simp[h]
theorem Dx {α:Type}{xs:List α}{i:Int}(h0:0≤i)(h:i<xs.length):idx xs i=some (xs[i.toNat]'(by omega)):=by
 unfold idx;rw[if_pos h0];simp
theorem wi {i:Nat}(h:i<4611686018427387904):IntKind.i64.wrap ((i:Int)+1)=((i+1:Nat):Int):=by
 rw[w64 (by omega) (by omega)];rfl
theorem wi' {i n:Nat}(h:i<n)(hn:n≤4611686018427387904):IntKind.i64.wrap ((i:Int)+1)=((i+1:Nat):Int):=wi (by omega)
theorem Ba {α:Type}{xs:List α}{i:Nat}(h:i<xs.length)(d:α):xs.getD i d=xs[i]:=by simp[h]
theorem AW {α:Type}{xs ys:List α}(h:xs.length+ys.length≤4294967296):AC xs ys=some (xs++ys):=by
 unfold AC;rw[if_pos h]
theorem sliceD_pre {α:Type}{xs:List α}{i:Nat}(h:i≤xs.length):Bh xs 0 (i:Int)=some (xs.take i):=by
 unfold Bh;rw[if_pos ⟨by omega,by omega,by omega⟩];simp
theorem sliceD_post {α:Type}{xs:List α}{i:Nat}(h:i≤xs.length):Bh xs (i:Int) (xs.length:Int)=some (xs.drop i):=by
 unfold Bh;rw[if_pos ⟨by omega,by omega,by omega⟩];simp
theorem makeD_ok {α:Type}{z:α}{n:Nat}{c:Int}(h:(n:Int)≤c)(h2:c≤4294967296):Dl z (n:Int) c=some (List.replicate n z):=by
 unfold Dl;rw[if_pos ⟨by omega,h,h2⟩];simp
theorem makeD_zero {α:Type}{z:α}{c:Int}(h:0≤c)(h2:c≤4294967296):Dl z 0 c=some []:=by
 unfold Dl;rw[if_pos ⟨by omega,h,h2⟩];simp
def Stp {σ ρ:Type}(I:σ→Prop)(μ:σ→Nat)(Post:ρ→Prop)(s:σ):σ ⊕ ρ→Prop
 | .inl s'=>I s'∧μ s'<μ s
 | .inr r=>Post r
theorem BT {σ ρ β:Type}{step:σ→Option (σ ⊕ ρ)}{s:σ}{k:ρ→Option β}{Q:β→Prop}(I:σ→Prop)(μ:σ→Nat)(Post:ρ→Prop)
  (hstep:∀s,I s→∃y,step s=some y∧Stp I μ Post s y) (h0:I s) (hk:∀r,Post r→∃y,k r=some y∧Q y):∃y,(Ay step s).bind k=some y∧Q y:=by
 obtain⟨r,hr,hp⟩:=loopF_inv (step:=step) I μ Post (λs hs=>by
  obtain⟨y,hy,hq⟩:=hstep s hs
  cases y with
  |inl s'=>exact .inl ⟨s',hy,hq.1,hq.2⟩
  |inr r=>exact .inr ⟨r,hy,hq⟩) s h0
 rw[hr]
 exact hk r hp
theorem Dk {α β:Type}{e:Option α}{k:α→Option β}{Q:β→Prop}(R:α→Prop)(h:∃x,e=some x∧R x)(hk:∀x,R x→∃y,k x=some y∧Q y):∃y,e.bind k=some y∧Q y:=by
 obtain⟨x,rfl,hx⟩:=h
 exact hk x hx
theorem loop_steps {S ρ:Type}{step:S→Option (S ⊕ ρ)}(st:Nat→S)(n:Nat)(h:∀i,i<n→step (st i)=some (.inl (st (i+1)))):Ay step (st 0)=Ay step (st n):=by
 have key:∀k,k≤n→Ay step (st 0)=Ay step (st k):=by
  intro k
  induction k with
  |zero=>intro _;rfl
  |succ k ih=>intro hk;rw[ih (by omega),Bj (h k (by omega))]
 exact key n (Nat.le_refl n)
theorem BZ {S ρ β:Type}{step:S→Option (S ⊕ ρ)}{k:ρ→Option β}{s0:S}(st:Nat→S)(n:Nat)(r:ρ)(h0:st 0=s0)(h:∀i,i<n→step (st i)=some (.inl (st (i+1))))(he:step (st n)=some (.inr r)):
  (Ay step s0).bind k=k r:=by
 rw[←h0,loop_steps st n h,Bp he];rfl
theorem loop_list {α σ S ρ:Type}{step:S→Option (S ⊕ ρ)}(xs:List α)(enc:σ→Int→S)(f:σ→α→σ)(fin:σ→ρ)(I:σ→Prop)(s0:σ)
  (h0:I s0) (hstep:∀s (i:Nat) (h:i<xs.length),I s→step (enc s i)=some (.inl (enc (f s xs[i]) ((i+1:Nat):Int)))∧I (f s xs[i]))
  (hend:∀s,I s→step (enc s xs.length)=some (.inr (fin s))):Ay step (enc s0 0)=some (fin (xs.foldl f s0))∧I (xs.foldl f s0):=by
 have key:∀(k i:Nat) (s:σ),i+k=xs.length→I s→Ay step (enc s i)=some (fin ((xs.drop i).foldl f s))∧I ((xs.drop i).foldl f s):=by
  intro k
  induction k with
  |zero=>
   intro i s hk hs
   obtain rfl:i=xs.length:=by omega
   simp only[List.drop_length,List.foldl_nil]
   exact⟨Bp (hend s hs),hs⟩
  |succ k ih=>
   intro i s hk hs
   have hi:i<xs.length:=by omega
   obtain⟨h1,h2⟩:=hstep s i hi hs
   rw[Bj h1,List.drop_eq_getElem_cons hi,List.foldl_cons]
   exact ih (i+1) _ (by omega) h2
 have:=key xs.length 0 s0 (by omega) h0
 simpa using this
theorem loop_listb {α σ S ρ β:Type}{step:S→Option (S ⊕ ρ)}{k:ρ→Option β}(xs:List α)(enc:σ→Int→S)(f:σ→α→σ)(fin:σ→ρ)(I:σ→Prop)(s0:σ)
  (h0:I s0) (hstep:∀s (i:Nat) (h:i<xs.length),I s→step (enc s i)=some (.inl (enc (f s xs[i]) ((i+1:Nat):Int)))∧I (f s xs[i]))
  (hend:∀s,I s→step (enc s xs.length)=some (.inr (fin s))):(Ay step (enc s0 0)).bind k=k (fin (xs.foldl f s0)):=by
 rw[(loop_list xs enc f fin I s0 h0 hstep hend).1];rfl
theorem Db {α β γ S:Type}{step:S→Option (S ⊕ List β)}{k:List β→Option γ}(xs:List α)(enc:List β→Int→S)(f:α→β)(hx:xs.length≤4294967296)
  (hstep:∀s (i:Nat) (h:i<xs.length),s.length=i→step (enc s i)=(AC s [f xs[i]]).bind λl=>some (.inl (enc l ((i+1:Nat):Int))))
  (hend:∀s,step (enc s xs.length)=some (.inr s)):(Ay step (enc [] 0)).bind k=k (xs.map f):=by
 have key:∀i,i≤xs.length→Ay step (enc [] 0)=Ay step (enc ((xs.take i).map f) i):=by
  intro i
  induction i with
  |zero=>intro _;simp
  |succ i ih=>
   intro hi
   rw[ih (by omega)]
   have h1:=hstep ((xs.take i).map f) i (by omega) (by simp;omega)
   have h2:AC ((xs.take i).map f) [f xs[i]]=some ((xs.take (i+1)).map f):=by
    unfold AC
    rw[if_pos (by simp;omega)]
    rw[List.take_succ_eq_append_getElem (show i<xs.length by omega),List.map_append];rfl
   rw[h2] at h1
   rw[Bj h1]
 rw[key xs.length (Nat.le_refl _),List.take_length,Bp (hend _)];rfl
theorem loop_nat {σ S ρ:Type}{step:S→Option (S ⊕ ρ)}(n:Nat)(enc:σ→Int→S)(f:σ→Nat→σ)(fin:σ→ρ)(I:Nat→σ→Prop)(s0:σ)
  (h0:I 0 s0) (hstep:∀s (i:Nat),i<n→I i s→step (enc s i)=some (.inl (enc (f s i) ((i+1:Nat):Int)))∧I (i+1) (f s i))
  (hend:∀s,I n s→step (enc s n)=some (.inr (fin s))):Ay step (enc s0 0)=some (fin ((List.range n).foldl f s0))∧I n ((List.range n).foldl f s0):=by
 have key:∀k,k≤n→Ay step (enc s0 0)=Ay step (enc ((List.range k).foldl f s0) k)∧I k ((List.range k).foldl f s0):=by
  intro k
  induction k with
  |zero=>intro _;exact⟨rfl,h0⟩
  |succ k ih=>
   intro hk
   obtain⟨h1,h2⟩:=ih (by omega)
   obtain⟨h3,h4⟩:=hstep _ k (by omega) h2
   rw[List.range_succ,List.foldl_append,List.foldl_cons,List.foldl_nil]
   exact⟨by rw[h1,Bj h3],h4⟩
 obtain⟨h1,h2⟩:=key n (Nat.le_refl n)
 exact⟨by rw[h1,Bp (hend _ h2)],h2⟩
theorem Dg {ρ : Type} {step : Int → Option (Int ⊕ ρ)} (n : Nat) (c : Nat → Option ρ) (fin : ρ)
    (hstep : ∀ i, i < n → step (i : Int) = match c i with | some r => some (.inr r) | none => some (.inl ((i + 1 : Nat) : Int)))
    (hend : step (n : Int) = some (.inr fin)) : Ay step 0 = some (((List.range n).findSome? c).getD fin) := by
  have key : ∀ (k i : Nat), i + k = n → Ay step (i : Int) = some (((List.range' i k).findSome? c).getD fin) := by
    intro k
    induction k with
    | zero => intro i h; obtain rfl : i = n := by omega
              simpa using Bp hend
    | succ k ih =>
      intro i h
      have h1 := hstep i (by omega)
      rw [List.range'_succ, List.findSome?_cons]
      cases hc : c i with
      | some r => rw [hc] at h1; simpa using Bp h1
      | none => rw [hc] at h1; rw [Bj h1]; exact ih (i + 1) (by omega)
  have := key n 0 (by omega)
  simpa [List.range_eq_range'] using this
theorem CE {β:Type}{step:Int→Option (Int ⊕ (Unit ⊕ β))}{k:Unit ⊕ β→Option Bool}(n:Nat)(c:Nat→Bool)(bad:β)
  (hstep:∀i,i<n→step (i:Int)=if c i then some (.inl ((i+1:Nat):Int)) else some (.inr (.inr bad)))
  (hend:step (n:Int)=some (.inr (.inl ()))) (hk1:k (.inl ())=some true) (hk2:k (.inr bad)=some false):
  (Ay step 0).bind k=some ((List.range n).all c):=by
 rw[Dg n (λi=>if c i then none else some (.inr bad)) (.inl ()) (λi hi=>by rw[hstep i hi];cases c i<;>rfl) hend]
 simp only[bs]
 cases h:(List.range n).all c with
 |true=>
  rw[List.findSome?_eq_none_iff.2 (λx hx=>by rw[if_pos (List.all_eq_true.1 h x hx)])]
  exact hk1
 |false=>
  cases h2:(List.range n).findSome? (λi=>if c i then none else some (Sum.inr bad)) with
  |none=>
   rw[List.findSome?_eq_none_iff] at h2
   have:(List.range n).all c=true:=List.all_eq_true.2 λx hx=>by
    have:=h2 x hx
    cases hc:c x
    ·rw[hc] at this;cases this
    ·rfl
   rw[this] at h;cases h
  |some r=>
   obtain⟨x,_,hx⟩:=List.exists_of_findSome?_eq_some h2
   cases hc:c x
   ·rw[hc] at hx;simp at hx;subst hx;exact hk2
   ·rw[hc] at hx;simp at hx
theorem Ed {ρ β:Type}{step:Int→Option (Int ⊕ ρ)}{k:ρ→Option β}(n:Nat)(c:Nat→Bool)(fine bad:ρ)
  (hstep:∀i,i<n→step (i:Int)=if c i then some (.inl ((i+1:Nat):Int)) else some (.inr bad))
  (hend:step (n:Int)=some (.inr fine)):(Ay step 0).bind k=cond ((List.range n).all c) (k fine) (k bad):=by
 rw[Dg n (λi=>if c i then none else some bad) fine (λi hi=>by rw[hstep i hi];cases c i<;>rfl) hend]
 simp only[bs]
 cases h:(List.range n).all c with
 |true=>
  rw[List.findSome?_eq_none_iff.2 (λx hx=>by rw[if_pos (List.all_eq_true.1 h x hx)])]
  rfl
 |false=>
  cases h2:(List.range n).findSome? (λi=>if c i then none else some bad) with
  |none=>
   rw[List.findSome?_eq_none_iff] at h2
   have:(List.range n).all c=true:=List.all_eq_true.2 λx hx=>by
    have:=h2 x hx
    cases hc:c x
    ·rw[hc] at this;cases this
    ·rfl
   rw[this] at h;cases h
  |some r=>
   obtain⟨x,_,hx⟩:=List.exists_of_findSome?_eq_some h2
   cases hc:c x
   ·rw[hc] at hx;simp at hx;subst hx;rfl
   ·rw[hc] at hx;simp at hx
theorem loop_anyb {β:Type}{step:Int→Option (Int ⊕ (Unit ⊕ β))}{k:Unit ⊕ β→Option Bool}(n:Nat)(c:Nat→Bool)(good:β)
  (hstep:∀i,i<n→step (i:Int)=if c i then some (.inr (.inr good)) else some (.inl ((i+1:Nat):Int)))
  (hend:step (n:Int)=some (.inr (.inl ()))) (hk1:k (.inl ())=some false) (hk2:k (.inr good)=some true):
  (Ay step 0).bind k=some ((List.range n).any c):=by
 rw[Dg n (λi=>if c i then some (.inr good) else none) (.inl ()) (λi hi=>by rw[hstep i hi];cases c i<;>rfl) hend]
 simp only[bs]
 cases h:(List.range n).any c with
 |false=>
  rw[List.findSome?_eq_none_iff.2 (λx hx=>by
   have:c x=false:=by
    cases hc:c x
    ·rfl
    ·rw[List.any_eq_true.2 ⟨x,hx,hc⟩] at h;cases h
   rw[this];rfl)]
  exact hk1
 |true=>
  obtain⟨x,hx,hc⟩:=List.any_eq_true.1 h
  cases h2:(List.range n).findSome? (λi=>if c i then some (Sum.inr good) else none) with
  |none=>
   rw[List.findSome?_eq_none_iff] at h2
   have:=h2 x hx
   rw[hc] at this;cases this
  |some r=>
   obtain⟨y,_,hy⟩:=List.exists_of_findSome?_eq_some h2
   cases hc:c y
   ·rw[hc] at hy;simp at hy
   ·rw[hc] at hy;simp at hy;subst hy;exact hk2
theorem Dz {α:Type}(xs:List α)(p:α→Bool)(c:Nat→Bool)(h:∀i (hi:i<xs.length),c i=p xs[i]):(List.range xs.length).all c=xs.all p:=by
 rw[Bool.eq_iff_iff,List.all_eq_true,List.all_eq_true]
 constructor
 ·intro hh x hx
  obtain⟨i,hi,rfl⟩:=List.getElem_of_mem hx
  rw[←h i hi];exact hh i (List.mem_range.2 hi)
 ·intro hh i hi
  have hi':=List.mem_range.1 hi
  rw[h i hi'];exact hh _ (List.getElem_mem _)
theorem range_any_list {α:Type}(xs:List α)(p:α→Bool)(c:Nat→Bool)(h:∀i (hi:i<xs.length),c i=p xs[i]):(List.range xs.length).any c=xs.any p:=by
 rw[Bool.eq_iff_iff,List.any_eq_true,List.any_eq_true]
 constructor
 ·rintro⟨i,hi,hc⟩
  have hi':=List.mem_range.1 hi
  exact⟨_,List.getElem_mem hi',by rw[←h i hi'];exact hc⟩
 ·rintro⟨x,hx,hc⟩
  obtain⟨i,hi,rfl⟩:=List.getElem_of_mem hx
  exact⟨i,List.mem_range.2 hi,by rw[h i hi];exact hc⟩
theorem DB (n:Nat)(c:Nat→Bool):(List.range n).all c=true↔∀i,i<n→c i=true:=by
 rw[List.all_eq_true]
 exact⟨λh i hi=>h i (List.mem_range.2 hi),λh i hi=>h i (List.mem_range.1 hi)⟩
theorem Dq (n:Int):IntKind.u32.wrap n=n%4294967296:=by simp[IntKind.wrap,IntKind.signed,IntKind.bits]
def VS (s:Int):Prop:=0≤s∧s<4294967296
def has (s:Int)(v:Nat):Bool:=s.toNat.testBit v
theorem VS.nat {s:Int}(h:VS s):∃n:Nat,s=n∧n<4294967296:=⟨s.toNat,by have:=h.1;omega,by have:=h.1;have:=h.2;omega⟩
theorem VS.zero :VS 0:=⟨by omega,by omega⟩
theorem VS.wrap (n:Int):VS (IntKind.u32.wrap n):=by rw[Dq];exact⟨by omega,by omega⟩
theorem Co (n v:Nat):has (n:Int) v=n.testBit v:=by simp[has]
theorem CM (v:Nat):has 0 v=false:=by simp[has]
theorem Df (n:Nat)(h:n<4294967296):(BitVec.ofInt 32 (n:Int)).toNat=n:=by
 rw[BitVec.toNat_ofInt]
 omega
theorem ior_nat {a b:Nat}(ha:a<4294967296)(hb:b<4294967296):ior .u32 (a:Int) (b:Int)=((a|||b:Nat):Int):=by
 have hw:a|||b<4294967296:=Nat.or_lt_two_pow (n:=32) ha hb
 show IntKind.u32.wrap (((BitVec.ofInt 32 (a:Int)|||BitVec.ofInt 32 (b:Int)).toNat:Nat):Int)=_
 rw[BitVec.toNat_or,Df a ha,Df b hb,Dq];omega
theorem DC {a b:Nat}(ha:a<4294967296)(hb:b<4294967296):iand .u32 (a:Int) (b:Int)=((a&&&b:Nat):Int):=by
 have hw:a&&&b<4294967296:=Nat.and_lt_two_pow (n:=32) _ hb
 show IntKind.u32.wrap (((BitVec.ofInt 32 (a:Int)&&&BitVec.ofInt 32 (b:Int)).toNat:Nat):Int)=_
 rw[BitVec.toNat_and,Df a ha,Df b hb,Dq];omega
theorem VS.ior (a b:Int):VS (ior .u32 a b):=VS.wrap _
theorem VS.iand (a b:Int):VS (iand .u32 a b):=VS.wrap _
theorem VS.ishl (a b:Int):VS (ishl .u32 a b):=VS.wrap _
theorem has_ior {a b:Int}(ha:VS a)(hb:VS b)(v:Nat):has (ior .u32 a b) v=(has a v||has b v):=by
 obtain⟨m,rfl,hm⟩:=ha.nat;obtain⟨n,rfl,hn⟩:=hb.nat
 rw[ior_nat hm hn];simp only[Co,Nat.testBit_or]
theorem has_big {a:Int}(ha:VS a){v:Nat}(hv:32≤v):has a v=false:=by
 obtain⟨m,rfl,hm⟩:=ha.nat
 rw[Co]
 exact Nat.testBit_lt_two_pow (Nat.lt_of_lt_of_le hm (Nat.pow_le_pow_right (n:=2) (by omega) hv))
theorem VS.ext {a b:Int}(ha:VS a)(hb:VS b)(h:∀v,v<32→has a v=has b v):a=b:=by
 have:∀v,has a v=has b v:=λv=>by
  by_cases hv:v<32
  ·exact h v hv
  ·rw[has_big ha (by omega),has_big hb (by omega)]
 obtain⟨m,rfl,hm⟩:=ha.nat;obtain⟨n,rfl,hn⟩:=hb.nat
 congr 1
 apply Nat.eq_of_testBit_eq
 intro v
 have:=this v
 rwa [Co,Co] at this
theorem VS.eq_zero {a:Int}(ha:VS a):a=0↔∀v,v<32→has a v=false:=
 ⟨λh v _=>by rw[h,CM],λh=>ha.ext VS.zero (λv hv=>by rw[h v hv,CM])⟩
theorem one_eq {v:Nat}(hv:v<32):ishl .u32 1 (v:Int)=((2^v:Nat):Int):=by
 have h:(2:Nat)^v<2^32:=Nat.pow_lt_pow_right (by omega) hv
 have h':(2:Nat)^32=4294967296:=by decide
 rw[h'] at h
 show IntKind.u32.wrap (1*2^(min ((v:Int)).toNat 32))=_
 rw[Dq,show min ((v:Int)).toNat 32=v by simp;omega,Int.one_mul]
 have e:((2^v:Nat):Int)=(2:Int)^v:=by simp
 rw[←e]
 generalize 2^v=p at h ⊢
 omega
theorem has_one {v:Nat}(hv:v<32)(u:Nat):has (ishl .u32 1 (v:Int)) u=decide (u=v):=by
 rw[one_eq hv,Co,Nat.testBit_two_pow]
 simp[eq_comm]
theorem shr_eq (s:Int)(v:Nat)(h:VS s)(hv:v<32):Ce .u32 s (v:Int)=((s.toNat>>>v:Nat):Int):=by
 obtain⟨m,rfl,hm⟩:=h.nat
 show Int.fdiv (m:Int) (2^(min ((v:Int)).toNat 32))=_
 rw[show min ((v:Int)).toNat 32=v by simp;omega]
 have e:((2^v:Nat):Int)=(2:Int)^v:=by simp
 rw[←e,Int.fdiv_eq_ediv_of_nonneg _ (Int.natCast_nonneg _),Nat.shiftRight_eq_div_pow]
 simp
theorem bitAt_eq {s:Int}{v:Nat}(h:VS s)(hv:v<32):(iand .u32 (Ce .u32 s (v:Int)) 1==1)=has s v:=by
 rw[shr_eq s v h hv]
 have hs:s.toNat>>>v<4294967296:=by
  obtain⟨m,rfl,hm⟩:=h.nat
  rw[Nat.shiftRight_eq_div_pow]
  exact Nat.lt_of_le_of_lt (Nat.div_le_self _ _) hm
 have:=DC hs (show (1:Nat)<4294967296 by omega)
 rw[show (1:Int)=((1:Nat):Int) from rfl,this,has,Nat.testBit]
 rw[Nat.and_comm]
 have h1:1&&&(s.toNat>>>v)=0∨1&&&(s.toNat>>>v)=1:=by
  rw[Nat.and_comm,Nat.and_one_is_mod];omega
 rcases h1 with e|e<;>rw[e]<;>rfl
def Bc (s : Int) : LI := ((List.range 32).filter (has s)).map Int.ofNat
theorem mem_elems {s:Int}{x:Int}:x∈Bc s↔∃v:Nat,v<32∧has s v=true∧x=v:=by
 unfold Bc
 rw[List.mem_map]
 constructor
 ·rintro⟨v,hv,rfl⟩
  rw[List.mem_filter,List.mem_range] at hv
  exact⟨v,hv.1,hv.2,rfl⟩
 ·rintro⟨v,h1,h2,rfl⟩
  exact⟨v,List.mem_filter.2 ⟨List.mem_range.2 h1,h2⟩,rfl⟩
theorem mem_elems_nat {s:Int}(h:VS s){v:Nat}:(v:Int)∈Bc s↔has s v=true:=by
 rw[mem_elems]
 constructor
 ·rintro⟨u,_,h2,h3⟩;obtain rfl:v=u:=by omega
  exact h2
 ·intro h2
  refine⟨v,?_,h2,rfl⟩
  by_cases hv:v<32
  ·exact hv
  ·rw[has_big h (by omega)] at h2;cases h2
theorem elems_len (s:Int):(Bc s).length≤32:=by
 unfold Bc
 rw[List.length_map]
 exact Nat.le_trans (List.length_filter_le _ _) (by simp)
def Inc (l : LI) : Prop := l.Pairwise (· < ·)
theorem Dh (s:Int):Inc (Bc s):=by
 unfold Bc Inc
 rw[List.pairwise_map]
 refine List.Pairwise.filter _ ?_
 refine List.Pairwise.imp ?_ (List.pairwise_lt_range (n:=32))
 intro a b h
 show (a:Int)<(b:Int)
 omega
theorem Inc.ext :∀{l l':LI},Inc l→Inc l'→(∀x,x∈l↔x∈l')→l=l'
 |[],[],_,_,_=>rfl
 |[],y::l',_,_,h=>by have:=(h y).2 (by simp);simp at this
 |x::l,[],_,_,h=>by have:=(h x).1 (by simp);simp at this
 |x::l,y::l',h1,h2,h=>by
  have h1':=List.pairwise_cons.1 h1;have h2':=List.pairwise_cons.1 h2
  have e:x=y:=by
   rcases List.mem_cons.1 ((h x).1 (by simp)) with e|e
   ·exact e
   ·rcases List.mem_cons.1 ((h y).2 (by simp)) with e'|e'
    ·exact e'.symm
    ·have:=h2'.1 x e;have:=h1'.1 y e';omega
  subst e
  have:l=l':=by
   refine Inc.ext h1'.2 h2'.2 (λz=> ?_)
   constructor
   ·intro hz
    rcases List.mem_cons.1 ((h z).1 (List.mem_cons_of_mem _ hz)) with e|e
    ·have:=h1'.1 z hz;omega
    ·exact e
   ·intro hz
    rcases List.mem_cons.1 ((h z).2 (List.mem_cons_of_mem _ hz)) with e|e
    ·have:=h2'.1 z hz;omega
    ·exact e
  rw[this]
theorem least_spec {s:Int}(h:VS s)(h0:s≠0):∃k:Nat,k<32∧has s k=true∧(∀v,v<k→has s v=false)∧
  iand .u32 s (IntKind.u32.wrap (0-s))=((2^k:Nat):Int)∧(∀v,has (iand .u32 s (IntKind.u32.wrap (s-1))) v=(has s v&& !decide (v=k))):=by
 obtain⟨m,rfl,hm⟩:=h.nat
 have hm0:m≠0:=by omega
 obtain⟨q,hq,hk⟩:=Lib.ctzFrom_spec 32 m (by omega) hm
 have hc:Lib.ctz 32 m=Lib.ctzFrom 32 m:=by unfold Lib.ctz;rw[if_neg hm0]
 obtain⟨hl,_⟩:=Lib.lowest_bit 32 m hm0 hm
 rw[hc] at hl
 generalize Lib.ctzFrom 32 m=k at*
 have hpos:0<2^k:=Nat.pow_pos (by omega)
 have hb:∀v,m.testBit v=(decide (v≥k)&&(2*q+1).testBit (v-k)):=λv=>by rw[hq,Nat.mul_comm,Nat.testBit_mul_two_pow,Bool.and_comm]
 refine⟨k,hk,?_,λv hv=> ?_,?_,λv=> ?_⟩
 ·rw[Co,hb];simp
 ·rw[Co,hb];simp;intro hc;omega
 ·have e:IntKind.u32.wrap (0-(m:Int))=((4294967296-m:Nat):Int):=by rw[Dq];omega
  rw[e,DC hm (by omega)]
  rw[←hl]
 ·have e:IntKind.u32.wrap ((m:Int)-1)=((m-1:Nat):Int):=by rw[Dq];omega
  rw[e,DC hm (by omega),Co,Co,Nat.testBit_and]
  have hm1:m-1=2^k*(2*q)+(2^k-1):=by rw[hq,Nat.mul_add];omega
  have hb1:(m-1).testBit v=if v<k then true else(2*q).testBit (v-k):=by
   rw[hm1,Nat.testBit_two_pow_mul_add _ (by omega)]
   split
   ·rename_i hv;rw[Nat.testBit_two_pow_sub_one];simp[hv]
   ·rfl
  rw[hb1,hb]
  by_cases hv:v<k
  ·simp[hv];intro hc;omega
  ·rw[if_neg hv]
   by_cases hvk:v=k
   ·subst hvk;simp
   ·obtain⟨t,ht⟩:∃t,v-k=t+1:=⟨v-k-1,by omega⟩
    rw[ht,Nat.testBit_succ,Nat.testBit_succ]
    have e1:(2*q+1)/2=q:=by omega
    have e2:2*q/2=q:=by omega
    rw[e1,e2]
    simp[hvk]
theorem elems_least {s t:Int}{k:Nat}(hk:k<32)(h1:has s k=true)(h2:∀v,v<k→has s v=false)(h3:∀v,has t v=(has s v&& !decide (v=k))):
  Bc s=(k:Int)::Bc t:=by
 refine Inc.ext (Dh s) ?_ (λx=> ?_)
 ·refine List.pairwise_cons.2 ⟨λx hx=> ?_,Dh t⟩
  obtain⟨v,hv,h4,rfl⟩:=mem_elems.1 hx
  rw[h3] at h4
  simp at h4
  by_cases hc:v<k
  ·rw[h2 v hc] at h4;simp at h4
  ·omega
 ·rw[List.mem_cons,mem_elems,mem_elems]
  constructor
  ·rintro⟨v,hv,h4,rfl⟩
   by_cases e:v=k
   ·left;omega
   ·right;exact⟨v,hv,by rw[h3,h4];simp[e],rfl⟩
  ·rintro(rfl|⟨v,hv,h4,rfl⟩)
   ·exact⟨k,hk,h1,rfl⟩
   ·rw[h3] at h4;simp at h4
    exact⟨v,hv,h4.1,rfl⟩
theorem elems_zero :Bc 0=[]:=by
 unfold Bc
 rw[List.filter_eq_nil_iff.2 (λv _=>by simp[CM])];rfl
theorem tz_table :∀k:Nat,k<32→idx tab32 (Ce .u32 (IntKind.u32.wrap (((2^k:Nat):Int)*125613361)) 27)=some (k:Int):=by decide+kernel
abbrev ArM :=List ((Int×Int)×Int)
abbrev ArL :=List (Int×Int)
end Go.Sx

namespace Go.Sx
end Go.Sx

namespace Go.Sx
open Go
end Go.Sx

namespace Go.Sx
end Go.Sx

namespace Go.Sx
end Go.Sx

namespace Go.Sx
open Go
def ai (x:Nat→Int)(j:Int):Option Int:=if 0≤j∧j<16 then some (x j.toNat) else none
end Go.Sx

namespace Go.Sx
end Go.Sx

namespace Go.Sx
end Go.Sx

namespace Go.Sx
end Go.Sx

namespace Go.Sx
end Go.Sx

namespace Go.Sx
end Go.Sx

namespace Go.Sx
end Go.Sx

namespace Go.Sx
end Go.Sx

namespace Go.Sx
open Go
end Go.Sx

namespace Go.Sx
open Go
end Go.Sx

namespace Go.Sx
open Go
end Go.Sx

namespace Go.Sx
end Go.Sx

namespace Go.Sx
open Go
theorem AZ {f:Fn}{a b:Array Value}:(Value.func f a b).cells= #[.func f a b]:=rfl
end Go.Sx

namespace Go.Sx
end Go.Sx

namespace Go.Sx
open Go
end Go.Sx

namespace Go.Sx
open Go
end Go.Sx

namespace Go.Sx
end Go.Sx

namespace Go.Sx
end Go.Sx

namespace Go.Sx
open Go
def D.q (s sep:ByteArray):Option (ByteArray×ByteArray×Bool):=
 if s.size<4294967281 then some (⟨(Lib.cut s.data.toList sep.data.toList).1.toArray⟩,⟨(Lib.cut s.data.toList sep.data.toList).2.1.toArray⟩,(Lib.cut s.data.toList sep.data.toList).2.2) else none
def D.u (s sep:ByteArray):Option (List ByteArray):=
 if s.size<4294967281∧1≤sep.size then some (Lib.splitB sep 0 (Lib.countB s sep) s) else none
def D.O (n:Int):Option ByteArray:=if 0≤n∧n<100 then some ⟨(Lib.decDigits n.toNat).toArray⟩ else none
def D.f (n b:Int):Option ByteArray:=
 if b=10∧-9223372036854775808≤n∧n≤9223372036854775807 then some ⟨(Lib.itoa n).toArray⟩ else none
def D.i (s:ByteArray)(b z:Int):Option (Int×Bool):=
 if b=10∧z=64∧s.size≤281474976710656 then some (match Lib.parseIntB 64 s.data.toList with
  | .ok v=>(v,false)
  | .«syntax»=>(0,true)
  | .range=>(Lib.intSat 64 s.data.toList,true)) else none
def D.B0 (xs:LI):Option ByteArray:=if xs≠[]∧(xs.all λx=>decide (0≤x)&&decide (x<256))=true then some (sOf xs) else none
end Go.Sx

namespace Go.Sx
open IntKind
noncomputable section
def D.s (b:ByteArray)(e:Int):Option (((List ByteArray))):=
 (Ay (σ:=(List ByteArray)×Int×Int) (ρ:=((List ByteArray))) (fun(c,d,a)=>cond (decide (a≤(b.size:Int))) ((cond (a==(b.size:Int)) (some true) ((Bn b a).bind λg=>some (g==e))).bind λh=>cond h ((sPart b d a).bind λi=>(AC c ([i]:List ByteArray)).bind λj=>some (.inl (j,(i64.wrap (a+1)),(i64.wrap (a+1))))) (some (.inl (c,d,(i64.wrap (a+1)))))) (some (.inr c))) (([]:List ByteArray),0,0)).bind λk=>some k
def D.k (a:ByteArray):Option (Int×Bool):=
 (cond ((decide ((a.size:Int)<1))||(decide ((9:Int)<(a.size:Int)))) (some true) ((Bn a 0).bind λd=>some ((d==48)&&(decide ((1:Int)<(a.size:Int)))))).bind λe=>cond e (some (0,false)) ((Ay (σ:=Int×Int) (ρ:=(Int) ⊕ (Int×Bool)) (fun(c,b)=>cond (decide (b<(a.size:Int))) ((Bn a b).bind λg=>(cond (decide (g<48)) (some true) ((Bn a b).bind λh=>some (decide ((57:Int)<h)))).bind λi=>cond i (some (.inr (.inr (0,false)))) ((Bn a b).bind λj=>some (.inl ((i64.wrap ((i64.wrap (c*10))+(i64.wrap (IntKind.u8.wrap (j-48))))),(i64.wrap (b+1)))))) (some (.inr (.inl c)))) (0,0)).bind λzz=>match zz with| .inl k=>(some (k,true))| .inr z=>(some z))
def D.c (c:Int):Option (ByteArray):=
 (Ay (σ:=Int×ByteArray) (ρ:=(ByteArray)) (fun(a,b)=>cond ((sEq b (⟨#[]⟩))||(a !=0)) (cond (decide ((Int.tmod a 10)<0)) ((BG (sOf ([(IntKind.u8.wrap (i64.wrap (48+(i64.wrap (0-(Int.tmod a 10))))))]:LI)) b).bind λf=>some (.inl ((i64.wrap (Int.tdiv a 10)),f))) ((BG (sOf ([(IntKind.u8.wrap (i64.wrap (48+(Int.tmod a 10))))]:LI)) b).bind λg=>some (.inl ((i64.wrap (Int.tdiv a 10)),g)))) (some (.inr b))) (c,⟨#[]⟩)).bind λd=>cond (decide (c<0)) ((BG (⟨#[45]⟩) d).bind λh=>some h) (some d)
def D.r (b:LL):Option (ByteArray):=
 (D.v b).bind λe=>cond (!e) (some (⟨#[]⟩)) ((D.g b).bind λf=>(D.c f).bind λg=>(BG g (⟨#[58]⟩)).bind λh=>(D.u0 b).bind λc=>(Ay (σ:=ByteArray×Int) (ρ:=(ByteArray)) (fun(d,a)=>cond (decide (a<(c.length:Int))) ((BG d (⟨#[32]⟩)).bind λj=>(idx c a).bind λk=>(idx k 0).bind λl=>(D.c l).bind λm=>(BG j m).bind λn=>(BG n (⟨#[45]⟩)).bind λo=>(idx c a).bind λp=>(idx p 1).bind λq=>(D.c q).bind λr=>(BG o r).bind λs=>some (.inl (s,(i64.wrap (a+1))))) (some (.inr d))) (h,0)).bind λt=>some t)
def D.N (b:ByteArray):Option (LL×Bool):=
 cond (decide ((800:Int)<(b.size:Int))) (some (([]:LL),false)) ((D.s b 32).bind λa=>(idx a 0).bind λj=>(cond (decide ((j.size:Int)<2)) (some true) ((idx a 0).bind λk=>(idx a 0).bind λl=>(Bn k (i64.wrap ((l.size:Int)-1))).bind λm=>some (m !=58))).bind λn=>cond n (some (([]:LL),false)) ((idx a 0).bind λo=>(idx a 0).bind λp=>(sPart o 0 (i64.wrap ((p.size:Int)-1))).bind λq=>(D.k q).bind λf=>(Ay (σ:=LL×Int) (ρ:=LL ⊕ (LL×Bool)) (fun(g,c)=>cond (decide (c<(a.length:Int))) ((idx a c).bind λs=>(D.s s 45).bind λd=>cond ((d.length:Int) !=2) (some (.inr (.inr (([]:LL),false)))) ((idx d 0).bind λt=>(D.k t).bind λh=>(idx d 1).bind λu=>(D.k u).bind λi=>cond ((!h.2)||(!i.2)) (some (.inr (.inr (([]:LL),false)))) ((AC g ([([h.1,i.1]:LI)]:LL)).bind λv=>some (.inl (v,(i64.wrap (c+1))))))) (some (.inr (.inl g)))) (([]:LL),1)).bind λzz=>match zz with| .inl w=>((D.E f.1 w).bind λe=>(cond ((!f.2)||(!e.2)) (some true) ((D.r e.1).bind λx=>some (!sEq x b))).bind λy=>cond y (some (([]:LL),false)) (some (e.1,true)))| .inr z=>(some z)))
def D.j (a:ByteArray):Option (Int×Bool):=
 cond ((decide ((a.size:Int)<1))||(decide ((9:Int)<(a.size:Int)))) (some (0,false)) ((D.i a 10 64).bind λb=>(cond b.2 (some true) ((D.f b.1 10).bind λc=>some (!sEq c a))).bind λd=>cond d (some (0,false)) (some (b.1,true)))
def D.c0 (a:Int)(c:LL):Option (LL×Bool):=
 (D.d0 a 1 16).bind λf=>cond ((!f)||(decide ((120:Int)<(c.length:Int)))) (some (([]:LL),false)) ((Dl (0:Int) a a).bind λg=>(Ay (σ:=LI×Int) (ρ:=LI ⊕ (LL×Bool)) (fun(e,d)=>cond (decide (d<(c.length:Int))) ((idx c d).bind λb=>(cond ((b.length:Int) !=2) (some true) ((D.Y b a).bind λi=>some (!i))).bind λj=>cond j (some (.inr (.inr (([]:LL),false)))) ((idx b 0).bind λk=>(idx b 1).bind λl=>(D.x0 e k l).bind λm=>some (.inl (m,(i64.wrap (d+1)))))) (some (.inr (.inl e)))) (g,0)).bind λzz=>match zz with| .inl n=>((D.e0 n).bind λo=>some (o,true))| .inr z=>(some z))
def D.S (b:LL):Option (ByteArray):=
 (D.O (b.length:Int)).bind λf=>(BG f (⟨#[58]⟩)).bind λg=>(AC ([]) (sBy g)).bind λh=>(D.w0 b).bind λc=>(Ay (σ:=Int×LI) (ρ:=LI) (fun(a,d)=>cond (decide (a<(c.length:Int))) ((idx c a).bind λe=>(idx e 0).bind λj=>(D.f j 10).bind λk=>(BG (⟨#[32]⟩) k).bind λl=>(BG l (⟨#[45]⟩)).bind λm=>(idx e 1).bind λn=>(D.f n 10).bind λo=>(BG m o).bind λp=>(AC d (sBy p)).bind λq=>some (.inl ((i64.wrap (a+1)),q))) (some (.inr d))) (0,h)).bind λr=>(D.B0 r).bind λs=>some s
def D.t (b:ByteArray):Option (LL×Bool):=
 (D.q b (⟨#[58]⟩)).bind λc=>(D.j c.1).bind λf=>cond (((decide ((800:Int)<(b.size:Int)))||(!c.2.2))||(!f.2)) (some (([]:LL),false)) ((D.u c.2.1 (⟨#[32]⟩)).bind λg=>(Ay (σ:=LL×Int) (ρ:=LL ⊕ (LL×Bool)) (fun(d,a)=>cond (decide (a<(g.length:Int))) ((idx g a).bind λl=>cond (a==0) (some (.inl (d,(i64.wrap (a+1))))) ((D.q l (⟨#[45]⟩)).bind λh=>(D.j h.1).bind λi=>(D.j h.2.1).bind λj=>cond ((!i.2)||(!j.2)) (some (.inr (.inr (([]:LL),false)))) ((AC d [([i.1,j.1]:LI)]).bind λm=>some (.inl (m,(i64.wrap (a+1))))))) (some (.inr (.inl d)))) (([]:LL),0)).bind λzz=>match zz with| .inl n=>((D.c0 f.1 n).bind λe=>(cond (!e.2) (some true) ((D.S e.1).bind λo=>some (!sEq o b))).bind λp=>cond p (some (([]:LL),false)) (some (e.1,true)))| .inr z=>(some z))
end
end Go.Sx

namespace Go.Sx
open IntKind
noncomputable section
def D.j0 (b:LI):Option LL:=
 (D.B b).bind λa=>(D.x a.1 a.2.1 a.2.2).bind λc=>some c.1
def D.M (a:LL):Option (ByteArray):=
 (D.o a).bind λb=>cond (!b) (some (⟨#[]⟩)) ((D.S a).bind λc=>some c)
def D.Q (c:LL):Option (ByteArray):=
 (D.m0 c).bind λd=>(Ay (σ:=LI×Int) (ρ:=LI) (fun(e,b)=>cond (decide (b<(d.length:Int))) ((idx d b).bind λh=>(Ay (σ:=LI×Int) (ρ:=LI) (fun(f,a)=>cond (decide (a<(c.length:Int))) (cond (decide (a<0)) none ((AC f ([(IntKind.u8.wrap (48+(IntKind.u8.wrap (iand .u32 (Ce .u32 h a) 1))))]:LI)).bind λj=>some (.inl (j,(i64.wrap (a+1)))))) (some (.inr f))) (e,0)).bind λk=>(AC k ([10]:LI)).bind λl=>some (.inl (l,(i64.wrap (b+1))))) (some (.inr e))) (([]:LI),0)).bind λm=>some (sOf m)
def D.J (a:LL):Option (ByteArray):=
 (D.o a).bind λb=>cond (!b) (some (⟨#[]⟩)) ((D.Q a).bind λc=>some c)
def D.y (a:LL):Option (ByteArray):=
 (Ay (σ:=ByteArray×Int) (ρ:=(ByteArray)) (fun(d,b)=>(D.g a).bind λg=>(cond (decide (b<g)) ((D.v a).bind λh=>some h) (some false)).bind λi=>cond i ((Ay (σ:=ByteArray×Int) (ρ:=(ByteArray)) (fun(e,c)=>(D.g a).bind λk=>cond (decide (c<k)) ((D.m a b c).bind λl=>(D.y0 l).bind λm=>(D.c m).bind λn=>(BG e n).bind λo=>some (.inl (o,(i64.wrap (c+1))))) (some (.inr e))) (d,0)).bind λp=>(BG p (⟨#[10]⟩)).bind λq=>some (.inl (q,(i64.wrap (b+1))))) (some (.inr d))) (⟨#[]⟩,0)).bind λr=>some r
def D.L (c:ByteArray):Option (LL×Bool):=
 (D.u c (⟨#[10]⟩)).bind λb=>cond (((decide ((800:Int)<(c.size:Int)))||(decide ((i64.wrap ((b.length:Int)-1))<1)))||(decide ((16:Int)<(i64.wrap ((b.length:Int)-1))))) (some (([]:LL),false)) ((Bh b 0 (i64.wrap ((b.length:Int)-1))).bind λg=>(Ay (σ:=Int×LL) (ρ:=LL) (fun(d,h)=>cond (decide (d<(g.length:Int))) ((idx g d).bind λi=>(Ay (σ:=LI×Int) (ρ:=LI) (fun(e,a)=>cond (decide (a<(i.size:Int))) ((Bn i a).bind λl=>cond (l==49) ((AC e ([a]:LI)).bind λm=>some (.inl (m,(i64.wrap (a+1))))) (some (.inl (e,(i64.wrap (a+1)))))) (some (.inr e))) (([]:LI),0)).bind λn=>(AC h ([n]:LL)).bind λo=>some (.inl ((i64.wrap (d+1)),o))) (some (.inr h))) (0,([]:LL))).bind λf=>(D.o f).bind λp=>(cond (!p) (some true) ((D.Q f).bind λq=>some (!sEq q c))).bind λr=>cond r (some (([]:LL),false)) (some (f,true)))
def D.T (l:LI)(m n:Int)(o:ByteArray)(e:ByteArray):Option (ByteArray×LI×Int×Int):=
 (bytesD o).bind λp=>(D.b l m n 3).bind λf=>(Ay (σ:=LI×Int×LI×Int×Int) (ρ:=(LI×LI×Int×Int)) (fun(b,d,i,j,k)=>cond ((decide ((0:Int)<d))&&(decide ((0:Int)<(b.length:Int)))) ((D.b i j k (b.length:Int)).bind λc=>(D.b c.2.1 c.2.2.1 c.2.2.2 4).bind λa=>cond (a.1==0) ((D.b a.2.1 a.2.2.1 a.2.2.2 (e.size:Int)).bind λg=>(Bn e g.1).bind λr=>(idx b c.1).bind λam=>some (.inl ((b.set (Int.toNat c.1) r),(i64.wrap (d-1)),g.2.1,g.2.2.1,g.2.2.2))) (cond (a.1==1) ((Bh b 0 c.1).bind λs=>some (.inl (s,(i64.wrap (d-1)),a.2.1,a.2.2.1,a.2.2.2))) (cond (a.1==2) ((((Bh b 0 c.1).bind λt=>(Bh b (i64.wrap (c.1+1)) (b.length:Int)).bind λu=>(AC ([]:LI) t).bind λv=>(AC v u).bind λw=>some w:Option LI)).bind λx=>some (.inl (x,(i64.wrap (d-1)),a.2.1,a.2.2.1,a.2.2.2))) (cond (a.1==3) ((((Bh b 0 c.1).bind λy=>(Bh b c.1 (b.length:Int)).bind λz=>(AC ([]:LI) y).bind λaa=>(D.b a.2.1 a.2.2.1 a.2.2.2 (e.size:Int)).bind λh=>(Bn e h.1).bind λab=>(AC aa ([ab]:LI)).bind λac=>(AC ac z).bind λad=>some (ad,h.2.1,h.2.2.1,h.2.2.2):Option (LI×LI×Int×Int))).bind fun(ae,af,ag,ah)=>some (.inl (ae,(i64.wrap (d-1)),af,ag,ah))) (some (.inl (b,(i64.wrap (d-1)),a.2.1,a.2.2.1,a.2.2.2))))))) (some (.inr (b,i,j,k)))) (p,f.1,f.2.1,f.2.2.1,f.2.2.2)).bind fun(ai,aj,ak,al)=>some ((sOf ai),aj,ak,al)
def D.v0 (e:LI):Option (ByteArray):=
 (D.B e).bind λc=>(D.x c.1 c.2.1 c.2.2).bind λa=>(D.r a.1).bind λd=>(D.l a.2.1 a.2.2.1 a.2.2.2 2).bind λb=>cond b.1 (some d) ((D.T b.2.1 b.2.2.1 b.2.2.2 d (⟨#[48,49,50,51,58,45,32]⟩)).bind λf=>some f.1)
def D.f0 (e:LI):Option (ByteArray):=
 (D.B e).bind λc=>(D.x c.1 c.2.1 c.2.2).bind λa=>(D.y a.1).bind λd=>(D.l a.2.1 a.2.2.1 a.2.2.2 2).bind λb=>cond b.1 (some d) ((D.T b.2.1 b.2.2.1 b.2.2.2 d (⟨#[48,49,10]⟩)).bind λf=>some f.1)
def D.q0 (c:ByteArray):Option (LL×Bool):=
 cond (decide ((800:Int)<(c.size:Int))) (some (([]:LL),false)) ((D.s c 10).bind λd=>(Ay (σ:=Int×LL) (ρ:=LL) (fun(b,g)=>cond (decide (b<(i64.wrap ((d.length:Int)-1)))) ((Ay (σ:=LI×Int) (ρ:=LI) (fun(e,a)=>(idx d b).bind λj=>cond (decide (a<(j.size:Int))) ((idx d b).bind λk=>(Bn k a).bind λl=>cond (l==49) ((AC e ([a]:LI)).bind λm=>some (.inl (m,(i64.wrap (a+1))))) (some (.inl (e,(i64.wrap (a+1)))))) (some (.inr e))) (([]:LI),0)).bind λn=>(AC g ([n]:LL)).bind λo=>some (.inl ((i64.wrap (b+1)),o))) (some (.inr g))) (0,([]:LL))).bind λf=>(D.v f).bind λp=>(cond (!p) (some true) ((D.y f).bind λq=>some (!sEq q c))).bind λr=>cond r (some (([]:LL),false)) (some (f,true)))
def D.C0 (b:LI):Option (Bool):=
 (D.A0 b).bind λk=>cond k (some true) ((D.j0 b).bind λa=>(D.M a).bind λc=>(D.J a).bind λh=>(D.r a).bind λl=>(cond (!sEq c l) (some true) ((D.y a).bind λm=>some (!sEq h m))).bind λn=>cond n (some false) (((cond (!sEq c (⟨#[]⟩)) ((D.t c).bind λi=>(D.L h).bind λj=>(cond ((!i.2)||(!j.2)) (some true) ((D.U i.1 a).bind λo=>some (!o))).bind λp=>(cond p (some true) ((D.U j.1 a).bind λr=>some (!r))).bind λs=>cond s (some (.inr false)) (some (.inl ()))) (some (.inl ())):Option (Unit ⊕ Bool))).bind λq=>match q with| .inl _=>((D.v0 b).bind λd=>(D.t d).bind λe=>(D.N d).bind λt=>(D.f0 b).bind λf=>(D.L f).bind λg=>(D.q0 f).bind λu=>(cond (e.2==t.2) ((cond (!e.2) (some true) ((D.M e.1).bind λv=>some (sEq v d))).bind λw=>some w) (some false)).bind λx=>(cond (x&&(g.2==u.2)) ((cond (!g.2) (some true) ((D.J g.1).bind λy=>some (sEq y f))).bind λz=>some z) (some false)).bind λaa=>some aa)| .inr q=>(some q)))
end
end Go.Sx

namespace Go.Sx
end Go.Sx

namespace Go.Sx
end Go.Sx

namespace Go.Sx
end Go.Sx

namespace Go.Sx
end Go.Sx



namespace Go.Sx
end Go.Sx

namespace Go.Sx.Gs
class Srtd (α:Type) where
 dflt:α
 key:α→Int
 good:α→Prop
 cmp:α→α→Option Int
 law:∀x y,good x→good y→∃v,cmp x y=some v∧decide (v<0)=decide (key x<key y)
variable {α : Type} [Srtd α]
def el (l:List α)(i:Int):α:=l.getD i.toNat Srtd.dflt
def at' (l:List α)(i:Int):Int:=Srtd.key (el l i)
end Go.Sx.Gs

namespace Go.Sx.Gs
variable {α : Type} [Srtd α]
end Go.Sx.Gs

namespace Go.Sx.Gs
variable {α : Type} [Srtd α]
end Go.Sx.Gs

namespace Go.Sx.Gs
variable {α : Type} [Srtd α]
end Go.Sx.Gs

namespace Go.Sx
end Go.Sx

namespace Go.Sx.Gs
variable {α : Type} [Srtd α]
end Go.Sx.Gs

namespace Go.Sx.Gs
variable {α : Type} [Srtd α]
end Go.Sx.Gs

namespace Go.Sx.Gs
variable {α : Type} [Srtd α]
end Go.Sx.Gs

namespace Go.Sx
end Go.Sx

set_option maxRecDepth 100000
namespace Go.Proofs.YtgdadopbjdlddaaGreatDoor
open Go Go.Sx
open Go.Proofs.Tryz Go.Proofs.YtgdadopbjdlddaaGreatDoor.Tryz IntKind
variable {W w : World} {G : GH} {H : List Itm}
theorem Bi :prog.follows .mixedOrders=true:=by kernel_rfl
theorem Pl2 :BM prog 2:=isAgg2
theorem T40 :SlT prog 40 2 1 8 (iv 0):=⟨underlying40,Tryz.t2,by kernel_rfl,by kernel_rfl,by kernel_rfl,by kernel_rfl⟩
theorem Pl5 :BM prog 5:=isAgg5
theorem Wk.z0 {v0:Value}{x0:LI}{x1:Int}(m:Mem W G w (H))(h0:R1 G v0 x0){y:Int}(hd:D.z0 x0 x1=some y):
  Calls prog 67 #[v0,iv x1] w (Res W G H (λ_ Ho v=>Ho=[]∧v=(iv y))):=by
 refine Au (args:=[v0,iv x1]) (N:=19) [.tmp 4] func67 Z Z (lb Z) Z λa f=> ?_
 unfold D.z0 at hd
 refine Ae (Ac f Z λa f=>Aa (Ag (Ae (Ab f Z λa f=>A9 underlying40 f Z Z h0 λa f=>Ab f Z λa f=>Aa (Bd hd λaa ab hd=> ?_)))))
 refine AY (λa w=>∃q_19':Unit,aa= .inl q_19'∧∃(ac:GH),GLe G ac∧Fr a 19 []∧Mem W ac w (H)) ?_ ?_
 ·refine Aq (AP (λad a w=>∃ae:Int,ae=ad∧∃(af:GH),GLe G af∧Fr a 19 [(0,v0),(1,iv x1),(7,(iv (x0.length:Int))),(8,iv ae)]∧Mem W af w (H)) ab ⟨_,Z,_,gr,f.k Z,m⟩ ?_)
  clear ab f m
  rintro ad ag ah ai a w ⟨ae,rfl,af,aj,f,m⟩
  refine have h0:=rd1 aj h0;Ae (Ai f Z Z AN λa f=>Aa (Ag ?_))
  rcases Af ah with⟨ak,ah⟩|⟨ak,ah⟩
  ·refine Ak f Z ak (Ap (Ag (Aq (Ae (Ab f Z λa f=>Ac f Z λa f=>AA (Ab f Z λa f=>Ab f Z λa f=>Ab f Z λa f=>Bd ah λal am ah=>BA T40 f Z Z Z h0 am λan ao a ap aq f=> ?_))))))
   subst aq
   refine AU m Pl2 f Z Z ap λa f=>Ai f Z Z BD λa f=>Aa ?_
   rcases Af ah with⟨ar,ah⟩|⟨ar,ah⟩
   ·refine Ak f Z ar (Ae (Ab f Z λa f=>Ac f Z λa f=>Aa (Ar ?_)))
    obtain rfl:=sj ah
    obtain rfl:=ai _ rfl
    obtain rfl:=sj hd
    exact⟨[iv ae],f.g Z,f.d,_,[],aj,m,Z,Z⟩
   ·refine Ah f Z ar (Ap (Al (Ai f Z Z AD λa f=>Ab f Z λa f=>Aa ?_)))
    obtain rfl:=sj ah
    exact⟨_,Z,_,Z,_,aj,f.k Z,m⟩
  ·refine Ah f Z ak (AO Z ?_)
   obtain rfl:=sj ah
   obtain rfl:=ai _ rfl
   exact⟨_,Z,_,aj,f.weak trivial,m⟩
 ·rintro a w ⟨_,rfl,ac,au,f,m⟩
  refine Ae (Ac f Z λa f=>Aa (Ar ?_))
  obtain rfl:=sj hd
  exact⟨[(iv (-1))],f.g Z,f.d,_,[],au,m,Z,Z⟩
theorem Wk.X {v0:Value}{x0:LI}{x1:Int}(m:Mem W G w (H))(h0:R1 G v0 x0){y:Bool}(hd:D.X x0 x1=some y):
  Calls prog 44 #[v0,iv x1] w (Res W G H (λ_ Ho v=>Ho=[]∧v=(.bool y))):=by
 refine Au (args:=[v0,iv x1]) (N:=9) [.tmp 4] func44 Z Z (lb Z) Z λa f=> ?_
 unfold D.X at hd
 refine Ae (Ac f Z λa f=>AA (Ab f Z λa f=>Ab f Z λa f=>Bd hd λaa ab hd=>A7 f Z call67 (Wk.z0 m h0 ab) λac w ad m a f=>Ai f Z Z b_geq λa f=>Ac f Z λa f=>Aa (Ar ?_)))
 obtain rfl:=sj hd
 exact⟨[(.bool (decide ((0:Int)≤aa)))],f.g Z,f.d,_,[],ad,m,Z,Z⟩
theorem Wk.D0 {x0:Int}(hW:TxtW 2 3 1 W)(m:Mem W G w (H)){y:Int}(hd:D.D0 x0=some y):
  Calls prog 115 #[(.int .u32 x0)] w (Res W G H (λ_ Ho v=>Ho=[]∧v=(iv y))):=by
 refine Au (args:=[(.int .u32 x0)]) (N:=14) [.tmp 2] func115 Z Z (lb Z) Z λa f=> ?_
 unfold D.D0 at hd
 refine Ae (Ac f Z λa f=>Aa (Ag (Ae (Ab f Z λa f=>Ai f Z Z BD λa f=>Aa ?_))))
 rcases Af hd with⟨aa,hd⟩|⟨aa,hd⟩
 ·refine Ak f Z aa (Ae (Ac f Z λa f=>Aa (Ar ?_)))
  obtain rfl:=sj hd
  exact⟨[iv 32],f.g Z,f.d,_,[],gr,m,Z,Z⟩
 ·refine Ah f Z aa (Ap (Ae (Ab f Z λa f=>Ab f Z λa f=>l_o f (r_neg (f.e Z)) λa f=>Ai f Z Z b_and λa f=>Ai f Z Z b_mul λa f=>l_o f (r_shr (f.e Z) (f.e Z) (by decide)) λa f=>Bd hd λab ac hd=>l_tab6 hW m underlying142 sizeOf5 f Z Z ac λad a ae f=>AU m Pl5 f Z Z ae λa f=>l_o f (Dc (f.e Z) ⟨_,underlying5⟩ underlying3) λa f=>Ac f Z λa f=>Aa (Ar ?_))))
  obtain rfl:=sj hd
  exact⟨[(iv (i64.wrap ab))],f.g Z,f.d,_,[],gr,m,Z,Z⟩
theorem Wk.t0 {v0 v1:Value}{x0 x1:LI}(m:Mem W G w (H))(h0:R1 G v0 x0)(h1:R1 G v1 x1){y:Bool}(hd:D.t0 x0 x1=some y):
  Calls prog 33 #[v0,v1] w (Res W G H (λ_ Ho v=>Ho=[]∧v=(.bool y))):=by
 refine Au (args:=[v0,v1]) (N:=26) [.tmp 4] func33 Z Z (lb Z) Z λa f=> ?_
 unfold D.t0 at hd
 refine Ae (Ac f Z λa f=>Aa (Ag (Ae (Ab f Z λa f=>A9 underlying40 f Z Z h0 λa f=>Ab f Z λa f=>A9 underlying40 f Z Z h1 λa f=>Ai f Z Z CZ λa f=>Aa ?_))))
 rcases Af hd with⟨aa,hd⟩|⟨aa,hd⟩
 ·refine Ak f Z aa (Ae (Ac f Z λa f=>Aa (Ar ?_)))
  obtain rfl:=sj hd
  exact⟨[(.bool false)],f.g Z,f.d,_,[],gr,m,Z,Z⟩
 ·refine Ah f Z aa (Ap (Ag (Ae (Ab f Z λa f=>A9 underlying40 f Z Z h0 λa f=>Ab f Z λa f=>Aa (Bd hd λab ac hd=> ?_)))))
  refine AY (λa w=>∃q_36':Unit,ab= .inl q_36'∧∃(ad:GH),GLe G ad∧Fr a 26 []∧Mem W ad w (H)) ?_ ?_
  ·refine Aq (AP (λae a w=>∃af:Int,af=ae∧∃(ag:GH),GLe G ag∧Fr a 26 [(0,v0),(1,v1),(12,(iv (x0.length:Int))),(13,iv af)]∧Mem W ag w (H)) ac ⟨_,Z,_,gr,f.k Z,m⟩ ?_)
   clear ac f m
   rintro ae ah ai aj a w ⟨af,rfl,ag,ak,f,m⟩
   refine have h0:=rd1 ak h0;have h1:=rd1 ak h1;Ae (Ai f Z Z AN λa f=>Aa (Ag ?_))
   rcases Af ai with⟨al,ai⟩|⟨al,ai⟩
   ·refine Ak f Z al (Ap (Ag (Aq (Ae (Ab f Z λa f=>Ac f Z λa f=>Aa (Ag (BE 9 Bi (by kernel_rfl) m (AK 0 9 Z f Z λa f=>AK 1 9 Z f Z λa f=>Bd ai λam an ai=>B8 2 9 T40 h0 an Z f Z Z λao ap a aq ar f=> ?_))))))))
    subst ar
    refine Ca 3 9 Pl2 aq Z f Z λa f=>AK 4 9 Z f Z λa f=>AK 5 9 Z f Z λa f=>Bd ai λau av ai=>B8 6 9 T40 h1 av Z f Z Z λaw ax a ay az f=> ?_
    subst az
    refine Ca 7 9 Pl2 ay Z f Z λa f=>q_p 8 9 Z f (λ_=>BX (f.e Z) (f.e Z) CZ) λa f=>Bs λaA w aB m=>Aa ?_
    rcases Af ai with⟨aC,ai⟩|⟨aC,ai⟩
    ·refine Ak f Z aC (Ae (Ac f Z λa f=>Aa (Ar ?_)))
     obtain rfl:=sj ai
     obtain rfl:=aj _ rfl
     obtain rfl:=sj hd
     exact⟨[(.bool false)],f.g Z,f.d,_,[],(gt ak aB),m,Z,Z⟩
    ·refine Ah f Z aC (Ap (Al (Ai f Z Z AD λa f=>Ab f Z λa f=>Aa ?_)))
     obtain rfl:=sj ai
     exact⟨_,Z,_,Z,_,(gt ak aB),f.k Z,m⟩
   ·refine Ah f Z al (AO Z ?_)
    obtain rfl:=sj ai
    obtain rfl:=aj _ rfl
    exact⟨_,Z,_,ak,f.weak trivial,m⟩
  ·rintro a w ⟨_,rfl,ad,aD,f,m⟩
   refine Ae (Ac f Z λa f=>Aa (Ar ?_))
   obtain rfl:=sj hd
   exact⟨[(.bool true)],f.g Z,f.d,_,[],aD,m,Z,Z⟩
end Go.Proofs.YtgdadopbjdlddaaGreatDoor

namespace Go.Proofs
abbrev powName :String:=((YtgdadopbjdlddaaGreatDoor.Rows.fnGraphTextsRow.laid).map (fun z=>z.1)).getD 2 ""
open Go.Shelf
def Tryz.lays171_ren :Go.Shelf.Ren:=⟨fun|171=>46|243=>69|246=>70|283=>83|284=>84|285=>85|286=>86|129=>103|317=>102|318=>104|319=>105|320=>106|337=>115|338=>116|n=>n,fun|3=>3|9=>9|2=>2|4=>4|171=>99|0=>0|53=>100|37=>22|5=>5|173=>103|212=>121|51=>74|20=>20|213=>122|46=>96|232=>142|233=>143|n=>n,fun|17=>1|18=>6|19=>7|n=>n⟩
theorem Tryz.lays171 :Go.Proofs.Lays.n171 Tryz.prog Tryz.lays171_ren:={
 mixed:=by kernel_rfl
 f129:=Tryz.func103.trans (congrArg some (by kernel_rfl))
 f171:=Tryz.func46.trans (congrArg some (by kernel_rfl))
 f243:=Tryz.func69.trans (congrArg some (by kernel_rfl))
 f246:=Tryz.func70.trans (congrArg some (by kernel_rfl))
 f283:=Tryz.func83.trans (congrArg some (by kernel_rfl))
 f284:=Tryz.func84.trans (congrArg some (by kernel_rfl))
 f285:=Tryz.func85.trans (congrArg some (by kernel_rfl))
 f286:=Tryz.func86.trans (congrArg some (by kernel_rfl))
 f317:=Tryz.func102.trans (congrArg some (by kernel_rfl))
 f318:=Tryz.func104.trans (congrArg some (by kernel_rfl))
 f319:=Tryz.func105.trans (congrArg some (by kernel_rfl))
 f320:=Tryz.func106.trans (congrArg some (by kernel_rfl))
 f337:=Tryz.func115.trans (congrArg some (by kernel_rfl))
 f338:=Tryz.func116.trans (congrArg some (by kernel_rfl))
 t0:=Tryz.underlying0
 a0:=Tryz.isAgg0
 z0:=Tryz.sizeOf0
 v0:=Tryz.zeroValue0
 t2:=Tryz.underlying2
 a2:=Tryz.isAgg2
 z2:=Tryz.sizeOf2
 v2:=Tryz.zeroValue2
 t3:=Tryz.underlying3
 a3:=Tryz.isAgg3
 z3:=Tryz.sizeOf3
 v3:=Tryz.zeroValue3
 t4:=Tryz.underlying4
 a4:=Tryz.isAgg4
 z4:=Tryz.sizeOf4
 v4:=Tryz.zeroValue4
 t5:=Tryz.underlying5
 a5:=Tryz.isAgg5
 z5:=Tryz.sizeOf5
 v5:=Tryz.zeroValue5
 t9:=Tryz.underlying9
 a9:=Tryz.isAgg9
 z9:=Tryz.sizeOf9
 v9:=Tryz.zeroValue9
 t20:=Tryz.underlying20
 a20:=Tryz.isAgg20
 z20:=Tryz.sizeOf20
 v20:=Tryz.zeroValue20
 t37:=Tryz.underlying22
 a37:=Tryz.isAgg22
 z37:=Tryz.sizeOf22
 v37:=Tryz.zeroValue22
 t46:=Tryz.underlying96
 a46:=Tryz.isAgg96
 z46:=Tryz.sizeOf96
 v46:=Tryz.zeroValue96
 t51:=Tryz.underlying74
 a51:=Tryz.isAgg74
 z51:=Tryz.sizeOf74
 v51:=Tryz.zeroValue74
 t53:=Tryz.underlying100
 a53:=Tryz.isAgg100
 z53:=Tryz.sizeOf100
 v53:=Tryz.zeroValue100
 t171:=Tryz.underlying99
 a171:=Tryz.isAgg99
 z171:=Tryz.sizeOf99
 v171:=Tryz.zeroValue99
 t173:=Tryz.underlying103
 a173:=Tryz.isAgg103
 z173:=Tryz.sizeOf103
 v173:=Tryz.zeroValue103
 t212:=Tryz.underlying121
 a212:=Tryz.isAgg121
 z212:=Tryz.sizeOf121
 v212:=Tryz.zeroValue121
 t213:=Tryz.underlying122
 a213:=Tryz.isAgg122
 z213:=Tryz.sizeOf122
 t232:=Tryz.underlying142
 a232:=Tryz.isAgg142
 z232:=Tryz.sizeOf142
 v232:=Tryz.zeroValue142
 t233:=Tryz.underlying143
 a233:=Tryz.isAgg143
 z233:=Tryz.sizeOf143
 v233:=Tryz.zeroValue143
 g17:=by kernel_rfl
 g18:=by kernel_rfl
 g19:=by kernel_rfl}
open Go.RowKit Go.Sort Go.Lib in
theorem Tryz.strconv_Itoa_small (i:Nat)(hi:i<100)(w:World):
  Calls Tryz.prog 46 #[.int .i64 i] w λe w'=>e= .returned (.string ⟨(Lib.decDigits i).toArray⟩)∧w'=w:=Any.strconv_Itoa_small Tryz.lays171 i hi w
def Tryz.laysM173_ren :Go.Shelf.Ren:=⟨fun|173=>48|246=>70|283=>83|284=>84|285=>85|286=>86|129=>103|317=>102|318=>104|319=>105|320=>106|337=>115|338=>116|n=>n,fun|2=>2|3=>3|9=>9|4=>4|171=>99|0=>0|53=>100|37=>22|5=>5|173=>103|212=>121|51=>74|20=>20|213=>122|46=>96|232=>142|233=>143|n=>n,fun|17=>1|18=>6|19=>7|n=>n⟩
theorem Tryz.laysM173 :Go.Proofs.LaysM.n173 Tryz.prog Tryz.laysM173_ren:={
 mixed:=by kernel_rfl
 f129:=Tryz.func103.trans (congrArg some (by kernel_rfl))
 f173:=Tryz.func48.trans (congrArg some (by kernel_rfl))
 f246:=Tryz.func70.trans (congrArg some (by kernel_rfl))
 f283:=Tryz.func83.trans (congrArg some (by kernel_rfl))
 f284:=Tryz.func84.trans (congrArg some (by kernel_rfl))
 f285:=Tryz.func85.trans (congrArg some (by kernel_rfl))
 f286:=Tryz.func86.trans (congrArg some (by kernel_rfl))
 f317:=Tryz.func102.trans (congrArg some (by kernel_rfl))
 f318:=Tryz.func104.trans (congrArg some (by kernel_rfl))
 f319:=Tryz.func105.trans (congrArg some (by kernel_rfl))
 f320:=Tryz.func106.trans (congrArg some (by kernel_rfl))
 f337:=Tryz.func115.trans (congrArg some (by kernel_rfl))
 f338:=Tryz.func116.trans (congrArg some (by kernel_rfl))
 t0:=Tryz.underlying0
 a0:=Tryz.isAgg0
 z0:=Tryz.sizeOf0
 v0:=Tryz.zeroValue0
 t2:=Tryz.underlying2
 a2:=Tryz.isAgg2
 z2:=Tryz.sizeOf2
 v2:=Tryz.zeroValue2
 t3:=Tryz.underlying3
 a3:=Tryz.isAgg3
 z3:=Tryz.sizeOf3
 v3:=Tryz.zeroValue3
 t4:=Tryz.underlying4
 a4:=Tryz.isAgg4
 z4:=Tryz.sizeOf4
 v4:=Tryz.zeroValue4
 t5:=Tryz.underlying5
 a5:=Tryz.isAgg5
 z5:=Tryz.sizeOf5
 v5:=Tryz.zeroValue5
 t9:=Tryz.underlying9
 a9:=Tryz.isAgg9
 z9:=Tryz.sizeOf9
 v9:=Tryz.zeroValue9
 t20:=Tryz.underlying20
 a20:=Tryz.isAgg20
 z20:=Tryz.sizeOf20
 v20:=Tryz.zeroValue20
 t37:=Tryz.underlying22
 a37:=Tryz.isAgg22
 z37:=Tryz.sizeOf22
 v37:=Tryz.zeroValue22
 t46:=Tryz.underlying96
 a46:=Tryz.isAgg96
 z46:=Tryz.sizeOf96
 v46:=Tryz.zeroValue96
 t51:=Tryz.underlying74
 a51:=Tryz.isAgg74
 z51:=Tryz.sizeOf74
 v51:=Tryz.zeroValue74
 t53:=Tryz.underlying100
 a53:=Tryz.isAgg100
 z53:=Tryz.sizeOf100
 v53:=Tryz.zeroValue100
 t171:=Tryz.underlying99
 a171:=Tryz.isAgg99
 z171:=Tryz.sizeOf99
 v171:=Tryz.zeroValue99
 t173:=Tryz.underlying103
 a173:=Tryz.isAgg103
 z173:=Tryz.sizeOf103
 v173:=Tryz.zeroValue103
 t212:=Tryz.underlying121
 a212:=Tryz.isAgg121
 z212:=Tryz.sizeOf121
 v212:=Tryz.zeroValue121
 t213:=Tryz.underlying122
 a213:=Tryz.isAgg122
 z213:=Tryz.sizeOf122
 t232:=Tryz.underlying142
 a232:=Tryz.isAgg142
 z232:=Tryz.sizeOf142
 v232:=Tryz.zeroValue142
 t233:=Tryz.underlying143
 a233:=Tryz.isAgg143
 z233:=Tryz.sizeOf143
 v233:=Tryz.zeroValue143
 g17:=by kernel_rfl
 g18:=by kernel_rfl
 g19:=by kernel_rfl
 i0:=by kernel_rfl
 i2:=by kernel_rfl
 i3:=by kernel_rfl
 i4:=by kernel_rfl
 i5:=by kernel_rfl
 i9:=by kernel_rfl
 i20:=by kernel_rfl
 i37:=by kernel_rfl
 i46:=by kernel_rfl
 i51:=by kernel_rfl
 i53:=by kernel_rfl
 i171:=by kernel_rfl
 i173:=by kernel_rfl
 i212:=by kernel_rfl
 i232:=by kernel_rfl
 i233:=by kernel_rfl
 m17:=by kernel_rfl
 m18:=by kernel_rfl
 m19:=by kernel_rfl}
open Go.RowKit Go.Sort Go.Lib in
theorem Tryz.strconv_FormatInt_10 (n:Int)(h0: -9223372036854775808≤n)(h1:n≤9223372036854775807)(w:World)(htab:Lib.TabIs Tryz.prog w powName .u64 Lib.pow10Tab):
  Calls Tryz.prog 48 #[.int .i64 n,.int .i64 10] w λe w'=>e= .returned (.string ⟨(Lib.itoa n).toArray⟩)∧∃k os,w'=grow (w.drewN k) os:=Any.strconv_FormatInt_10 Tryz.laysM173 n h0 h1 w htab
def Tryz.laysC174_ren :Go.Shelf.Ren:=⟨fun|174=>55|247=>73|245=>74|287=>91|279=>92|280=>93|281=>94|282=>95|321=>109|322=>110|316=>111|171=>46|205=>112|243=>69|246=>70|283=>83|284=>84|285=>85|286=>86|129=>103|317=>102|318=>104|319=>105|320=>106|337=>115|338=>116|n=>n,fun|9=>9|3=>3|2=>2|75=>65|85=>77|4=>4|167=>107|5=>5|53=>100|175=>108|46=>96|168=>110|37=>22|0=>0|210=>131|21=>21|127=>88|145=>137|143=>135|171=>99|173=>103|212=>121|51=>74|20=>20|213=>122|232=>142|233=>143|80=>70|n=>n,fun|15=>2|16=>3|17=>1|18=>6|19=>7|n=>n⟩
theorem Tryz.laysC174 :Go.Proofs.LaysC.n174 Tryz.prog Tryz.laysC174_ren:={
 mixed:=by kernel_rfl
 f129:=Tryz.func103.trans (congrArg some (by kernel_rfl))
 f171:=Tryz.func46.trans (congrArg some (by kernel_rfl))
 f174:=Tryz.func55.trans (congrArg some (by kernel_rfl))
 f205:=Tryz.func112.trans (congrArg some (by kernel_rfl))
 f243:=Tryz.func69.trans (congrArg some (by kernel_rfl))
 f245:=Tryz.func74.trans (congrArg some (by kernel_rfl))
 f246:=Tryz.func70.trans (congrArg some (by kernel_rfl))
 f247:=Tryz.func73.trans (congrArg some (by kernel_rfl))
 f279:=Tryz.func92.trans (congrArg some (by kernel_rfl))
 f280:=Tryz.func93.trans (congrArg some (by kernel_rfl))
 f281:=Tryz.func94.trans (congrArg some (by kernel_rfl))
 f282:=Tryz.func95.trans (congrArg some (by kernel_rfl))
 f283:=Tryz.func83.trans (congrArg some (by kernel_rfl))
 f284:=Tryz.func84.trans (congrArg some (by kernel_rfl))
 f285:=Tryz.func85.trans (congrArg some (by kernel_rfl))
 f286:=Tryz.func86.trans (congrArg some (by kernel_rfl))
 f287:=Tryz.func91.trans (congrArg some (by kernel_rfl))
 f316:=Tryz.func111.trans (congrArg some (by kernel_rfl))
 f317:=Tryz.func102.trans (congrArg some (by kernel_rfl))
 f318:=Tryz.func104.trans (congrArg some (by kernel_rfl))
 f319:=Tryz.func105.trans (congrArg some (by kernel_rfl))
 f320:=Tryz.func106.trans (congrArg some (by kernel_rfl))
 f321:=Tryz.func109.trans (congrArg some (by kernel_rfl))
 f322:=Tryz.func110.trans (congrArg some (by kernel_rfl))
 f337:=Tryz.func115.trans (congrArg some (by kernel_rfl))
 f338:=Tryz.func116.trans (congrArg some (by kernel_rfl))
 t0:=Tryz.underlying0
 a0:=Tryz.isAgg0
 z0:=Tryz.sizeOf0
 v0:=Tryz.zeroValue0
 t2:=Tryz.underlying2
 a2:=Tryz.isAgg2
 z2:=Tryz.sizeOf2
 v2:=Tryz.zeroValue2
 t3:=Tryz.underlying3
 a3:=Tryz.isAgg3
 z3:=Tryz.sizeOf3
 v3:=Tryz.zeroValue3
 t4:=Tryz.underlying4
 a4:=Tryz.isAgg4
 z4:=Tryz.sizeOf4
 v4:=Tryz.zeroValue4
 t5:=Tryz.underlying5
 a5:=Tryz.isAgg5
 z5:=Tryz.sizeOf5
 v5:=Tryz.zeroValue5
 t9:=Tryz.underlying9
 a9:=Tryz.isAgg9
 z9:=Tryz.sizeOf9
 v9:=Tryz.zeroValue9
 t20:=Tryz.underlying20
 a20:=Tryz.isAgg20
 z20:=Tryz.sizeOf20
 v20:=Tryz.zeroValue20
 t21:=Tryz.underlying21
 a21:=Tryz.isAgg21
 z21:=Tryz.sizeOf21
 v21:=Tryz.zeroValue21
 t37:=Tryz.underlying22
 a37:=Tryz.isAgg22
 z37:=Tryz.sizeOf22
 v37:=Tryz.zeroValue22
 t46:=Tryz.underlying96
 a46:=Tryz.isAgg96
 z46:=Tryz.sizeOf96
 v46:=Tryz.zeroValue96
 t51:=Tryz.underlying74
 a51:=Tryz.isAgg74
 z51:=Tryz.sizeOf74
 v51:=Tryz.zeroValue74
 t53:=Tryz.underlying100
 a53:=Tryz.isAgg100
 z53:=Tryz.sizeOf100
 v53:=Tryz.zeroValue100
 t75:=Tryz.underlying65
 a75:=Tryz.isAgg65
 z75:=Tryz.sizeOf65
 v75:=Tryz.zeroValue65
 t85:=Tryz.underlying77
 a85:=Tryz.isAgg77
 z85:=Tryz.sizeOf77
 v85:=Tryz.zeroValue77
 t127:=Tryz.underlying88
 a127:=Tryz.isAgg88
 z127:=Tryz.sizeOf88
 v127:=Tryz.zeroValue88
 t143:=Tryz.underlying135
 a143:=Tryz.isAgg135
 z143:=Tryz.sizeOf135
 v143:=Tryz.zeroValue135
 t145:=Tryz.underlying137
 a145:=Tryz.isAgg137
 z145:=Tryz.sizeOf137
 v145:=Tryz.zeroValue137
 t167:=Tryz.underlying107
 a167:=Tryz.isAgg107
 z167:=Tryz.sizeOf107
 v167:=Tryz.zeroValue107
 t168:=Tryz.underlying110
 a168:=Tryz.isAgg110
 z168:=Tryz.sizeOf110
 v168:=Tryz.zeroValue110
 t171:=Tryz.underlying99
 a171:=Tryz.isAgg99
 z171:=Tryz.sizeOf99
 v171:=Tryz.zeroValue99
 t173:=Tryz.underlying103
 a173:=Tryz.isAgg103
 z173:=Tryz.sizeOf103
 v173:=Tryz.zeroValue103
 t175:=Tryz.underlying108
 a175:=Tryz.isAgg108
 z175:=Tryz.sizeOf108
 v175:=Tryz.zeroValue108
 t210:=Tryz.underlying131
 a210:=Tryz.isAgg131
 z210:=Tryz.sizeOf131
 v210:=Tryz.zeroValue131
 t212:=Tryz.underlying121
 a212:=Tryz.isAgg121
 z212:=Tryz.sizeOf121
 v212:=Tryz.zeroValue121
 t213:=Tryz.underlying122
 a213:=Tryz.isAgg122
 z213:=Tryz.sizeOf122
 t232:=Tryz.underlying142
 a232:=Tryz.isAgg142
 z232:=Tryz.sizeOf142
 v232:=Tryz.zeroValue142
 t233:=Tryz.underlying143
 a233:=Tryz.isAgg143
 z233:=Tryz.sizeOf143
 v233:=Tryz.zeroValue143
 g15:=by kernel_rfl
 g16:=by kernel_rfl
 g17:=by kernel_rfl
 g18:=by kernel_rfl
 g19:=by kernel_rfl
 t80:=Tryz.underlying70
 a80:=Tryz.isAgg70
 z80:=Tryz.sizeOf70
 v80:=Tryz.zeroValue70
 i0:=by kernel_rfl
 i2:=by kernel_rfl
 i3:=by kernel_rfl
 i4:=by kernel_rfl
 i5:=by kernel_rfl
 i9:=by kernel_rfl
 i20:=by kernel_rfl
 i21:=by kernel_rfl
 i37:=by kernel_rfl
 i46:=by kernel_rfl
 i51:=by kernel_rfl
 i53:=by kernel_rfl
 i75:=by kernel_rfl
 i80:=by kernel_rfl
 i85:=by kernel_rfl
 i127:=by kernel_rfl
 i143:=by kernel_rfl
 i145:=by kernel_rfl
 i167:=by kernel_rfl
 i168:=by kernel_rfl
 i171:=by kernel_rfl
 i173:=by kernel_rfl
 i175:=by kernel_rfl
 i210:=by kernel_rfl
 i212:=by kernel_rfl
 i232:=by kernel_rfl
 i233:=by kernel_rfl
 m15:=by kernel_rfl
 m16:=by kernel_rfl
 m17:=by kernel_rfl
 m18:=by kernel_rfl
 m19:=by kernel_rfl
 c0:=by kernel_rfl
 c2:=by kernel_rfl
 c3:=by kernel_rfl
 c4:=by kernel_rfl
 c5:=by kernel_rfl
 c9:=by kernel_rfl
 c20:=by kernel_rfl
 c21:=by kernel_rfl
 c37:=by kernel_rfl
 c46:=by kernel_rfl
 c51:=by kernel_rfl
 c53:=by kernel_rfl
 c75:=by kernel_rfl
 c80:=by kernel_rfl
 c85:=by kernel_rfl
 c127:=by kernel_rfl
 c143:=by kernel_rfl
 c145:=by kernel_rfl
 c167:=by kernel_rfl
 c168:=by kernel_rfl
 c171:=by kernel_rfl
 c173:=by kernel_rfl
 c175:=by kernel_rfl
 c210:=by kernel_rfl
 c212:=by kernel_rfl
 c213:=by kernel_rfl
 c232:=by kernel_rfl
 c233:=by kernel_rfl}
open Go.RowKit in
theorem Tryz.strconv_ParseInt_10_at64_ok (s:ByteArray)(hmax:s.size≤9223372036854775806)(v:Int)(h:Lib.parseIntB 64 s.data.toList= .ok v)(w:World):
  Calls Tryz.prog 55 #[.string s,.int .i64 10,.int .i64 64] w λe w'=>e= .returned (.tuple #[.int .i64 v,.nilIface])∧(w'=w∨∃t,w'=Lib.bytesWorld w 5 t):=Any.strconv_ParseInt_10_at64_ok Tryz.laysC174 s hmax v h w
open Go.RowKit in
theorem Tryz.strconv_ParseInt_10_at64_syntax (s:ByteArray)(hlim:s.size≤281474976710656)(h:Lib.parseIntB 64 s.data.toList= .«syntax»)(ev:Value)(w:World)(hv:w.cell? ⟨2,0,none⟩=some ev)(hev:ev= .nilIface∨∃te pe,ev= .iface te pe):
  Calls Tryz.prog 55 #[.string s,.int .i64 10,.int .i64 64] w λe w'=>∃N,e= .returned (.tuple #[.int .i64 (0),.iface 110 (.pointer (some ⟨N,0,none⟩))])∧w.heap.size≤N∧w'.heap[N]? =some (.cells #[.string ⟨#[80,97,114,115,101,73,110,116]⟩,.string s,ev] 131 (0,0))∧Below w.heap.size w w':=Any.strconv_ParseInt_10_at64_syntax Tryz.laysC174 s hlim h ev w hv hev
open Go.RowKit in
theorem Tryz.strconv_ParseInt_10_at64_range (s:ByteArray)(hlim:s.size≤281474976710656)(h:Lib.parseIntB 64 s.data.toList= .range)(ev:Value)(w:World)(hv:w.cell? ⟨3,0,none⟩=some ev)(hev:ev= .nilIface∨∃te pe,ev= .iface te pe):
  Calls Tryz.prog 55 #[.string s,.int .i64 10,.int .i64 64] w λe w'=>∃N,e= .returned (.tuple #[.int .i64 (Lib.intSat 64 s.data.toList),.iface 110 (.pointer (some ⟨N,0,none⟩))])∧w.heap.size≤N∧w'.heap[N]? =some (.cells #[.string ⟨#[80,97,114,115,101,73,110,116]⟩,.string s,ev] 131 (0,0))∧Below w.heap.size w w':=Any.strconv_ParseInt_10_at64_range Tryz.laysC174 s hlim h ev w hv hev
def Tryz.lays145_ren :Go.Shelf.Ren:=⟨fun|145=>28|220=>54|219=>72|217=>87|225=>88|224=>89|267=>90|266=>107|314=>108|n=>n,fun|9=>9|4=>4|59=>43|3=>3|5=>5|46=>96|146=>125|51=>74|n=>n,fun|1=>0|n=>n⟩
theorem Tryz.lays145 :Go.Proofs.Lays.n145 Tryz.prog Tryz.lays145_ren:={
 mixed:=by kernel_rfl
 f145:=Tryz.func28.trans (congrArg some (by kernel_rfl))
 f217:=Tryz.func87.trans (congrArg some (by kernel_rfl))
 f219:=Tryz.func72.trans (congrArg some (by kernel_rfl))
 f220:=Tryz.func54.trans (congrArg some (by kernel_rfl))
 f224:=Tryz.func89.trans (congrArg some (by kernel_rfl))
 f225:=Tryz.func88.trans (congrArg some (by kernel_rfl))
 f266:=Tryz.func107.trans (congrArg some (by kernel_rfl))
 f267:=Tryz.func90.trans (congrArg some (by kernel_rfl))
 f314:=Tryz.func108.trans (congrArg some (by kernel_rfl))
 t3:=Tryz.underlying3
 a3:=Tryz.isAgg3
 z3:=Tryz.sizeOf3
 v3:=Tryz.zeroValue3
 t4:=Tryz.underlying4
 a4:=Tryz.isAgg4
 z4:=Tryz.sizeOf4
 v4:=Tryz.zeroValue4
 t5:=Tryz.underlying5
 a5:=Tryz.isAgg5
 z5:=Tryz.sizeOf5
 v5:=Tryz.zeroValue5
 t9:=Tryz.underlying9
 a9:=Tryz.isAgg9
 z9:=Tryz.sizeOf9
 v9:=Tryz.zeroValue9
 t46:=Tryz.underlying96
 a46:=Tryz.isAgg96
 z46:=Tryz.sizeOf96
 v46:=Tryz.zeroValue96
 t51:=Tryz.underlying74
 a51:=Tryz.isAgg74
 z51:=Tryz.sizeOf74
 v51:=Tryz.zeroValue74
 t59:=Tryz.underlying43
 a59:=Tryz.isAgg43
 z59:=Tryz.sizeOf43
 v59:=Tryz.zeroValue43
 t146:=Tryz.underlying125
 a146:=Tryz.isAgg125
 z146:=Tryz.sizeOf125
 v146:=Tryz.zeroValue125
 g1:=by kernel_rfl}
open Go.RowKit Go.Lib in
theorem Tryz.strings_Cut (s sep:ByteArray)(m:Int)(w:World)(hs:s.size<4294967281)(hm:w.cell? ⟨0,0,none⟩=some (.int .i64 m)):
  Calls Tryz.prog 28 #[.string s,.string sep] w λe w'=>e= .returned (.tuple #[.string ⟨(Lib.cut s.data.toList sep.data.toList).1.toArray⟩,.string ⟨(Lib.cut s.data.toList sep.data.toList).2.1.toArray⟩,.bool (Lib.cut s.data.toList sep.data.toList).2.2])∧∃n,w'=w.drewN n:=Any.strings_Cut Tryz.lays145 s sep m w hs hm
def Tryz.lays146_ren :Go.Shelf.Ren:=⟨fun|146=>30|221=>56|268=>75|138=>76|143=>77|195=>96|197=>97|218=>98|219=>72|260=>113|217=>87|225=>88|224=>89|267=>90|266=>107|314=>108|n=>n,fun|9=>9|31=>47|3=>3|4=>4|0=>0|105=>114|21=>21|5=>5|46=>96|119=>138|139=>141|138=>140|146=>125|51=>74|n=>n,fun|1=>0|3=>4|4=>5|n=>n⟩
theorem Tryz.lays146 :Go.Proofs.Lays.n146 Tryz.prog Tryz.lays146_ren:={
 mixed:=by kernel_rfl
 f138:=Tryz.func76.trans (congrArg some (by kernel_rfl))
 f143:=Tryz.func77.trans (congrArg some (by kernel_rfl))
 f146:=Tryz.func30.trans (congrArg some (by kernel_rfl))
 f195:=Tryz.func96.trans (congrArg some (by kernel_rfl))
 f197:=Tryz.func97.trans (congrArg some (by kernel_rfl))
 f217:=Tryz.func87.trans (congrArg some (by kernel_rfl))
 f218:=Tryz.func98.trans (congrArg some (by kernel_rfl))
 f219:=Tryz.func72.trans (congrArg some (by kernel_rfl))
 f221:=Tryz.func56.trans (congrArg some (by kernel_rfl))
 f224:=Tryz.func89.trans (congrArg some (by kernel_rfl))
 f225:=Tryz.func88.trans (congrArg some (by kernel_rfl))
 f260:=Tryz.func113.trans (congrArg some (by kernel_rfl))
 f266:=Tryz.func107.trans (congrArg some (by kernel_rfl))
 f267:=Tryz.func90.trans (congrArg some (by kernel_rfl))
 f268:=Tryz.func75.trans (congrArg some (by kernel_rfl))
 f314:=Tryz.func108.trans (congrArg some (by kernel_rfl))
 t0:=Tryz.underlying0
 a0:=Tryz.isAgg0
 z0:=Tryz.sizeOf0
 v0:=Tryz.zeroValue0
 t3:=Tryz.underlying3
 a3:=Tryz.isAgg3
 z3:=Tryz.sizeOf3
 v3:=Tryz.zeroValue3
 t4:=Tryz.underlying4
 a4:=Tryz.isAgg4
 z4:=Tryz.sizeOf4
 v4:=Tryz.zeroValue4
 t5:=Tryz.underlying5
 a5:=Tryz.isAgg5
 z5:=Tryz.sizeOf5
 v5:=Tryz.zeroValue5
 t9:=Tryz.underlying9
 a9:=Tryz.isAgg9
 z9:=Tryz.sizeOf9
 v9:=Tryz.zeroValue9
 t21:=Tryz.underlying21
 a21:=Tryz.isAgg21
 z21:=Tryz.sizeOf21
 v21:=Tryz.zeroValue21
 t31:=Tryz.underlying47
 a31:=Tryz.isAgg47
 z31:=Tryz.sizeOf47
 v31:=Tryz.zeroValue47
 t46:=Tryz.underlying96
 a46:=Tryz.isAgg96
 z46:=Tryz.sizeOf96
 v46:=Tryz.zeroValue96
 t51:=Tryz.underlying74
 a51:=Tryz.isAgg74
 z51:=Tryz.sizeOf74
 v51:=Tryz.zeroValue74
 t105:=Tryz.underlying114
 a105:=Tryz.isAgg114
 z105:=Tryz.sizeOf114
 v105:=Tryz.zeroValue114
 t119:=Tryz.underlying138
 a119:=Tryz.isAgg138
 z119:=Tryz.sizeOf138
 t138:=Tryz.underlying140
 a138:=Tryz.isAgg140
 z138:=Tryz.sizeOf140
 v138:=Tryz.zeroValue140
 t139:=Tryz.underlying141
 a139:=Tryz.isAgg141
 z139:=Tryz.sizeOf141
 v139:=Tryz.zeroValue141
 t146:=Tryz.underlying125
 a146:=Tryz.isAgg125
 z146:=Tryz.sizeOf125
 v146:=Tryz.zeroValue125
 g1:=by kernel_rfl
 g3:=by kernel_rfl
 g4:=by kernel_rfl}
open Go.RowKit Go.Lib in
theorem Tryz.strings_Split (s sep:ByteArray)(m:Int)(w:World)(hs:s.size<4294967281)(hm:w.cell? ⟨0,0,none⟩=some (.int .i64 m))(h1:1≤sep.size):
  Calls Tryz.prog 30 #[.string s,.string sep] w λe w'=>
   e= .returned (.slice (some ⟨w.heap.size,0,none⟩) (Lib.countB s sep+1) (Lib.countB s sep+1))∧w'=w.alloc (.cells ((Lib.splitB sep 0 (Lib.countB s sep) s).map Value.string).toArray 9):=Any.strings_Split Tryz.lays146 (by kernel_rfl) s sep m w hs hm h1
def Tryz.lays166_ren :Go.Shelf.Ren:=⟨fun|166=>45|240=>68|276=>82|n=>n,fun|0=>0|3=>3|4=>4|5=>5|9=>9|20=>20|37=>22|70=>61|72=>63|75=>65|80=>70|164=>97|n=>n,fun|n=>n⟩
theorem Tryz.lays166 :Go.Proofs.Lays.n166 Tryz.prog Tryz.lays166_ren:={
 mixed:=by kernel_rfl
 f166:=Tryz.func45.trans (congrArg some (by kernel_rfl))
 f240:=Tryz.func68.trans (congrArg some (by kernel_rfl))
 f276:=Tryz.func82.trans (congrArg some (by kernel_rfl))
 t0:=Tryz.underlying0
 a0:=Tryz.isAgg0
 z0:=Tryz.sizeOf0
 v0:=Tryz.zeroValue0
 t3:=Tryz.underlying3
 a3:=Tryz.isAgg3
 z3:=Tryz.sizeOf3
 v3:=Tryz.zeroValue3
 t4:=Tryz.underlying4
 a4:=Tryz.isAgg4
 z4:=Tryz.sizeOf4
 v4:=Tryz.zeroValue4
 t9:=Tryz.underlying9
 a9:=Tryz.isAgg9
 z9:=Tryz.sizeOf9
 v9:=Tryz.zeroValue9
 t20:=Tryz.underlying20
 a20:=Tryz.isAgg20
 z20:=Tryz.sizeOf20
 v20:=Tryz.zeroValue20
 t37:=Tryz.underlying22
 a37:=Tryz.isAgg22
 z37:=Tryz.sizeOf22
 v37:=Tryz.zeroValue22
 t70:=Tryz.underlying61
 a70:=Tryz.isAgg61
 z70:=Tryz.sizeOf61
 v70:=Tryz.zeroValue61
 t72:=Tryz.underlying63
 a72:=Tryz.isAgg63
 z72:=Tryz.sizeOf63
 v72:=Tryz.zeroValue63
 t75:=Tryz.underlying65
 a75:=Tryz.isAgg65
 z75:=Tryz.sizeOf65
 v75:=Tryz.zeroValue65
 t164:=Tryz.underlying97
 a164:=Tryz.isAgg97
 z164:=Tryz.sizeOf97
 v164:=Tryz.zeroValue97}
theorem Tryz.Builder_Extra_166 :Builder.Extra Tryz.prog Tryz.lays166_ren:={
 sizeBuilder:=by kernel_rfl
 liesBuilder:=by kernel_rfl
 t5:=Tryz.underlying5
 a5:=Tryz.isAgg5
 z5:=Tryz.sizeOf5
 v5:=Tryz.zeroValue5
 infoByte:=by kernel_rfl
 cellsByte:=by kernel_rfl
 sizeByte:=by kernel_rfl
 neB5:=by decide}
end Go.Proofs

namespace Go.Sx
def OwB {α:Type}(R:Rep α)(t:TypeId)(G:GH)(it:Itm)(v:Value)(xs:List α):Prop:=
 Ow R t G it v xs∨∃(g:Nat) (vs post:List Value),it= .obj g (.cells (vs++post).toArray t (vs.length+post.length,vs.length+post.length+1))∧v= .slice (some ⟨g,0,none⟩) xs.length (vs.length+post.length)∧vs.length+post.length≤maxLen∧All2 (R G) vs xs
theorem OwB.mono {α:Type}{R:Rep α}(hR:Ct R){t:TypeId}{G G':GH}{it:Itm}{v:Value}{xs:List α}(hG:GLe G G')(h:OwB R t G it v xs):OwB R t G' it v xs:=by
 rcases h with h|⟨g,vs,post,h1,h2,h3,h4⟩
 ·exact .inl (Ow.mono hR hG h)
 ·exact .inr ⟨g,vs,post,h1,h2,h3,h4.mono (λv x=>hR G G' v x hG)⟩
theorem OwB.of {α:Type}{R:Rep α}{t:TypeId}{G:GH}{it:Itm}{v:Value}{xs:List α}(h:Ow R t G it v xs):OwB R t G it v xs:= .inl h
section
variable {P : Program} {ops : Array Oper} {rest : List Oper} {n r : A5} {x : List (Nat × A5)} {a : Act} {w W : World} {N : Nat} {L : A6} {d : Nat} {t : TypeId} {pos : String} {af : Array Edge} {G : GH} {H : List Itm}
variable {α : Type} {R : Rep α}
theorem OwB.stamp (hR:Ct R){t:TypeId}{it:Itm}{v:Value}{xs:List α}(h:OwB R t G it v xs)(m:Mem W G w (it::H)):∃G',GLe G G'∧Mem W G' w H∧RSl R G' v xs:=by
 rcases h with h|⟨g,vs,post,rfl,rfl,hm,hA⟩
 ·exact Ow.stamp hR h m
 ·obtain⟨G',h1,h2,h3,_⟩:=m.stamp
  refine⟨G',h1,h2,vs,hA.mono (λv x=>hR G G' v x h1),.inr ⟨⟨g,0,none⟩,_,rfl,by have:=hA.1;omega,hm,λj c hc=>⟨rfl,(vs++post).toArray,t,(vs.length+post.length,vs.length+post.length+1),?_,?_⟩⟩⟩
  ·have hg:w.heap[g]? =some (.cells (vs++post).toArray t (vs.length+post.length,vs.length+post.length+1)):=m.items 0 _ rfl
   rw[h3 g (by simp[Itm.foot]),hg]
  ·have hl:=(List.getElem?_eq_some_iff.1 hc).1
   simp only[List.getElem?_toArray,Nat.zero_add]
   rw[List.getElem?_append_left hl]
   exact hc
theorem OwB.src {tt:TypeId}{it:Itm}{v:Value}{xs:List α}(h:OwB R tt G it v xs)(m:Mem W G w H){j:Nat}(hj:H[j]? =some it):∃vs,Src w v xs.length vs∧All2 (R G) vs xs:=by
 rcases h with h|⟨g,vs,post,rfl,rfl,hm,hA⟩
 ·exact h.src m hj
 ·have hg:w.heap[g]? =some (.cells (vs++post).toArray tt (vs.length+post.length,vs.length+post.length+1)):=m.items j _ hj
  refine⟨vs,⟨hA.1,.inr ⟨_,_,rfl,λk u hu=> ?_⟩⟩,hA⟩
  have hl:=(List.getElem?_eq_some_iff.1 hu).1
  rw[Bm]
  simp only[World.cell?,hg,Nat.zero_add,List.getElem?_toArray]
  rw[List.getElem?_append_left hl];exact hu
theorem l_ownB_len {tt:TypeId}{it:Itm}{v:Value}{xs:List α}{u e:Nat}{xo:Operand}(j:Nat)(m:Mem W G w H)(h:OwB R tt G it v xs)(hj:H[j]? =some it)
  (hu:P.underlying u=some (.slice e)) (f:Fr a N L) (hN:Nat.blt d N=true) (hx:Aw L xo=some v)
  (q:∀a',Fr a' N ((d,.int .i64 (xs.length:Int))::L)→wpList P ops (Qk n x r) rest a' w):
  wpList P ops (Qk n x r) (⟨some d,.call {callee:= .builtin .len,args:= #[xo],argTypes:= #[u]},t,pos,af,none⟩::rest) a w:=by
 rcases h with h|⟨g,vs,post,rfl,rfl,hm,hA⟩
 ·exact BF j m h hj hu f hN hx q
 ·exact By f rfl rfl hN (r_len (f.eval hx) hu) q
theorem l_ownB_at {tt:TypeId}{it:Itm}{v:Value}{xs:List α}{u e bytes:Nat}{z:Value}{xo io:Operand}{k:IntKind}{i:Int}{y:α}(j:Nat)(m:Mem W G w H)(h:OwB R tt G it v xs)(hj:H[j]? =some it)
  (hu:SlT P u e 1 bytes z) (f:Fr a N L) (hN:Nat.blt d N=true) (hx:Aw L xo=some v) (hi:Aw L io=some (.int k i)) (he:idx xs i=some y)
  (q:∀p a',Cf v p i→Fr a' N ((d,p)::L)→wpList P ops (Qk n x r) rest a' w):
  wpList P ops (Qk n x r) (⟨some d,.indexAddr u xo io,t,pos,af,none⟩::rest) a w:=by
 rcases h with h|⟨g,vs,post,rfl,rfl,hm,hA⟩
 ·exact Bz j m h hj hu f hN hx hi he q
 ·obtain⟨h0,h1,_⟩:=BO he
  refine By f rfl rfl hN (Cb (f.eval hx) (f.eval hi) hu h0 h1) λa' f'=> ?_
  exact q _ a' ⟨g,_,_,rfl,by rw[Bm,Nat.mul_one,Nat.zero_add]⟩ f'
theorem l_ownB_store {tt:TypeId}{it:Itm}{v p c:Value}{xs:List α}{u:Nat}{xo yo:Operand}{i:Int}{y y':α}(j:Nat)(m:Mem W G w H)(h:OwB R tt G it v xs)(hj:H[j]? =some it)
  (hz:∀w,(sizeOf u).run P w= .ok 1 w) (f:Fr a N L) (hx:Aw L xo=some p) (hy:Aw L yo=some c) (ha:Cf v p i) (he:idx xs i=some y) (hc:c.cells= #[c]) (h1c:c.oneCell'=true) (hR:R G c y')
  (q:∀it' w',Mem W G w' (H.set j it')→OwB R tt G it' v (xs.set i.toNat y')→wpList P ops (Qk n x r) rest a w'):
  wpList P ops (Qk n x r) (⟨none,.store u xo yo,t,pos,af,none⟩::rest) a w:=by
 rcases h with h|⟨g,vs,post,rfl,rfl,hm,hA⟩
 ·exact Cd j m h hj hz f hx hy ha he hc h1c hR (λit' w' m' o'=>q it' w' m' (.inl o'))
 ·obtain⟨b,mm,cc,e1,rfl⟩:=ha
  cases e1
  obtain⟨h0,h1,_⟩:=BO he
  have hlv:=hA.1
  have hlt:i.toNat<vs.length:=by omega
  have hg:w.heap[g]? =some (.cells (vs++post).toArray tt (vs.length+post.length,vs.length+post.length+1)):=m.items j _ hj
  have hr:(execOp a.eval ⟨none,.store u xo yo,t,pos,af,none⟩).run P w= .ok .skip (w.setCell ⟨g,i.toNat,none⟩ c):=by
   have h1':=run_storeCells_cells (P:=P) g i.toNat [c] 0 w (λk hk=>by
    simp at hk;subst hk
    simp only[World.cell?,hg,Nat.add_zero,List.getElem?_toArray]
    rw[List.getElem?_append_left hlt,List.getElem?_eq_getElem hlt];rfl) (λk hk=>by
    simp at hk;subst hk
    simp only[World.frozen?,hg,Nat.add_zero]
    simp;omega) (λz hz'=>by rw[List.mem_singleton.1 hz'];exact h1c)
   have h2':w.setCells g (i.toNat+0) [c]=w.setCell ⟨g,i.toNat,none⟩ c:=rfl
   rw[h2'] at h1'
   simp[execOp,f.eval hx,f.eval hy,Instr.storeAt,Instr.sureAddr,storeVar,hz w,hc,h1']
  refine l_void rfl rfl hr ?_
  have hsz:(vs.set i.toNat c).length=vs.length:=List.length_set
  refine q (.obj g (.cells (vs.set i.toNat c++post).toArray tt (vs.length+post.length,vs.length+post.length+1))) _ (m.changeAt j hj rfl rfl rfl (λz _ hz'=> ?_) ?_ (λz hz'=> .inl hz')) (.inr ⟨g,vs.set i.toNat c,post,by rw[hsz],by rw[hsz,List.length_set],by rw[hsz];exact hm,hA.set _ hR⟩)
  ·simp only[World.setCell,Array.getElem?_modify]
   rw[if_neg (λe=>hz' (by simp[Itm.foot];exact e.symm))]
  ·show (w.setCell ⟨g,i.toNat,none⟩ c).heap[g]? =some (.cells (vs.set i.toNat c++post).toArray tt (vs.length+post.length,vs.length+post.length+1))
   simp only[World.setCell,Array.getElem?_modify,if_true,hg,Option.map_some]
   have:(vs++post).toArray.setIfInBounds i.toNat c=(vs.set i.toNat c++post).toArray:=by
    apply Array.ext'
    simp only[Array.toList_setIfInBounds]
    rw[List.set_append_left _ _ hlt]
   simpa using this
theorem l_ownB_cut {tt u bytes:Nat}{z:Value}{it:Itm}{v:Value}{xs ys:List α}{xo:Operand}{lo:Option Operand}{o:Operand}{kk:IntKind}{j:Int}(jx:Nat)(m:Mem W G w H)(h:OwB R tt G it v xs)(hj:H[jx]? =some it)
  (hu:SlT P u tt 1 bytes z) (f:Fr a N L) (hN:Nat.blt d N=true) (hx:Aw L xo=some v) (hlo:lo=none∨∃o k,lo=some o∧Aw L o=some (.int k 0)) (ho:Aw L o=some (.int kk j)) (hs:Bh xs 0 j=some ys)
  (k:∀it' v' a',Mem W G w (H.set jx it')→OwB R tt G it' v' ys→Fr a' N ((d,v')::L)→wpList P ops (Qk n x r) rest a' w):
  wpList P ops (Qk n x r) (⟨some d,.slice u xo lo (some o) none,t,pos,af,none⟩::rest) a w:=by
 rcases h with h|⟨g,vs,post,rfl,rfl,hm,hA⟩
 ·exact l_own_cut jx m h hj hu f hN hx hlo ho hs (λit' v' a' m' o'=>k it' v' a' m' (.inl o'))
 ·obtain⟨h3,h4,h5,rfl,hl⟩:=CF hs
  simp only[Int.toNat_zero,List.drop_zero] at hl ⊢
  have hlv:=hA.1
  have hlo':(lo=none∧(0:Int)=0)∨∃o k,lo=some o∧a.eval o= .int k 0:=by
   rcases hlo with h|⟨o,k,h1,h2⟩
   ·exact .inl ⟨h,rfl⟩
   ·exact .inr ⟨o,k,h1,f.eval h2⟩
  have e:(if vs.length+post.length=(0:Int).toNat then some (⟨g,0,none⟩:Addr) else(some ⟨g,0,none⟩:Option Addr).map (·.add ((0:Int).toNat*1)))=some ⟨g,0,none⟩:=by
   split
   ·rfl
   ·simp[Bm]
  refine By f rfl rfl hN (Du (i:=0) (j:=j) hu (f.eval hx) hlo' (.inr ⟨o,kk,rfl,f.eval ho⟩) (by omega) (by omega) (by omega)) (λa' f'=> ?_)
  have hset:H.set jx (.obj g (.cells (vs++post).toArray tt (vs.length+post.length,vs.length+post.length+1)))=H:=by
   apply List.ext_getElem?
   intro q'
   rw[List.getElem?_set]
   split
   ·rename_i e;subst e
    have hl:=(List.getElem?_eq_some_iff.1 hj).1
    simp[hl] at hj ⊢
    exact hj.symm
   ·rfl
  have h6:vs.take j.toNat++(vs.drop j.toNat++post)=vs++post:=by rw[←List.append_assoc,List.take_append_drop]
  have h7:(vs.take j.toNat).length+(vs.drop j.toNat++post).length=vs.length+post.length:=by rw[←List.length_append,h6,List.length_append]
  refine k (.obj g (.cells (vs++post).toArray tt (vs.length+post.length,vs.length+post.length+1))) _ a' (by rw[hset];exact m) (.inr ⟨g,vs.take j.toNat,vs.drop j.toNat++post,by rw[h6,h7],rfl,by rw[h7];exact hm,hA.take _⟩) ?_
  rw[h7]
  have e3:vs.length+post.length-(0:Int).toNat=vs.length+post.length:=by simp
  have e4:(List.drop (Int.toNat 0) (xs.take j.toNat)).length=j.toNat-(0:Int).toNat:=hl
  rw[e4]
  rw[e,e3] at f'
  exact f'
theorem l_bytes {src dst e:TypeId}{xo:Operand}{s:ByteArray}(hs:∃q,P.underlying src=some q)(hd:P.underlying dst=some (.slice e))(he:P.underlying e=some (.int .u8))(m:Mem W G w H)(f:Fr a N L)(hN:Nat.blt d N=true)(hx:Aw L xo=some (.string s))
  (hl:s.size≤4294967296)
  (q:∀it v w' a',Mem W G w' (it::H)→OwB (RI .u8) e G it v (sBy s)→Fr a' N ((d,v)::L)→wpList P ops (Qk n x r) rest a' w'):
  wpList P ops (Qk n x r) (⟨some d,.convert src dst xo,t,pos,af,none⟩::rest) a w:=by
 obtain⟨qq,hq⟩:=hs
 have hr:=Lib.run_convert_string_bytes (P:=P) w src dst e s hq hd he
 have hge:=grownCap_ge w s.size 0 e
 have hcm:grownCap w s.size 0 e≤maxLen:=grownCap_le_maxLen w _ 0 e (by simp only[maxLen];omega)
 have hcells:Lib.bytesCells w e s=(Lib.strCells s++List.replicate (grownCap w s.size 0 e-s.size) (Value.int .u8 0)).toArray:=by
  apply Array.ext'
  simp[Lib.bytesCells,Lib.strCells]
 have hlen:(Lib.strCells s).length+(List.replicate (grownCap w s.size 0 e-s.size) (Value.int .u8 0)).length=grownCap w s.size 0 e:=by
  rw[Lib.strCells_length,List.length_replicate];omega
 have hsz:(Lib.bytesCells w e s).size=grownCap w s.size 0 e:=by
  rw[hcells,List.size_toArray,List.length_append,hlen]
 have hnew:=Lib.bytesWorld_at_new w e s
 rw[hsz,hcells] at hnew
 refine By (w':=Lib.bytesWorld w e s) f rfl rfl hN (by simp only[execOp,f.eval hx,Sem.run_bind,hr,Result.andThen_ok];rfl) (λa' f'=> ?_)
 refine q (.obj w.heap.size (.cells (Lib.strCells s++List.replicate (grownCap w s.size 0 e-s.size) (Value.int .u8 0)).toArray e (grownCap w s.size 0 e,grownCap w s.size 0 e+1))) _ _ a' (m.add rfl rfl rfl (λy hy=>Lib.bytesWorld_at_old w e s y hy) hnew (λy hy=>by simp[Itm.foot] at hy;omega))
  (.inr ⟨w.heap.size,Lib.strCells s,List.replicate (grownCap w s.size 0 e-s.size) (Value.int .u8 0),by rw[hlen],by rw[hlen,BV],by rw[hlen];exact hcm,sBy_all2 s⟩) f'
theorem l_bytesD {src dst e:TypeId}{xo:Operand}{s:ByteArray}{l:List Int}(hs:∃q,P.underlying src=some q)(hd:P.underlying dst=some (.slice e))(he:P.underlying e=some (.int .u8))(m:Mem W G w H)(f:Fr a N L)(hN:Nat.blt d N=true)(hx:Aw L xo=some (.string s))
  (hl:bytesD s=some l) (q:∀it v w' a',Mem W G w' (it::H)→OwB (RI .u8) e G it v l→Fr a' N ((d,v)::L)→wpList P ops (Qk n x r) rest a' w'):
  wpList P ops (Qk n x r) (⟨some d,.convert src dst xo,t,pos,af,none⟩::rest) a w:=by
 unfold bytesD at hl
 split at hl
 ·rename_i h
  cases hl
  exact l_bytes hs hd he m f hN hx h q
 ·cases hl
end
end Go.Sx

set_option maxRecDepth 100000
namespace Go.Proofs.YtgdadopbjdlddaaGreatDoor
open Go Go.Sx
open Go.Proofs.Tryz Go.Proofs.YtgdadopbjdlddaaGreatDoor.Tryz IntKind
variable {W w : World} {G : GH} {H : List Itm}
theorem powAt :prog.globalNamed powName=some 1:=by kernel_rfl
theorem powIs {W w:World}{G:GH}{H:List Itm}(hW:TxtW 2 3 1 W)(m:Mem W G w H):Lib.TabIs prog w powName .u64 Lib.pow10Tab:=by
 obtain⟨e,fz,h⟩:=hW.pow
 have h2:=m.sealed _ _ (m.base _ _ h)
 unfold Lib.TabIs World.var?
 rw[powAt]
 simp[h2]
theorem Es (w:World)(k:Nat):Go.RowKit.Below w.heap.size w (w.drewN k):=⟨rfl,rfl,rfl,Nat.le_refl _,λ_ _=>rfl⟩
theorem cellOf {W w:World}{G:GH}{H:List Itm}(m:Mem W G w H){k:Nat}{v:Value}(h:W.cell? ⟨k,0,none⟩=some v):w.cell? ⟨k,0,none⟩=some v:=by
 unfold World.cell? at h ⊢
 cases hk:W.heap[k]? with
 |none=>simp[hk] at h
 |some o=>
  have:=m.sealed k _ (m.base k _ hk)
  simpa [hk,this] using h
theorem Wk.q {x0 x1:ByteArray}(hW:TxtW 2 3 1 W)(m:Mem W G w H){y:ByteArray×ByteArray×Bool}(hd:D.q x0 x1=some y):
  Calls prog 28 #[(.string x0),(.string x1)] w (Res W G H (λ_ Ho v=>Ho=[]∧v=(.tuple #[(.string y.1),(.string y.2.1),(.bool y.2.2)]))):=by
 unfold D.q at hd
 split at hd
 ·rename_i hs
  cases hd
  obtain⟨mm,hm⟩:=hW.maxLen
  refine(Tryz.strings_Cut x0 x1 mm w hs (cellOf m hm)).mono λe w' ⟨he,k,hk⟩=>⟨_,he,G,[],GLe.refl G,?_,Z,Z⟩
  subst hk
  exact m.above (Es w k)
 ·cases hd
theorem Wk.u {x0 x1:ByteArray}(hW:TxtW 2 3 1 W)(m:Mem W G w H){y:List ByteArray}(hd:D.u x0 x1=some y):
  Calls prog 30 #[(.string x0),(.string x1)] w (Res W G H (λG' Ho v=>∃r0:Value,∃i0:Itm,Ho=[i0]∧r0=v∧Ow RStr 9 G' i0 r0 y)):=by
 unfold D.u at hd
 split at hd
 ·rename_i hs
  cases hd
  obtain⟨mm,hm⟩:=hW.maxLen
  refine have hl:=Lib.splitB_all x1 hs.2 0 _ x0 rfl;have hc:=Lib.countB_le x1 hs.2 x0.size x0 (Nat.le_refl _);(Tryz.strings_Split x0 x1 mm w hs.1 (cellOf m hm) hs.2).mono λe w' hh=> ?_
  obtain⟨he,hk⟩:=hh
  have h3:=m.strs 9 (Lib.splitB x1 0 (Lib.countB x0 x1) x0) (by omega)
  rw[hl] at h3
  refine⟨_,he,G,[.row (.slice (some ⟨w.heap.size,0,none⟩) (Lib.countB x0 x1+1) (Lib.countB x0 x1+1)) 9 1 (Lib.countB x0 x1+1) ((Lib.splitB x1 0 (Lib.countB x0 x1) x0).map Value.string)],GLe.refl G,?_,_,_,Z,Z,?_⟩
  ·subst hk;exact h3
  ·refine⟨(Lib.splitB x1 0 (Lib.countB x0 x1) x0).map Value.string,by rw[hl],by simp,λi c x hc hx=> ?_⟩
   rw[List.getElem?_map,hx] at hc
   cases hc;rfl
 ·cases hd
theorem Wk.O {x0:Int}(m:Mem W G w H){y:ByteArray}(hd:D.O x0=some y):
  Calls prog 46 #[iv x0] w (Res W G H (λ_ Ho v=>Ho=[]∧v=(.string y))):=by
 unfold D.O at hd
 split at hd
 ·rename_i hs
  cases hd
  have e:((x0.toNat:Nat):Int)=x0:=by omega
  have:=Tryz.strconv_Itoa_small x0.toNat (by omega) w
  rw[e] at this
  exact this.mono λe w' ⟨he,hk⟩=>by subst hk;exact⟨_,he,G,[],GLe.refl G,m,Z,Z⟩
 ·cases hd
theorem Wk.f {x0 x1:Int}(hW:TxtW 2 3 1 W)(m:Mem W G w H){y:ByteArray}(hd:D.f x0 x1=some y):
  Calls prog 48 #[iv x0,iv x1] w (Res W G H (λ_ Ho v=>Ho=[]∧v=(.string y))):=by
 unfold D.f at hd
 split at hd
 ·rename_i hs
  cases hd
  obtain⟨rfl,h0,h1⟩:=hs
  refine(Tryz.strconv_FormatInt_10 x0 h0 h1 w (powIs hW m)).mono λe w' ⟨he,k,os,hk⟩=>⟨_,he,G,[],GLe.refl G,?_,Z,Z⟩
  subst hk
  refine(m.above (Es w k)).above ⟨Z,Z,Z,by simp[Go.Sort.grow],λq hq=> ?_⟩
  simp only[Go.Sort.grow]
  rw[Array.getElem?_append_left hq]
 ·cases hd
theorem Wk.i {x0:ByteArray}{x1 x2:Int}(hW:TxtW 2 3 1 W)(m:Mem W G w H){y:Int×Bool}(hd:D.i x0 x1 x2=some y):
  Calls prog 55 #[(.string x0),iv x1,iv x2] w (Res W G H (λG' Ho v=>G=G'∧∃ev,Ho=[]∧v=(.tuple #[iv y.1,ev])∧ErV ev y.2)):=by
 unfold D.i at hd
 split at hd
 ·rename_i hs
  obtain⟨rfl,rfl,hs⟩:=hs
  cases hd
  cases hp:Lib.parseIntB 64 x0.data.toList with
  |ok v=>
   refine(Tryz.strconv_ParseInt_10_at64_ok x0 (by omega) v hp w).mono λe w' hh=> ?_
   obtain⟨he,hb⟩:=hh
   refine⟨_,he,G,[],GLe.refl G,?_,Z,_,Z,Z,.inr ⟨Z,Z⟩⟩
   rcases hb with rfl|hb
   ·exact m
   ·obtain⟨t,rfl⟩:=hb
    exact m.above (Lib.bytesWorld_below _ _ _)
  |«syntax»=>
   obtain⟨ev,h1,h2⟩:=hW.syn
   exact(Tryz.strconv_ParseInt_10_at64_syntax x0 hs hp ev w (cellOf m h1) h2).mono λe w' ⟨N,he,_,_,hb⟩=>⟨_,he,G,[],GLe.refl G,m.above hb,Z,_,Z,Z,.inl ⟨Z,_,_,Z⟩⟩
  |range=>
   obtain⟨ev,h1,h2⟩:=hW.rng
   exact(Tryz.strconv_ParseInt_10_at64_range x0 hs hp ev w (cellOf m h1) h2).mono λe w' ⟨N,he,_,_,hb⟩=>⟨_,he,G,[],GLe.refl G,m.above hb,Z,_,Z,Z,.inl ⟨Z,_,_,Z⟩⟩
 ·cases hd
theorem BuT :SlT prog 22 5 1 1 (.int .u8 0):=⟨underlying22,Tryz.t5,by kernel_rfl,by kernel_rfl,by kernel_rfl,by kernel_rfl⟩
theorem BuP :BM prog 22:=isAgg22
theorem BuF :prog.follows .mixedOrders=true:=by kernel_rfl
theorem Wk.E0 {b:Nat}{p v:Value}{it:Itm}{xs zs:LI}{s:ByteArray}(hp:p= .pointer none∨p= .pointer (some ⟨b,0,none⟩))
  (m:Mem W G w (.box b 63 [p,v]::it::H)) (o:Ow (RI .u8) 5 G it v xs) (hz:AC xs (sBy s)=some zs):
  Calls prog 45 #[pb b,(.string s)] w (Res W G H (λG' Ho u=>G=G'∧∃v' it',Ho=[.box b 63 [.pointer (some ⟨b,0,none⟩),v'],it']∧u=(.tuple #[iv s.size,.nilIface])∧Ow (RI .u8) 5 G' it' v' zs)):=by
 refine Au (args:=[pb b,(.string s)]) (N:=19) [.tmp 4,.tmp 5] func45 Z Z (lb Z) Z λa f=>Ae (Ac f Z λa f=>Ac f Z λa f=>AA (Ab f Z λa f=> ?_))
 have hcc:Calls prog 68 #[pb b] w (λe w'=>∃u,e= .returned u∧(u= .tuple #[]∧Mem W G w' (.box b 63 [.pointer (some ⟨b,0,none⟩),v]::it::H))):=by
  refine have hbk:w.heap[b]? =some (.cells #[p,v] 63 (0,0)):=m.items 0 _ rfl;have h0:w.cell? ⟨b,0,none⟩=some p:=m.boxCell 0 rfl rfl;?_
  rcases hp with rfl|rfl
  ·refine(Any.Builder_copyCheck_fresh (ρ:=Tryz.lays166_ren) {Tryz.lays166 with} Tryz.Builder_Extra_166.toX72 b w h0 (by simp[World.shape?,hbk];rfl) (by simp[World.frozen?,hbk])).mono λe w' hh=> ?_
   obtain⟨he,hw⟩:=hh
   subst hw
   exact⟨_,he,Z,m.setBox 0 (pb b)⟩
  ·refine(Any.Builder_copyCheck_used (ρ:=Tryz.lays166_ren) {Tryz.lays166 with} Tryz.Builder_Extra_166.toX72 b w h0).mono λe w' hh=> ?_
   obtain⟨he,hw⟩:=hh
   subst hw
   exact⟨_,he,Z,m⟩
 clear m
 refine l_call (R:=λu w'=>u= .tuple #[]∧Mem W G w' (.box b 63 [.pointer (some ⟨b,0,none⟩),v]::it::H)) f Z Z call68 hcc λu w hu a f=> ?_
 obtain⟨rfl,m⟩:=hu
 exact AA (Ab f Z λa f=>Ab f Z λa f=>l_o f (Bo (f.e Z)) λa f=>Br underlying63 Z sizeOf22 f Z λa f=>AV 0 1 m BuP f Z Z Z Z λa f=>Ab f Z λa f=>l_appendS 1 m o Z BuT underlying9 f Z Z Z hz λit' v' w a m o f=>l_o f (Bo (f.e Z)) λa f=>Br underlying63 Z sizeOf22 f Z λa f=>Aj 0 1 (ds:=[v']) m sizeOf22 f Z Z (o.cells 1 m Z) (Ao (o.one1 1 m Z) As) Z (lb Z) Z λw m=>AA (Ab f Z λa f=>l_o f (BB (f.e Z) underlying9) λa f=>Ac f Z λa f=>Ac f Z λa f=>Aa (Ar ⟨[iv s.size,.nilIface],⟨f.get _ _ Z,f.get _ _ Z,trivial⟩,f.d,G,[.box b 63 [.pointer (some ⟨b,0,none⟩),v'],it'],GLe.refl G,m,Z,_,_,Z,Z,o⟩)))
theorem Wk.B0 {b:Nat}{p v:Value}{it:Itm}{xs:LI}
  (m:Mem W G w (.box b 63 [p,v]::it::H)) (o:Ow (RI .u8) 5 G it v xs) {y:ByteArray} (hd:D.B0 xs=some y):
  Calls prog 49 #[pb b] w (Res W G H (λ_ Ho u=>Ho=[]∧u=(.string y))):=by
 unfold D.B0 at hd
 split at hd
 case isFalse=>cases hd
 rename_i hne
 cases hd
 obtain⟨hne,hal⟩:=hne
 obtain⟨vs,rfl,hA⟩:=o
 refine have hl0:xs.length≠0:=λe=>hne (List.eq_nil_of_length_eq_zero e);have ok:w.ownsRow 0 5 1 v xs.length vs:=m.items 1 _ rfl;?_
 obtain⟨g,cap,cur,rfl,hcap⟩:∃g cap,∃cur:Array Value,v= .slice (some ⟨g,0,none⟩) xs.length cap∧xs.length≤cap:=by
  rcases ok.2 with⟨_,e0⟩|⟨g,cap,cur,e1,_,eh,e2,_⟩
  ·exact absurd e0 hl0
  ·exact⟨g,cap,cur,e1,e2⟩
 clear ok
 have hv:vs=xs.map (Value.int .u8):=by
  apply List.ext_getElem
  ·simp[hA.1]
  ·intro i hi1 hi2
   have hi3:i<xs.length:=by rw[←hA.1];exact hi1
   have:=hA.2 i vs[i] (xs[i]'hi3) (by simp[hi1]) (by simp[hi3])
   simpa [RI] using this
 subst hv
 clear hA
 exact Au (args:=[pb b]) (N:=14) [.tmp 2] func49 Z Z (lb Z) Z λa f=>Ae (Ac f Z λa f=>Aa (Ag (BE 10 BuF (by kernel_rfl) m (AK 0 10 Z f Z λa f=>q_p 1 10 Z f (λ_=>Bo (f.e Z)) λa f=>B5 2 10 underlying63 Z sizeOf22 Z f Z λa f=>B4 3 10 0 BuP Z Z Z f Z λa f=>q_p 4 10 Z f (λ_=>r_sliceData (f.e Z) (by omega)) λa f=>AK 5 10 Z f Z λa f=>q_p 6 10 Z f (λ_=>Bo (f.e Z)) λa f=>B5 7 10 underlying63 Z sizeOf22 Z f Z λa f=>B4 8 10 0 BuP Z Z Z f Z λa f=>q_p 9 10 Z f (λ_=>r_len (f.e Z) underlying22) λa f=>Bs λG2 w hl m=>have hus:=r_unsafeString (P:=prog) (w:=w) (tp:=88) (ti:=3) (ty:=9) underlying88 (by kernel_rfl) hne hal (m.items 1 _ rfl);By (w':=_) f Z Z Z (r_unsafeS (f.e Z) (f.e Z) hus) λa f=>have m:Mem W G2 (w.freeze ⟨g,0,none⟩ xs.length) H:=m.tail.freeze xs.length;Ac f Z λa f=>Aa (Ar ⟨[(.string (sOf xs))],f.g Z,f.d,G2,[],hl,m,Z,Z⟩)))))
end Go.Proofs.YtgdadopbjdlddaaGreatDoor

set_option maxRecDepth 100000
namespace Go.Proofs.YtgdadopbjdlddaaGreatDoor
open Go Go.Sx
open Go.Proofs.Tryz Go.Proofs.YtgdadopbjdlddaaGreatDoor.Tryz IntKind
variable {W w : World} {G : GH} {H : List Itm}
abbrev AG (b:Nat)(p0 p1:Int)(p2:Value):Itm:=ib b 56 [p2,iv p0,iv p1]
theorem T22 :SlT prog 22 5 1 1 (.int .u8 0):=⟨underlying22,Tryz.t5,by kernel_rfl,by kernel_rfl,by kernel_rfl,by kernel_rfl⟩
theorem Pl3 :BM prog 3:=isAgg3
theorem Pl22 :BM prog 22:=isAgg22
theorem T24 :SlT prog 24 40 1 24 sn:=⟨underlying24,Tryz.t40,by kernel_rfl,by kernel_rfl,by kernel_rfl,by kernel_rfl⟩
theorem Bl :BM prog 24:=isAgg24
theorem Az :Agg prog 26 1:=⟨isAgg26,sizeOf26⟩
theorem Bt :BM prog 40:=isAgg40
theorem Wk.A0 {v0:Value}{x0:LI}(m:Mem W G w (H))(h0:RSl (RI .u8) G v0 x0){y:Bool}(hd:D.A0 x0=some y):
  Calls prog 4 #[v0] w (Res W G H (λ_ Ho v=>Ho=[]∧v=(.bool y))):=by
 refine Au (args:=[v0]) (N:=6) [.tmp 2] func4 Z Z (lb Z) Z λa f=> ?_
 unfold D.A0 at hd
 refine Ae (Ac f Z λa f=>AA (Ab f Z λa f=>A9 underlying22 f Z Z h0 λa f=>Ai f Z Z BQ λa f=>Ac f Z λa f=>Aa (Ar ?_)))
 obtain rfl:=sj hd
 exact⟨[(.bool (decide ((4096:Int)<(x0.length:Int))))],f.g Z,f.d,_,[],gr,m,Z,Z⟩
theorem Wk.B {v0:Value}{x0:LI}(m:Mem W G w (H))(h0:RSl (RI .u8) G v0 x0){y:(LI)×Int×Int}(hd:D.B x0=some y):
  Calls prog 17 #[v0] w (Res W G H (λG' Ho v=>∃r0:Value,∃c1:Nat,Ho=[ib c1 56 [r0,iv y.2.1,iv y.2.2]]∧v=(pb c1)∧RSl (RI .u8) G' r0 y.1)):=by
 refine Au (args:=[v0]) (N:=28) [.tmp 2] func17 Z Z (lb Z) Z λa f=> ?_
 unfold D.B at hd
 refine Ae (Ac f Z λa f=>AA (Ab f Z λa f=>A9 underlying22 f Z Z h0 λa f=>Ai f Z Z AD λa f=>Ac f Z λa f=>Aa (Ag (Ae (Ac f Z λa f=>Aa (Bd hd λaa ab hd=> ?_))))))
 refine AY (λa w=>∃ac:Int,ac=aa∧∃(ad:GH),GLe G ad∧Fr a 28 [(0,v0),(3,iv ac)]∧Mem W ad w (H)) ?_ ?_
 ·refine Aq (AP (λae a w=>∃af:Int,∃ag:Int,(af,ag)=ae∧∃(ah:GH),GLe G ah∧Fr a 28 [(0,v0),(3,iv af),(4,iv ag)]∧Mem W ah w (H)) ab ⟨_,_,Z,_,gr,f.k Z,m⟩ ?_)
  clear ab f m
  rintro ae ai aj ak a w ⟨af,ag,rfl,ah,al,f,m⟩
  refine have h0:=rd1 al h0;Ag (Ae (Ab f Z λa f=>Ab f Z λa f=>A9 underlying22 f Z Z h0 λa f=>Ai f Z Z AN λa f=>Aa ?_))
  rcases Af aj with⟨am,aj⟩|⟨am,aj⟩
  ·refine Ak f Z am (Ap (Ag (Aq (Al (Ab f Z λa f=>Ai f Z Z b_mul λa f=>Ab f Z λa f=>Ab f Z λa f=>Bd aj λan ao aj=>BA T22 f Z Z Z h0 ao λap aq a ar au f=> ?_)))))
   subst au
   refine AU m Pl5 f Z Z ar λa f=>l_o f (Dc (f.e Z) ⟨_,underlying5⟩ underlying2) λa f=>Ai f Z Z AD λa f=>Ai f Z Z AD λa f=>Ai f Z Z b_and λa f=>Ac f Z λa f=>Aa (Al (Ab f Z λa f=>Ai f Z Z AD λa f=>Ac f Z λa f=>Aa ?_))
   obtain rfl:=sj aj
   exact⟨_,Z,_,_,Z,_,al,f.k Z,m⟩
  ·refine Ah f Z am (AO Z ?_)
   obtain rfl:=sj aj
   obtain rfl:=ak _ rfl
   exact⟨_,Z,_,al,f.k Z,m⟩
 ·rintro a w ⟨ac,rfl,ad,av,f,m⟩
  refine have h0:=rd1 av h0;Ae (Ab f Z λa f=>Ab f Z λa f=> ?_)
  have aw:∀w,(Instr.build 56 #[(0,v0),(2,iv ac)]).run prog w= .ok (.agg #[v0,iv 0,iv ac]) w:=by intro w;simp[Instr.build,Instr.fill,h0.cells,A3,AX,AL,AR,AI,A4,AZ]
  refine Be f Z Z aw λa f=>BW (cs:=[v0,iv 0,iv ac]) m f Z Z Z λax w a m f=>Ac f Z λa f=>Aa (Ar ?_)
  obtain rfl:=sj hd
  exact⟨[pb ax],f.g Z,f.d,_,[ib ax 56 [v0,iv 0,iv ac]],av,m,_,_,Z,Z,h0⟩
theorem Wk.n {b0:Nat}{aa:Value}{ab:LI}{ac ad:Int}(m:Mem W G w (ib b0 56 [aa,iv ac,iv ad]::H))(ae:RSl (RI .u8) G aa ab){y:Int×(LI)×Int×Int}(hd:D.n ab ac ad=some y):
  Calls prog 64 #[pb b0] w (Res W G H (λG' Ho v=>∃r0:Value,Ho=[AG b0 y.2.2.1 y.2.2.2 r0]∧v=(iv y.1)∧RSl (RI .u8) G' r0 y.2.1)):=by
 refine Au (args:=[pb b0]) (N:=58) [.tmp 2] func64 Z Z (lb Z) Z λa f=> ?_
 unfold D.n at hd
 refine Ae (Ac f Z λa f=>AA (Ab f Z λa f=>Ab f Z λa f=>l_o f (Bo (f.e Z)) λa f=>Br underlying56 Z sizeOf2 f Z λa f=>AV 0 2 m Pl2 f Z Z Z Z λa f=>Ai f Z Z b_mul λa f=>Ai f Z Z AD λa f=>l_o f (Bo (f.e Z)) λa f=>Br underlying56 Z sizeOf2 f Z λa f=>Aj 0 2 (ds:=[(iv (i64.wrap ((i64.wrap (ad*6364136223846793005))+1442695040888963407)))]) m sizeOf2 f Z Z Z (Ao Z As) Z (lb Z) Z λw m=>Aa (Ag (BE 13 Bi (by kernel_rfl) m (AK 0 13 Z f Z λa f=>q_p 1 13 Z f (λ_=>Bo (f.e Z)) λa f=>B5 2 13 underlying56 Z sizeOf2 Z f Z λa f=>B4 3 13 0 Pl2 Z Z Z f Z λa f=>q_p 4 13 Z f (λ_=>r_shr (f.e Z) (f.e Z) (by decide)) λa f=>AK 5 13 Z f Z λa f=>q_p 6 13 Z f (λ_=>Bo (f.e Z)) λa f=>B5 7 13 underlying56 Z sizeOf2 Z f Z λa f=>B4 8 13 0 Pl2 Z Z Z f Z λa f=> ?_)))))
 refine q_p 9 13 Z f (λ_=>r_shr (f.e Z) (f.e Z) (by decide)) λa f=>q_p 10 13 Z f (λ_=>BX (f.e Z) (f.e Z) b_xor) λa f=>q_p 11 13 Z f (λ_=>BX (f.e Z) (f.e Z) b_and) λa f=>q_p 12 13 Z f (λ_=>CN (f.e Z)) λa f=>Bs λaf w ag m=>have ae:=rd1 ag ae;Aa (Ag (Ag (BE 10 Bi (by kernel_rfl) m (AK 0 10 Z f Z λa f=>q_p 1 10 Z f (λ_=>Bo (f.e Z)) λa f=>B5 2 10 underlying56 Z sizeOf3 Z f Z λa f=>B4 3 10 0 Pl3 Z Z Z f Z λa f=>AK 4 10 Z f Z λa f=>q_p 5 10 Z f (λ_=>Bo (f.e Z)) λa f=>B5 6 10 underlying56 Z sizeOf22 Z f Z λa f=>B4 7 10 0 Pl22 Z Z Z f Z λa f=>q_len (i:=8) 10 underlying22 ae Z (by kernel_rfl) Z f Z Z Z λa f=>q_p 9 10 Z f (λ_=>BX (f.e Z) (f.e Z) AN) λa f=>Bs λah w ai m=>have ae:=rd1 ai ae;Aa ?_))))
 rcases Af hd with⟨aj,hd⟩|⟨aj,hd⟩
 ·refine Ak f Z aj (Ag (BE 15 Bi (by kernel_rfl) m (AK 0 15 Z f Z λa f=>AK 1 15 Z f Z λa f=>q_p 2 15 Z f (λ_=>Bo (f.e Z)) λa f=>B5 3 15 underlying56 Z sizeOf22 Z f Z λa f=>B4 4 15 0 Pl22 Z Z Z f Z λa f=>AK 5 15 Z f Z λa f=>q_p 6 15 Z f (λ_=>Bo (f.e Z)) λa f=>B5 7 15 underlying56 Z sizeOf3 Z f Z λa f=>B4 8 15 0 Pl3 Z Z Z f Z λa f=>Bd hd λak al hd=>B8 9 15 T22 ae al Z f Z Z λam an a ao ap f=> ?_)))
  subst ap
  refine Ca 10 15 Pl5 ao Z f Z λa f=>q_p 11 15 Z f (λ_=>Dc (f.e Z) ⟨_,underlying5⟩ underlying2) λa f=>q_p 12 15 Z f (λ_=>BX (f.e Z) (f.e Z) AD) λa f=>q_p 13 15 Z f (λ_=>BX (f.e Z) (f.e Z) b_and) λa f=>q_p 14 15 Z f (λ_=>CN (f.e Z)) λa f=>Bs λaq w ar m=>have ae:=rd1 ar ae;Aa (Al (Ab f Z λa f=>Ab f Z λa f=>l_o f (Bo (f.e Z)) λa f=>Br underlying56 Z sizeOf3 f Z λa f=>AV 0 1 m Pl3 f Z Z Z Z λa f=>Ai f Z Z AD λa f=>l_o f (Bo (f.e Z)) λa f=>Br underlying56 Z sizeOf3 f Z λa f=>Aj 0 1 (ds:=[(iv (i64.wrap (ac+1)))]) m sizeOf3 f Z Z Z (Ao Z As) Z (lb Z) Z λw m=>AA (Ab f Z λa f=>Ac f Z λa f=>Aa (Ar ?_))))
  obtain rfl:=sj hd
  exact⟨[(iv (iand .i64 (i64.wrap ((iand .i64 (ixor .i64 (Ce .i64 (i64.wrap ((i64.wrap (ad*6364136223846793005))+1442695040888963407)) 33) (Ce .i64 (i64.wrap ((i64.wrap (ad*6364136223846793005))+1442695040888963407)) 45)) 255)+(i64.wrap ak))) 255))],f.g Z,f.d,_,[ib b0 56 [aa,(iv (i64.wrap (ac+1))),(iv (i64.wrap ((i64.wrap (ad*6364136223846793005))+1442695040888963407)))]],(gt ag (gt ai ar)),m,_,Z,Z,ae⟩
 ·refine Ah f Z aj (Ap (Ae (Ab f Z λa f=>Ac f Z λa f=>Aa (Ar ?_))))
  obtain rfl:=sj hd
  exact⟨[(iv (iand .i64 (ixor .i64 (Ce .i64 (i64.wrap ((i64.wrap (ad*6364136223846793005))+1442695040888963407)) 33) (Ce .i64 (i64.wrap ((i64.wrap (ad*6364136223846793005))+1442695040888963407)) 45)) 255))],f.g Z,f.d,_,[ib b0 56 [aa,iv ac,(iv (i64.wrap ((i64.wrap (ad*6364136223846793005))+1442695040888963407)))]],(gt ag ai),m,_,Z,Z,ae⟩
theorem Wk.b {b0:Nat}{aa:Value}{ab:LI}{ac ad x1:Int}(m:Mem W G w (ib b0 56 [aa,iv ac,iv ad]::H))(ae:RSl (RI .u8) G aa ab){y:Int×(LI)×Int×Int}(hd:D.b ab ac ad x1=some y):
  Calls prog 40 #[pb b0,iv x1] w (Res W G H (λG' Ho v=>∃r0:Value,Ho=[AG b0 y.2.2.1 y.2.2.2 r0]∧v=(iv y.1)∧RSl (RI .u8) G' r0 y.2.1)):=by
 refine Au (args:=[pb b0,iv x1]) (N:=37) [.tmp 4] func40 Z Z (lb Z) Z λa f=> ?_
 unfold D.b at hd
 refine Ae (Ac f Z λa f=>Aa (Ag (Ae (Ab f Z λa f=>Ai f Z Z b_leq λa f=>Aa ?_))))
 rcases Af hd with⟨af,hd⟩|⟨af,hd⟩
 ·refine Ak f Z af (Ae (Ac f Z λa f=>Aa (Ar ?_)))
  obtain rfl:=sj hd
  exact⟨[iv 0],f.g Z,f.d,_,[ib b0 56 [aa,iv ac,iv ad]],gr,m,_,Z,Z,ae⟩
 ·refine Ah f Z af (Ap (Ag (Ae (Ab f Z λa f=>Ai f Z Z b_leq λa f=>Aa ?_))))
  rcases Af hd with⟨ag,hd⟩|⟨ag,hd⟩
  ·refine Ak f Z ag (Ae (Ab f Z λa f=>Bd hd λah ai hd=>AH f Z call64 (Wk.n m ae ai) λaj ak al w am m an a f=> ?_))
   obtain⟨ao,rfl,rfl,ap⟩:=an
   refine Ab f Z λa f=> ?_
   obtain⟨aq,hd⟩:=Di hd
   refine Ai f Z Z (b_rem aq) λa f=>Ac f Z λa f=>Aa (Ar ?_)
   obtain rfl:=sj hd
   exact⟨[(iv (Int.tmod ah.1 x1))],f.g Z,f.d,_,[AG b0 ah.2.2.1 ah.2.2.2 ao],am,m,_,Z,Z,ap⟩
  ·refine Ah f Z ag (Ap (Ae (Ab f Z λa f=>Bd hd λar au hd=>AH f Z call64 (Wk.n m ae au) λav aw ax w ay m az a f=> ?_)))
   obtain⟨aA,rfl,rfl,aB⟩:=az
   refine Ac f Z λa f=>AA (Ab f Z λa f=>Bd hd λaC aD hd=>AH f Z call64 (Wk.n m aB aD) λaE aF aG w aH m aI a f=> ?_)
   obtain⟨aJ,rfl,rfl,aK⟩:=aI
   refine Ac f Z λa f=>AA (Ab f Z λa f=>Bd hd λaL aM hd=>AH f Z call64 (Wk.n m aK aM) λaN aO aP w aQ m aR a f=> ?_)
   obtain⟨aS,rfl,rfl,aT⟩:=aR
   refine Ac f Z λa f=>AA (Ab f Z λa f=>Bd hd λaU aV hd=>AH f Z call64 (Wk.n m aT aV) λaW aX aY w aZ m a0 a f=> ?_)
   obtain⟨a1,rfl,rfl,a2⟩:=a0
   refine Ac f Z λa f=>AA (Ab f Z λa f=>Ai f Z Z b_mul λa f=>Ab f Z λa f=>Ai f Z Z b_mul λa f=>Ai f Z Z AD λa f=>Ab f Z λa f=>Ai f Z Z b_mul λa f=>Ai f Z Z AD λa f=>Ab f Z λa f=>Ai f Z Z AD λa f=>Ab f Z λa f=> ?_)
   obtain⟨a3,hd⟩:=Di hd
   refine Ai f Z Z (b_rem a3) λa f=>Ac f Z λa f=>Aa (Ar ?_)
   obtain rfl:=sj hd
   exact⟨[(iv (Int.tmod (i64.wrap ((i64.wrap ((i64.wrap ((i64.wrap (ar.1*16777216))+(i64.wrap (aC.1*65536))))+(i64.wrap (aL.1*256))))+aU.1)) x1))],f.g Z,f.d,_,[AG b0 aU.2.2.1 aU.2.2.2 a1],(gt ay (gt aH (gt aQ aZ))),m,_,Z,Z,a2⟩
theorem Wk.a {x0 x1 x2:Int}(m:Mem W G w (H)){y:Bool}(hd:D.a x0 x1 x2=some y):
  Calls prog 51 #[iv x0,iv x1,iv x2] w (Res W G H (λ_ Ho v=>Ho=[]∧v=(.bool y))):=by
 refine Au (args:=[iv x0,iv x1,iv x2]) (N:=15) [.tmp 6] func51 Z Z (lb Z) Z λa f=> ?_
 unfold D.a at hd
 refine Ae (Ac f Z λa f=>AA (Ab f Z λa f=>Ab f Z λa f=>Ai f Z Z b_geq λa f=>Ab f Z λa f=> ?_))
 refine A2 4 (λa w=>∃aa,GLe G aa∧Mem W aa w (H)∧Fr a 15 [(0,iv x0),(1,iv x1),(2,iv x2),(7,iv x0),(8,iv x1),(9,(.bool (decide (x1≤x0)))),(10,(.bool (decide (x1≤x0)))),(14,(.bool ((decide (x1≤x0))&&(decide (x0≤x2)))))]) ?_ ?_
 ·rcases Bool.eq_false_or_eq_true (decide (x1≤x0)) with ab|ab
  ·exact Am f ab (Ab f Z λa f=>Am f ab (Ab f Z λa f=>Am f ab (Ai f Z Z b_leq λa f=>l_o f (AE (f.e Z) ab (f.e Z)) λa f=>⟨_,gr,m,f.weak ⟨Z,Z,Z,Z,Z,Z,Z,by rw[ab];rfl,trivial⟩⟩)))
  ·exact An f ab λa f=>An f ab λa f=>An f ab λa f=>l_o f (AF (f.e Z) ab (f.e Z)) λa f=>⟨_,gr,m,f.weak ⟨Z,Z,Z,Z,Z,Z,Z,by rw[ab];rfl,trivial⟩⟩
 ·rintro a w ⟨aa,ac,m,f⟩
  refine Ac f Z λa f=>Aa (Ar ?_)
  obtain rfl:=sj hd
  exact⟨[(.bool ((decide (x1≤x0))&&(decide (x0≤x2))))],f.g Z,f.d,_,[],ac,m,Z,Z⟩
theorem Wk.e {x0:Int}(m:Mem W G w (H)){y:(LL)}(hd:D.e x0=some y):
  Calls prog 42 #[iv x0] w (Res W G H (λG' Ho v=>∃r0:Value,∃i0:Itm,Ho=[i0]∧v=(.agg #[r0])∧Ow R1 40 G' i0 r0 y)):=by
 refine Au (args:=[iv x0]) (N:=18) [.cell 2 26] func42 Z Z (lb Z) Z λa f=> ?_
 unfold D.e at hd
 refine Ae (AQ (cs:=[sn]) zeroValue26 m f Z Z λaa w a m f=>AA ?_)
 have ab:∀w,(Instr.build 26 #[]).run prog w= .ok (.agg #[sn]) w:=by intro w;simp[Instr.build,Instr.fill,A3,AX,AL,AR,AI,A4,AZ]
 refine Be f Z Z ab λa f=>AQ (cs:=[sn]) zeroValue26 m f Z Z λac w a m f=>Aj 0 0 (ds:=[sn]) m sizeOf26 f Z Z Z (Ao Z As) Z (lb Z) Z λw m=>Aa (Ag (Ae (Ac f Z λa f=>Aa ?_)))
 obtain⟨ad,m,ae⟩:=Ow.nil R1 40 m
 have⟨af,ag,hd⟩:=bind_some hd
 refine AY (λa w=>∃ah:LL,ah=af∧∃(ai:GH) (aj:Value) (ak:Itm),GLe G ai∧Fr a 18 [(2,pb aa),(3,pb ac)]∧Mem W ai w (ib aa 26 [sn]::ib ac 26 [aj]::ak::H)∧Ow R1 40 ai ak aj ah) ?_ ?_
 ·refine Aq (have m:=m.fr 1;have m:=m.fr 2;AP (λal a w=>∃am:Int,∃an:LL,(am,an)=al∧∃(ao:GH) (ap:Value) (aq:Itm),GLe G ao∧Fr a 18 [(0,iv x0),(2,pb aa),(3,pb ac),(4,iv am)]∧Mem W ao w (ib aa 26 [sn]::ib ac 26 [ap]::aq::H)∧Ow R1 40 ao aq ap an) ag ⟨_,_,Z,_,sn,ad,gr,f.k Z,m,ae⟩ ?_)
  clear ag f m
  rintro al ar au av a w ⟨am,an,rfl,ao,ap,aq,aw,f,m,ax⟩
  refine Ag (Ae (Ab f Z λa f=>Ab f Z λa f=>Ai f Z Z AN λa f=>Aa ?_))
  rcases Af au with⟨ay,au⟩|⟨ay,au⟩
  ·refine Ak f Z ay (Ap (Ag (Aq (Al (Br underlying26 Z sizeOf24 f Z λa f=>AV 1 0 m Bl f Z Z Z Z λa f=>AM (R:=R0) (xs:=([]:LI)) (RI.one _) m T40 f Z Z Z (by decide) (All2.nil _) λaz aA w a m aB f=> ?_)))))
   obtain⟨aC,aD,m,aE⟩:=Ow.stamp (RI.mono _) aB m
   refine have ax:=od3 aD ax;AM (R:=R1) (xs:=([([]:LI)]:LL)) (RSl.one _) m T24 f Z Z Z (by decide) (All2.cons aE (All2.nil _)) λaF aG w a m aH f=>Bd au λaI aJ au=>A1 (RSl.one _) 3 m ax Z T24 Z (by decide) f Z Z Z (Ow.src (j:=0) aH m Z) aJ λaK aL w a m aM f=>Br underlying26 Z sizeOf24 f Z λa f=>Aj 2 0 (ds:=[aL]) m sizeOf24 f Z Z (Ow.cells 3 m aM Z) (Ao (Ow.one1 3 m aM Z) As) Z (lb Z) Z λw m=>Aa (Al (Ab f Z λa f=>Ai f Z Z AD λa f=>Ac f Z λa f=>Aa (have m:=m.fr 3;have m:=m.fr 3;have m:=m.fr 3;have m:=m.eraseAt 3;?_)))
   obtain rfl:=sj au
   exact⟨_,Z,_,_,Z,_,aL,aK,(gt aw aD),f.k Z,m,aM⟩
  ·refine Ah f Z ay (AO Z ?_)
   obtain rfl:=sj au
   obtain rfl:=av _ rfl
   exact⟨_,Z,_,ap,aq,aw,f.k Z,m,ax⟩
 ·rintro a w ⟨ah,rfl,ai,aj,ak,aN,f,m,aO⟩
  refine Ae (Ax 1 0 (ds:=[aj]) m Az f Z Z Z Z Z λa f=>Aj 0 0 (ds:=[aj]) m sizeOf26 f Z Z Z (Ao (Ow.one1 2 m aO Z) As) Z (lb Z) Z λw m=>Aa (Ar (have aP:=AT (P:=prog) 0 m Az f (s:=2) rfl rfl rfl;have m:=m.fr 2;have m:=m.eraseAt 2;have m:=m.eraseAt 1;?_)))
  obtain rfl:=sj hd
  exact⟨[(.agg #[aj])],⟨aP,trivial⟩,f.d,_,[ak],aN,m,_,_,Z,Z,aO⟩
theorem Wk.F {v0:Value}{x0:LI}(m:Mem W G w (H))(h0:R1 G v0 x0){y:(LI)}(hd:D.F x0=some y):
  Calls prog 101 #[v0] w (Res W G H (λG' Ho v=>∃r0:Value,∃i0:Itm,Ho=[i0]∧r0=v∧Ow R0 2 G' i0 r0 y)):=by
 refine Au (args:=[v0]) (N:=6) [.tmp 2] func101 Z Z (lb Z) Z λa f=> ?_
 unfold D.F at hd
 refine Ae (Ac f Z λa f=>AA (AM (R:=R0) (xs:=([]:LI)) (RI.one _) m T40 f Z Z Z (by decide) (All2.nil _) λaa ab w a m ac f=>Ab f Z λa f=>Bd hd λad ae hd=>A1 (RI.one _) 0 m ac Z T40 Z (by decide) f Z Z Z (h0.src m) ae λaf ag w a m ah f=>Ac f Z λa f=>Aa (Ar ?_)))
 obtain rfl:=sj hd
 exact⟨[ag],f.g Z,f.d,_,[af],gr,m,_,_,Z,Z,ah⟩
theorem Wk.h {v0:Value}{x0:LI}{x1:Int}(m:Mem W G w (H))(h0:R1 G v0 x0){y:(LI)}(hd:D.h x0 x1=some y):
  Calls prog 80 #[v0,iv x1] w (Res W G H (λG' Ho v=>∃r0:Value,Ho=[]∧r0=v∧R1 G' r0 y)):=by
 refine Au (args:=[v0,iv x1]) (N:=46) [.tmp 4] func80 Z Z (lb Z) Z λa f=> ?_
 unfold D.h at hd
 refine Ae (Ac f Z λa f=>AA (Ac f Z λa f=>Aa (Ag (Bd hd λaa ab hd=> ?_))))
 refine AY (λa w=>∃ac:Int,ac=aa∧∃(ad:GH),GLe G ad∧Fr a 46 [(0,v0),(1,iv x1),(5,iv ac)]∧Mem W ad w (H)) ?_ ?_
 ·refine Aq (AP (λae a w=>∃af:Int,af=ae∧∃(ag:GH),GLe G ag∧Fr a 46 [(0,v0),(1,iv x1),(5,iv af)]∧Mem W ag w (H)) ab ⟨_,Z,_,gr,f.k Z,m⟩ ?_)
  clear ab f m
  rintro ae ah ai aj a w ⟨af,rfl,ag,ak,f,m⟩
  refine have h0:=rd1 ak h0;Ag (Ae (Ab f Z λa f=>Ab f Z λa f=>A9 underlying40 f Z Z h0 λa f=>Ai f Z Z AN λa f=>Ab f Z λa f=>Bd ai λal am ai=> ?_))
  refine A2 7 (λa w=>∃an,GLe ag an∧Mem W an w (H)∧Fr a 46 [(0,v0),(1,iv x1),(5,iv af),(7,iv af),(8,v0),(9,(iv (x0.length:Int))),(10,(.bool (decide (af<(x0.length:Int))))),(11,(.bool (decide (af<(x0.length:Int))))),(18,(.bool al))]) ?_ ?_
  ·rcases Af am with⟨ao,am⟩|⟨ao,am⟩
   ·refine Am f ao (Ab f Z λa f=>Am f ao (Ab f Z λa f=>Am f ao (Bd am λap aq am=>BA T40 f Z Z Z h0 aq λar au a av aw f=> ?_)))
    subst aw
    refine Am f ao (AU m Pl2 f Z Z av λa f=>Am f ao (Ab f Z λa f=>Am f ao (Ai f Z Z AN λa f=>l_o f (AE (f.e Z) ao (f.e Z)) λa f=> ?_)))
    obtain rfl:=sj am
    exact⟨_,gr,m,f.k Z⟩
   ·refine An f ao λa f=>An f ao λa f=>An f ao λa f=>An f ao λa f=>An f ao λa f=>An f ao λa f=>l_o f (AF (f.e Z) ao (f.e Z)) λa f=> ?_
    obtain rfl:=sj am
    exact⟨_,gr,m,f.k Z⟩
  ·rintro a w ⟨an,ax,m,f⟩
   refine Aa ?_
   rcases Af ai with⟨ay,ai⟩|⟨ay,ai⟩
   ·refine Ak f Z ay (Ap (Aq (Al (Ab f Z λa f=>Ai f Z Z AD λa f=>Ac f Z λa f=>Aa ?_))))
    obtain rfl:=sj ai
    exact⟨_,Z,_,Z,_,(gt ak ax),f.k Z,m⟩
   ·refine Ah f Z ay (AO Z ?_)
    obtain rfl:=sj ai
    obtain rfl:=aj _ rfl
    exact⟨_,Z,_,(gt ak ax),f.k Z,m⟩
 ·rintro a w ⟨ac,rfl,ad,az,f,m⟩
  refine have h0:=rd1 az h0;Ag (Ae (Ab f Z λa f=>Ab f Z λa f=>A9 underlying40 f Z Z h0 λa f=>Ai f Z Z AN λa f=>Ab f Z λa f=>Bd hd λaA aB hd=> ?_))
  refine A2 7 (λa w=>∃aC,GLe ad aC∧Mem W aC w (H)∧Fr a 46 [(0,v0),(1,iv x1),(5,iv ac),(21,iv ac),(22,v0),(23,(iv (x0.length:Int))),(24,(.bool (decide (ac<(x0.length:Int))))),(25,(.bool (decide (ac<(x0.length:Int))))),(32,(.bool aA))]) ?_ ?_
  ·rcases Af aB with⟨aD,aB⟩|⟨aD,aB⟩
   ·refine Am f aD (Ab f Z λa f=>Am f aD (Ab f Z λa f=>Am f aD (Bd aB λaE aF aB=>BA T40 f Z Z Z h0 aF λaG aH a aI aJ f=> ?_)))
    subst aJ
    refine Am f aD (AU m Pl2 f Z Z aI λa f=>Am f aD (Ab f Z λa f=>Am f aD (Ai f Z Z BD λa f=>l_o f (AE (f.e Z) aD (f.e Z)) λa f=> ?_)))
    obtain rfl:=sj aB
    exact⟨_,gr,m,f.k Z⟩
   ·refine An f aD λa f=>An f aD λa f=>An f aD λa f=>An f aD λa f=>An f aD λa f=>An f aD λa f=>l_o f (AF (f.e Z) aD (f.e Z)) λa f=> ?_
    obtain rfl:=sj aB
    exact⟨_,gr,m,f.k Z⟩
  ·rintro a w ⟨aC,aK,m,f⟩
   refine have h0:=rd1 aK h0;Aa ?_
   rcases Af hd with⟨aL,hd⟩|⟨aL,hd⟩
   ·refine Ak f Z aL (Ae (Ab f Z λa f=>Ac f Z λa f=>Aa (Ar ?_)))
    obtain rfl:=sj hd
    exact⟨[v0],f.g Z,f.d,_,[],(gt az aK),m,_,Z,Z,h0⟩
   ·refine Ah f Z aL (Ap (Ae (Ab f Z λa f=>Ab f Z λa f=>Bd hd λaM aN hd=>Ef T40 f Z Z h0 (.inl ⟨Z,Z⟩) (.inr ⟨_,_,Z,Z⟩) aN λaO a aP f=>Bd hd λaQ aR hd=>Cy f Z call101 (Wk.F m aP aR) λaS aT aU w aV m aW a f=>have h0:=rd1 aV h0;Ab f Z λa f=>AM (R:=R0) (xs:=([x1]:LI)) (RI.one _) m T40 f Z Z Z (by decide) (All2.cons Z (All2.nil _)) λaX aY w a m aZ f=>Bd hd λa0 a1 hd=>A1 (RI.one _) 1 m aW Z T40 Z (by decide) f Z Z Z (Ow.src (j:=0) aZ m Z) a1 λa2 a3 w a m a4 f=>Ac f Z λa f=>AA (Ab f Z λa f=>Ab f Z λa f=>Ab f Z λa f=>Bd hd λa5 a6 hd=>Ef T40 f Z Z h0 (.inr ⟨_,_,Z,Z⟩) (.inl ⟨Z,Z⟩) a6 λa7 a a8 f=>Bd hd λa9 ba hd=>A1 (RI.one _) 1 m a4 Z T40 Z (by decide) f Z Z Z (a8.src m) ba λbb bc w a m bd f=>Ac f Z λa f=>Aa (Ar (have m:=m.fr 1;?_))))))
    obtain⟨be,bf,m,bg⟩:=Ow.stamp (RI.mono _) bd m
    have m:=m.dp 1
    obtain rfl:=sj hd
    exact⟨[bc],f.g Z,f.d,_,[],(gt az (gt aK (gt aV bf))),m,_,Z,Z,bg⟩
theorem Wk.d {aa:Value}{ab:Itm}{ac:LL}{x1 x2:Int}(m:Mem W G w (ab::H))(ad:Ow R1 40 G ab aa ac){y:(LL)}(hd:D.d ac x1 x2=some y):
  Calls prog 60 #[(.agg #[aa]),iv x1,iv x2] w (Res W G H (λG' Ho v=>∃i0:Itm,Ho=[i0]∧v=(.agg #[aa])∧Ow R1 40 G' i0 aa y)):=by
 refine Au (args:=[(.agg #[aa]),iv x1,iv x2]) (N:=30) [.cell 6 26] func60 Z Z (lb Z) Z λa f=> ?_
 unfold D.d at hd
 refine Ae (BW (cs:=[aa]) m f Z Z Z λae w a m f=>AQ (cs:=[sn]) zeroValue26 m f Z Z λaf w a m f=>Aa (Ag (BE 11 Bi (by kernel_rfl) m (B5 0 11 underlying26 Z sizeOf24 Z f Z λa f=>B4 1 11 1 Bl Z Z Z f Z λa f=>AK 2 11 Z f Z λa f=>B5 3 11 underlying26 Z sizeOf24 Z f Z λa f=>B4 4 11 1 Bl Z Z Z f Z λa f=>AK 5 11 Z f Z λa f=>Bd hd λag ah hd=>Cz 6 11 2 m ad T24 ah Z f Z Z λai a aj f=>q_ol 7 11 2 ad Bt aj ah Z f Z λak a al f=>AK 8 11 Z f Z λa f=>Bx 9 Z λam w an m ao ao=>have al:=rd1 an al;have ad:=od3 an ad;Bd hd λap aq hd=>AH f Z call80 (Wk.h m al aq) λar au av w aw m ax a f=> ?_))))
 obtain⟨ay,rfl,rfl,az⟩:=ax
 refine have ad:=od3 aw ad;Aa (ao au [] _ _ aw m (Bd hd λaA aB hd=>Cz 10 11 2 m ad T24 aB Z f Z Z λaC a aD f=>Bs λaE w aF m=>have az:=rd1 aF az;have ad:=od3 aF ad;Cd 2 m ad Z sizeOf40 f Z Z aD aB az.cells az.one1 az λaG w m aH=>Aa (Ag (BE 11 Bi (by kernel_rfl) m (B5 0 11 underlying26 Z sizeOf24 Z f Z λa f=>B4 1 11 1 Bl Z Z Z f Z λa f=>AK 2 11 Z f Z λa f=>B5 3 11 underlying26 Z sizeOf24 Z f Z λa f=>B4 4 11 1 Bl Z Z Z f Z λa f=>AK 5 11 Z f Z λa f=>Bd hd λaI aJ hd=>Cz 6 11 2 m aH T24 aJ Z f Z Z λaK a aL f=>q_ol 7 11 2 aH Bt aL aJ Z f Z λaM a aN f=>AK 8 11 Z f Z λa f=>Bx 9 Z λaO w aP m aQ aQ=>have aN:=rd1 aP aN;have aH:=od3 aP aH;Bd hd λaR aS hd=>AH f Z call80 (Wk.h m aN aS) λaT aU aV w aW m aX a f=> ?_)))))
 obtain⟨aY,rfl,rfl,aZ⟩:=aX
 refine have aH:=od3 aW aH;Aa (aQ aU [] _ _ aW m (Bd hd λa0 a1 hd=>Cz 10 11 2 m aH T24 a1 Z f Z Z λa2 a a3 f=>Bs λa4 w a5 m=>have aZ:=rd1 a5 aZ;have aH:=od3 a5 aH;Cd 2 m aH Z sizeOf40 f Z Z a3 a1 aZ.cells aZ.one1 aZ λa6 w m a7=>AA (Ax 1 0 (ds:=[aa]) m Az f Z Z Z Z Z λa f=>Aj 0 0 (ds:=[aa]) m sizeOf26 f Z Z Z (Ao (Ow.one1 2 m a7 Z) As) Z (lb Z) Z λw m=>Aa (Ar (have a8:=AT (P:=prog) 0 m Az f (s:=6) rfl rfl rfl;have m:=m.fr 2;have m:=m.eraseAt 2;have m:=m.eraseAt 1;?_)))))
 obtain rfl:=sj hd
 exact⟨[(.agg #[aa])],⟨a8,trivial⟩,f.d,_,[a6],(gt an (gt aw (gt aF (gt aP (gt aW a5))))),m,_,Z,Z,a7⟩
theorem Wk.l {b0:Nat}{aa:Value}{ab:LI}{ac ad x1:Int}(m:Mem W G w (ib b0 56 [aa,iv ac,iv ad]::H))(ae:RSl (RI .u8) G aa ab){y:Bool×(LI)×Int×Int}(hd:D.l ab ac ad x1=some y):
  Calls prog 34 #[pb b0,iv x1] w (Res W G H (λG' Ho v=>∃r0:Value,Ho=[AG b0 y.2.2.1 y.2.2.2 r0]∧v=(.bool y.1)∧RSl (RI .u8) G' r0 y.2.1)):=by
 refine Au (args:=[pb b0,iv x1]) (N:=9) [.tmp 4] func34 Z Z (lb Z) Z λa f=> ?_
 unfold D.l at hd
 refine Ae (Ac f Z λa f=>AA (Ab f Z λa f=>Ab f Z λa f=>Bd hd λaf ag hd=>AH f Z call40 (Wk.b m ae ag) λah ai aj w ak m al a f=> ?_))
 obtain⟨am,rfl,rfl,an⟩:=al
 refine Ai f Z Z BD λa f=>Ac f Z λa f=>Aa (Ar ?_)
 obtain rfl:=sj hd
 exact⟨[(.bool (af.1==0))],f.g Z,f.d,_,[AG b0 af.2.2.1 af.2.2.2 am],ak,m,_,Z,Z,an⟩
theorem Wk.p0 {b0:Nat}{aa:Value}{ab:LI}{ac ad:Int}(m:Mem W G w (ib b0 56 [aa,iv ac,iv ad]::H))(ae:RSl (RI .u8) G aa ab){y:Int×(LI)×Int×Int}(hd:D.p0 ab ac ad=some y):
  Calls prog 65 #[pb b0] w (Res W G H (λG' Ho v=>∃r0:Value,Ho=[AG b0 y.2.2.1 y.2.2.2 r0]∧v=(iv y.1)∧RSl (RI .u8) G' r0 y.2.1)):=by
 refine Au (args:=[pb b0]) (N:=8) [.tmp 2] func65 Z Z (lb Z) Z λa f=> ?_
 unfold D.p0 at hd
 refine Ae (Ac f Z λa f=>AA (AM (R:=R0) (xs:=([(-1),0,1,2147483648,(-2147483648),1099511627776,4611686018427387904,(-4611686018427387904),9223372036854775807,(-9223372036854775808)]:LI)) (RI.one _) m T40 f Z Z Z (by decide) (All2.cons Z (All2.cons Z (All2.cons Z (All2.cons Z (All2.cons Z (All2.cons Z (All2.cons Z (All2.cons Z (All2.cons Z (All2.cons Z (All2.nil _))))))))))) λaf ag w a m ah f=>Ab f Z λa f=>have m:=m.fr 1;Bd hd λai aj hd=>AH f Z call40 (Wk.b m ae aj) λak al am w an m ao a f=> ?_))
 obtain⟨ap,rfl,rfl,aq⟩:=ao
 refine have ah:=od1 an ah;Bd hd λar au hd=>Bz 1 m ah Z T40 f Z Z Z au λav a aw f=>Bq 1 m ah Z Pl2 f Z Z aw au λax a ay f=> ?_
 subst ay
 refine Ac f Z λa f=>Aa (Ar (have m:=m.eraseAt 1;?_))
 obtain rfl:=sj hd
 exact⟨[iv ar],f.g Z,f.d,_,[AG b0 ai.2.2.1 ai.2.2.2 ap],an,m,_,Z,Z,aq⟩
theorem Wk.n0 {x0 x1:Int}(m:Mem W G w (H)){y:Int}(hd:D.n0 x0 x1=some y):
  Calls prog 66 #[iv x0,iv x1] w (Res W G H (λ_ Ho v=>Ho=[]∧v=(iv y))):=by
 refine Au (args:=[iv x0,iv x1]) (N:=10) [.tmp 4] func66 Z Z (lb Z) Z λa f=> ?_
 unfold D.n0 at hd
 refine Ae (Ac f Z λa f=>Aa (Ag (Ae (Ab f Z λa f=>Ab f Z λa f=>Ai f Z Z AN λa f=>Aa ?_))))
 rcases Af hd with⟨aa,hd⟩|⟨aa,hd⟩
 ·refine Ak f Z aa (Ae (Ab f Z λa f=>Ac f Z λa f=>Aa (Ar ?_)))
  obtain rfl:=sj hd
  exact⟨[iv x0],f.g Z,f.d,_,[],gr,m,Z,Z⟩
 ·refine Ah f Z aa (Ap (Ae (Ab f Z λa f=>Ac f Z λa f=>Aa (Ar ?_))))
  obtain rfl:=sj hd
  exact⟨[iv x1],f.g Z,f.d,_,[],gr,m,Z,Z⟩
theorem Wk.R {b0:Nat}{aa:Value}{ab:LI}{ac ad x1:Int}(m:Mem W G w (ib b0 56 [aa,iv ac,iv ad]::H))(ae:RSl (RI .u8) G aa ab){y:Int×(LI)×Int×Int}(hd:D.R ab ac ad x1=some y):
  Calls prog 41 #[pb b0,iv x1] w (Res W G H (λG' Ho v=>∃r0:Value,Ho=[AG b0 y.2.2.1 y.2.2.2 r0]∧v=(iv y.1)∧RSl (RI .u8) G' r0 y.2.1)):=by
 refine Au (args:=[pb b0,iv x1]) (N:=28) [.tmp 4] func41 Z Z (lb Z) Z λa f=> ?_
 unfold D.R at hd
 refine Ae (Ac f Z λa f=>Aa (Ag (Ae (Ab f Z λa f=>Bd hd λaf ag hd=>AH f Z call34 (Wk.l m ae ag) λah ai aj w ak m al a f=> ?_))))
 obtain⟨am,rfl,rfl,an⟩:=al
 refine Aa ?_
 rcases Af hd with⟨ao,hd⟩|⟨ao,hd⟩
 ·refine Ak f Z ao (Ae (Ab f Z λa f=>Ab f Z λa f=>Ai f Z Z AD λa f=>Ab f Z λa f=>Bd hd λap aq hd=>AH f Z call65 (Wk.p0 m an aq) λar au av w aw m ax a f=> ?_))
  obtain⟨ay,rfl,rfl,az⟩:=ax
  refine AM (R:=R0) (xs:=([(-1),x1,(i64.wrap (x1+1)),ap.1]:LI)) (RI.one _) m T40 f Z Z Z (by decide) (All2.cons Z (All2.cons Z (All2.cons Z (All2.cons Z (All2.nil _))))) λaA aB w a m aC f=>Ab f Z λa f=>have m:=m.fr 1;Bd hd λaD aE hd=>AH f Z call40 (Wk.b m az aE) λaF aG aH w aI m aJ a f=> ?_
  obtain⟨aK,rfl,rfl,aL⟩:=aJ
  refine have aC:=od1 aI aC;Bd hd λaM aN hd=>Bz 1 m aC Z T40 f Z Z Z aN λaO a aP f=>Bq 1 m aC Z Pl2 f Z Z aP aN λaQ a aR f=> ?_
  subst aR
  refine Ac f Z λa f=>Aa (Ar (have m:=m.eraseAt 1;?_))
  obtain rfl:=sj hd
  exact⟨[iv aM],f.g Z,f.d,_,[AG b0 aD.2.2.1 aD.2.2.2 aK],(gt ak (gt aw aI)),m,_,Z,Z,aL⟩
 ·refine Ah f Z ao (Ap (Ag (Ae (Ab f Z λa f=>Bd hd λaS aT hd=>AH f Z call34 (Wk.l m an aT) λaU aV aW w aX m aY a f=> ?_))))
  obtain⟨aZ,rfl,rfl,a0⟩:=aY
  refine Aa ?_
  rcases Af hd with⟨a1,hd⟩|⟨a1,hd⟩
  ·refine Ak f Z a1 (Ae (Ab f Z λa f=>Ab f Z λa f=>Bd hd λa2 a3 hd=>A7 f Z call66 (Wk.n0 m a3) λa4 w a5 m a f=>have a0:=rd1 a5 a0;Ai f Z Z AD λa f=>Bd hd λa6 a7 hd=>AH f Z call40 (Wk.b m a0 a7) λa8 a9 ba w bb m bc a f=> ?_))
   obtain⟨bd,rfl,rfl,be⟩:=bc
   refine Ac f Z λa f=>Aa (Ar ?_)
   obtain rfl:=sj hd
   exact⟨[iv a6.1],f.g Z,f.d,_,[AG b0 a6.2.2.1 a6.2.2.2 bd],(gt ak (gt aX (gt a5 bb))),m,_,Z,Z,be⟩
  ·refine Ah f Z a1 (Ap (Ae (Ab f Z λa f=>Ab f Z λa f=>Ai f Z Z AD λa f=>Bd hd λbf bg hd=>AH f Z call40 (Wk.b m a0 bg) λbh bi bj w bk m bl a f=> ?_)))
   obtain⟨bm,rfl,rfl,bn⟩:=bl
   refine Ac f Z λa f=>Aa (Ar ?_)
   obtain rfl:=sj hd
   exact⟨[iv bf.1],f.g Z,f.d,_,[AG b0 bf.2.2.1 bf.2.2.2 bm],(gt ak (gt aX bk)),m,_,Z,Z,bn⟩
theorem Wk.k0 {v0:Value}{it0:Itm}{x0:LI}{x1:Int}(m:Mem W G w (it0::H))(o0:Ow R0 2 G it0 v0 x0){y:(LI)}(hd:D.k0 x0 x1=some y):
  Calls prog 80 #[v0,iv x1] w (Res W G H (λG' Ho v=>∃r0:Value,∃i0:Itm,Ho=[i0]∧r0=v∧Ow R0 2 G' i0 r0 y)):=by
 refine Au (args:=[v0,iv x1]) (N:=46) [.tmp 4] func80 Z Z (lb Z) Z λa f=> ?_
 unfold D.k0 at hd
 refine Ae (Ac f Z λa f=>AA (Ac f Z λa f=>Aa (Ag (Bd hd λaa ab hd=> ?_))))
 refine AY (λa w=>∃ac:Int,ac=aa∧∃(ad:GH),GLe G ad∧Fr a 46 [(0,v0),(1,iv x1),(5,iv ac)]∧Mem W ad w (it0::H)) ?_ ?_
 ·refine Aq (AP (λae a w=>∃af:Int,af=ae∧∃(ag:GH),GLe G ag∧Fr a 46 [(0,v0),(1,iv x1),(5,iv af)]∧Mem W ag w (it0::H)) ab ⟨_,Z,_,gr,f.k Z,m⟩ ?_)
  clear ab f m
  rintro ae ah ai aj a w ⟨af,rfl,ag,ak,f,m⟩
  refine have o0:=od1 ak o0;Ag (Ae (Ab f Z λa f=>Ab f Z λa f=>BF 0 m o0 Z underlying40 f Z Z λa f=>Ai f Z Z AN λa f=>Ab f Z λa f=>Bd ai λal am ai=> ?_))
  refine A2 7 (λa w=>∃an,GLe ag an∧Mem W an w (it0::H)∧Fr a 46 [(0,v0),(1,iv x1),(5,iv af),(7,iv af),(8,v0),(9,(iv (x0.length:Int))),(10,(.bool (decide (af<(x0.length:Int))))),(11,(.bool (decide (af<(x0.length:Int))))),(18,(.bool al))]) ?_ ?_
  ·rcases Af am with⟨ao,am⟩|⟨ao,am⟩
   ·refine Am f ao (Ab f Z λa f=>Am f ao (Ab f Z λa f=>Am f ao (Bd am λap aq am=>Bz 0 m o0 Z T40 f Z Z Z aq λar a au f=>Am f ao (Bq 0 m o0 Z Pl2 f Z Z au aq λav a aw f=> ?_))))
    subst aw
    refine Am f ao (Ab f Z λa f=>Am f ao (Ai f Z Z AN λa f=>l_o f (AE (f.e Z) ao (f.e Z)) λa f=> ?_))
    obtain rfl:=sj am
    exact⟨_,gr,m,f.k Z⟩
   ·refine An f ao λa f=>An f ao λa f=>An f ao λa f=>An f ao λa f=>An f ao λa f=>An f ao λa f=>l_o f (AF (f.e Z) ao (f.e Z)) λa f=> ?_
    obtain rfl:=sj am
    exact⟨_,gr,m,f.k Z⟩
  ·rintro a w ⟨an,ax,m,f⟩
   refine Aa ?_
   rcases Af ai with⟨ay,ai⟩|⟨ay,ai⟩
   ·refine Ak f Z ay (Ap (Aq (Al (Ab f Z λa f=>Ai f Z Z AD λa f=>Ac f Z λa f=>Aa ?_))))
    obtain rfl:=sj ai
    exact⟨_,Z,_,Z,_,(gt ak ax),f.k Z,m⟩
   ·refine Ah f Z ay (AO Z ?_)
    obtain rfl:=sj ai
    obtain rfl:=aj _ rfl
    exact⟨_,Z,_,(gt ak ax),f.k Z,m⟩
 ·rintro a w ⟨ac,rfl,ad,az,f,m⟩
  refine have o0:=od1 az o0;Ag (Ae (Ab f Z λa f=>Ab f Z λa f=>BF 0 m o0 Z underlying40 f Z Z λa f=>Ai f Z Z AN λa f=>Ab f Z λa f=>Bd hd λaA aB hd=> ?_))
  refine A2 7 (λa w=>∃aC,GLe ad aC∧Mem W aC w (it0::H)∧Fr a 46 [(0,v0),(1,iv x1),(5,iv ac),(21,iv ac),(22,v0),(23,(iv (x0.length:Int))),(24,(.bool (decide (ac<(x0.length:Int))))),(25,(.bool (decide (ac<(x0.length:Int))))),(32,(.bool aA))]) ?_ ?_
  ·rcases Af aB with⟨aD,aB⟩|⟨aD,aB⟩
   ·refine Am f aD (Ab f Z λa f=>Am f aD (Ab f Z λa f=>Am f aD (Bd aB λaE aF aB=>Bz 0 m o0 Z T40 f Z Z Z aF λaG a aH f=>Am f aD (Bq 0 m o0 Z Pl2 f Z Z aH aF λaI a aJ f=> ?_))))
    subst aJ
    refine Am f aD (Ab f Z λa f=>Am f aD (Ai f Z Z BD λa f=>l_o f (AE (f.e Z) aD (f.e Z)) λa f=> ?_))
    obtain rfl:=sj aB
    exact⟨_,gr,m,f.k Z⟩
   ·refine An f aD λa f=>An f aD λa f=>An f aD λa f=>An f aD λa f=>An f aD λa f=>An f aD λa f=>l_o f (AF (f.e Z) aD (f.e Z)) λa f=> ?_
    obtain rfl:=sj aB
    exact⟨_,gr,m,f.k Z⟩
  ·rintro a w ⟨aC,aK,m,f⟩
   refine have o0:=od1 aK o0;Aa ?_
   rcases Af hd with⟨aL,hd⟩|⟨aL,hd⟩
   ·refine Ak f Z aL (Ae (Ab f Z λa f=>Ac f Z λa f=>Aa (Ar ?_)))
    obtain rfl:=sj hd
    exact⟨[v0],f.g Z,f.d,_,[it0],(gt az aK),m,_,_,Z,Z,o0⟩
   ·refine Ah f Z aL (Ap (Ae (Ab f Z λa f=>Ab f Z λa f=> ?_)))
    obtain⟨aM,aN,m,aO⟩:=Ow.stamp (RI.mono _) o0 m
    refine Bd hd λaP aQ hd=>Ef T40 f Z Z aO (.inl ⟨Z,Z⟩) (.inr ⟨_,_,Z,Z⟩) aQ λaR a aS f=>Bd hd λaT aU hd=>Cy f Z call101 (Wk.F m aS aU) λaV aW aX w aY m aZ a f=>have aO:=rd1 aY aO;Ab f Z λa f=>AM (R:=R0) (xs:=([x1]:LI)) (RI.one _) m T40 f Z Z Z (by decide) (All2.cons Z (All2.nil _)) λa0 a1 w a m a2 f=>Bd hd λa3 a4 hd=>A1 (RI.one _) 1 m aZ Z T40 Z (by decide) f Z Z Z (Ow.src (j:=0) a2 m Z) a4 λa5 a6 w a m a7 f=>Ac f Z λa f=>AA (Ab f Z λa f=>Ab f Z λa f=>Ab f Z λa f=>Bd hd λa8 a9 hd=>Ef T40 f Z Z aO (.inr ⟨_,_,Z,Z⟩) (.inl ⟨Z,Z⟩) a9 λba a bb f=>Bd hd λbc bd hd=>A1 (RI.one _) 1 m a7 Z T40 Z (by decide) f Z Z Z (bb.src m) bd λbe bf w a m bg f=>Ac f Z λa f=>Aa (Ar (have m:=m.fr 1;have m:=m.eraseAt 1;?_)))
    obtain rfl:=sj hd
    exact⟨[bf],f.g Z,f.d,_,[be],(gt az (gt aK (gt aN aY))),m,_,_,Z,Z,bg⟩
theorem Wk.A {x0:Int}(m:Mem W G w (H)){y:(LL)}(hd:D.A x0=some y):
  Calls prog 42 #[iv x0] w (Res W G H (λG' Ho v=>∃r0:Value,∃i0:Itm,Ho=[i0]∧v=(.agg #[r0])∧Ow2 R0 40 2 G' i0 r0 y)):=by
 refine Au (args:=[iv x0]) (N:=18) [.cell 2 26] func42 Z Z (lb Z) Z λa f=> ?_
 unfold D.A at hd
 refine Ae (AQ (cs:=[sn]) zeroValue26 m f Z Z λaa w a m f=>AA ?_)
 have ab:∀w,(Instr.build 26 #[]).run prog w= .ok (.agg #[sn]) w:=by intro w;simp[Instr.build,Instr.fill,A3,AX,AL,AR,AI,A4,AZ]
 refine Be f Z Z ab λa f=>AQ (cs:=[sn]) zeroValue26 m f Z Z λac w a m f=>Aj 0 0 (ds:=[sn]) m sizeOf26 f Z Z Z (Ao Z As) Z (lb Z) Z λw m=>Aa (Ag (Ae (Ac f Z λa f=>Aa ?_)))
 obtain⟨ad,m,ae⟩:=Ow2.nil R0 40 2 m
 have⟨af,ag,hd⟩:=bind_some hd
 refine AY (λa w=>∃ah:LL,ah=af∧∃(ai:GH) (aj:Value) (ak:Itm),GLe G ai∧Fr a 18 [(2,pb aa),(3,pb ac)]∧Mem W ai w (ib aa 26 [sn]::ib ac 26 [aj]::ak::H)∧Ow2 R0 40 2 ai ak aj ah) ?_ ?_
 ·refine Aq (have m:=m.fr 1;have m:=m.fr 2;AP (λal a w=>∃am:Int,∃an:LL,(am,an)=al∧∃(ao:GH) (ap:Value) (aq:Itm),GLe G ao∧Fr a 18 [(0,iv x0),(2,pb aa),(3,pb ac),(4,iv am)]∧Mem W ao w (ib aa 26 [sn]::ib ac 26 [ap]::aq::H)∧Ow2 R0 40 2 ao aq ap an) ag ⟨_,_,Z,_,sn,ad,gr,f.k Z,m,ae⟩ ?_)
  clear ag f m
  rintro al ar au av a w ⟨am,an,rfl,ao,ap,aq,aw,f,m,ax⟩
  refine Ag (Ae (Ab f Z λa f=>Ab f Z λa f=>Ai f Z Z AN λa f=>Aa ?_))
  rcases Af au with⟨ay,au⟩|⟨ay,au⟩
  ·refine Ak f Z ay (Ap (Ag (Aq (Al (Br underlying26 Z sizeOf24 f Z λa f=>AV 1 0 m Bl f Z Z Z Z λa f=>AM (R:=R0) (xs:=([]:LI)) (RI.one _) m T40 f Z Z Z (by decide) (All2.nil _) λaz aA w a m aB f=>AM (R:=RawS) (xs:=[aA]) RawS.one m T24 f Z Z Z (by decide) (All2.cons ⟨Z,Ow.one1 0 m aB Z,Ow.cells 0 m aB Z⟩ (All2.nil _)) λaC aD w a m aE f=>have m:=m.fr 1;have m:=m.fr 4;Bd au λaF aG au=>D8 m ax aB aE T24 Z (by decide) f Z Z Z aG λaH aI w a m aJ f=>Br underlying26 Z sizeOf24 f Z λa f=>Aj 2 0 (ds:=[aI]) m sizeOf24 f Z Z (Ow2.cells 0 m aJ Z) (Ao (Ow2.one1 0 m aJ Z) As) Z (lb Z) Z λw m=>Aa (Al (Ab f Z λa f=>Ai f Z Z AD λa f=>Ac f Z λa f=>Aa (have m:=m.fr 2;have m:=m.fr 2;?_))))))))
   obtain rfl:=sj au
   exact⟨_,Z,_,_,Z,_,aI,aH,aw,f.k Z,m,aJ⟩
  ·refine Ah f Z ay (AO Z ?_)
   obtain rfl:=sj au
   obtain rfl:=av _ rfl
   exact⟨_,Z,_,ap,aq,aw,f.k Z,m,ax⟩
 ·rintro a w ⟨ah,rfl,ai,aj,ak,aK,f,m,aL⟩
  refine Ae (Ax 1 0 (ds:=[aj]) m Az f Z Z Z Z Z λa f=>Aj 0 0 (ds:=[aj]) m sizeOf26 f Z Z Z (Ao (Ow2.one1 2 m aL Z) As) Z (lb Z) Z λw m=>Aa (Ar (have aM:=AT (P:=prog) 0 m Az f (s:=2) rfl rfl rfl;have m:=m.fr 2;have m:=m.eraseAt 2;have m:=m.eraseAt 1;?_)))
  obtain rfl:=sj hd
  exact⟨[(.agg #[aj])],⟨aM,trivial⟩,f.d,_,[ak],aK,m,_,_,Z,Z,aL⟩
theorem Wk.I {aa:Value}{ab:Itm}{ac:LL}{x1 x2:Int}(m:Mem W G w (ab::H))(ad:Ow2 R0 40 2 G ab aa ac){y:(LL)}(hd:D.I ac x1 x2=some y):
  Calls prog 60 #[(.agg #[aa]),iv x1,iv x2] w (Res W G H (λG' Ho v=>∃i0:Itm,Ho=[i0]∧v=(.agg #[aa])∧Ow2 R0 40 2 G' i0 aa y)):=by
 refine Au (args:=[(.agg #[aa]),iv x1,iv x2]) (N:=30) [.cell 6 26] func60 Z Z (lb Z) Z λa f=> ?_
 unfold D.I at hd
 refine Ae (BW (cs:=[aa]) m f Z Z Z λae w a m f=>AQ (cs:=[sn]) zeroValue26 m f Z Z λaf w a m f=>Aa (Ag (have m:=m.fr 2;Eh [ab] (ib af 26 [sn]::ib ae 26 [aa]::H) 10 Bi (by kernel_rfl) m (B5 0 10 underlying26 Z sizeOf24 Z f Z λa f=>B4 1 10 1 Bl Z Z Z f Z λa f=>AK 2 10 Z f Z λa f=>B5 3 10 underlying26 Z sizeOf24 Z f Z λa f=>B4 4 10 1 Bl Z Z Z f Z λa f=>AK 5 10 Z f Z λa f=>AK 8 10 Z f Z λa f=>Bx 6 Z λag w ah m ai ai=>have ad:=od2 ah ad;Bd hd λaj ak hd=>Ch 0 m ad Z T24 f Z Z Z ak λal a am f=>Aa (ai ag [ab] _ _ gr m (Bx 7 Z λan w ao m ap ap=>have ad:=od2 ao ad;BS 0 m ad Z Bt f Z Z am ak λaq a ar f=>Aa (ap an [ab] _ _ gr m (Bx 9 Z λau w av m aw aw=>have ad:=od2 av ad;?_))))))))
 obtain⟨ax,ay,m,az,aA⟩:=Ow2.out ad m ak ar
 refine have m:=m.fr 1;Bd hd λaB aC hd=>Cy f Z call80 (Wk.k0 m aA aC) λaD aE aF w aG m aH a f=>have az:=OwH.mono (RI.mono _) aG az;Aa (aw aF [aE,ax] _ _ aG m (Bs λaI w aJ m=>have aH:=od1 aJ aH;have az:=OwH.mono (RI.mono _) aJ az;Bd hd λaK aL hd=>B7 1 m az Z T24 f Z Z Z aL λaM a aN f=>have m:=m.fr 1;BL m az aH sizeOf40 f Z Z aN λaO w m aP=>Aa (Ag (Eh [aO] (ib af 26 [sn]::ib ae 26 [aa]::H) 10 Bi (by kernel_rfl) m (B5 0 10 underlying26 Z sizeOf24 Z f Z λa f=>B4 1 10 1 Bl Z Z Z f Z λa f=>AK 2 10 Z f Z λa f=>B5 3 10 underlying26 Z sizeOf24 Z f Z λa f=>B4 4 10 1 Bl Z Z Z f Z λa f=>AK 5 10 Z f Z λa f=>AK 8 10 Z f Z λa f=>Bx 6 Z λaQ w aR m aS aS=>have aP:=od2 aR aP;Bd hd λaT aU hd=>Ch 0 m aP Z T24 f Z Z Z aU λaV a aW f=>Aa (aS aQ [aO] _ _ gr m (Bx 7 Z λaX w aY m aZ aZ=>have aP:=od2 aY aP;?_)))))))
 refine BS 0 m aP Z Bt f Z Z aW aU λa0 a a1 f=>Aa (aZ aX [aO] _ _ gr m (Bx 9 Z λa2 w a3 m a4 a4=>have aP:=od2 a3 aP;?_))
 obtain⟨a5,a6,m,a7,a8⟩:=Ow2.out aP m aU a1
 refine have m:=m.fr 1;Bd hd λa9 ba hd=>Cy f Z call80 (Wk.k0 m a8 ba) λbb bc bd w be m bf a f=>have a7:=OwH.mono (RI.mono _) be a7;Aa (a4 bd [bc,a5] _ _ be m (Bs λbg w bh m=>have bf:=od1 bh bf;have a7:=OwH.mono (RI.mono _) bh a7;Bd hd λbi bj hd=>B7 1 m a7 Z T24 f Z Z Z bj λbk a bl f=>have m:=m.fr 1;BL m a7 bf sizeOf40 f Z Z bl λbm w m bn=>AA (Ax 2 0 (ds:=[aa]) m Az f Z Z Z Z Z λa f=>Aj 1 0 (ds:=[aa]) m sizeOf26 f Z Z Z (Ao (Ow2.one1 0 m bn Z) As) Z (lb Z) Z λw m=>Aa (Ar (have bo:=AT (P:=prog) 1 m Az f (s:=6) rfl rfl rfl;have m:=m.eraseAt 2;have m:=m.eraseAt 1;?_)))))
 obtain rfl:=sj hd
 exact⟨[(.agg #[aa])],⟨bo,trivial⟩,f.d,_,[bm],(gt ah (gt ao (gt av (gt aG (gt aJ (gt aR (gt aY (gt a3 (gt be bh))))))))),m,_,Z,Z,bn⟩
theorem Wk.r0 {x0:Int}(m:Mem W G w (H)){y:(LL)×Bool}(hd:D.r0 x0=some y):
  Calls prog 81 #[iv x0] w (Res W G H (λG' Ho v=>∃r0:Value,∃i0:Itm,Ho=[i0]∧v= .tuple #[(.agg #[r0]),(.bool y.2)]∧Ow2 R0 40 2 G' i0 r0 y.1)):=by
 refine Au (args:=[iv x0]) (N:=10) [.cell 2 26,.tmp 3] func81 Z Z (lb Z) Z λa f=> ?_
 unfold D.r0 at hd
 refine Ae (AQ (cs:=[sn]) zeroValue26 m f Z Z λaa w a m f=>Ac f Z λa f=>Aa (Ag (Ae (Ab f Z λa f=>Bd hd λab ac hd=>A7 f Z call51 (Wk.a m ac) λad w ae m a f=>l_o f (Bg (f.e Z)) λa f=>Aa ?_))))
 rcases Af hd with⟨af,hd⟩|⟨af,hd⟩
 ·refine Ak f Z af (Ae ?_)
  have ag:∀w,(Instr.build 26 #[]).run prog w= .ok (.agg #[sn]) w:=by intro w;simp[Instr.build,Instr.fill,A3,AX,AL,AR,AI,A4,AZ]
  refine Be f Z Z ag λa f=>Aj 0 0 (ds:=[sn]) m sizeOf26 f Z Z Z (Ao Z As) Z (lb Z) Z λw m=>Ac f Z λa f=>Aa (Ar ?_)
  obtain⟨ah,m,ai⟩:=Ow2.nil R0 40 2 m
  refine have aj:=AT (P:=prog) 1 m Az f (s:=2) rfl rfl rfl;have m:=m.eraseAt 1;?_
  obtain rfl:=sj hd
  exact⟨[(.agg #[sn]),(.bool false)],⟨aj,f.get _ _ Z,trivial⟩,f.d,_,[ah],ae,m,_,_,Z,Z,ai⟩
 ·refine Ah f Z af (Ap (Ae (Ab f Z λa f=>Bd hd λak al hd=>AH f Z call42 (Wk.A m al) λam an ao w ap m aq a f=> ?_)))
  obtain⟨ar,au,rfl,rfl,av⟩:=aq
  refine Aj 1 0 (ds:=[ar]) m sizeOf26 f Z Z Z (Ao (Ow2.one1 0 m av Z) As) Z (lb Z) Z λw m=>Ac f Z λa f=>Aa (Ar (have aw:=AT (P:=prog) 1 m Az f (s:=2) rfl rfl rfl;have m:=m.eraseAt 1;?_))
  obtain rfl:=sj hd
  exact⟨[(.agg #[ar]),(.bool true)],⟨aw,f.get _ _ Z,trivial⟩,f.d,_,[au],(gt ae ap),m,_,_,Z,Z,av⟩
theorem Wk.V {x0:Int}(m:Mem W G w (H)){y:(LL)×Bool}(hd:D.V x0=some y):
  Calls prog 62 #[iv x0] w (Res W G H (λG' Ho v=>∃r0:Value,∃i0:Itm,Ho=[i0]∧v= .tuple #[(.agg #[r0]),(.bool y.2)]∧Ow2 R0 40 2 G' i0 r0 y.1)):=by
 refine Au (args:=[iv x0]) (N:=27) [.cell 2 26,.tmp 3] func62 Z Z (lb Z) Z λa f=> ?_
 unfold D.V at hd
 refine Ae (AQ (cs:=[sn]) zeroValue26 m f Z Z λaa w a m f=>Ac f Z λa f=>AA (Ab f Z λa f=>Bd hd λab ac hd=>AH f Z call81 (Wk.r0 m ac) λad ae af w ag m ah a f=> ?_))
 obtain⟨ai,aj,rfl,rfl,ak⟩:=ah
 refine Ab f Z λa f=>l_o f (AB (f.e Z) Z) λa f=>l_o f (AB (f.e Z) Z) λa f=>AQ (cs:=[sn]) zeroValue26 m f Z Z λal w a m f=>Aj 0 0 (ds:=[ai]) m sizeOf26 f Z Z Z (Ao (Ow2.one1 1 m ak Z) As) Z (lb Z) Z λw m=>Ac f Z λa f=>Aa (Ag (Ae (Ac f Z λa f=>Aa (Bd hd λam an hd=> ?_))))
 refine AY (λa w=>∃ao:LL,ao=am∧∃(ap:GH) (aq:Itm),GLe ae ap∧Fr a 27 [(2,pb aa),(4,pb al),(5,(.bool ab.2))]∧Mem W ap w (ib aa 26 [sn]::ib al 26 [ai]::aq::H)∧Ow2 R0 40 2 ap aq ai ao) ?_ ?_
 ·refine Aq (have m:=m.fr 2;AP (λar a w=>∃au:Int,∃av:LL,(au,av)=ar∧∃(aw:GH) (ax:Itm),GLe ae aw∧Fr a 27 [(0,iv x0),(2,pb aa),(4,pb al),(5,(.bool ab.2)),(6,iv au)]∧Mem W aw w (ib aa 26 [sn]::ib al 26 [ai]::ax::H)∧Ow2 R0 40 2 aw ax ai av) an ⟨_,_,Z,_,aj,gr,f.k Z,m,ak⟩ ?_)
  clear an f m
  rintro ar ay az aA a w ⟨au,av,rfl,aw,ax,aB,f,m,aC⟩
  refine Ag (Ae (Ab f Z λa f=>Ab f Z λa f=>Ai f Z Z AN λa f=>Ab f Z λa f=> ?_))
  refine A2 2 (λa w=>∃aD,GLe aw aD∧Mem W aD w (ib aa 26 [sn]::ib al 26 [ai]::ax::H)∧Fr a 27 [(0,iv x0),(2,pb aa),(4,pb al),(5,(.bool ab.2)),(6,iv au),(12,iv au),(13,iv x0),(14,(.bool (decide (au<x0)))),(15,(.bool (decide (au<x0)))),(17,(.bool ((decide (au<x0))&&ab.2)))]) ?_ ?_
  ·rcases Bool.eq_false_or_eq_true (decide (au<x0)) with aE|aE
   ·exact Am f aE (Ab f Z λa f=>l_o f (AE (f.e Z) aE (f.e Z)) λa f=>⟨_,gr,m,f.weak ⟨Z,Z,Z,Z,Z,Z,Z,Z,Z,by rw[aE];rfl,trivial⟩⟩)
   ·exact An f aE λa f=>l_o f (AF (f.e Z) aE (f.e Z)) λa f=>⟨_,gr,m,f.weak ⟨Z,Z,Z,Z,Z,Z,Z,Z,Z,by rw[aE];rfl,trivial⟩⟩
  ·rintro a w ⟨aD,aF,m,f⟩
   refine have aC:=od2 aF aC;Aa ?_
   rcases Af az with⟨aG,az⟩|⟨aG,az⟩
   ·refine Ak f Z aG (Ap (Ag (Aq (Al (Ax 1 0 (ds:=[ai]) m Az f Z Z Z Z Z λa f=>Ab f Z λa f=>Ai f Z Z B1 λa f=>Ab f Z λa f=>have m:=m.fr 2;Bd az λaH aI az=>AH f Z call60 (Wk.I m aC aI) λaJ aK aL w aM m aN a f=> ?_)))))
    obtain⟨aO,rfl,rfl,aP⟩:=aN
    refine Aj 2 0 (ds:=[ai]) m sizeOf26 f Z Z Z (Ao (Ow2.one1 0 m aP Z) As) Z (lb Z) Z λw m=>Aa (Al (Ab f Z λa f=>Ai f Z Z AD λa f=>Ac f Z λa f=>Aa (have m:=m.fr 2;have m:=m.fr 2;?_)))
    obtain rfl:=sj az
    exact⟨_,Z,_,_,Z,_,aO,(gt aB (gt aF aM)),f.k Z,m,aP⟩
   ·refine Ah f Z aG (AO Z ?_)
    obtain rfl:=sj az
    obtain rfl:=aA _ rfl
    exact⟨_,Z,_,ax,(gt aB aF),f.k Z,m,aC⟩
 ·rintro a w ⟨ao,rfl,ap,aq,aQ,f,m,aR⟩
  refine Ae (Ax 1 0 (ds:=[ai]) m Az f Z Z Z Z Z λa f=>Ab f Z λa f=>Aj 0 0 (ds:=[ai]) m sizeOf26 f Z Z Z (Ao (Ow2.one1 2 m aR Z) As) Z (lb Z) Z λw m=>Ac f Z λa f=>Aa (Ar (have aS:=AT (P:=prog) 0 m Az f (s:=2) rfl rfl rfl;have m:=m.fr 2;have m:=m.eraseAt 2;have m:=m.eraseAt 1;?_)))
  obtain rfl:=sj hd
  exact⟨[(.agg #[ai]),(.bool ab.2)],⟨aS,f.get _ _ Z,trivial⟩,f.d,_,[aq],(gt ag aQ),m,_,_,Z,Z,aR⟩
theorem Wk.l0 {x0:Int}(m:Mem W G w (H)){y:(LL)×Bool}(hd:D.l0 x0=some y):
  Calls prog 61 #[iv x0] w (Res W G H (λG' Ho v=>∃r0:Value,∃i0:Itm,Ho=[i0]∧v= .tuple #[(.agg #[r0]),(.bool y.2)]∧Ow2 R0 40 2 G' i0 r0 y.1)):=by
 refine Au (args:=[iv x0]) (N:=22) [.cell 2 26,.tmp 3] func61 Z Z (lb Z) Z λa f=> ?_
 unfold D.l0 at hd
 refine Ae (AQ (cs:=[sn]) zeroValue26 m f Z Z λaa w a m f=>Ac f Z λa f=>AA (Ab f Z λa f=>Bd hd λab ac hd=>AH f Z call62 (Wk.V m ac) λad ae af w ag m ah a f=> ?_))
 obtain⟨ai,aj,rfl,rfl,ak⟩:=ah
 refine Ab f Z λa f=>l_o f (AB (f.e Z) Z) λa f=>l_o f (AB (f.e Z) Z) λa f=>AQ (cs:=[sn]) zeroValue26 m f Z Z λal w a m f=>Aj 0 0 (ds:=[ai]) m sizeOf26 f Z Z Z (Ao (Ow2.one1 1 m ak Z) As) Z (lb Z) Z λw m=>Ac f Z λa f=>Aa (Ag (Ae (Ab f Z λa f=>l_o f (Bg (f.e Z)) λa f=>Ab f Z λa f=> ?_)))
 refine A2 3 (λa w=>∃am,GLe ae am∧Mem W am w (ib al 26 [ai]::aj::ib aa 26 [sn]::H)∧Fr a 22 [(0,iv x0),(2,pb aa),(4,pb al),(5,(.bool ab.2)),(11,(.bool ab.2)),(12,(.bool (!ab.2))),(13,(.bool (!ab.2))),(16,(.bool ((!ab.2)||(decide (x0<3)))))]) ?_ ?_
 ·rcases Bool.eq_false_or_eq_true (!ab.2) with an|an
  ·exact An f an λa f=>An f an λa f=>l_o f (AE (f.e Z) an (f.e Z)) λa f=>⟨_,gr,m,f.weak ⟨Z,Z,Z,Z,Z,Z,Z,by rw[an];rfl,trivial⟩⟩
  ·exact Am f an (Ab f Z λa f=>Am f an (Ai f Z Z AN λa f=>l_o f (AF (f.e Z) an (f.e Z)) λa f=>⟨_,gr,m,f.weak ⟨Z,Z,Z,Z,Z,Z,Z,by rw[an];rfl,trivial⟩⟩))
 ·rintro a w ⟨am,ao,m,f⟩
  refine have ak:=od2 ao ak;Aa ?_
  rcases Af hd with⟨ap,hd⟩|⟨ap,hd⟩
  ·refine Ak f Z ap (Ae ?_)
   have aq:∀w,(Instr.build 26 #[]).run prog w= .ok (.agg #[sn]) w:=by intro w;simp[Instr.build,Instr.fill,A3,AX,AL,AR,AI,A4,AZ]
   refine Be f Z Z aq λa f=>Aj 2 0 (ds:=[sn]) m sizeOf26 f Z Z Z (Ao Z As) Z (lb Z) Z λw m=>Ac f Z λa f=>Aa (Ar ?_)
   obtain⟨ar,m,au⟩:=Ow2.nil R0 40 2 m
   refine have av:=AT (P:=prog) 3 m Az f (s:=2) rfl rfl rfl;have m:=m.fr 2;have m:=m.fr 1;have m:=m.eraseAt 3;have m:Mem W am w (ar::aj::H):=m.eraseAt 2;have m:=m.eraseAt 1;?_
   obtain rfl:=sj hd
   exact⟨[(.agg #[sn]),(.bool false)],⟨av,f.get _ _ Z,trivial⟩,f.d,_,[ar],(gt ag ao),m,_,_,Z,Z,au⟩
  ·refine Ah f Z ap (Ap (Ae (Ax 0 0 (ds:=[ai]) m Az f Z Z Z Z Z λa f=>Ab f Z λa f=>Ai f Z Z B1 λa f=>have m:=m.fr 1;Bd hd λaw ax hd=>AH f Z call60 (Wk.I m ak ax) λay az aA w aB m aC a f=> ?_)))
   obtain⟨aD,rfl,rfl,aE⟩:=aC
   refine Aj 2 0 (ds:=[ai]) m sizeOf26 f Z Z Z (Ao (Ow2.one1 0 m aE Z) As) Z (lb Z) Z λw m=>Ac f Z λa f=>Aa (Ar (have aF:=AT (P:=prog) 2 m Az f (s:=2) rfl rfl rfl;have m:=m.eraseAt 2;have m:=m.eraseAt 1;?_))
   obtain rfl:=sj hd
   exact⟨[(.agg #[ai]),(.bool true)],⟨aF,f.get _ _ Z,trivial⟩,f.d,_,[aD],(gt ag (gt ao aB)),m,_,_,Z,Z,aE⟩
theorem Wk.o0 {b0:Nat}{aa:Value}{ab:LI}{ac ad x1:Int}(m:Mem W G w (ib b0 56 [aa,iv ac,iv ad]::H))(ae:RSl (RI .u8) G aa ab){y:(LL)×(LI)×Int×Int}(hd:D.o0 ab ac ad x1=some y):
  Calls prog 63 #[pb b0,iv x1] w (Res W G H (λG' Ho v=>∃r0:Value,∃i0:Itm,∃r2:Value,Ho=[i0,AG b0 y.2.2.1 y.2.2.2 r2]∧v=(.agg #[r0])∧Ow2 R0 40 2 G' i0 r0 y.1∧RSl (RI .u8) G' r2 y.2.1)):=by
 refine Au (args:=[pb b0,iv x1]) (N:=33) [.cell 4 26] func63 Z Z (lb Z) Z λa f=> ?_
 unfold D.o0 at hd
 refine Ae (AQ (cs:=[sn]) zeroValue26 m f Z Z λaf w a m f=>AA (Ab f Z λa f=>Bd hd λag ah hd=>AH f Z call42 (Wk.A m ah) λai aj ak w al m am a f=> ?_))
 obtain⟨an,ao,rfl,rfl,ap⟩:=am
 refine have ae:=rd1 al ae;AQ (cs:=[sn]) zeroValue26 m f Z Z λaq w a m f=>Aj 0 0 (ds:=[an]) m sizeOf26 f Z Z Z (Ao (Ow2.one1 1 m ap Z) As) Z (lb Z) Z λw m=>AA (Ab f Z λa f=>have m:=m.fr 3;Bd hd λar au hd=>AH f Z call40 (Wk.b m ae au) λav aw ax w ay m az a f=> ?_)
 obtain⟨aA,rfl,rfl,aB⟩:=az
 refine have ap:=od2 ay ap;Ai f Z Z AD λa f=>Ac f Z λa f=>Aa (Ag (Ae (Ac f Z λa f=>Aa (Bd hd λaC aD hd=> ?_))))
 refine AY (λa w=>∃aE:LL,∃aF:LI,∃aG:Int,∃aH:Int,(aE,aF,aG,aH)=aC∧∃(aI:GH) (aJ:Itm) (aK:Value),GLe aw aI∧Fr a 33 [(4,pb af),(5,pb aq)]∧Mem W aI w (ib af 26 [sn]::ib aq 26 [an]::ib b0 56 [aK,iv aG,iv aH]::aJ::H)∧Ow2 R0 40 2 aI aJ an aE∧RSl (RI .u8) aI aK aF) ?_ ?_
 ·refine Aq (have m:=m.fr 3;have m:=m.fr 1;AP (λaL a w=>∃aM:Int,∃aN:LI,∃aO:Int,∃aP:Int,∃aQ:LL,(aM,aN,aO,aP,aQ)=aL∧∃(aR:GH) (aS:Value) (aT:Itm),GLe aw aR∧Fr a 33 [(0,pb b0),(1,iv x1),(4,pb af),(5,pb aq),(6,(iv (i64.wrap (1+ar.1)))),(7,iv aM)]∧Mem W aR w (ib b0 56 [aS,iv aO,iv aP]::ib af 26 [sn]::ib aq 26 [an]::aT::H)∧RSl (RI .u8) aR aS aN∧Ow2 R0 40 2 aR aT an aQ) aD ⟨_,_,_,_,_,Z,_,aA,ao,gr,f.k Z,m,aB,ap⟩ ?_)
  clear aD f m
  rintro aL aU aV aW a w ⟨aM,aN,aO,aP,aQ,rfl,aR,aS,aT,aX,f,m,aY,aZ⟩
  refine Ag (Ae (Ab f Z λa f=>Ab f Z λa f=>Ai f Z Z AN λa f=>Aa ?_))
  rcases Af aV with⟨a0,aV⟩|⟨a0,aV⟩
  ·refine Ak f Z a0 (Ap (Ag (Aq (Ae (Ac f Z λa f=>Aa (Bd aV λa1 a2 aV=> ?_))))))
   refine AY (λa w=>∃a3:LI,∃a4:Int,∃a5:Int,∃a6:LL,(a3,a4,a5,a6)=a1∧∃(a7:GH) (a8:Value) (a9:Itm),GLe aR a7∧Fr a 33 [(0,pb b0),(1,iv x1),(4,pb af),(5,pb aq),(6,(iv (i64.wrap (1+ar.1)))),(7,iv aM)]∧Mem W a7 w (ib b0 56 [a8,iv a4,iv a5]::ib af 26 [sn]::ib aq 26 [an]::a9::H)∧RSl (RI .u8) a7 a8 a3∧Ow2 R0 40 2 a7 a9 an a6) ?_ ?_
   ·refine Aq (AP (λba a w=>∃bb:Int,∃bc:LI,∃bd:Int,∃be:Int,∃bf:LL,(bb,bc,bd,be,bf)=ba∧∃(bg:GH) (bh:Value) (bi:Itm),GLe aR bg∧Fr a 33 [(0,pb b0),(1,iv x1),(4,pb af),(5,pb aq),(6,(iv (i64.wrap (1+ar.1)))),(7,iv aM),(8,iv bb)]∧Mem W bg w (ib b0 56 [bh,iv bd,iv be]::ib af 26 [sn]::ib aq 26 [an]::bi::H)∧RSl (RI .u8) bg bh bc∧Ow2 R0 40 2 bg bi an bf) a2 ⟨_,_,_,_,_,Z,_,aS,aT,gr,f.k Z,m,aY,aZ⟩ ?_)
    clear a2 f m
    rintro ba bj bk bl a w ⟨bb,bc,bd,be,bf,rfl,bg,bh,bi,bm,f,m,bn,bo⟩
    refine Ag (Ae (Ab f Z λa f=>Ab f Z λa f=>Ai f Z Z AN λa f=>Aa ?_))
    rcases Af bk with⟨bp,bk⟩|⟨bp,bk⟩
    ·refine Ak f Z bp (Ap (Ag (Aq (Ae (Ab f Z λa f=>Bd bk λbq br bk=>AH f Z call40 (Wk.b m bn br) λbs bt bu w bv m bw a f=> ?_)))))
     obtain⟨bx,rfl,rfl,bz⟩:=bw
     refine have bo:=od2 bv bo;Ab f Z λa f=>Ai f Z Z AN λa f=>Aa ?_
     rcases Af bk with⟨bA,bk⟩|⟨bA,bk⟩
     ·refine Ak f Z bA (Al (Ax 2 0 (ds:=[an]) m Az f Z Z Z Z Z λa f=>Ab f Z λa f=>Ab f Z λa f=>have m:=m.fr 3;Bd bk λbB bC bk=>AH f Z call60 (Wk.I m bo bC) λbD bE bF w bG m bH a f=> ?_))
      obtain⟨bI,rfl,rfl,bJ⟩:=bH
      refine have bz:=rd1 bG bz;Aj 3 0 (ds:=[an]) m sizeOf26 f Z Z Z (Ao (Ow2.one1 0 m bJ Z) As) Z (lb Z) Z λw m=>Aa (Al (Ab f Z λa f=>Ai f Z Z AD λa f=>Ac f Z λa f=>Aa (have m:=m.fr 3;have m:=m.fr 3;have m:=m.fr 3;?_)))
      obtain rfl:=sj bk
      exact⟨_,Z,_,_,_,_,_,Z,_,bx,bI,(gt bm (gt bv bG)),f.k Z,m,bz,bJ⟩
     ·refine Ah f Z bA (Ap (Al (Ab f Z λa f=>Ai f Z Z AD λa f=>Ac f Z λa f=>Aa ?_)))
      obtain rfl:=sj bk
      exact⟨_,Z,_,_,_,_,_,Z,_,bx,bi,(gt bm bv),f.k Z,m,bz,bo⟩
    ·refine Ah f Z bp (AO Z ?_)
     obtain rfl:=sj bk
     obtain rfl:=bl _ rfl
     exact⟨_,_,_,_,Z,_,bh,bi,bm,f.k Z,m,bn,bo⟩
   ·rintro a w ⟨a3,a4,a5,a6,rfl,a7,a8,a9,bK,f,m,bL,bM⟩
    refine Al (Ab f Z λa f=>Ai f Z Z AD λa f=>Ac f Z λa f=>Aa ?_)
    obtain rfl:=sj aV
    exact⟨_,Z,_,_,_,_,_,Z,_,a8,a9,(gt aX bK),f.k Z,m,bL,bM⟩
  ·refine Ah f Z a0 (AO Z (have m:=m.fr 2;have m:=m.fr 2;?_))
   obtain rfl:=sj aV
   obtain rfl:=aW _ rfl
   exact⟨_,_,_,_,Z,_,aT,aS,aX,f.k Z,m,aZ,aY⟩
 ·rintro a w ⟨aE,aF,aG,aH,rfl,aI,aJ,aK,bN,f,m,bO,bP⟩
  refine Ae (Ax 1 0 (ds:=[an]) m Az f Z Z Z Z Z λa f=>Aj 0 0 (ds:=[an]) m sizeOf26 f Z Z Z (Ao (Ow2.one1 3 m bO Z) As) Z (lb Z) Z λw m=>Aa (Ar (have bQ:=AT (P:=prog) 0 m Az f (s:=4) rfl rfl rfl;have m:=m.fr 2;have m:=m.fr 3;have m:=m.eraseAt 3;have m:=m.eraseAt 2;?_)))
  obtain rfl:=sj hd
  exact⟨[(.agg #[an])],⟨bQ,trivial⟩,f.d,_,[aJ,ib b0 56 [aK,iv aG,iv aH]],(gt al (gt ay bN)),m,_,_,_,Z,Z,bO,bP⟩
theorem Wk.g0 {b0:Nat}{aa:Value}{ab:LI}{ac ad:Int}(m:Mem W G w (ib b0 56 [aa,iv ac,iv ad]::H))(ae:RSl (RI .u8) G aa ab){y:(LL)×(LI)×Int×Int}(hd:D.g0 ab ac ad=some y):
  Calls prog 39 #[pb b0] w (Res W G H (λG' Ho v=>∃r0:Value,∃i0:Itm,∃r2:Value,Ho=[i0,AG b0 y.2.2.1 y.2.2.2 r2]∧v=(.agg #[r0])∧Ow2 R0 40 2 G' i0 r0 y.1∧RSl (RI .u8) G' r2 y.2.1)):=by
 refine Au (args:=[pb b0]) (N:=34) [.cell 2 26] func39 Z Z (lb Z) Z λa f=> ?_
 unfold D.g0 at hd
 refine Ae (AQ (cs:=[sn]) zeroValue26 m f Z Z λaf w a m f=>Aa (Ag (Ae (Ab f Z λa f=>have m:=m.fr 1;Bd hd λag ah hd=>AH f Z call40 (Wk.b m ae ah) λai aj ak w al m am a f=> ?_))))
 obtain⟨an,rfl,rfl,ao⟩:=am
 refine Aa (Aq (Ae (Ai f Z Z BD λa f=>Ac f Z λa f=>Aa ?_)))
 rcases Af hd with⟨ap,hd⟩|⟨ap,hd⟩
 ·refine Ak f Z ap (Ae (Ab f Z λa f=>Bd hd λaq ar hd=>AH f Z call40 (Wk.b m ao ar) λau av aw w ax m ay a f=> ?_))
  obtain⟨az,rfl,rfl,aA⟩:=ay
  refine Ai f Z Z AD λa f=>Bd hd λaB aC hd=>AH f Z call61 (Wk.l0 m aC) λaD aE aF w aG m aH a f=> ?_
  obtain⟨aI,aJ,rfl,rfl,aK⟩:=aH
  refine have aA:=rd1 aG aA;Ab f Z λa f=>l_o f (AB (f.e Z) Z) λa f=>l_o f (AB (f.e Z) Z) λa f=>AQ (cs:=[sn]) zeroValue26 m f Z Z λaL w a m f=>Aj 0 0 (ds:=[aI]) m sizeOf26 f Z Z Z (Ao (Ow2.one1 1 m aK Z) As) Z (lb Z) Z λw m=>Ac f Z λa f=>AA (Ax 0 0 (ds:=[aI]) m Az f Z Z Z Z Z λa f=>Aj 3 0 (ds:=[aI]) m sizeOf26 f Z Z Z (Ao (Ow2.one1 1 m aK Z) As) Z (lb Z) Z λw m=>Aa (Ar (have aM:=AT (P:=prog) 3 m Az f (s:=2) rfl rfl rfl;have m:=m.fr 2;have m:=m.fr 2;have m:=m.eraseAt 3;have m:=m.eraseAt 2;?_)))
  obtain rfl:=sj hd
  exact⟨[(.agg #[aI])],⟨aM,trivial⟩,f.d,_,[aJ,AG b0 aq.2.2.1 aq.2.2.2 az],(gt al (gt ax aG)),m,_,_,_,Z,Z,aK,aA⟩
 ·refine Ah f Z ap (Ae (Ai f Z Z BD λa f=>Ac f Z λa f=>Aa ?_))
  rcases Af hd with⟨aN,hd⟩|⟨aN,hd⟩
  ·refine Ak f Z aN (Ae (Ab f Z λa f=>Bd hd λaO aP hd=>AH f Z call40 (Wk.b m ao aP) λaQ aR aS w aT m aU a f=> ?_))
   obtain⟨aV,rfl,rfl,aW⟩:=aU
   refine Ai f Z Z AD λa f=>Bd hd λaX aY hd=>AH f Z call62 (Wk.V m aY) λaZ a0 a1 w a2 m a3 a f=> ?_
   obtain⟨a4,a5,rfl,rfl,a6⟩:=a3
   refine have aW:=rd1 a2 aW;Ab f Z λa f=>l_o f (AB (f.e Z) Z) λa f=>l_o f (AB (f.e Z) Z) λa f=>AQ (cs:=[sn]) zeroValue26 m f Z Z λa7 w a m f=>Aj 0 0 (ds:=[a4]) m sizeOf26 f Z Z Z (Ao (Ow2.one1 1 m a6 Z) As) Z (lb Z) Z λw m=>Ac f Z λa f=>AA (Ax 0 0 (ds:=[a4]) m Az f Z Z Z Z Z λa f=>Aj 3 0 (ds:=[a4]) m sizeOf26 f Z Z Z (Ao (Ow2.one1 1 m a6 Z) As) Z (lb Z) Z λw m=>Aa (Ar (have a8:=AT (P:=prog) 3 m Az f (s:=2) rfl rfl rfl;have m:=m.fr 2;have m:=m.fr 2;have m:=m.eraseAt 3;have m:=m.eraseAt 2;?_)))
   obtain rfl:=sj hd
   exact⟨[(.agg #[a4])],⟨a8,trivial⟩,f.d,_,[a5,AG b0 aO.2.2.1 aO.2.2.2 aV],(gt al (gt aT a2)),m,_,_,_,Z,Z,a6,aW⟩
  ·refine Ah f Z aN (Ap (Ae (Ab f Z λa f=>Ab f Z λa f=>Bd hd λa9 ba hd=>AH f Z call40 (Wk.b m ao ba) λbb bc bd w be m bf a f=> ?_)))
   obtain⟨bg,rfl,rfl,bh⟩:=bf
   refine Ai f Z Z AD λa f=>Bd hd λbi bj hd=>AH f Z call63 (Wk.o0 m bh bj) λbk bl bm w bn m bo a f=> ?_
   obtain⟨bp,bq,br,rfl,rfl,bs,bt⟩:=bo
   refine Aj 2 0 (ds:=[bp]) m sizeOf26 f Z Z Z (Ao (Ow2.one1 0 m bs Z) As) Z (lb Z) Z λw m=>Aa (Ar (have bu:=AT (P:=prog) 2 m Az f (s:=2) rfl rfl rfl;have m:=m.eraseAt 2;?_))
   obtain rfl:=sj hd
   exact⟨[(.agg #[bp])],⟨bu,trivial⟩,f.d,_,[bq,AG b0 bi.2.2.1 bi.2.2.2 br],(gt al (gt be bn)),m,_,_,_,Z,Z,bs,bt⟩
theorem Wk.x {b0:Nat}{aa:Value}{ab:LI}{ac ad:Int}(m:Mem W G w (ib b0 56 [aa,iv ac,iv ad]::H))(ae:RSl (RI .u8) G aa ab){y:(LL)×(LI)×Int×Int}(hd:D.x ab ac ad=some y):
  Calls prog 18 #[pb b0] w (Res W G H (λG' Ho v=>∃r0:Value,∃i0:Itm,∃r2:Value,Ho=[i0,AG b0 y.2.2.1 y.2.2.2 r2]∧v=(.agg #[r0])∧Ow2 R0 40 2 G' i0 r0 y.1∧RSl (RI .u8) G' r2 y.2.1)):=by
 refine Au (args:=[pb b0]) (N:=56) [.cell 2 26] func18 Z Z (lb Z) Z λa f=> ?_
 unfold D.x at hd
 refine Ae (AQ (cs:=[sn]) zeroValue26 m f Z Z λaf w a m f=>AA (Ab f Z λa f=>have m:=m.fr 1;Bd hd λag ah hd=>AH f Z call39 (Wk.g0 m ae ah) λai aj ak w al m am a f=> ?_))
 obtain⟨an,ao,ap,rfl,rfl,aq,ar⟩:=am
 refine AQ (cs:=[sn]) zeroValue26 m f Z Z λau w a m f=>Aj 0 0 (ds:=[an]) m sizeOf26 f Z Z Z (Ao (Ow2.one1 1 m aq Z) As) Z (lb Z) Z λw m=>Aa (Ag (Ae (Ab f Z λa f=>have m:=m.fr 2;Bd hd λav aw hd=>AH f Z call34 (Wk.l m ar aw) λax ay az w aA m aB a f=> ?_)))
 obtain⟨aC,rfl,rfl,aD⟩:=aB
 refine have aq:=od2 aA aq;Aa ?_
 rcases Af hd with⟨aE,hd⟩|⟨aE,hd⟩
 ·refine Ak f Z aE (Ae (Ab f Z λa f=>Br underlying26 Z sizeOf24 f Z λa f=>AV 1 0 m Bl f Z Z Z Z λa f=>l_own2_len 2 m aq Z underlying24 f Z Z λa f=>Bd hd λaF aG hd=>AH f Z call40 (Wk.b m aD aG) λaH aI aJ w aK m aL a f=> ?_))
  obtain⟨aM,rfl,rfl,aN⟩:=aL
  refine have aq:=od2 aK aq;Ac f Z λa f=>AA (Ab f Z λa f=>Bd hd λaO aP hd=>AH f Z call40 (Wk.b m aN aP) λaQ aR aS w aT m aU a f=> ?_)
  obtain⟨aV,rfl,rfl,aW⟩:=aU
  refine have aq:=od2 aT aq;Aa (Aq (Ae (Ai f Z Z BD λa f=>Ac f Z λa f=>Aa ?_)))
  rcases Af hd with⟨aX,hd⟩|⟨aX,hd⟩
  ·refine Ak f Z aX (Bd hd λaY aZ hd=> ?_)
   refine AY (λa w=>∃a0:LL,∃a1:LI,∃a2:Int,∃a3:Int,(a0,a1,a2,a3)=aY∧∃(a4:GH) (a5:Itm) (a6:Value),GLe aR a4∧Fr a 56 [(2,pb af),(3,pb au)]∧Mem W a4 w (ib af 26 [sn]::ib au 26 [an]::ib b0 56 [a6,iv a2,iv a3]::a5::H)∧Ow2 R0 40 2 a4 a5 an a0∧RSl (RI .u8) a4 a6 a1) ?_ ?_
   ·refine have m:=m.fr 2;Eh [ao,AG b0 aO.2.2.1 aO.2.2.2 aV] (ib au 26 [an]::ib af 26 [sn]::H) 12 Bi (by kernel_rfl) m (B5 0 12 underlying26 Z sizeOf24 Z f Z λa f=>B4 1 12 0 Bl Z Z Z f Z λa f=>AK 2 12 Z f Z λa f=>B5 3 12 underlying26 Z sizeOf24 Z f Z λa f=>B4 4 12 0 Bl Z Z Z f Z λa f=>AK 5 12 Z f Z λa f=>AK 8 12 Z f Z λa f=>q_two (i:=6) (j:=9) (l1:= #[true,true,true,true,true,true,true,false,true,false,false,false,false,false]) (l2:= #[true,true,true,true,true,true,false,false,true,true,false,false,false,false]) Z Z (by kernel_rfl) Z Z ?_ ?_)
    ·intro a7 w a8 m a9 a9
     refine have aq:=od2 a8 aq;have aW:=rd1 a8 aW;Bd aZ λba bb aZ=>Ch 0 m aq Z T24 f Z Z Z bb λbc a bd f=>Aa (a9 a7 [ao,AG b0 aO.2.2.1 aO.2.2.2 aV] _ _ gr m (q_two (i:=7) (j:=9) (l1:= #[true,true,true,true,true,true,true,true,true,false,false,false,false,false]) (l2:= #[true,true,true,true,true,true,true,false,true,true,false,false,false,false]) Z Z (by kernel_rfl) Z Z ?_ ?_))
     ·intro be w bf m bg bg
      refine have aq:=od2 bf aq;have aW:=rd1 bf aW;BS 0 m aq Z Bt f Z Z bd bb λbh a bi f=>Aa (bg be [ao,AG b0 aO.2.2.1 aO.2.2.2 aV] _ _ gr m (Bx 9 Z λbj w bk m bl bl=>have aq:=od2 bk aq;have aW:=rd1 bk aW;have m:=m.fr 1;Bd aZ λbm bn aZ=>AH f Z call41 (Wk.R m aW bn) λbo bp bq w br m bs a f=> ?_))
      obtain⟨bt,rfl,rfl,bu⟩:=bs
      refine have aq:=od2 br aq;Aa (bl bp [AG b0 bm.2.2.1 bm.2.2.2 bt,ao] _ _ br m (Bx 10 Z λbv w bw m bx bx=>have bu:=rd1 bw bu;have aq:=od2 bw aq;AM (R:=R0) (xs:=([bm.1]:LI)) (RI.one _) m T40 f Z Z Z (by decide) (All2.cons Z (All2.nil _)) λbz bA w a m bB f=>Aa (bx bv [bz,AG b0 bm.2.2.1 bm.2.2.2 bt,ao] _ _ gr m (Bx 11 Z λbC w bD m bE bE=>have bB:=od1 bD bB;have bu:=rd1 bD bu;have aq:=od2 bD aq;have m:=m.fr 2;?_))))
      obtain⟨bF,bG,m,bH,bI⟩:=Ow2.out aq m bb bi
      refine Bd aZ λbJ bK aZ=>A1 (RI.one _) 1 m bI Z T40 Z (by decide) f Z Z Z (Ow.src (j:=2) bB m Z) bK λbL bM w a m bN f=>Aa (bE bC [bF,bL,bz,AG b0 bm.2.2.1 bm.2.2.2 bt] _ _ gr m (Bs λbO w bP m=>have bH:=OwH.mono (RI.mono _) bP bH;have bN:=od1 bP bN;have bu:=rd1 bP bu;Bd aZ λbQ bR aZ=>B7 0 m bH Z T24 f Z Z Z bR λbS a bT f=>BL m bH bN sizeOf40 f Z Z bT λbU w m bV=>Aa (have m:=m.fr 2;have m:=m.fr 3;have m:=m.fr 4;have m:=m.eraseAt 4;?_)))
      obtain rfl:=sj aZ
      exact⟨_,_,_,_,Z,_,bU,bt,(gt a8 (gt bf (gt bk (gt br (gt bw (gt bD bP)))))),f.k Z,m,bV,bu⟩
     ·intro bj w bk m bl bl
      refine Bd aZ λbm bn aZ=>Bd aZ λbJ bK aZ=>Bd aZ λbQ bR aZ=>have aq:=od2 bk aq;have aW:=rd1 bk aW;have m:=m.fr 1;AH f Z call41 (Wk.R m aW bn) λbo bp bq w br m bs a f=> ?_
      obtain⟨bt,rfl,rfl,bu⟩:=bs
      refine have aq:=od2 br aq;Aa (bl bp [AG b0 bm.2.2.1 bm.2.2.2 bt,ao] _ _ br m (q_two (i:=7) (j:=10) (l1:= #[true,true,true,true,true,true,true,true,true,true,false,false,false,false]) (l2:= #[true,true,true,true,true,true,true,false,true,true,true,false,false,false]) Z Z (by kernel_rfl) Z Z ?_ ?_))
      ·intro be w bf m bg bg
       refine have bu:=rd1 bf bu;have aq:=od2 bf aq;BS 1 m aq Z Bt f Z Z bd bb λbh a bi f=>Aa (bg be [AG b0 bm.2.2.1 bm.2.2.2 bt,ao] _ _ gr m (Bx 10 Z λbv w bw m bx bx=>have bu:=rd1 bw bu;have aq:=od2 bw aq;AM (R:=R0) (xs:=([bm.1]:LI)) (RI.one _) m T40 f Z Z Z (by decide) (All2.cons Z (All2.nil _)) λbz bA w a m bB f=>Aa (bx bv [bz,AG b0 bm.2.2.1 bm.2.2.2 bt,ao] _ _ gr m (Bx 11 Z λbC w bD m bE bE=>have bB:=od1 bD bB;have bu:=rd1 bD bu;have aq:=od2 bD aq;have m:=m.fr 2;?_))))
       obtain⟨bF,bG,m,bH,bI⟩:=Ow2.out aq m bb bi
       refine A1 (RI.one _) 1 m bI Z T40 Z (by decide) f Z Z Z (Ow.src (j:=2) bB m Z) bK λbL bM w a m bN f=>Aa (bE bC [bF,bL,bz,AG b0 bm.2.2.1 bm.2.2.2 bt] _ _ gr m (Bs λbO w bP m=>have bH:=OwH.mono (RI.mono _) bP bH;have bN:=od1 bP bN;have bu:=rd1 bP bu;B7 0 m bH Z T24 f Z Z Z bR λbS a bT f=>BL m bH bN sizeOf40 f Z Z bT λbU w m bV=>Aa (have m:=m.fr 2;have m:=m.fr 3;have m:=m.fr 4;have m:=m.eraseAt 4;?_)))
       obtain rfl:=sj aZ
       exact⟨_,_,_,_,Z,_,bU,bt,(gt a8 (gt bk (gt br (gt bf (gt bw (gt bD bP)))))),f.k Z,m,bV,bu⟩
      ·intro bv w bw m bx bx
       refine have bu:=rd1 bw bu;have aq:=od2 bw aq;AM (R:=R0) (xs:=([bm.1]:LI)) (RI.one _) m T40 f Z Z Z (by decide) (All2.cons Z (All2.nil _)) λbz bA w a m bB f=>Aa (bx bv [bz,AG b0 bm.2.2.1 bm.2.2.2 bt,ao] _ _ gr m (Bx 7 Z λbe w bf m bg bg=>have bB:=od1 bf bB;have bu:=rd1 bf bu;have aq:=od2 bf aq;BS 2 m aq Z Bt f Z Z bd bb λbh a bi f=>Aa (bg be [bz,AG b0 bm.2.2.1 bm.2.2.2 bt,ao] _ _ gr m (Bx 11 Z λbC w bD m bE bE=>have bB:=od1 bD bB;have bu:=rd1 bD bu;have aq:=od2 bD aq;have m:=m.fr 2;?_))))
       obtain⟨bF,bG,m,bH,bI⟩:=Ow2.out aq m bb bi
       refine A1 (RI.one _) 1 m bI Z T40 Z (by decide) f Z Z Z (Ow.src (j:=2) bB m Z) bK λbL bM w a m bN f=>Aa (bE bC [bF,bL,bz,AG b0 bm.2.2.1 bm.2.2.2 bt] _ _ gr m (Bs λbO w bP m=>have bH:=OwH.mono (RI.mono _) bP bH;have bN:=od1 bP bN;have bu:=rd1 bP bu;B7 0 m bH Z T24 f Z Z Z bR λbS a bT f=>BL m bH bN sizeOf40 f Z Z bT λbU w m bV=>Aa (have m:=m.fr 2;have m:=m.fr 3;have m:=m.fr 4;have m:=m.eraseAt 4;?_)))
       obtain rfl:=sj aZ
       exact⟨_,_,_,_,Z,_,bU,bt,(gt a8 (gt bk (gt br (gt bw (gt bf (gt bD bP)))))),f.k Z,m,bV,bu⟩
    ·intro bj w bk m bl bl
     refine Bd aZ λba bb aZ=>Bd aZ λbm bn aZ=>Bd aZ λbJ bK aZ=>Bd aZ λbQ bR aZ=>have aq:=od2 bk aq;have aW:=rd1 bk aW;have m:=m.fr 1;AH f Z call41 (Wk.R m aW bn) λbo bp bq w br m bs a f=> ?_
     obtain⟨bt,rfl,rfl,bu⟩:=bs
     refine have aq:=od2 br aq;Aa (bl bp [AG b0 bm.2.2.1 bm.2.2.2 bt,ao] _ _ br m (q_two (i:=6) (j:=10) (l1:= #[true,true,true,true,true,true,true,false,true,true,false,false,false,false]) (l2:= #[true,true,true,true,true,true,false,false,true,true,true,false,false,false]) Z Z (by kernel_rfl) Z Z ?_ ?_))
     ·intro a7 w a8 m a9 a9
      refine have bu:=rd1 a8 bu;have aq:=od2 a8 aq;Ch 1 m aq Z T24 f Z Z Z bb λbc a bd f=>Aa (a9 a7 [AG b0 bm.2.2.1 bm.2.2.2 bt,ao] _ _ gr m (q_two (i:=7) (j:=10) (l1:= #[true,true,true,true,true,true,true,true,true,true,false,false,false,false]) (l2:= #[true,true,true,true,true,true,true,false,true,true,true,false,false,false]) Z Z (by kernel_rfl) Z Z ?_ ?_))
      ·intro be w bf m bg bg
       refine have bu:=rd1 bf bu;have aq:=od2 bf aq;BS 1 m aq Z Bt f Z Z bd bb λbh a bi f=>Aa (bg be [AG b0 bm.2.2.1 bm.2.2.2 bt,ao] _ _ gr m (Bx 10 Z λbv w bw m bx bx=>have bu:=rd1 bw bu;have aq:=od2 bw aq;AM (R:=R0) (xs:=([bm.1]:LI)) (RI.one _) m T40 f Z Z Z (by decide) (All2.cons Z (All2.nil _)) λbz bA w a m bB f=>Aa (bx bv [bz,AG b0 bm.2.2.1 bm.2.2.2 bt,ao] _ _ gr m (Bx 11 Z λbC w bD m bE bE=>have bB:=od1 bD bB;have bu:=rd1 bD bu;have aq:=od2 bD aq;have m:=m.fr 2;?_))))
       obtain⟨bF,bG,m,bH,bI⟩:=Ow2.out aq m bb bi
       refine A1 (RI.one _) 1 m bI Z T40 Z (by decide) f Z Z Z (Ow.src (j:=2) bB m Z) bK λbL bM w a m bN f=>Aa (bE bC [bF,bL,bz,AG b0 bm.2.2.1 bm.2.2.2 bt] _ _ gr m (Bs λbO w bP m=>have bH:=OwH.mono (RI.mono _) bP bH;have bN:=od1 bP bN;have bu:=rd1 bP bu;B7 0 m bH Z T24 f Z Z Z bR λbS a bT f=>BL m bH bN sizeOf40 f Z Z bT λbU w m bV=>Aa (have m:=m.fr 2;have m:=m.fr 3;have m:=m.fr 4;have m:=m.eraseAt 4;?_)))
       obtain rfl:=sj aZ
       exact⟨_,_,_,_,Z,_,bU,bt,(gt bk (gt br (gt a8 (gt bf (gt bw (gt bD bP)))))),f.k Z,m,bV,bu⟩
      ·intro bv w bw m bx bx
       refine have bu:=rd1 bw bu;have aq:=od2 bw aq;AM (R:=R0) (xs:=([bm.1]:LI)) (RI.one _) m T40 f Z Z Z (by decide) (All2.cons Z (All2.nil _)) λbz bA w a m bB f=>Aa (bx bv [bz,AG b0 bm.2.2.1 bm.2.2.2 bt,ao] _ _ gr m (Bx 7 Z λbe w bf m bg bg=>have bB:=od1 bf bB;have bu:=rd1 bf bu;have aq:=od2 bf aq;BS 2 m aq Z Bt f Z Z bd bb λbh a bi f=>Aa (bg be [bz,AG b0 bm.2.2.1 bm.2.2.2 bt,ao] _ _ gr m (Bx 11 Z λbC w bD m bE bE=>have bB:=od1 bD bB;have bu:=rd1 bD bu;have aq:=od2 bD aq;have m:=m.fr 2;?_))))
       obtain⟨bF,bG,m,bH,bI⟩:=Ow2.out aq m bb bi
       refine A1 (RI.one _) 1 m bI Z T40 Z (by decide) f Z Z Z (Ow.src (j:=2) bB m Z) bK λbL bM w a m bN f=>Aa (bE bC [bF,bL,bz,AG b0 bm.2.2.1 bm.2.2.2 bt] _ _ gr m (Bs λbO w bP m=>have bH:=OwH.mono (RI.mono _) bP bH;have bN:=od1 bP bN;have bu:=rd1 bP bu;B7 0 m bH Z T24 f Z Z Z bR λbS a bT f=>BL m bH bN sizeOf40 f Z Z bT λbU w m bV=>Aa (have m:=m.fr 2;have m:=m.fr 3;have m:=m.fr 4;have m:=m.eraseAt 4;?_)))
       obtain rfl:=sj aZ
       exact⟨_,_,_,_,Z,_,bU,bt,(gt bk (gt br (gt a8 (gt bw (gt bf (gt bD bP)))))),f.k Z,m,bV,bu⟩
     ·intro bv w bw m bx bx
      refine have bu:=rd1 bw bu;have aq:=od2 bw aq;AM (R:=R0) (xs:=([bm.1]:LI)) (RI.one _) m T40 f Z Z Z (by decide) (All2.cons Z (All2.nil _)) λbz bA w a m bB f=>Aa (bx bv [bz,AG b0 bm.2.2.1 bm.2.2.2 bt,ao] _ _ gr m (Bx 6 Z λa7 w a8 m a9 a9=>have bB:=od1 a8 bB;have bu:=rd1 a8 bu;have aq:=od2 a8 aq;Ch 2 m aq Z T24 f Z Z Z bb λbc a bd f=>Aa (a9 a7 [bz,AG b0 bm.2.2.1 bm.2.2.2 bt,ao] _ _ gr m (Bx 7 Z λbe w bf m bg bg=>have bB:=od1 bf bB;have bu:=rd1 bf bu;have aq:=od2 bf aq;BS 2 m aq Z Bt f Z Z bd bb λbh a bi f=>Aa (bg be [bz,AG b0 bm.2.2.1 bm.2.2.2 bt,ao] _ _ gr m (Bx 11 Z λbC w bD m bE bE=>have bB:=od1 bD bB;have bu:=rd1 bD bu;have aq:=od2 bD aq;have m:=m.fr 2;?_))))))
      obtain⟨bF,bG,m,bH,bI⟩:=Ow2.out aq m bb bi
      refine A1 (RI.one _) 1 m bI Z T40 Z (by decide) f Z Z Z (Ow.src (j:=2) bB m Z) bK λbL bM w a m bN f=>Aa (bE bC [bF,bL,bz,AG b0 bm.2.2.1 bm.2.2.2 bt] _ _ gr m (Bs λbO w bP m=>have bH:=OwH.mono (RI.mono _) bP bH;have bN:=od1 bP bN;have bu:=rd1 bP bu;B7 0 m bH Z T24 f Z Z Z bR λbS a bT f=>BL m bH bN sizeOf40 f Z Z bT λbU w m bV=>Aa (have m:=m.fr 2;have m:=m.fr 3;have m:=m.fr 4;have m:=m.eraseAt 4;?_)))
      obtain rfl:=sj aZ
      exact⟨_,_,_,_,Z,_,bU,bt,(gt bk (gt br (gt bw (gt a8 (gt bf (gt bD bP)))))),f.k Z,m,bV,bu⟩
   ·rintro a w ⟨a0,a1,a2,a3,rfl,a4,a5,a6,bW,f,m,bX,bY⟩
    refine Ae (Ax 1 0 (ds:=[an]) m Az f Z Z Z Z Z λa f=>Aj 0 0 (ds:=[an]) m sizeOf26 f Z Z Z (Ao (Ow2.one1 3 m bX Z) As) Z (lb Z) Z λw m=>Aa (Ar (have bZ:=AT (P:=prog) 0 m Az f (s:=2) rfl rfl rfl;have m:=m.fr 2;have m:=m.fr 3;have m:=m.eraseAt 3;have m:=m.eraseAt 2;?_)))
    obtain rfl:=sj hd
    exact⟨[(.agg #[an])],⟨bZ,trivial⟩,f.d,_,[a5,ib b0 56 [a6,iv a2,iv a3]],(gt al (gt aA (gt aK (gt aT bW)))),m,_,_,_,Z,Z,bX,bY⟩
  ·refine Ah f Z aX (Ae (Ai f Z Z BD λa f=>Ac f Z λa f=>Aa ?_))
   rcases Af hd with⟨b1,hd⟩|⟨b1,hd⟩
   ·refine Ak f Z b1 (Al (Br underlying26 Z sizeOf24 f Z λa f=>AV 1 0 m Bl f Z Z Z Z λa f=>Ab f Z λa f=>Ab f Z λa f=>AM (R:=R0) (xs:=([aF.1]:LI)) (RI.one _) m T40 f Z Z Z (by decide) (All2.cons Z (All2.nil _)) λb2 b3 w a m b4 f=>Bd hd λb5 b6 hd=>Ch 3 m aq Z T24 f Z Z Z b6 λb7 a b8 f=>have m:=m.fr 3;DY m aq b4 sizeOf40 f Z Z b8 b6 λb9 w m ca=>AA (Ax 2 0 (ds:=[an]) m Az f Z Z Z Z Z λa f=>Aj 3 0 (ds:=[an]) m sizeOf26 f Z Z Z (Ao (Ow2.one1 0 m ca Z) As) Z (lb Z) Z λw m=>Aa (Ar (have cb:=AT (P:=prog) 3 m Az f (s:=2) rfl rfl rfl;have m:=m.eraseAt 3;have m:=m.eraseAt 2;?_)))))
    obtain rfl:=sj hd
    exact⟨[(.agg #[an])],⟨cb,trivial⟩,f.d,_,[b9,AG b0 aO.2.2.1 aO.2.2.2 aV],(gt al (gt aA (gt aK aT))),m,_,_,_,Z,Z,ca,aW⟩
   ·refine Ah f Z b1 (Ae (Ai f Z Z BD λa f=>Ac f Z λa f=>Aa ?_))
    rcases Af hd with⟨cc,hd⟩|⟨cc,hd⟩
    ·refine Ak f Z cc (Al (Ab f Z λa f=>Bd hd λcd ce hd=>AH f Z call40 (Wk.b m aW ce) λcf cg ch w ci m cj a f=> ?_))
     obtain⟨ck,rfl,rfl,cl⟩:=cj
     refine Ai f Z Z AD λa f=>Bd hd λcm cn hd=>AH f Z call42 (Wk.A m cn) λco cp cq w cr m ct a f=> ?_
     obtain⟨cu,cv,rfl,rfl,cw⟩:=ct
     refine have cl:=rd1 cr cl;Aj 2 0 (ds:=[cu]) m sizeOf26 f Z Z Z (Ao (Ow2.one1 0 m cw Z) As) Z (lb Z) Z λw m=>AA (Ax 2 0 (ds:=[cu]) m Az f Z Z Z Z Z λa f=>Aj 4 0 (ds:=[cu]) m sizeOf26 f Z Z Z (Ao (Ow2.one1 0 m cw Z) As) Z (lb Z) Z λw m=>Aa (Ar (have cx:=AT (P:=prog) 4 m Az f (s:=2) rfl rfl rfl;have m:=m.fr 3;have m:=m.fr 2;have m:=m.fr 2;have m:Mem W cp w (cv::AG b0 cd.2.2.1 cd.2.2.2 ck::ao::ib au 26 [cu]::H):=m.eraseAt 4;have m:=m.eraseAt 3;have m:=m.eraseAt 2;?_)))
     obtain rfl:=sj hd
     exact⟨[(.agg #[cu])],⟨cx,trivial⟩,f.d,_,[cv,AG b0 cd.2.2.1 cd.2.2.2 ck],(gt al (gt aA (gt aK (gt aT (gt ci cr))))),m,_,_,_,Z,Z,cw,cl⟩
    ·refine Ah f Z cc (Ae (Ai f Z Z BD λa f=>Ac f Z λa f=>Aa ?_))
     rcases Af hd with⟨cy,hd⟩|⟨cy,hd⟩
     ·refine Ak f Z cy (Al ?_)
      have cz:∀w,(Instr.build 26 #[]).run prog w= .ok (.agg #[sn]) w:=by intro w;simp[Instr.build,Instr.fill,A3,AX,AL,AR,AI,A4,AZ]
      refine Be f Z Z cz λa f=>Aj 1 0 (ds:=[sn]) m sizeOf26 f Z Z Z (Ao Z As) Z (lb Z) Z λw m=>AA (Ax 1 0 (ds:=[sn]) m Az f Z Z Z Z Z λa f=>Aj 3 0 (ds:=[sn]) m sizeOf26 f Z Z Z (Ao Z As) Z (lb Z) Z λw m=>Aa (Ar ?_))
      obtain⟨cA,m,cB⟩:=Ow2.nil R0 40 2 m
      refine have cC:=AT (P:=prog) 4 m Az f (s:=2) rfl rfl rfl;have m:=m.eraseAt 4;have m:=m.eraseAt 3;have m:=m.eraseAt 2;?_
      obtain rfl:=sj hd
      exact⟨[(.agg #[sn])],⟨cC,trivial⟩,f.d,_,[cA,AG b0 aO.2.2.1 aO.2.2.2 aV],(gt al (gt aA (gt aK aT))),m,_,_,_,Z,Z,cB,aW⟩
     ·refine Ah f Z cy (Ae (Ai f Z Z BD λa f=>Ac f Z λa f=>Aa ?_))
      rcases Af hd with⟨cD,hd⟩|⟨cD,hd⟩
      ·refine Ak f Z cD (Al (Br underlying26 Z sizeOf24 f Z λa f=>AV 1 0 m Bl f Z Z Z Z λa f=>Ab f Z λa f=>AM (R:=R0) (xs:=([]:LI)) (RI.one _) m T40 f Z Z Z (by decide) (All2.nil _) λcE cF w a m cG f=>Bd hd λcH cI hd=>Ch 3 m aq Z T24 f Z Z Z cI λcJ a cK f=>have m:=m.fr 3;DY m aq cG sizeOf40 f Z Z cK cI λcL w m cM=>AA (Ax 2 0 (ds:=[an]) m Az f Z Z Z Z Z λa f=>Aj 3 0 (ds:=[an]) m sizeOf26 f Z Z Z (Ao (Ow2.one1 0 m cM Z) As) Z (lb Z) Z λw m=>Aa (Ar (have cN:=AT (P:=prog) 3 m Az f (s:=2) rfl rfl rfl;have m:=m.eraseAt 3;have m:=m.eraseAt 2;?_)))))
       obtain rfl:=sj hd
       exact⟨[(.agg #[an])],⟨cN,trivial⟩,f.d,_,[cL,AG b0 aO.2.2.1 aO.2.2.2 aV],(gt al (gt aA (gt aK aT))),m,_,_,_,Z,Z,cM,aW⟩
      ·refine Ah f Z cD (Ap (Ae (Ax 1 0 (ds:=[an]) m Az f Z Z Z Z Z λa f=>Aj 3 0 (ds:=[an]) m sizeOf26 f Z Z Z (Ao (Ow2.one1 2 m aq Z) As) Z (lb Z) Z λw m=>Aa (Ar (have cO:=AT (P:=prog) 3 m Az f (s:=2) rfl rfl rfl;have m:=m.fr 2;have m:=m.eraseAt 3;have m:=m.eraseAt 2;?_)))))
       obtain rfl:=sj hd
       exact⟨[(.agg #[an])],⟨cO,trivial⟩,f.d,_,[ao,AG b0 aO.2.2.1 aO.2.2.2 aV],(gt al (gt aA (gt aK aT))),m,_,_,_,Z,Z,aq,aW⟩
 ·refine Ah f Z aE (Ap (Ae (Ax 1 0 (ds:=[an]) m Az f Z Z Z Z Z λa f=>Aj 3 0 (ds:=[an]) m sizeOf26 f Z Z Z (Ao (Ow2.one1 2 m aq Z) As) Z (lb Z) Z λw m=>Aa (Ar (have cP:=AT (P:=prog) 3 m Az f (s:=2) rfl rfl rfl;have m:=m.fr 2;have m:=m.eraseAt 3;have m:=m.eraseAt 2;?_)))))
  obtain rfl:=sj hd
  exact⟨[(.agg #[an])],⟨cP,trivial⟩,f.d,_,[ao,AG b0 av.2.2.1 av.2.2.2 aC],(gt al aA),m,_,_,_,Z,Z,aq,aD⟩
theorem Wk.j0 {v0:Value}{x0:LI}(m:Mem W G w (H))(h0:RSl (RI .u8) G v0 x0){y:(LL)}(hd:D.j0 x0=some y):
  Calls prog 5 #[v0] w (Res W G H (λG' Ho v=>∃r0:Value,∃i0:Itm,Ho=[i0]∧v=(.agg #[r0])∧Ow2 R0 40 2 G' i0 r0 y)):=by
 refine Au (args:=[v0]) (N:=8) [.cell 2 26] func5 Z Z (lb Z) Z λa f=> ?_
 unfold D.j0 at hd
 refine Ae (AQ (cs:=[sn]) zeroValue26 m f Z Z λaa w a m f=>AA (Ab f Z λa f=>Bd hd λab ac hd=>AH f Z call17 (Wk.B m h0 ac) λad ae af w ag m ah a f=> ?_))
 obtain⟨ai,aj,rfl,rfl,ak⟩:=ah
 refine Ac f Z λa f=>AA (Ab f Z λa f=>Bd hd λal am hd=>AH f Z call18 (Wk.x m ak am) λan ao ap w aq m ar a f=> ?_)
 obtain⟨au,av,aw,rfl,rfl,ax,ay⟩:=ar
 refine Aj 2 0 (ds:=[au]) m sizeOf26 f Z Z Z (Ao (Ow2.one1 0 m ax Z) As) Z (lb Z) Z λw m=>Aa (Ar (have az:=AT (P:=prog) 2 m Az f (s:=2) rfl rfl rfl;have m:=m.eraseAt 2;have m:=m.eraseAt 1;?_))
 obtain rfl:=sj hd
 exact⟨[(.agg #[au])],⟨az,trivial⟩,f.d,_,[av],(gt ag aq),m,_,_,Z,Z,ax⟩
theorem Wk.d0 {x0 x1 x2:Int}(m:Mem W G w (H)){y:Bool}(hd:D.d0 x0 x1 x2=some y):
  Calls prog 57 #[iv x0,iv x1,iv x2] w (Res W G H (λ_ Ho v=>Ho=[]∧v=(.bool y))):=by
 refine Au (args:=[iv x0,iv x1,iv x2]) (N:=15) [.tmp 6] func57 Z Z (lb Z) Z λa f=> ?_
 unfold D.d0 at hd
 refine Ae (Ac f Z λa f=>AA (Ab f Z λa f=>Ab f Z λa f=>Ai f Z Z b_leq λa f=>Ab f Z λa f=> ?_))
 refine A2 4 (λa w=>∃aa,GLe G aa∧Mem W aa w (H)∧Fr a 15 [(0,iv x0),(1,iv x1),(2,iv x2),(7,iv x1),(8,iv x0),(9,(.bool (decide (x1≤x0)))),(10,(.bool (decide (x1≤x0)))),(14,(.bool ((decide (x1≤x0))&&(decide (x0≤x2)))))]) ?_ ?_
 ·rcases Bool.eq_false_or_eq_true (decide (x1≤x0)) with ab|ab
  ·exact Am f ab (Ab f Z λa f=>Am f ab (Ab f Z λa f=>Am f ab (Ai f Z Z b_leq λa f=>l_o f (AE (f.e Z) ab (f.e Z)) λa f=>⟨_,gr,m,f.weak ⟨Z,Z,Z,Z,Z,Z,Z,by rw[ab];rfl,trivial⟩⟩)))
  ·exact An f ab λa f=>An f ab λa f=>An f ab λa f=>l_o f (AF (f.e Z) ab (f.e Z)) λa f=>⟨_,gr,m,f.weak ⟨Z,Z,Z,Z,Z,Z,Z,by rw[ab];rfl,trivial⟩⟩
 ·rintro a w ⟨aa,ac,m,f⟩
  refine Ac f Z λa f=>Aa (Ar ?_)
  obtain rfl:=sj hd
  exact⟨[(.bool ((decide (x1≤x0))&&(decide (x0≤x2))))],f.g Z,f.d,_,[],ac,m,Z,Z⟩
theorem Wk.Y {v0:Value}{x0:LI}{x1:Int}(m:Mem W G w (H))(h0:R1 G v0 x0){y:Bool}(hd:D.Y x0 x1=some y):
  Calls prog 43 #[v0,iv x1] w (Res W G H (λ_ Ho v=>Ho=[]∧v=(.bool y))):=by
 refine Au (args:=[v0,iv x1]) (N:=33) [.tmp 4] func43 Z Z (lb Z) Z λa f=> ?_
 unfold D.Y at hd
 refine Ae (Ac f Z λa f=>Aa (Ag (Ae (Ab f Z λa f=>A9 underlying40 f Z Z h0 λa f=>Ab f Z λa f=>Aa (Bd hd λaa ab hd=> ?_)))))
 refine AY (λa w=>∃q_181':Unit,aa= .inl q_181'∧∃(ac:GH),GLe G ac∧Fr a 33 []∧Mem W ac w (H)) ?_ ?_
 ·refine Aq (AP (λad a w=>∃ae:Int,ae=ad∧∃(af:GH),GLe G af∧Fr a 33 [(0,v0),(1,iv x1),(7,v0),(8,(iv (x0.length:Int))),(9,iv ae)]∧Mem W af w (H)) ab ⟨_,Z,_,gr,f.k Z,m⟩ ?_)
  clear ab f m
  rintro ad ag ah ai a w ⟨ae,rfl,af,aj,f,m⟩
  refine have h0:=rd1 aj h0;Ae (Ai f Z Z AN λa f=>Aa (Ag ?_))
  rcases Af ah with⟨ak,ah⟩|⟨ak,ah⟩
  ·refine Ak f Z ak (Ap (Ag (Aq (Ae (Ab f Z λa f=>Bd ah λal am ah=>BA T40 f Z Z Z h0 am λan ao a ap aq f=> ?_)))))
   subst aq
   refine AU m Pl2 f Z Z ap λa f=>Ac f Z λa f=>Ac f Z λa f=>AA (Ab f Z λa f=>Ab f Z λa f=>Ai f Z Z B1 λa f=>Bd ah λar au ah=>A7 f Z call57 (Wk.d0 m au) λav w aw m a f=>have h0:=rd1 aw h0;l_o f (Bg (f.e Z)) λa f=>Ab f Z λa f=>Bd ah λax ay ah=> ?_)
   refine A2 12 (λa w=>∃az,GLe av az∧Mem W az w (H)∧Fr a 33 [(0,v0),(1,iv x1),(5,iv ae),(6,iv al),(7,v0),(8,(iv (x0.length:Int))),(9,iv ae),(14,iv al),(15,iv x1),(16,(iv (i64.wrap (x1-1)))),(17,(.bool ar)),(18,(.bool (!ar))),(19,(.bool (!ar))),(31,(.bool ax))]) ?_ ?_
   ·rcases Af ay with⟨aA,ay⟩|⟨aA,ay⟩
    ·refine An f aA λa f=>An f aA λa f=>An f aA λa f=>BH f Z Z Z λa f=>BH f Z Z Z λa f=>BH f Z Z Z λa f=>BH f Z Z Z λa f=>BH f Z Z Z λa f=>BH f Z Z Z λa f=>BH f Z Z Z λa f=>An f aA λa f=>l_o f (AE (f.e Z) aA (f.e Z)) λa f=> ?_
     obtain rfl:=sj ay
     exact⟨_,gr,m,f.k Z⟩
    ·refine Am f aA (Ab f Z λa f=>Am f aA (Ai f Z Z BQ λa f=>Am f aA (Ab f Z λa f=>Bd ay λaB aC ay=> ?_)))
     refine A2 8 (λa w=>∃aD,GLe av aD∧Mem W aD w (H)∧Fr a 33 [(0,v0),(1,iv x1),(5,iv ae),(6,iv al),(7,v0),(8,(iv (x0.length:Int))),(9,iv ae),(14,iv al),(15,iv x1),(16,(iv (i64.wrap (x1-1)))),(17,(.bool ar)),(18,(.bool (!ar))),(19,(.bool (!ar))),(20,iv ae),(21,(.bool (decide ((0:Int)<ae)))),(22,(.bool (decide ((0:Int)<ae)))),(30,(.bool aB))]) ?_ ?_
     ·rcases Af aC with⟨aE,aC⟩|⟨aE,aC⟩
      ·refine Am f aE (Ab f Z λa f=>Am f aE (Ab f Z λa f=>Am f aE (Ai f Z Z B1 λa f=>Am f aE (Bd aC λaF aG aC=>BA T40 f Z Z Z h0 aG λaH aI a aJ aK f=> ?_))))
       subst aK
       refine Am f aE (AU m Pl2 f Z Z aJ λa f=>Am f aE (Ab f Z λa f=>Am f aE (Ai f Z Z b_geq λa f=>Am f aA (l_o f (AE (f.e Z) aE (f.e Z)) λa f=> ?_))))
       obtain rfl:=sj aC
       exact⟨_,gr,m,f.k Z⟩
      ·refine An f aE λa f=>An f aE λa f=>An f aE λa f=>An f aE λa f=>An f aE λa f=>An f aE λa f=>An f aE λa f=>Am f aA (l_o f (AF (f.e Z) aE (f.e Z)) λa f=> ?_)
       obtain rfl:=sj aC
       exact⟨_,gr,m,f.k Z⟩
     ·rintro a w ⟨aD,aL,m,f⟩
      refine l_o f (AF (f.e Z) aA (f.e Z)) λa f=> ?_
      obtain rfl:=sj ay
      exact⟨_,aL,m,f.k Z⟩
   ·rintro a w ⟨az,aM,m,f⟩
    refine Aa ?_
    rcases Af ah with⟨aN,ah⟩|⟨aN,ah⟩
    ·refine Ak f Z aN (Ae (Ac f Z λa f=>Aa (Ar ?_)))
     obtain rfl:=sj ah
     obtain rfl:=ai _ rfl
     obtain rfl:=sj hd
     exact⟨[(.bool false)],f.g Z,f.d,_,[],(gt aj (gt aw aM)),m,Z,Z⟩
    ·refine Ah f Z aN (Ap (Al (Ai f Z Z AD λa f=>Ab f Z λa f=>Aa ?_)))
     obtain rfl:=sj ah
     exact⟨_,Z,_,Z,_,(gt aj (gt aw aM)),f.k Z,m⟩
  ·refine Ah f Z ak (AO Z ?_)
   obtain rfl:=sj ah
   obtain rfl:=ai _ rfl
   exact⟨_,Z,_,aj,f.weak trivial,m⟩
 ·rintro a w ⟨_,rfl,ac,aO,f,m⟩
  refine Ae (Ac f Z λa f=>Aa (Ar ?_))
  obtain rfl:=sj hd
  exact⟨[(.bool true)],f.g Z,f.d,_,[],aO,m,Z,Z⟩
end Go.Proofs.YtgdadopbjdlddaaGreatDoor

set_option maxRecDepth 100000
namespace Go.Proofs.YtgdadopbjdlddaaGreatDoor
open Go Go.Sx
open Go.Proofs.Tryz Go.Proofs.YtgdadopbjdlddaaGreatDoor.Tryz IntKind
variable {W w : World} {G : GH} {H : List Itm}
theorem T72 :SlT prog 72 75 1 4 (.int .u32 0):=⟨underlying72,Tryz.t75,by kernel_rfl,by kernel_rfl,by kernel_rfl,by kernel_rfl⟩
theorem Pl75 :BM prog 75:=isAgg75
theorem Wk.o {aa:Value}{ab:LL}(m:Mem W G w (H))(ac:R2 G aa ab){y:Bool}(hd:D.o ab=some y):
  Calls prog 19 #[(.agg #[aa])] w (Res W G H (λ_ Ho v=>Ho=[]∧v=(.bool y))):=by
 refine Au (args:=[(.agg #[aa])]) (N:=61) [.tmp 2] func19 Z Z (lb Z) Z λa f=> ?_
 unfold D.o at hd
 refine Ae (BW (cs:=[aa]) m f Z Z Z λad w a m f=>Ac f Z λa f=>AA (Br underlying26 Z sizeOf24 f Z λa f=>AV 0 0 m Bl f Z Z Z Z λa f=>A9 underlying24 f Z Z ac λa f=>Ac f Z λa f=>Aa (Ag (Ae (Ab f Z λa f=>Ai f Z Z AN λa f=>Ab f Z λa f=> ?_)))))
 refine A2 3 (λa w=>∃ae,GLe G ae∧Mem W ae w (ib ad 26 [aa]::H)∧Fr a 61 [(0,(.agg #[aa])),(1,pb ad),(3,(iv (ab.length:Int))),(13,(iv (ab.length:Int))),(14,(.bool (decide ((ab.length:Int)<1)))),(15,(.bool (decide ((ab.length:Int)<1)))),(18,(.bool ((decide ((ab.length:Int)<1))||(decide ((16:Int)<(ab.length:Int))))))]) ?_ ?_
 ·rcases Bool.eq_false_or_eq_true (decide ((ab.length:Int)<1)) with af|af
  ·exact An f af λa f=>An f af λa f=>l_o f (AE (f.e Z) af (f.e Z)) λa f=>⟨_,gr,m,f.weak ⟨Z,Z,Z,Z,Z,Z,by rw[af];rfl,trivial⟩⟩
  ·exact Am f af (Ab f Z λa f=>Am f af (Ai f Z Z BQ λa f=>l_o f (AF (f.e Z) af (f.e Z)) λa f=>⟨_,gr,m,f.weak ⟨Z,Z,Z,Z,Z,Z,by rw[af];rfl,trivial⟩⟩))
 ·rintro a w ⟨ae,ag,m,f⟩
  refine have ac:=rd2 ag ac;Aa ?_
  rcases Af hd with⟨ah,hd⟩|⟨ah,hd⟩
  ·refine Ak f Z ah (Ae (Ac f Z λa f=>Aa (Ar (have m:=m.dp 1;?_))))
   obtain rfl:=sj hd
   exact⟨[(.bool false)],f.g Z,f.d,_,[],ag,m,Z,Z⟩
  ·refine Ah f Z ah (Ap (Ag (Ae (Br underlying26 Z sizeOf24 f Z λa f=>AV 0 0 m Bl f Z Z Z Z λa f=>A9 underlying24 f Z Z ac λa f=>Ab f Z λa f=>Aa (Bd hd λai aj hd=> ?_)))))
   refine AY (λa w=>∃q_91':Unit,ai= .inl q_91'∧∃(ak:GH),GLe ae ak∧Fr a 61 [(1,pb ad)]∧Mem W ak w (ib ad 26 [aa]::H)) ?_ ?_
   ·refine Aq (AP (λal a w=>∃am:Int,am=al∧∃(an:GH),GLe ae an∧Fr a 61 [(1,pb ad),(3,(iv (ab.length:Int))),(20,aa),(21,(iv (ab.length:Int))),(22,iv am)]∧Mem W an w (ib ad 26 [aa]::H)) aj ⟨_,Z,_,gr,f.k Z,m⟩ ?_)
    clear aj f m
    rintro al ao ap aq a w ⟨am,rfl,an,ar,f,m⟩
    refine have ac:=rd2 ar ac;Ae (Ai f Z Z AN λa f=>Aa (Ag ?_))
    rcases Af ap with⟨au,ap⟩|⟨au,ap⟩
    ·refine Ak f Z au (Ap (Ag (Aq (Ae (Ab f Z λa f=>Bd ap λav aw ap=>BA T24 f Z Z Z ac aw λax ay a az aA f=>AU m Bt f Z Z az λa f=>Ac f Z λa f=>Ac f Z λa f=>AA (Ab f Z λa f=>Ab f Z λa f=>Bd ap λaB aC ap=>A7 f Z call43 (Wk.Y m aA aC) λaD w aE m a f=>have aA:=rd1 aE aA;l_o f (Bg (f.e Z)) λa f=>Ab f Z λa f=>Bd ap λaF aG ap=> ?_))))))
     refine A2 4 (λa w=>∃aH,GLe aD aH∧Mem W aH w (ib ad 26 [aa]::H)∧Fr a 61 [(1,pb ad),(3,(iv (ab.length:Int))),(4,iv am),(5,ay),(20,aa),(21,(iv (ab.length:Int))),(22,iv am),(27,ay),(28,(iv (ab.length:Int))),(29,(.bool aB)),(30,(.bool (!aB))),(31,(.bool (!aB))),(35,(.bool aF))]) ?_ ?_
     ·rcases Af aG with⟨aI,aG⟩|⟨aI,aG⟩
      ·refine An f aI λa f=>An f aI λa f=>An f aI λa f=>l_o f (AE (f.e Z) aI (f.e Z)) λa f=> ?_
       obtain rfl:=sj aG
       exact⟨_,gr,m,f.k Z⟩
      ·refine Am f aI (Ab f Z λa f=>Am f aI (Ab f Z λa f=>Am f aI (Bd aG λaJ aK aG=>A7 f Z call44 (Wk.X m aA aK) λaL w aM m a f=>l_o f (AF (f.e Z) aI (f.e Z)) λa f=> ?_)))
       obtain rfl:=sj aG
       exact⟨_,aM,m,f.k Z⟩
     ·rintro a w ⟨aH,aN,m,f⟩
      refine Aa ?_
      rcases Af ap with⟨aO,ap⟩|⟨aO,ap⟩
      ·refine Ak f Z aO (Ae (Ac f Z λa f=>Aa (Ar (have m:=m.dp 1;?_))))
       obtain rfl:=sj ap
       obtain rfl:=aq _ rfl
       obtain rfl:=sj hd
       exact⟨[(.bool false)],f.g Z,f.d,_,[],(gt ag (gt ar (gt aE aN))),m,Z,Z⟩
      ·refine Ah f Z aO (Ap (Al (Ai f Z Z AD λa f=>Ab f Z λa f=>Aa ?_)))
       obtain rfl:=sj ap
       exact⟨_,Z,_,Z,_,(gt ar (gt aE aN)),f.k Z,m⟩
    ·refine Ah f Z au (AO Z ?_)
     obtain rfl:=sj ap
     obtain rfl:=aq _ rfl
     exact⟨_,Z,_,ar,f.k Z,m⟩
   ·rintro a w ⟨_,rfl,ak,aP,f,m⟩
    refine have ac:=rd2 aP ac;Ag (Ae (Br underlying26 Z sizeOf24 f Z λa f=>AV 0 0 m Bl f Z Z Z Z λa f=>A9 underlying24 f Z Z ac λa f=>Ab f Z λa f=>Aa (Bd hd λaQ aR hd=> ?_)))
    refine AY (λa w=>∃q_394':Unit,aQ= .inl q_394'∧∃(aS:GH),GLe ak aS∧Fr a 61 []∧Mem W aS w (H)) ?_ ?_
    ·refine Aq (AP (λaT a w=>∃aU:Int,aU=aT∧∃(aV:GH),GLe ak aV∧Fr a 61 [(1,pb ad),(38,aa),(39,(iv (ab.length:Int))),(40,iv aU)]∧Mem W aV w (ib ad 26 [aa]::H)) aR ⟨_,Z,_,gr,f.k Z,m⟩ ?_)
     clear aR f m
     rintro aT aW aX aY a w ⟨aU,rfl,aV,aZ,f,m⟩
     refine have ac:=rd2 aZ ac;Ae (Ai f Z Z AN λa f=>Aa (Ag ?_))
     rcases Af aX with⟨a0,aX⟩|⟨a0,aX⟩
     ·refine Ak f Z a0 (Ap (Ag (Aq (Ae (Ab f Z λa f=>Bd aX λa1 a2 aX=>BA T24 f Z Z Z ac a2 λa3 a4 a a5 a6 f=>AU m Bt f Z Z a5 λa f=>Ac f Z λa f=>Ac f Z λa f=>AA (Ab f Z λa f=>A9 underlying40 f Z Z a6 λa f=>Ab f Z λa f=>Aa (Bd aX λa7 a8 aX=> ?_)))))))
      refine AY (λa w=>∃q_560':Unit,a7= .inl q_560'∧∃(a9:GH),GLe aV a9∧Fr a 61 [(1,pb ad),(38,aa),(39,(iv (ab.length:Int))),(40,iv aU)]∧Mem W a9 w (ib ad 26 [aa]::H)) ?_ ?_
      ·refine Aq (AP (λba a w=>∃bb:Int,bb=ba∧∃(bc:GH),GLe aV bc∧Fr a 61 [(1,pb ad),(6,iv aU),(38,aa),(39,(iv (ab.length:Int))),(40,iv aU),(45,a4),(46,(iv (a1.length:Int))),(47,iv bb)]∧Mem W bc w (ib ad 26 [aa]::H)) a8 ⟨_,Z,_,gr,f.k Z,m⟩ ?_)
       clear a8 f m
       rintro ba bd be bf a w ⟨bb,rfl,bc,bg,f,m⟩
       refine have ac:=rd2 bg ac;have a6:=rd1 bg a6;Ae (Ai f Z Z AN λa f=>Aa (Ag ?_))
       rcases Af be with⟨bh,be⟩|⟨bh,be⟩
       ·refine Ak f Z bh (Ap (Ag (Aq (Ae (Bd be λbi bj be=>BA T40 f Z Z Z a6 bj λbk bl a bm bn f=> ?_)))))
        subst bn
        refine AU m Pl2 f Z Z bm λa f=>Ac f Z λa f=>AA (Br underlying26 Z sizeOf24 f Z λa f=>AV 0 0 m Bl f Z Z Z Z λa f=>Ab f Z λa f=>Bd be λbo bp be=>BA T24 f Z Z Z ac bp λbq br a bs bt f=>AU m Bt f Z Z bs λa f=>Ab f Z λa f=>Bd be λbu bv be=>A7 f Z call44 (Wk.X m bt bv) λbw w bx m a f=>l_o f (Bg (f.e Z)) λa f=>Aa ?_)
        rcases Af be with⟨bz,be⟩|⟨bz,be⟩
        ·refine Ak f Z bz (Ae (Ac f Z λa f=>Aa (Ar (have m:=m.dp 1;?_))))
         obtain rfl:=sj be
         obtain rfl:=bf _ rfl
         obtain rfl:=sj aX
         obtain rfl:=aY _ rfl
         obtain rfl:=sj hd
         exact⟨[(.bool false)],f.g Z,f.d,_,[],(gt ag (gt aP (gt aZ (gt bg bx)))),m,Z,Z⟩
        ·refine Ah f Z bz (Ap (Al (Ai f Z Z AD λa f=>Ab f Z λa f=>Aa ?_)))
         obtain rfl:=sj be
         exact⟨_,Z,_,Z,_,(gt bg bx),f.k Z,m⟩
       ·refine Ah f Z bh (AO Z ?_)
        obtain rfl:=sj be
        obtain rfl:=bf _ rfl
        exact⟨_,Z,_,bg,f.k Z,m⟩
      ·rintro a w ⟨_,rfl,a9,bA,f,m⟩
       refine Al (Ai f Z Z AD λa f=>Ab f Z λa f=>Aa ?_)
       obtain rfl:=sj aX
       exact⟨_,Z,_,Z,_,(gt aZ bA),f.k Z,m⟩
     ·refine Ah f Z a0 (AO Z (have m:=m.dp 1;?_))
      obtain rfl:=sj aX
      obtain rfl:=aY _ rfl
      exact⟨_,Z,_,aZ,f.weak trivial,m⟩
    ·rintro a w ⟨_,rfl,aS,bB,f,m⟩
     refine Ae (Ac f Z λa f=>Aa (Ar ?_))
     obtain rfl:=sj hd
     exact⟨[(.bool true)],f.g Z,f.d,_,[],(gt ag (gt aP bB)),m,Z,Z⟩
theorem Wk.w0 {aa:Value}{ab:LL}(m:Mem W G w (H))(ac:R2 G aa ab){y:(LL)}(hd:D.w0 ab=some y):
  Calls prog 47 #[(.agg #[aa])] w (Res W G H (λG' Ho v=>∃r0:Value,∃i0:Itm,Ho=[i0]∧r0=v∧Ow R1 40 G' i0 r0 y)):=by
 refine Au (args:=[(.agg #[aa])]) (N:=35) [.tmp 2] func47 Z Z (lb Z) Z λa f=> ?_
 unfold D.w0 at hd
 refine Ae (BW (cs:=[aa]) m f Z Z Z λad w a m f=>Ac f Z λa f=>AA (AM (R:=R1) (xs:=([]:LL)) (RSl.one _) m T24 f Z Z Z (by decide) (All2.nil _) λae af w a m ag f=>Ac f Z λa f=>Aa (Ag (Ae (Br underlying26 Z sizeOf24 f Z λa f=>AV 1 0 m Bl f Z Z Z Z λa f=>A9 underlying24 f Z Z ac λa f=>Ab f Z λa f=>Aa (Bd hd λah ai hd=> ?_))))))
 refine AY (λa w=>∃aj:LL,aj=ah∧∃(ak:GH) (al:Value) (am:Itm),GLe G ak∧Fr a 35 [(3,al)]∧Mem W ak w (am::H)∧Ow R1 40 ak am al aj) ?_ ?_
 ·refine Aq (have m:=m.eraseAt 1;AP (λan a w=>∃ao:LL,∃ap:Int,(ao,ap)=an∧∃(aq:GH) (ar:Value) (au:Itm),GLe G aq∧Fr a 35 [(3,ar),(10,aa),(11,(iv (ab.length:Int))),(12,iv ap)]∧Mem W aq w (au::H)∧Ow R1 40 aq au ar ao) ai ⟨_,_,Z,_,af,ae,gr,f.k Z,m,ag⟩ ?_)
  clear ai f m
  rintro an av aw ax a w ⟨ao,ap,rfl,aq,ar,au,ay,f,m,az⟩
  refine have ac:=rd2 ay ac;Ae (Ai f Z Z AN λa f=>Aa (Ag ?_))
  rcases Af aw with⟨aA,aw⟩|⟨aA,aw⟩
  ·refine Ak f Z aA (Ap (Ag (Aq (Ae (Ab f Z λa f=>Bd aw λaB aC aw=>BA T24 f Z Z Z ac aC λaD aE a aF aG f=>AU m Bt f Z Z aF λa f=>Ac f Z λa f=>Ac f Z λa f=>AA (Ab f Z λa f=>A9 underlying40 f Z Z aG λa f=>Ab f Z λa f=>Aa (Bd aw λaH aI aw=> ?_)))))))
   refine AY (λa w=>∃aJ:LL,aJ=aH∧∃(aK:GH) (aL:Value) (aM:Itm),GLe aq aK∧Fr a 35 [(3,aL),(10,aa),(11,(iv (ab.length:Int))),(12,iv ap)]∧Mem W aK w (aM::H)∧Ow R1 40 aK aM aL aJ) ?_ ?_
   ·refine Aq (AP (λaN a w=>∃aO:LL,∃aP:Int,(aO,aP)=aN∧∃(aQ:GH) (aR:Value) (aS:Itm),GLe aq aQ∧Fr a 35 [(3,aR),(4,iv ap),(10,aa),(11,(iv (ab.length:Int))),(12,iv ap),(17,aE),(18,(iv (aB.length:Int))),(19,iv aP)]∧Mem W aQ w (aS::H)∧Ow R1 40 aQ aS aR aO) aI ⟨_,_,Z,_,ar,au,gr,f.k Z,m,az⟩ ?_)
    clear aI f m
    rintro aN aT aU aV a w ⟨aO,aP,rfl,aQ,aR,aS,aW,f,m,aX⟩
    refine have aG:=rd1 aW aG;Ae (Ai f Z Z AN λa f=>Aa (Ag ?_))
    rcases Af aU with⟨aY,aU⟩|⟨aY,aU⟩
    ·refine Ak f Z aY (Ap (Ag (Aq (Ae (Bd aU λaZ a0 aU=>BA T40 f Z Z Z aG a0 λa1 a2 a a3 a4 f=> ?_)))))
     subst a4
     refine AU m Pl2 f Z Z a3 λa f=>Ac f Z λa f=>AA (Ab f Z λa f=>Ab f Z λa f=>Ai f Z Z AN λa f=>Aa ?_)
     rcases Af aU with⟨a5,aU⟩|⟨a5,aU⟩
     ·refine Ak f Z a5 (Al (Ab f Z λa f=>Ab f Z λa f=>Ab f Z λa f=>AM (R:=R0) (xs:=([ap,aZ]:LI)) (RI.one _) m T40 f Z Z Z (by decide) (All2.cons Z (All2.cons Z (All2.nil _))) λa6 a7 w a m a8 f=> ?_))
      obtain⟨a9,ba,m,bb⟩:=Ow.stamp (RI.mono _) a8 m
      refine have aX:=od3 ba aX;AM (R:=R1) (xs:=([([ap,aZ]:LI)]:LL)) (RSl.one _) m T24 f Z Z Z (by decide) (All2.cons bb (All2.nil _)) λbc bd w a m be f=>Bd aU λbf bg aU=>A1 (RSl.one _) 1 m aX Z T24 Z (by decide) f Z Z Z (Ow.src (j:=0) be m Z) bg λbh bi w a m bj f=>Ac f Z λa f=>Aa (Al (Ai f Z Z AD λa f=>Ab f Z λa f=>Aa (have m:=m.fr 1;have m:=m.eraseAt 1;?_)))
      obtain rfl:=sj aU
      exact⟨_,Z,_,_,Z,_,bi,bh,(gt aW ba),f.k Z,m,bj⟩
     ·refine Ah f Z a5 (Ap (Al (Ai f Z Z AD λa f=>Ab f Z λa f=>Aa ?_)))
      obtain rfl:=sj aU
      exact⟨_,Z,_,_,Z,_,aR,aS,aW,f.k Z,m,aX⟩
    ·refine Ah f Z aY (AO Z ?_)
     obtain rfl:=sj aU
     obtain rfl:=aV _ rfl
     exact⟨_,Z,_,aR,aS,aW,f.k Z,m,aX⟩
   ·rintro a w ⟨aJ,rfl,aK,aL,aM,bk,f,m,bl⟩
    refine Al (Ai f Z Z AD λa f=>Ab f Z λa f=>Aa ?_)
    obtain rfl:=sj aw
    exact⟨_,Z,_,_,Z,_,aL,aM,(gt ay bk),f.k Z,m,bl⟩
  ·refine Ah f Z aA (AO Z ?_)
   obtain rfl:=sj aw
   obtain rfl:=ax _ rfl
   exact⟨_,Z,_,ar,au,ay,f.k Z,m,az⟩
 ·rintro a w ⟨aj,rfl,ak,al,am,bm,f,m,bn⟩
  refine Ae (Ab f Z λa f=>Ac f Z λa f=>Aa (Ar ?_))
  obtain rfl:=sj hd
  exact⟨[al],f.g Z,f.d,_,[am],bm,m,_,_,Z,Z,bn⟩
theorem Wk.S {aa:Value}{ab:LL}(hW:TxtW 2 3 1 W)(m:Mem W G w (H))(ac:R2 G aa ab){y:ByteArray}(hd:D.S ab=some y):
  Calls prog 20 #[(.agg #[aa])] w (Res W G H (λ_ Ho v=>Ho=[]∧v=(.string y))):=by
 refine Au (args:=[(.agg #[aa])]) (N:=33) [.tmp 2] func20 Z Z (lb Z) Z λa f=> ?_
 unfold D.S at hd
 refine Ae (BW (cs:=[aa]) m f Z Z Z λad w a m f=>Ac f Z λa f=>AA (AQ (cs:=[(.pointer none),sn]) zeroValue63 m f Z Z λae w a m f=>AA (Br underlying26 Z sizeOf24 f Z λa f=>AV 1 0 m Bl f Z Z Z Z λa f=>A9 underlying24 f Z Z ac λa f=>Bd hd λaf ag hd=>A7 f Z call46 (Wk.O m ag) λah w ai m a f=>have ac:=rd2 ai ac;Bd hd λaj ak hd=>l_o f (B3 (f.e Z) (f.e Z) ak) λa f=> ?_)))
 obtain⟨al,m,am⟩:=Ow.nil (RI .u8) 5 m
 refine have m:=m.fr 1;Bd hd λan ao hd=>AH f Z call45 (Wk.E0 (.inl Z) m am ao) λap aq ar w au m av a f=> ?_
 obtain⟨rfl,aw,ax,rfl,rfl,ay⟩:=av
 refine Aa (Ag (Ae (Ax 2 0 (ds:=[aa]) m Az f Z Z Z Z Z λa f=>Bd hd λaz aA hd=>Cy f Z call47 (Wk.w0 m ac aA) λaB aC aD w aE m aF a f=>have ay:=od1 aE ay;BF 0 m aF Z underlying24 f Z Z λa f=>Ab f Z λa f=>Aa (Bd hd λaG aH hd=> ?_))))
 refine AY (λa w=>∃aI:LI,aI=aG∧∃(aJ:GH) (aK:Value) (aL:Itm),GLe aD aJ∧Fr a 33 [(3,pb ae)]∧Mem W aJ w (ib ae 63 [pb ae,aK]::aL::H)∧Ow (RI .u8) 5 aJ aL aK aI) ?_ ?_
 ·refine Aq (have m:=m.fr 1;have m:=m.eraseAt 3;AP (λaM a w=>∃aN:Int,∃aO:LI,(aN,aO)=aM∧∃(aP:GH) (aQ:Value) (aR:Itm),GLe aD aP∧Fr a 33 [(3,pb ae),(13,aB),(14,(iv (az.length:Int))),(15,iv aN)]∧Mem W aP w (ib ae 63 [pb ae,aQ]::aC::aR::H)∧Ow (RI .u8) 5 aP aR aQ aO) aH ⟨_,_,Z,_,aw,ax,gr,f.k Z,m,ay⟩ ?_)
  clear aH f m
  rintro aM aS aT aU a w ⟨aN,aO,rfl,aP,aQ,aR,aV,f,m,aW⟩
  refine have aF:=od3 aV aF;Ae (Ai f Z Z AN λa f=>Aa (Ag ?_))
  rcases Af aT with⟨aX,aT⟩|⟨aX,aT⟩
  ·refine Ak f Z aX (Ap (Ag (Aq (Ae (Bd aT λaY aZ aT=>Bz 1 m aF Z T24 f Z Z Z aZ λa0 a a1 f=>Bq 1 m aF Z Bt f Z Z a1 aZ λa2 a a3 f=>Ac f Z λa f=>Aa (BE 11 Bi (by kernel_rfl) m (AK 0 11 Z f Z λa f=>Bd aT λa4 a5 aT=>B8 1 11 T40 a3 a5 Z f Z Z λa6 a7 a a8 a9 f=> ?_)))))))
   subst a9
   refine Ca 2 11 Pl2 a8 Z f Z λa f=>Bd aT λba bb aT=>CP (i:=3) 11 Z (by kernel_rfl) Z f Z Z Z call48 (λ_ _ w bc m=>Wk.f hW m bb) λa f=>Bd aT λbd be aT=>q_p 4 11 Z f (λ_=>B3 (f.e Z) (f.e Z) be) λa f=>Bd aT λbf bg aT=>q_p 5 11 Z f (λ_=>B3 (f.e Z) (f.e Z) bg) λa f=>AK 6 11 Z f Z λa f=>Bd aT λbh bi aT=>B8 7 11 T40 a3 bi Z f Z Z λbj bk a bl bm f=> ?_
   subst bm
   refine Ca 8 11 Pl2 bl Z f Z λa f=>Bd aT λbn bo aT=>CP (i:=9) 11 Z (by kernel_rfl) Z f Z Z Z call48 (λ_ _ w bp m=>Wk.f hW m bo) λa f=>Bd aT λbq br aT=>q_p 10 11 Z f (λ_=>B3 (f.e Z) (f.e Z) br) λa f=>Bs λbs w bt m=>have aW:=od1 bt aW;have m:=m.fr 2;have m:=m.fr 1;Bd aT λbu bv aT=>AH f Z call45 (Wk.E0 (.inr Z) m aW bv) λbw bx bz w bA m bB a f=> ?_
   obtain⟨rfl,bC,bD,rfl,rfl,bE⟩:=bB
   refine Aa (Al (Ai f Z Z AD λa f=>Ab f Z λa f=>Aa (have m:=m.fr 2;have m:=m.fr 1;?_)))
   obtain rfl:=sj aT
   exact⟨_,Z,_,_,Z,_,bC,bD,(gt aV bt),f.k Z,m,bE⟩
  ·refine Ah f Z aX (AO Z (have m:=m.fr 2;have m:=m.fr 1;have m:=m.eraseAt 2;?_))
   obtain rfl:=sj aT
   obtain rfl:=aU _ rfl
   exact⟨_,Z,_,aQ,aR,aV,f.k Z,m,aW⟩
 ·rintro a w ⟨aI,rfl,aJ,aK,aL,bF,f,m,bG⟩
  refine Ae (Bd hd λbH bI hd=>AH f Z call49 (Wk.B0 m bG bI) λbJ bK bL w bM m bN a f=> ?_)
  obtain⟨rfl,rfl⟩:=bN
  refine Ac f Z λa f=>Aa (Ar ?_)
  obtain rfl:=sj hd
  exact⟨[(.string bH)],f.g Z,f.d,_,[],(gt ai (gt aE (gt bF bM))),m,Z,Z⟩
theorem Wk.M {aa:Value}{ab:LL}(hW:TxtW 2 3 1 W)(m:Mem W G w (H))(ac:R2 G aa ab){y:ByteArray}(hd:D.M ab=some y):
  Calls prog 6 #[(.agg #[aa])] w (Res W G H (λ_ Ho v=>Ho=[]∧v=(.string y))):=by
 refine Au (args:=[(.agg #[aa])]) (N:=8) [.tmp 2] func6 Z Z (lb Z) Z λa f=> ?_
 unfold D.M at hd
 refine Ae (BW (cs:=[aa]) m f Z Z Z λad w a m f=>Ac f Z λa f=>Aa (Ag (Ae (Ax 0 0 (ds:=[aa]) m Az f Z Z Z Z Z λa f=>Bd hd λae af hd=>A7 f Z call19 (Wk.o m ac af) λag w ah m a f=>have ac:=rd2 ah ac;l_o f (Bg (f.e Z)) λa f=>Aa ?_))))
 rcases Af hd with⟨ai,hd⟩|⟨ai,hd⟩
 ·refine Ak f Z ai (Ae (Ac f Z λa f=>Aa (Ar (have m:=m.dp 1;?_))))
  obtain rfl:=sj hd
  exact⟨[(.string (⟨#[]⟩))],f.g Z,f.d,_,[],ah,m,Z,Z⟩
 ·refine Ah f Z ai (Ap (Ae (Ax 0 0 (ds:=[aa]) m Az f Z Z Z Z Z λa f=>Bd hd λaj ak hd=>A7 f Z call20 (Wk.S hW m ac ak) λal w am m a f=>Ac f Z λa f=>Aa (Ar (have m:=m.dp 1;?_)))))
  obtain rfl:=sj hd
  exact⟨[(.string aj)],f.g Z,f.d,_,[],(gt ah am),m,Z,Z⟩
theorem Wk.p {x0:Int}(m:Mem W G w (H)){y:Int}(hd:D.p x0=some y):
  Calls prog 78 #[iv x0] w (Res W G H (λ_ Ho v=>Ho=[]∧v=(.int .u32 y))):=by
 refine Au (args:=[iv x0]) (N:=5) [.tmp 2] func78 Z Z (lb Z) Z λa f=> ?_
 unfold D.p at hd
 refine Ae (Ac f Z λa f=>AA (Ab f Z λa f=> ?_))
 obtain⟨aa,hd⟩:=Di hd
 refine l_o f (r_shl (f.e Z) (f.e Z) aa) λa f=>Ac f Z λa f=>Aa (Ar ?_)
 obtain rfl:=sj hd
 exact⟨[(.int .u32 (ishl .u32 1 x0))],f.g Z,f.d,_,[],gr,m,Z,Z⟩
theorem Wk.s0 {v0:Value}{x0:LI}(m:Mem W G w (H))(h0:R1 G v0 x0){y:Int}(hd:D.s0 x0=some y):
  Calls prog 71 #[v0] w (Res W G H (λ_ Ho v=>Ho=[]∧v=(.int .u32 y))):=by
 refine Au (args:=[v0]) (N:=18) [.tmp 2] func71 Z Z (lb Z) Z λa f=> ?_
 unfold D.s0 at hd
 refine Ae (Ac f Z λa f=>AA (Ac f Z λa f=>Aa (Ag (Ae (Ab f Z λa f=>A9 underlying40 f Z Z h0 λa f=>Ab f Z λa f=>Aa (Bd hd λaa ab hd=> ?_))))))
 refine AY (λa w=>∃ac:Int,ac=aa∧∃(ad:GH),GLe G ad∧Fr a 18 [(3,(.int .u32 ac))]∧Mem W ad w (H)) ?_ ?_
 ·refine Aq (AP (λae a w=>∃af:Int,∃ag:Int,(af,ag)=ae∧∃(ah:GH),GLe G ah∧Fr a 18 [(3,(.int .u32 af)),(6,v0),(7,(iv (x0.length:Int))),(8,iv ag)]∧Mem W ah w (H)) ab ⟨_,_,Z,_,gr,f.k Z,m⟩ ?_)
  clear ab f m
  rintro ae ai aj ak a w ⟨af,ag,rfl,ah,al,f,m⟩
  refine have h0:=rd1 al h0;Ae (Ai f Z Z AN λa f=>Aa (Ag ?_))
  rcases Af aj with⟨am,aj⟩|⟨am,aj⟩
  ·refine Ak f Z am (Ap (Ag (Aq (Ae (Bd aj λan ao aj=>BA T40 f Z Z Z h0 ao λap aq a ar au f=> ?_)))))
   subst au
   refine AU m Pl2 f Z Z ar λa f=>Ac f Z λa f=>Aa (Al (Ab f Z λa f=>Ab f Z λa f=>Bd aj λav aw aj=>A7 f Z call78 (Wk.p m aw) λax w ay m a f=>Ai f Z Z b_or λa f=>Ac f Z λa f=>Aa (Al (Ai f Z Z AD λa f=>Ab f Z λa f=>Aa ?_))))
   obtain rfl:=sj aj
   exact⟨_,Z,_,_,Z,_,(gt al ay),f.k Z,m⟩
  ·refine Ah f Z am (AO Z ?_)
   obtain rfl:=sj aj
   obtain rfl:=ak _ rfl
   exact⟨_,Z,_,al,f.k Z,m⟩
 ·rintro a w ⟨ac,rfl,ad,az,f,m⟩
  refine Ae (Ab f Z λa f=>Ac f Z λa f=>Aa (Ar ?_))
  obtain rfl:=sj hd
  exact⟨[(.int .u32 ac)],f.g Z,f.d,_,[],az,m,Z,Z⟩
theorem Wk.m0 {aa:Value}{ab:LL}(m:Mem W G w (H))(ac:R2 G aa ab){y:(LI)}(hd:D.m0 ab=some y):
  Calls prog 50 #[(.agg #[aa])] w (Res W G H (λG' Ho v=>∃r0:Value,∃i0:Itm,Ho=[i0]∧r0=v∧Ow (RI .u32) 75 G' i0 r0 y)):=by
 refine Au (args:=[(.agg #[aa])]) (N:=21) [.tmp 2] func50 Z Z (lb Z) Z λa f=> ?_
 unfold D.m0 at hd
 refine Ae (BW (cs:=[aa]) m f Z Z Z λad w a m f=>Ac f Z λa f=>AA (AM (R:=(RI .u32)) (xs:=([]:LI)) (RI.one _) m T72 f Z Z Z (by decide) (All2.nil _) λae af w a m ag f=>Ac f Z λa f=>Aa (Ag (Ae (Br underlying26 Z sizeOf24 f Z λa f=>AV 1 0 m Bl f Z Z Z Z λa f=>A9 underlying24 f Z Z ac λa f=>Ab f Z λa f=>Aa (Bd hd λah ai hd=> ?_))))))
 refine AY (λa w=>∃aj:LI,aj=ah∧∃(ak:GH) (al:Value) (am:Itm),GLe G ak∧Fr a 21 [(3,al)]∧Mem W ak w (am::H)∧Ow (RI .u32) 75 ak am al aj) ?_ ?_
 ·refine Aq (have m:=m.eraseAt 1;AP (λan a w=>∃ao:LI,∃ap:Int,(ao,ap)=an∧∃(aq:GH) (ar:Value) (au:Itm),GLe G aq∧Fr a 21 [(3,ar),(8,aa),(9,(iv (ab.length:Int))),(10,iv ap)]∧Mem W aq w (au::H)∧Ow (RI .u32) 75 aq au ar ao) ai ⟨_,_,Z,_,af,ae,gr,f.k Z,m,ag⟩ ?_)
  clear ai f m
  rintro an av aw ax a w ⟨ao,ap,rfl,aq,ar,au,ay,f,m,az⟩
  refine have ac:=rd2 ay ac;Ae (Ai f Z Z AN λa f=>Aa (Ag ?_))
  rcases Af aw with⟨aA,aw⟩|⟨aA,aw⟩
  ·refine Ak f Z aA (Ap (Ag (Aq (Ae (Bd aw λaB aC aw=>BA T24 f Z Z Z ac aC λaD aE a aF aG f=>AU m Bt f Z Z aF λa f=>Ac f Z λa f=>Aa (Al (Ab f Z λa f=>Ab f Z λa f=>Bd aw λaH aI aw=>A7 f Z call71 (Wk.s0 m aG aI) λaJ w aK m a f=>have az:=od1 aK az;AM (R:=(RI .u32)) (xs:=([aH]:LI)) (RI.one _) m T72 f Z Z Z (by decide) (All2.cons Z (All2.nil _)) λaL aM w a m aN f=>Bd aw λaO aP aw=>A1 (RI.one _) 1 m az Z T72 Z (by decide) f Z Z Z (Ow.src (j:=0) aN m Z) aP λaQ aR w a m aS f=>Ac f Z λa f=>Aa (Al (Ai f Z Z AD λa f=>Ab f Z λa f=>Aa (have m:=m.fr 1;have m:=m.eraseAt 1;?_))))))))))
   obtain rfl:=sj aw
   exact⟨_,Z,_,_,Z,_,aR,aQ,(gt ay aK),f.k Z,m,aS⟩
  ·refine Ah f Z aA (AO Z ?_)
   obtain rfl:=sj aw
   obtain rfl:=ax _ rfl
   exact⟨_,Z,_,ar,au,ay,f.k Z,m,az⟩
 ·rintro a w ⟨aj,rfl,ak,al,am,aT,f,m,aU⟩
  refine Ae (Ab f Z λa f=>Ac f Z λa f=>Aa (Ar ?_))
  obtain rfl:=sj hd
  exact⟨[al],f.g Z,f.d,_,[am],aT,m,_,_,Z,Z,aU⟩
theorem Wk.Q {aa:Value}{ab:LL}(m:Mem W G w (H))(ac:R2 G aa ab){y:ByteArray}(hd:D.Q ab=some y):
  Calls prog 21 #[(.agg #[aa])] w (Res W G H (λ_ Ho v=>Ho=[]∧v=(.string y))):=by
 refine Au (args:=[(.agg #[aa])]) (N:=37) [.tmp 2] func21 Z Z (lb Z) Z λa f=> ?_
 unfold D.Q at hd
 refine Ae (BW (cs:=[aa]) m f Z Z Z λad w a m f=>Ac f Z λa f=>AA (AM (R:=(RI .u8)) (xs:=([]:LI)) (RI.one _) m T22 f Z Z Z (by decide) (All2.nil _) λae af w a m ag f=>Ac f Z λa f=>Aa (Ag (Ae (Ax 1 0 (ds:=[aa]) m Az f Z Z Z Z Z λa f=>Bd hd λah ai hd=>Cy f Z call50 (Wk.m0 m ac ai) λaj ak al w am m an a f=>have ac:=rd2 am ac;have ag:=od1 am ag;BF 0 m an Z underlying72 f Z Z λa f=>Ab f Z λa f=>Aa (Bd hd λao ap hd=> ?_))))))
 refine AY (λa w=>∃aq:LI,aq=ao∧∃(ar:GH) (au:Value) (av:Itm),GLe al ar∧Fr a 37 [(3,au)]∧Mem W ar w (av::H)∧Ow (RI .u8) 5 ar av au aq) ?_ ?_
 ·refine Aq (have m:=m.fr 1;have m:=m.fr 2;AP (λaw a w=>∃ax:LI,∃ay:Int,(ax,ay)=aw∧∃(az:GH) (aA:Value) (aB:Itm),GLe al az∧Fr a 37 [(1,pb ad),(3,aA),(9,aj),(10,(iv (ah.length:Int))),(11,iv ay)]∧Mem W az w (ib ad 26 [aa]::aB::ak::H)∧Ow (RI .u8) 5 az aB aA ax) ap ⟨_,_,Z,_,af,ae,gr,f.k Z,m,ag⟩ ?_)
  clear ap f m
  rintro aw aC aD aE a w ⟨ax,ay,rfl,az,aA,aB,aF,f,m,aG⟩
  refine have ac:=rd2 aF ac;have an:=od1 aF an;Ae (Ai f Z Z AN λa f=>Aa (Ag ?_))
  rcases Af aD with⟨aH,aD⟩|⟨aH,aD⟩
  ·refine Ak f Z aH (Ap (Ag (Aq (Ae (Bd aD λaI aJ aD=>Bz 2 m an Z T72 f Z Z Z aJ λaK a aL f=>Bq 2 m an Z Pl75 f Z Z aL aJ λaM a aN f=> ?_)))))
   subst aN
   refine Ac f Z λa f=>Aa (Ag (Ae (Br underlying26 Z sizeOf24 f Z λa f=>AV 0 0 m Bl f Z Z Z Z λa f=>A9 underlying24 f Z Z ac λa f=>Ab f Z λa f=>Aa (Bd aD λaO aP aD=> ?_))))
   refine AY (λa w=>∃aQ:LI,aQ=aO∧∃(aR:GH) (aS:Value) (aT:Itm),GLe az aR∧Fr a 37 [(1,pb ad),(3,aS),(9,aj),(10,(iv (ah.length:Int))),(11,iv ay)]∧Mem W aR w (ib ad 26 [aa]::aT::ak::H)∧Ow (RI .u8) 5 aR aT aS aQ) ?_ ?_
   ·refine Aq (AP (λaU a w=>∃aV:LI,∃aW:Int,(aV,aW)=aU∧∃(aX:GH) (aY:Value) (aZ:Itm),GLe az aX∧Fr a 37 [(1,pb ad),(3,aY),(5,(.int .u32 aI)),(9,aj),(10,(iv (ah.length:Int))),(11,iv ay),(17,(iv (ab.length:Int))),(18,iv aW)]∧Mem W aX w (ib ad 26 [aa]::aZ::ak::H)∧Ow (RI .u8) 5 aX aZ aY aV) aP ⟨_,_,Z,_,aA,aB,gr,f.k Z,m,aG⟩ ?_)
    clear aP f m
    rintro aU a0 a1 a2 a w ⟨aV,aW,rfl,aX,aY,aZ,a3,f,m,a4⟩
    refine Ae (Ai f Z Z AN λa f=>Aa (Ag ?_))
    rcases Af a1 with⟨a5,a1⟩|⟨a5,a1⟩
    ·refine Ak f Z a5 (Ap (Ag (Aq (Ae (Ab f Z λa f=>Ac f Z λa f=>Aa (Al (Ab f Z λa f=>Ab f Z λa f=>Ab f Z λa f=> ?_)))))))
     obtain⟨a6,a1⟩:=Di a1
     refine l_o f (r_shr (f.e Z) (f.e Z) a6) λa f=>Ai f Z Z b_and λa f=>l_o f (Dc (f.e Z) ⟨_,underlying75⟩ underlying5) λa f=>Ai f Z Z AD λa f=>AM (R:=(RI .u8)) (xs:=([(IntKind.u8.wrap (48+(IntKind.u8.wrap (iand .u32 (Ce .u32 aI aW) 1))))]:LI)) (RI.one _) m T22 f Z Z Z (by decide) (All2.cons Z (All2.nil _)) λa7 a8 w a m a9 f=>Bd a1 λba bb a1=>A1 (RI.one _) 2 m a4 Z T22 Z (by decide) f Z Z Z (Ow.src (j:=0) a9 m Z) bb λbc bd w a m be f=>Ac f Z λa f=>Aa (Al (Ai f Z Z AD λa f=>Ab f Z λa f=>Aa (have m:=m.fr 3;have m:=m.fr 3;have m:=m.fr 3;have m:=m.eraseAt 3;?_)))
     obtain rfl:=sj a1
     exact⟨_,Z,_,_,Z,_,bd,bc,a3,f.k Z,m,be⟩
    ·refine Ah f Z a5 (AO Z ?_)
     obtain rfl:=sj a1
     obtain rfl:=a2 _ rfl
     exact⟨_,Z,_,aY,aZ,a3,f.k Z,m,a4⟩
   ·rintro a w ⟨aQ,rfl,aR,aS,aT,bf,f,m,bg⟩
    refine Al (Ab f Z λa f=>AM (R:=(RI .u8)) (xs:=([10]:LI)) (RI.one _) m T22 f Z Z Z (by decide) (All2.cons Z (All2.nil _)) λbh bi w a m bj f=>Bd aD λbk bl aD=>A1 (RI.one _) 2 m bg Z T22 Z (by decide) f Z Z Z (Ow.src (j:=0) bj m Z) bl λbm bn w a m bo f=>Ac f Z λa f=>Aa (Al (Ai f Z Z AD λa f=>Ab f Z λa f=>Aa (have m:=m.fr 3;have m:=m.fr 3;have m:=m.fr 3;have m:=m.eraseAt 3;?_))))
    obtain rfl:=sj aD
    exact⟨_,Z,_,_,Z,_,bn,bm,(gt aF bf),f.k Z,m,bo⟩
  ·refine Ah f Z aH (AO Z (have m:=m.fr 1;have m:=m.eraseAt 2;have m:=m.eraseAt 1;?_))
   obtain rfl:=sj aD
   obtain rfl:=aE _ rfl
   exact⟨_,Z,_,aA,aB,aF,f.k Z,m,aG⟩
 ·rintro a w ⟨aq,rfl,ar,au,av,bp,f,m,bq⟩
  refine Ae (Ab f Z λa f=>l_sOf underlying22 underlying5 underlying9 (bq.src m (j:=0) Z) f Z Z λa f=>Ac f Z λa f=>Aa (Ar (have m:=m.dp 1;?_)))
  obtain rfl:=sj hd
  exact⟨[(.string (sOf aq))],f.g Z,f.d,_,[],(gt am bp),m,Z,Z⟩
theorem Wk.J {aa:Value}{ab:LL}(m:Mem W G w (H))(ac:R2 G aa ab){y:ByteArray}(hd:D.J ab=some y):
  Calls prog 7 #[(.agg #[aa])] w (Res W G H (λ_ Ho v=>Ho=[]∧v=(.string y))):=by
 refine Au (args:=[(.agg #[aa])]) (N:=8) [.tmp 2] func7 Z Z (lb Z) Z λa f=> ?_
 unfold D.J at hd
 refine Ae (BW (cs:=[aa]) m f Z Z Z λad w a m f=>Ac f Z λa f=>Aa (Ag (Ae (Ax 0 0 (ds:=[aa]) m Az f Z Z Z Z Z λa f=>Bd hd λae af hd=>A7 f Z call19 (Wk.o m ac af) λag w ah m a f=>have ac:=rd2 ah ac;l_o f (Bg (f.e Z)) λa f=>Aa ?_))))
 rcases Af hd with⟨ai,hd⟩|⟨ai,hd⟩
 ·refine Ak f Z ai (Ae (Ac f Z λa f=>Aa (Ar (have m:=m.dp 1;?_))))
  obtain rfl:=sj hd
  exact⟨[(.string (⟨#[]⟩))],f.g Z,f.d,_,[],ah,m,Z,Z⟩
 ·refine Ah f Z ai (Ap (Ae (Ax 0 0 (ds:=[aa]) m Az f Z Z Z Z Z λa f=>Bd hd λaj ak hd=>A7 f Z call21 (Wk.Q m ac ak) λal w am m a f=>Ac f Z λa f=>Aa (Ar (have m:=m.dp 1;?_)))))
  obtain rfl:=sj hd
  exact⟨[(.string aj)],f.g Z,f.d,_,[],(gt ah am),m,Z,Z⟩
theorem Wk.g {aa:Value}{ab:LL}(m:Mem W G w (H))(ac:R2 G aa ab){y:Int}(hd:D.g ab=some y):
  Calls prog 24 #[(.agg #[aa])] w (Res W G H (λ_ Ho v=>Ho=[]∧v=(iv y))):=by
 refine Au (args:=[(.agg #[aa])]) (N:=6) [.tmp 2] func24 Z Z (lb Z) Z λa f=> ?_
 unfold D.g at hd
 refine Ae (BW (cs:=[aa]) m f Z Z Z λad w a m f=>Ac f Z λa f=>AA (Br underlying26 Z sizeOf24 f Z λa f=>AV 0 0 m Bl f Z Z Z Z λa f=>A9 underlying24 f Z Z ac λa f=>Ac f Z λa f=>Aa (Ar (have m:=m.dp 1;?_))))
 obtain rfl:=sj hd
 exact⟨[(iv (ab.length:Int))],f.g Z,f.d,_,[],gr,m,Z,Z⟩
theorem Wk.K {v0:Value}{x0:LI}{x1:Int}(m:Mem W G w (H))(h0:R1 G v0 x0){y:Bool}(hd:D.K x0 x1=some y):
  Calls prog 52 #[v0,iv x1] w (Res W G H (λ_ Ho v=>Ho=[]∧v=(.bool y))):=by
 refine Au (args:=[v0,iv x1]) (N:=40) [.tmp 4] func52 Z Z (lb Z) Z λa f=> ?_
 unfold D.K at hd
 refine Ae (Ac f Z λa f=>Aa (Ag (Ae (Ab f Z λa f=>A9 underlying40 f Z Z h0 λa f=>Ab f Z λa f=>Ai f Z Z BQ λa f=>Aa ?_))))
 rcases Af hd with⟨aa,hd⟩|⟨aa,hd⟩
 ·refine Ak f Z aa (Ae (Ac f Z λa f=>Aa (Ar ?_)))
  obtain rfl:=sj hd
  exact⟨[(.bool false)],f.g Z,f.d,_,[],gr,m,Z,Z⟩
 ·refine Ah f Z aa (Ap (Ag (Ae (Ac f Z λa f=>Aa (Bd hd λab ac hd=> ?_)))))
  refine AY (λa w=>∃q_150':Unit,ab= .inl q_150'∧∃(ad:GH),GLe G ad∧Fr a 40 []∧Mem W ad w (H)) ?_ ?_
  ·refine Aq (AP (λae a w=>∃af:Int,af=ae∧∃(ag:GH),GLe G ag∧Fr a 40 [(0,v0),(1,iv x1),(5,iv af)]∧Mem W ag w (H)) ac ⟨_,Z,_,gr,f.k Z,m⟩ ?_)
   clear ac f m
   rintro ae ah ai aj a w ⟨af,rfl,ag,ak,f,m⟩
   refine have h0:=rd1 ak h0;Ag (Ae (Ab f Z λa f=>Ab f Z λa f=>A9 underlying40 f Z Z h0 λa f=>Ai f Z Z AN λa f=>Aa ?_))
   rcases Af ai with⟨al,ai⟩|⟨al,ai⟩
   ·refine Ak f Z al (Ap (Ag (Aq (Ag (BE 24 Bi (by kernel_rfl) m (AK 0 24 Z f Z λa f=>AK 1 24 Z f Z λa f=>Bd ai λam an ai=>B8 2 24 T40 h0 an Z f Z Z λao ap a aq ar f=> ?_))))))
    subst ar
    refine Ca 3 24 Pl2 aq Z f Z λa f=>AK 4 24 Z f Z λa f=>q_p 5 24 Z f (λ_=>BX (f.e Z) (f.e Z) B1) λa f=>Bd ai λau av ai=>CP (i:=6) 24 Z (by kernel_rfl) Z f Z Z Z call51 (λ_ _ w aw m=>Wk.a m av) λa f=>q_p 7 24 Z f (λ_=>Bg (f.e Z)) λa f=>AK 8 24 Z f Z λa f=>Bd ai λax ay ai=>q_cut (fuel':=0) (listed':= #[true,true,true,true,true,true,true,true,true,true,true,true,true,true,true,true,true,true,true,true,true,true,true,true]) (λa=>Fr a 40 [(0,v0),(1,iv x1),(5,iv af),(13,(.bool (decide (af<(x0.length:Int))))),(16,v0),(17,iv af),(18,ao),(19,iv am),(20,iv x1),(21,(iv (i64.wrap (x1-1)))),(22,(.bool au)),(23,(.bool (!au))),(24,(.bool (!au))),(39,(.bool ax))]) ?_ ?_
    ·intro a f
     refine Bs λaz w aA m=>Aa ?_
     rcases Af ai with⟨aB,ai⟩|⟨aB,ai⟩
     ·refine Ak f Z aB (Ae (Ac f Z λa f=>Aa (Ar ?_)))
      obtain rfl:=sj ai
      obtain rfl:=aj _ rfl
      obtain rfl:=sj hd
      exact⟨[(.bool false)],f.g Z,f.d,_,[],(gt ak aA),m,Z,Z⟩
     ·refine Ah f Z aB (Ap (Al (Ab f Z λa f=>Ai f Z Z AD λa f=>Ac f Z λa f=>Aa ?_)))
      obtain rfl:=sj ai
      exact⟨_,Z,_,Z,_,(gt ak aA),f.k Z,m⟩
    ·intro aC
     rcases Af ay with⟨aD,ay⟩|⟨aD,ay⟩
     ·refine BR 9 24 Z f aD λa f=>BR 10 24 Z f aD λa f=>BR 11 24 Z f aD λa f=>q_nu 12 24 Z f λa f=>q_nu 13 24 Z f λa f=>q_nu 14 24 Z f λa f=>q_nu 15 24 Z f λa f=>q_nu 16 24 Z f λa f=>q_nu 17 24 Z f λa f=>q_nu 18 24 Z f λa f=>q_nu 19 24 Z f λa f=>q_nu 20 24 Z f λa f=>q_nu 21 24 Z f λa f=>BR 22 24 Z f aD λa f=>q_p 23 24 Z f (λ_=>AE (f.e Z) aD (f.e Z)) λa f=> ?_
      obtain rfl:=sj ay
      exact aC _ (f.k Z)
     ·refine AK (hw:=wo f aD) 9 24 Z f Z λa f=>q_p (hw:=wo f aD) 10 24 Z f (λ_=>BX (f.e Z) (f.e Z) BQ) λa f=>AK (hw:=wo f aD) 11 24 Z f Z λa f=>Bd ay λaE aF ay=>q_cut (fuel':=1) (listed':= #[true,true,true,true,true,true,true,true,true,true,true,true,true,true,true,true,true,true,true,true,true,true,true,false]) (λa=>Fr a 40 [(0,v0),(1,iv x1),(5,iv af),(13,(.bool (decide (af<(x0.length:Int))))),(16,v0),(17,iv af),(18,ao),(19,iv am),(20,iv x1),(21,(iv (i64.wrap (x1-1)))),(22,(.bool au)),(23,(.bool (!au))),(24,(.bool (!au))),(25,iv af),(26,(.bool (decide ((0:Int)<af)))),(27,(.bool (decide ((0:Int)<af)))),(38,(.bool aE))]) ?_ ?_
      ·intro a f
       refine q_p 23 24 Z f (λ_=>AF (f.e Z) aD (f.e Z)) λa f=> ?_
       obtain rfl:=sj ay
       exact aC _ (f.k Z)
      ·intro aG
       rcases Af aF with⟨aH,aF⟩|⟨aH,aF⟩
       ·refine AK (hw:=wo f aH) 12 24 Z f Z λa f=>AK (hw:=wo f aH) 13 24 Z f Z λa f=>Bd aF λaI aJ aF=>B8 (hw:=wo f aH) 14 24 T40 h0 aJ Z f Z Z λaK aL a aM aN f=> ?_
        subst aN
        refine Ca (hw:=wo f aH) 15 24 Pl2 aM Z f Z λa f=>AK (hw:=wo f aH) 16 24 Z f Z λa f=>AK (hw:=wo f aH) 17 24 Z f Z λa f=>q_p (hw:=wo f aH) 18 24 Z f (λ_=>BX (f.e Z) (f.e Z) B1) λa f=>Bd aF λaO aP aF=>B8 (hw:=wo f aH) 19 24 T40 h0 aP Z f Z Z λaQ aR a aS aT f=> ?_
        subst aT
        refine Ca (hw:=wo f aH) 20 24 Pl2 aS Z f Z λa f=>q_p (hw:=wo f aH) 21 24 Z f (λ_=>BX (f.e Z) (f.e Z) b_leq) λa f=>q_p (hw:=wo f aD) 22 24 Z f (λ_=>AE (f.e Z) aH (f.e Z)) λa f=> ?_
        obtain rfl:=sj aF
        exact aG _ (f.k Z)
       ·refine BR 12 24 Z f aH λa f=>BR 13 24 Z f aH λa f=>BR 14 24 Z f aH λa f=>BR 15 24 Z f aH λa f=>BR 16 24 Z f aH λa f=>BR 17 24 Z f aH λa f=>BR 18 24 Z f aH λa f=>BR 19 24 Z f aH λa f=>BR 20 24 Z f aH λa f=>BR 21 24 Z f aH λa f=>q_p (hw:=wo f aD) 22 24 Z f (λ_=>AF (f.e Z) aH (f.e Z)) λa f=> ?_
        obtain rfl:=sj aF
        exact aG _ (f.k Z)
   ·refine Ah f Z al (AO Z ?_)
    obtain rfl:=sj ai
    obtain rfl:=aj _ rfl
    exact⟨_,Z,_,ak,f.weak trivial,m⟩
  ·rintro a w ⟨_,rfl,ad,aU,f,m⟩
   refine Ae (Ac f Z λa f=>Aa (Ar ?_))
   obtain rfl:=sj hd
   exact⟨[(.bool true)],f.g Z,f.d,_,[],aU,m,Z,Z⟩
theorem Wk.z {v0:Value}{x0:LI}{x1:Int}(m:Mem W G w (H))(h0:R1 G v0 x0){y:Bool}(hd:D.z x0 x1=some y):
  Calls prog 53 #[v0,iv x1] w (Res W G H (λ_ Ho v=>Ho=[]∧v=(.bool y))):=by
 refine Au (args:=[v0,iv x1]) (N:=18) [.tmp 4] func53 Z Z (lb Z) Z λa f=> ?_
 unfold D.z at hd
 refine Ae (Ac f Z λa f=>Aa (Ag (Ae (Ac f Z λa f=>Aa (Bd hd λaa ab hd=> ?_)))))
 refine AY (λa w=>∃q_19':Unit,aa= .inl q_19'∧∃(ac:GH),GLe G ac∧Fr a 18 []∧Mem W ac w (H)) ?_ ?_
 ·refine Aq (AP (λad a w=>∃ae:Int,ae=ad∧∃(af:GH),GLe G af∧Fr a 18 [(0,v0),(1,iv x1),(5,iv ae)]∧Mem W af w (H)) ab ⟨_,Z,_,gr,f.k Z,m⟩ ?_)
  clear ab f m
  rintro ad ag ah ai a w ⟨ae,rfl,af,aj,f,m⟩
  refine have h0:=rd1 aj h0;Ag (Ae (Ab f Z λa f=>Ab f Z λa f=>A9 underlying40 f Z Z h0 λa f=>Ai f Z Z AN λa f=>Aa ?_))
  rcases Af ah with⟨ak,ah⟩|⟨ak,ah⟩
  ·refine Ak f Z ak (Ap (Ag (Aq (Ae (Ab f Z λa f=>Ab f Z λa f=>Bd ah λal am ah=>BA T40 f Z Z Z h0 am λan ao a ap aq f=> ?_)))))
   subst aq
   refine AU m Pl2 f Z Z ap λa f=>Ab f Z λa f=>Ai f Z Z BD λa f=>Aa ?_
   rcases Af ah with⟨ar,ah⟩|⟨ar,ah⟩
   ·refine Ak f Z ar (Ae (Ac f Z λa f=>Aa (Ar ?_)))
    obtain rfl:=sj ah
    obtain rfl:=ai _ rfl
    obtain rfl:=sj hd
    exact⟨[(.bool true)],f.g Z,f.d,_,[],aj,m,Z,Z⟩
   ·refine Ah f Z ar (Ap (Al (Ab f Z λa f=>Ai f Z Z AD λa f=>Ac f Z λa f=>Aa ?_)))
    obtain rfl:=sj ah
    exact⟨_,Z,_,Z,_,aj,f.k Z,m⟩
  ·refine Ah f Z ak (AO Z ?_)
   obtain rfl:=sj ah
   obtain rfl:=ai _ rfl
   exact⟨_,Z,_,aj,f.weak trivial,m⟩
 ·rintro a w ⟨_,rfl,ac,au,f,m⟩
  refine Ae (Ac f Z λa f=>Aa (Ar ?_))
  obtain rfl:=sj hd
  exact⟨[(.bool false)],f.g Z,f.d,_,[],au,m,Z,Z⟩
theorem Wk.v {aa:Value}{ab:LL}(m:Mem W G w (H))(ac:R2 G aa ab){y:Bool}(hd:D.v ab=some y):
  Calls prog 22 #[(.agg #[aa])] w (Res W G H (λ_ Ho v=>Ho=[]∧v=(.bool y))):=by
 refine Au (args:=[(.agg #[aa])]) (N:=64) [.tmp 2] func22 Z Z (lb Z) Z λa f=> ?_
 unfold D.v at hd
 refine Ae (BW (cs:=[aa]) m f Z Z Z λad w a m f=>Ac f Z λa f=>AA (Ax 0 0 (ds:=[aa]) m Az f Z Z Z Z Z λa f=>Bd hd λae af hd=>A7 f Z call24 (Wk.g m ac af) λag w ah m a f=>have ac:=rd2 ah ac;Ac f Z λa f=>Aa (Ag (Ae (Ab f Z λa f=>Bd hd λai aj hd=>A7 f Z call51 (Wk.a m aj) λak w al m a f=>have ac:=rd2 al ac;l_o f (Bg (f.e Z)) λa f=>Aa ?_)))))
 rcases Af hd with⟨am,hd⟩|⟨am,hd⟩
 ·refine Ak f Z am (Ae (Ac f Z λa f=>Aa (Ar (have m:=m.dp 1;?_))))
  obtain rfl:=sj hd
  exact⟨[(.bool false)],f.g Z,f.d,_,[],(gt ah al),m,Z,Z⟩
 ·refine Ah f Z am (Ap (Ag (Ae (Ac f Z λa f=>Aa (Bd hd λan ao hd=> ?_)))))
  refine AY (λa w=>∃q_138':Unit,an= .inl q_138'∧∃(ap:GH),GLe ak ap∧Fr a 64 [(1,pb ad),(3,iv ae)]∧Mem W ap w (ib ad 26 [aa]::H)) ?_ ?_
  ·refine Aq (AP (λaq a w=>∃ar:Int,ar=aq∧∃(au:GH),GLe ak au∧Fr a 64 [(1,pb ad),(3,iv ae),(4,iv ar)]∧Mem W au w (ib ad 26 [aa]::H)) ao ⟨_,Z,_,gr,f.k Z,m⟩ ?_)
   clear ao f m
   rintro aq av aw ax a w ⟨ar,rfl,au,ay,f,m⟩
   refine have ac:=rd2 ay ac;Ag (Ae (Ab f Z λa f=>Ab f Z λa f=>Ai f Z Z AN λa f=>Aa ?_))
   rcases Af aw with⟨az,aw⟩|⟨az,aw⟩
   ·refine Ak f Z az (Ap (Ag (Aq (Ae (Br underlying26 Z sizeOf24 f Z λa f=>AV 0 0 m Bl f Z Z Z Z λa f=>Ab f Z λa f=>Bd aw λaA aB aw=>BA T24 f Z Z Z ac aB λaC aD a aE aF f=>AU m Bt f Z Z aE λa f=>Ab f Z λa f=>Bd aw λaG aH aw=>A7 f Z call52 (Wk.K m aF aH) λaI w aJ m a f=>have ac:=rd2 aJ ac;l_o f (Bg (f.e Z)) λa f=>Ab f Z λa f=>Bd aw λaK aL aw=> ?_)))))
    refine A2 8 (λa w=>∃aM,GLe aI aM∧Mem W aM w (ib ad 26 [aa]::H)∧Fr a 64 [(1,pb ad),(3,iv ae),(4,iv ar),(14,(.bool (decide (ar<ae)))),(17,pb ad),(18,aa),(19,iv ar),(20,aC),(21,aD),(22,iv ae),(23,(.bool aG)),(24,(.bool (!aG))),(25,(.bool (!aG))),(33,(.bool aK))]) ?_ ?_
    ·rcases Af aL with⟨aN,aL⟩|⟨aN,aL⟩
     ·refine An f aN λa f=>An f aN λa f=>An f aN λa f=>An f aN λa f=>An f aN λa f=>An f aN λa f=>An f aN λa f=>l_o f (AE (f.e Z) aN (f.e Z)) λa f=> ?_
      obtain rfl:=sj aL
      exact⟨_,gr,m,f.k Z⟩
     ·refine Am f aN (Br underlying26 Z sizeOf24 f Z λa f=>Am f aN (AV 0 0 m Bl f Z Z Z Z λa f=>Am f aN (Ab f Z λa f=>Am f aN (Bd aL λaO aP aL=>BA T24 f Z Z Z ac aP λaQ aR a aS aT f=>Am f aN (AU m Bt f Z Z aS λa f=>Am f aN (Ab f Z λa f=>Am f aN (Bd aL λaU aV aL=>A7 f Z call53 (Wk.z m aT aV) λaW w aX m a f=>l_o f (AF (f.e Z) aN (f.e Z)) λa f=> ?_)))))))
      obtain rfl:=sj aL
      exact⟨_,aX,m,f.k Z⟩
    ·rintro a w ⟨aM,aY,m,f⟩
     refine Aa ?_
     rcases Af aw with⟨aZ,aw⟩|⟨aZ,aw⟩
     ·refine Ak f Z aZ (Ae (Ac f Z λa f=>Aa (Ar (have m:=m.dp 1;?_))))
      obtain rfl:=sj aw
      obtain rfl:=ax _ rfl
      obtain rfl:=sj hd
      exact⟨[(.bool false)],f.g Z,f.d,_,[],(gt ah (gt al (gt ay (gt aJ aY)))),m,Z,Z⟩
     ·refine Ah f Z aZ (Ap (Al (Ab f Z λa f=>Ai f Z Z AD λa f=>Ac f Z λa f=>Aa ?_)))
      obtain rfl:=sj aw
      exact⟨_,Z,_,Z,_,(gt ay (gt aJ aY)),f.k Z,m⟩
   ·refine Ah f Z az (AO Z ?_)
    obtain rfl:=sj aw
    obtain rfl:=ax _ rfl
    exact⟨_,Z,_,ay,f.k Z,m⟩
  ·rintro a w ⟨_,rfl,ap,a0,f,m⟩
   refine have ac:=rd2 a0 ac;Ag (Ae (Ac f Z λa f=>Aa (Bd hd λa1 a2 hd=> ?_)))
   refine AY (λa w=>∃q_545':Unit,a1= .inl q_545'∧∃(a3:GH),GLe ap a3∧Fr a 64 []∧Mem W a3 w (H)) ?_ ?_
   ·refine Aq (AP (λa4 a w=>∃a5:Int,a5=a4∧∃(a6:GH),GLe ap a6∧Fr a 64 [(1,pb ad),(3,iv ae),(5,iv a5)]∧Mem W a6 w (ib ad 26 [aa]::H)) a2 ⟨_,Z,_,gr,f.k Z,m⟩ ?_)
    clear a2 f m
    rintro a4 a7 a8 a9 a w ⟨a5,rfl,a6,ba,f,m⟩
    refine have ac:=rd2 ba ac;Ag (Ae (Ab f Z λa f=>Ab f Z λa f=>Ai f Z Z AN λa f=>Aa ?_))
    rcases Af a8 with⟨bb,a8⟩|⟨bb,a8⟩
    ·refine Ak f Z bb (Ap (Ag (Aq (Ae (Ac f Z λa f=>Aa (Bd a8 λbc bd a8=> ?_))))))
     refine AY (λa w=>∃q_759':Unit,bc= .inl q_759'∧∃(be:GH),GLe a6 be∧Fr a 64 [(1,pb ad),(3,iv ae),(5,iv a5)]∧Mem W be w (ib ad 26 [aa]::H)) ?_ ?_
     ·refine Aq (AP (λbf a w=>∃bg:Int,bg=bf∧∃(bh:GH),GLe a6 bh∧Fr a 64 [(1,pb ad),(3,iv ae),(5,iv a5),(6,iv bg)]∧Mem W bh w (ib ad 26 [aa]::H)) bd ⟨_,Z,_,gr,f.k Z,m⟩ ?_)
      clear bd f m
      rintro bf bi bj bk a w ⟨bg,rfl,bh,bl,f,m⟩
      refine have ac:=rd2 bl ac;Ag (Ae (Ab f Z λa f=>Br underlying26 Z sizeOf24 f Z λa f=>AV 0 0 m Bl f Z Z Z Z λa f=>Ab f Z λa f=>Bd bj λbm bn bj=>BA T24 f Z Z Z ac bn λbo bp a bq br f=>AU m Bt f Z Z bq λa f=>A9 underlying40 f Z Z br λa f=>Ai f Z Z AN λa f=>Aa ?_))
      rcases Af bj with⟨bs,bj⟩|⟨bs,bj⟩
      ·refine Ak f Z bs (Ap (Ag (Aq (Ag (BE 15 Bi (by kernel_rfl) m (B5 0 15 underlying26 Z sizeOf24 Z f Z λa f=>B4 1 15 0 Bl Z Z Z f Z λa f=>B5 2 15 underlying26 Z sizeOf24 Z f Z λa f=>B4 3 15 0 Bl Z Z Z f Z λa f=>AK 4 15 Z f Z λa f=>Bd bj λbt bu bj=>B8 5 15 T24 ac bu Z f Z Z λbv bw a bx bz f=>Ca 6 15 Bt bx Z f Z λa f=>AK 7 15 Z f Z λa f=>Bd bj λbA bB bj=>B8 8 15 T40 bz bB Z f Z Z λbC bD a bE bF f=> ?_))))))
       subst bF
       refine Ca 9 15 Pl2 bE Z f Z λa f=>Bd bj λbG bH bj=>B8 10 15 T24 ac bH Z f Z Z λbI bJ a bK bL f=>Ca 11 15 Bt bK Z f Z λa f=>AK 12 15 Z f Z λa f=>Bd bj λbM bN bj=>CP (i:=13) 15 Z (by kernel_rfl) Z f Z Z Z call53 (λ_ _ w bO m=>Wk.z m (rd1 bO bL) bN) λa f=>q_p 14 15 Z f (λ_=>Bg (f.e Z)) λa f=>Bs λbP w bQ m=>Aa ?_
       rcases Af bj with⟨bR,bj⟩|⟨bR,bj⟩
       ·refine Ak f Z bR (Ae (Ac f Z λa f=>Aa (Ar (have m:=m.dp 1;?_))))
        obtain rfl:=sj bj
        obtain rfl:=bk _ rfl
        obtain rfl:=sj a8
        obtain rfl:=a9 _ rfl
        obtain rfl:=sj hd
        exact⟨[(.bool false)],f.g Z,f.d,_,[],(gt ah (gt al (gt a0 (gt ba (gt bl bQ))))),m,Z,Z⟩
       ·refine Ah f Z bR (Ap (Al (Ab f Z λa f=>Ai f Z Z AD λa f=>Ac f Z λa f=>Aa ?_)))
        obtain rfl:=sj bj
        exact⟨_,Z,_,Z,_,(gt bl bQ),f.k Z,m⟩
      ·refine Ah f Z bs (AO Z ?_)
       obtain rfl:=sj bj
       obtain rfl:=bk _ rfl
       exact⟨_,Z,_,bl,f.k Z,m⟩
     ·rintro a w ⟨_,rfl,be,bS,f,m⟩
      refine Al (Ab f Z λa f=>Ai f Z Z AD λa f=>Ac f Z λa f=>Aa ?_)
      obtain rfl:=sj a8
      exact⟨_,Z,_,Z,_,(gt ba bS),f.k Z,m⟩
    ·refine Ah f Z bb (AO Z (have m:=m.dp 1;?_))
     obtain rfl:=sj a8
     obtain rfl:=a9 _ rfl
     exact⟨_,Z,_,ba,f.weak trivial,m⟩
   ·rintro a w ⟨_,rfl,a3,bT,f,m⟩
    refine Ae (Ac f Z λa f=>Aa (Ar ?_))
    obtain rfl:=sj hd
    exact⟨[(.bool true)],f.g Z,f.d,_,[],(gt ah (gt al (gt a0 bT))),m,Z,Z⟩
theorem Wk.c {x0:Int}(m:Mem W G w (H)){y:ByteArray}(hd:D.c x0=some y):
  Calls prog 23 #[iv x0] w (Res W G H (λ_ Ho v=>Ho=[]∧v=(.string y))):=by
 refine Au (args:=[iv x0]) (N:=33) [.tmp 2] func23 Z Z (lb Z) Z λa f=> ?_
 unfold D.c at hd
 refine Ae (Ac f Z λa f=>AA (Ac f Z λa f=>AA (Ab f Z λa f=>Ai f Z Z AN λa f=>Ac f Z λa f=>Aa (Ag (Bd hd λaa ab hd=> ?_)))))
 refine AY (λa w=>∃ac:ByteArray,ac=aa∧∃(ad:GH),GLe G ad∧Fr a 33 [(3,(.string ac)),(4,(.bool (decide (x0<0))))]∧Mem W ad w (H)) ?_ ?_
 ·refine Aq (AP (λae a w=>∃af:Int,∃ag:ByteArray,(af,ag)=ae∧∃(ah:GH),GLe G ah∧Fr a 33 [(0,iv af),(3,(.string ag)),(4,(.bool (decide (x0<0))))]∧Mem W ah w (H)) ab ⟨_,_,Z,_,gr,f.k Z,m⟩ ?_)
  clear ab f m
  rintro ae ai aj ak a w ⟨af,ag,rfl,ah,al,f,m⟩
  refine Ag (Ae (Ab f Z λa f=>l_o f (r_sEql (f.e Z) (f.e Z)) λa f=>Ab f Z λa f=> ?_))
  refine A2 3 (λa w=>∃am,GLe ah am∧Mem W am w (H)∧Fr a 33 [(0,iv af),(3,(.string ag)),(4,(.bool (decide (x0<0)))),(8,(.string ag)),(9,(.bool (sEq ag (⟨#[]⟩)))),(10,(.bool (sEq ag (⟨#[]⟩)))),(13,(.bool ((sEq ag (⟨#[]⟩))||(af !=0))))]) ?_ ?_
  ·rcases Bool.eq_false_or_eq_true (sEq ag (⟨#[]⟩)) with an|an
   ·exact An f an λa f=>An f an λa f=>l_o f (AE (f.e Z) an (f.e Z)) λa f=>⟨_,gr,m,f.weak ⟨Z,Z,Z,Z,Z,Z,by rw[an];rfl,trivial⟩⟩
   ·exact Am f an (Ab f Z λa f=>Am f an (Ai f Z Z CZ λa f=>l_o f (AF (f.e Z) an (f.e Z)) λa f=>⟨_,gr,m,f.weak ⟨Z,Z,Z,Z,Z,Z,by rw[an];rfl,trivial⟩⟩))
  ·rintro a w ⟨am,ao,m,f⟩
   refine Aa ?_
   rcases Af aj with⟨ap,aj⟩|⟨ap,aj⟩
   ·refine Ak f Z ap (Ap (Aq (Ae (Ab f Z λa f=>Ai f Z Z (b_rem Z) λa f=>Ac f Z λa f=>Aa (Ag (Ae (Ab f Z λa f=>Ai f Z Z AN λa f=>Aa ?_)))))))
    rcases Af aj with⟨aq,aj⟩|⟨aq,aj⟩
    ·refine Ak f Z aq (Al (Ab f Z λa f=>l_o f (r_neg (f.e Z)) λa f=>Ac f Z λa f=>AA (Ab f Z λa f=>Ai f Z Z AD λa f=>l_o f (Dc (f.e Z) ⟨_,underlying2⟩ underlying5) λa f=>AM (R:=(RI .u8)) (xs:=([(IntKind.u8.wrap (i64.wrap (48+(i64.wrap (0-(Int.tmod af 10))))))]:LI)) (RI.one _) m T22 f Z Z Z (by decide) (All2.cons Z (All2.nil _)) λar au w a m av f=>l_sOf underlying22 underlying5 underlying9 (av.src m (j:=0) Z) f Z Z λa f=>Ab f Z λa f=>Bd aj λaw ax aj=>l_o f (B3 (f.e Z) (f.e Z) ax) λa f=>Ac f Z λa f=>Aa (Al (Ab f Z λa f=>Ai f Z Z (b_quo Z) λa f=>Ac f Z λa f=>Aa (have m:=m.dp 1;?_))))))
     obtain rfl:=sj aj
     exact⟨_,Z,_,_,Z,_,(gt al ao),f.k Z,m⟩
    ·refine Ah f Z aq (Ap (Ae (Ab f Z λa f=>Ai f Z Z AD λa f=>l_o f (Dc (f.e Z) ⟨_,underlying2⟩ underlying5) λa f=>AM (R:=(RI .u8)) (xs:=([(IntKind.u8.wrap (i64.wrap (48+(Int.tmod af 10))))]:LI)) (RI.one _) m T22 f Z Z Z (by decide) (All2.cons Z (All2.nil _)) λay az w a m aA f=>l_sOf underlying22 underlying5 underlying9 (aA.src m (j:=0) Z) f Z Z λa f=>Ab f Z λa f=>Bd aj λaB aC aj=>l_o f (B3 (f.e Z) (f.e Z) aC) λa f=>Ac f Z λa f=>Aa (Al (Ab f Z λa f=>Ai f Z Z (b_quo Z) λa f=>Ac f Z λa f=>Aa (have m:=m.dp 1;?_))))))
     obtain rfl:=sj aj
     exact⟨_,Z,_,_,Z,_,(gt al ao),f.k Z,m⟩
   ·refine Ah f Z ap (AO Z ?_)
    obtain rfl:=sj aj
    obtain rfl:=ak _ rfl
    exact⟨_,Z,_,(gt al ao),f.k Z,m⟩
 ·rintro a w ⟨ac,rfl,ad,aD,f,m⟩
  refine Ag (Ae (Ab f Z λa f=>Aa ?_))
  rcases Af hd with⟨aE,hd⟩|⟨aE,hd⟩
  ·refine Ak f Z aE (Al (Ab f Z λa f=>Bd hd λaF aG hd=>l_o f (B3 (f.e Z) (f.e Z) aG) λa f=>Ac f Z λa f=>AA (Ab f Z λa f=>Ac f Z λa f=>Aa (Ar ?_))))
   obtain rfl:=sj hd
   exact⟨[(.string aF)],f.g Z,f.d,_,[],aD,m,Z,Z⟩
  ·refine Ah f Z aE (Ap (Ae (Ab f Z λa f=>Ac f Z λa f=>Aa (Ar ?_))))
   obtain rfl:=sj hd
   exact⟨[(.string ac)],f.g Z,f.d,_,[],aD,m,Z,Z⟩
theorem Wk.u0 {aa:Value}{ab:LL}(m:Mem W G w (H))(ac:R2 G aa ab){y:(LL)}(hd:D.u0 ab=some y):
  Calls prog 25 #[(.agg #[aa])] w (Res W G H (λG' Ho v=>∃r0:Value,∃i0:Itm,Ho=[i0]∧r0=v∧Ow R1 40 G' i0 r0 y)):=by
 refine Au (args:=[(.agg #[aa])]) (N:=47) [.tmp 2] func25 Z Z (lb Z) Z λa f=> ?_
 unfold D.u0 at hd
 refine Ae (BW (cs:=[aa]) m f Z Z Z λad w a m f=>Ac f Z λa f=>AA (AM (R:=R1) (xs:=([]:LL)) (RSl.one _) m T24 f Z Z Z (by decide) (All2.nil _) λae af w a m ag f=>Ac f Z λa f=>Aa (Ag (Ae (Ac f Z λa f=>Aa (Bd hd λah ai hd=> ?_))))))
 refine AY (λa w=>∃aj:LL,aj=ah∧∃(ak:GH) (al:Value) (am:Itm),GLe G ak∧Fr a 47 [(3,al)]∧Mem W ak w (am::H)∧Ow R1 40 ak am al aj) ?_ ?_
 ·refine Aq (have m:=m.fr 1;AP (λan a w=>∃ao:LL,∃ap:Int,(ao,ap)=an∧∃(aq:GH) (ar:Value) (au:Itm),GLe G aq∧Fr a 47 [(1,pb ad),(3,ar),(4,iv ap)]∧Mem W aq w (ib ad 26 [aa]::au::H)∧Ow R1 40 aq au ar ao) ai ⟨_,_,Z,_,af,ae,gr,f.k Z,m,ag⟩ ?_)
  clear ai f m
  rintro an av aw ax a w ⟨ao,ap,rfl,aq,ar,au,ay,f,m,az⟩
  refine have ac:=rd2 ay ac;Ag (Ae (Ab f Z λa f=>Ax 0 0 (ds:=[aa]) m Az f Z Z Z Z Z λa f=>Bd aw λaA aB aw=>A7 f Z call24 (Wk.g m ac aB) λaC w aD m a f=>have ac:=rd2 aD ac;have az:=od3 aD az;Ai f Z Z AN λa f=>Aa ?_))
  rcases Af aw with⟨aE,aw⟩|⟨aE,aw⟩
  ·refine Ak f Z aE (Ap (Ag (Aq (Ae (Ac f Z λa f=>Aa (Bd aw λaF aG aw=> ?_))))))
   refine AY (λa w=>∃aH:LL,aH=aF∧∃(aI:GH) (aJ:Value) (aK:Itm),GLe aC aI∧Fr a 47 [(1,pb ad),(3,aJ),(4,iv ap)]∧Mem W aI w (ib ad 26 [aa]::aK::H)∧Ow R1 40 aI aK aJ aH) ?_ ?_
   ·refine Aq (AP (λaL a w=>∃aM:LL,∃aN:Int,(aM,aN)=aL∧∃(aO:GH) (aP:Value) (aQ:Itm),GLe aC aO∧Fr a 47 [(1,pb ad),(3,aP),(4,iv ap),(5,iv aN)]∧Mem W aO w (ib ad 26 [aa]::aQ::H)∧Ow R1 40 aO aQ aP aM) aG ⟨_,_,Z,_,ar,au,gr,f.k Z,m,az⟩ ?_)
    clear aG f m
    rintro aL aR aS aT a w ⟨aM,aN,rfl,aO,aP,aQ,aU,f,m,aV⟩
    refine have ac:=rd2 aU ac;Ag (Ae (Ab f Z λa f=>Br underlying26 Z sizeOf24 f Z λa f=>AV 0 0 m Bl f Z Z Z Z λa f=>Ab f Z λa f=>Bd aS λaW aX aS=>BA T24 f Z Z Z ac aX λaY aZ a a0 a1 f=>AU m Bt f Z Z a0 λa f=>A9 underlying40 f Z Z a1 λa f=>Ai f Z Z AN λa f=>Aa ?_))
    rcases Af aS with⟨a2,aS⟩|⟨a2,aS⟩
    ·refine Ak f Z a2 (Ap (Ag (Aq (Ae (Br underlying26 Z sizeOf24 f Z λa f=>AV 0 0 m Bl f Z Z Z Z λa f=>Ab f Z λa f=>Bd aS λa3 a4 aS=>BA T24 f Z Z Z ac a4 λa5 a6 a a7 a8 f=>AU m Bt f Z Z a7 λa f=>Ab f Z λa f=>Bd aS λa9 ba aS=>BA T40 f Z Z Z a8 ba λbb bc a bd be f=> ?_)))))
     subst be
     refine AU m Pl2 f Z Z bd λa f=>Ab f Z λa f=>Ai f Z Z BQ λa f=>Aa ?_
     rcases Af aS with⟨bf,aS⟩|⟨bf,aS⟩
     ·refine Ak f Z bf (Al (Ab f Z λa f=>Ab f Z λa f=>Br underlying26 Z sizeOf24 f Z λa f=>AV 0 0 m Bl f Z Z Z Z λa f=>Ab f Z λa f=>Bd aS λbg bh aS=>BA T24 f Z Z Z ac bh λbi bj a bk bl f=>AU m Bt f Z Z bk λa f=>Ab f Z λa f=>Bd aS λbm bn aS=>BA T40 f Z Z Z bl bn λbo bp a bq br f=> ?_))
      subst br
      refine AU m Pl2 f Z Z bq λa f=>AM (R:=R0) (xs:=([ap,bm]:LI)) (RI.one _) m T40 f Z Z Z (by decide) (All2.cons Z (All2.cons Z (All2.nil _))) λbs bt w a m bu f=> ?_
      obtain⟨bv,bw,m,bx⟩:=Ow.stamp (RI.mono _) bu m
      refine have aV:=od3 bw aV;AM (R:=R1) (xs:=([([ap,bm]:LI)]:LL)) (RSl.one _) m T24 f Z Z Z (by decide) (All2.cons bx (All2.nil _)) λbz bA w a m bB f=>Bd aS λbC bD aS=>A1 (RSl.one _) 2 m aV Z T24 Z (by decide) f Z Z Z (Ow.src (j:=0) bB m Z) bD λbE bF w a m bG f=>Ac f Z λa f=>Aa (Al (Ab f Z λa f=>Ai f Z Z AD λa f=>Ac f Z λa f=>Aa (have m:=m.fr 2;have m:=m.fr 2;have m:=m.eraseAt 2;?_)))
      obtain rfl:=sj aS
      exact⟨_,Z,_,_,Z,_,bF,bE,(gt aU bw),f.k Z,m,bG⟩
     ·refine Ah f Z bf (Ap (Al (Ab f Z λa f=>Ai f Z Z AD λa f=>Ac f Z λa f=>Aa ?_)))
      obtain rfl:=sj aS
      exact⟨_,Z,_,_,Z,_,aP,aQ,aU,f.k Z,m,aV⟩
    ·refine Ah f Z a2 (AO Z ?_)
     obtain rfl:=sj aS
     obtain rfl:=aT _ rfl
     exact⟨_,Z,_,aP,aQ,aU,f.k Z,m,aV⟩
   ·rintro a w ⟨aH,rfl,aI,aJ,aK,bH,f,m,bI⟩
    refine Al (Ab f Z λa f=>Ai f Z Z AD λa f=>Ac f Z λa f=>Aa ?_)
    obtain rfl:=sj aw
    exact⟨_,Z,_,_,Z,_,aJ,aK,(gt ay (gt aD bH)),f.k Z,m,bI⟩
  ·refine Ah f Z aE (AO Z (have m:=m.fr 1;have m:=m.eraseAt 1;?_))
   obtain rfl:=sj aw
   obtain rfl:=ax _ rfl
   exact⟨_,Z,_,ar,au,(gt ay aD),f.k Z,m,az⟩
 ·rintro a w ⟨aj,rfl,ak,al,am,bJ,f,m,bK⟩
  refine Ae (Ab f Z λa f=>Ac f Z λa f=>Aa (Ar ?_))
  obtain rfl:=sj hd
  exact⟨[al],f.g Z,f.d,_,[am],bJ,m,_,_,Z,Z,bK⟩
theorem Wk.r {aa:Value}{ab:LL}(m:Mem W G w (H))(ac:R2 G aa ab){y:ByteArray}(hd:D.r ab=some y):
  Calls prog 8 #[(.agg #[aa])] w (Res W G H (λ_ Ho v=>Ho=[]∧v=(.string y))):=by
 refine Au (args:=[(.agg #[aa])]) (N:=41) [.tmp 2] func8 Z Z (lb Z) Z λa f=> ?_
 unfold D.r at hd
 refine Ae (BW (cs:=[aa]) m f Z Z Z λad w a m f=>Ac f Z λa f=>Aa (Ag (Ae (Ax 0 0 (ds:=[aa]) m Az f Z Z Z Z Z λa f=>Bd hd λae af hd=>A7 f Z call22 (Wk.v m ac af) λag w ah m a f=>have ac:=rd2 ah ac;l_o f (Bg (f.e Z)) λa f=>Aa ?_))))
 rcases Af hd with⟨ai,hd⟩|⟨ai,hd⟩
 ·refine Ak f Z ai (Ae (Ac f Z λa f=>Aa (Ar (have m:=m.dp 1;?_))))
  obtain rfl:=sj hd
  exact⟨[(.string (⟨#[]⟩))],f.g Z,f.d,_,[],ah,m,Z,Z⟩
 ·refine Ah f Z ai (Ap (Ae (Ax 0 0 (ds:=[aa]) m Az f Z Z Z Z Z λa f=>Bd hd λaj ak hd=>A7 f Z call24 (Wk.g m ac ak) λal w am m a f=>have ac:=rd2 am ac;Bd hd λan ao hd=>A7 f Z call23 (Wk.c m ao) λap w aq m a f=>have ac:=rd2 aq ac;Bd hd λar au hd=>l_o f (B3 (f.e Z) (f.e Z) au) λa f=>Ac f Z λa f=>AA (Ax 0 0 (ds:=[aa]) m Az f Z Z Z Z Z λa f=>Bd hd λav aw hd=>Cy f Z call25 (Wk.u0 m ac aw) λax ay az w aA m aB a f=>Ac f Z λa f=>Aa (Ag (Ae (Ac f Z λa f=>Aa (Bd hd λaC aD hd=> ?_))))))))
  refine AY (λa w=>∃aE:ByteArray,aE=aC∧∃(aF:GH),GLe az aF∧Fr a 41 [(3,(.string aE))]∧Mem W aF w (H)) ?_ ?_
  ·refine Aq (have m:=m.eraseAt 1;AP (λaG a w=>∃aH:ByteArray,∃aI:Int,(aH,aI)=aG∧∃(aJ:GH),GLe az aJ∧Fr a 41 [(3,(.string aH)),(4,ax),(5,iv aI)]∧Mem W aJ w (ay::H)) aD ⟨_,_,Z,_,gr,f.k Z,m⟩ ?_)
   clear aD f m
   rintro aG aK aL aM a w ⟨aH,aI,rfl,aJ,aN,f,m⟩
   refine have aB:=od3 aN aB;Ag (Ae (Ab f Z λa f=>Ab f Z λa f=>BF 0 m aB Z underlying24 f Z Z λa f=>Ai f Z Z AN λa f=>Aa ?_))
   rcases Af aL with⟨aO,aL⟩|⟨aO,aL⟩
   ·refine Ak f Z aO (Ap (Ag (Aq (BE 20 Bi (by kernel_rfl) m (AK 0 20 Z f Z λa f=>Bd aL λaP aQ aL=>q_p 1 20 Z f (λ_=>B3 (f.e Z) (f.e Z) aQ) λa f=>AK 2 20 Z f Z λa f=>AK 3 20 Z f Z λa f=>Bd aL λaR aS aL=>Cz 4 20 0 m aB T24 aS Z f Z Z λaT a aU f=>q_ol 5 20 0 aB Bt aU aS Z f Z λaV a aW f=>Bd aL λaX aY aL=>B8 6 20 T40 aW aY Z f Z Z λaZ a0 a a1 a2 f=> ?_)))))
    subst a2
    refine Ca 7 20 Pl2 a1 Z f Z λa f=>Bd aL λa3 a4 aL=>CP (i:=8) 20 Z (by kernel_rfl) Z f Z Z Z call23 (λ_ _ w a5 m=>Wk.c m a4) λa f=>Bd aL λa6 a7 aL=>q_p 9 20 Z f (λ_=>B3 (f.e Z) (f.e Z) a7) λa f=>Bd aL λa8 a9 aL=>q_p 10 20 Z f (λ_=>B3 (f.e Z) (f.e Z) a9) λa f=>AK 11 20 Z f Z λa f=>AK 12 20 Z f Z λa f=>Bd aL λba bb aL=>Cz 13 20 0 m aB T24 bb Z f Z Z λbc a bd f=>q_ol 14 20 0 aB Bt bd bb Z f Z λbe a bf f=>Bd aL λbg bh aL=>B8 15 20 T40 bf bh Z f Z Z λbi bj a bk bl f=> ?_
    subst bl
    refine Ca 16 20 Pl2 bk Z f Z λa f=>Bd aL λbm bn aL=>CP (i:=17) 20 Z (by kernel_rfl) Z f Z Z Z call23 (λ_ _ w bo m=>Wk.c m bn) λa f=>Bd aL λbp bq aL=>q_p 18 20 Z f (λ_=>B3 (f.e Z) (f.e Z) bq) λa f=>q_p 19 20 Z f (λ_=>CN (f.e Z)) λa f=>Bs λbr w bs m=>Aa (Al (Ab f Z λa f=>Ai f Z Z AD λa f=>Ac f Z λa f=>Aa ?_))
    obtain rfl:=sj aL
    exact⟨_,Z,_,_,Z,_,(gt aN bs),f.k Z,m⟩
   ·refine Ah f Z aO (AO Z (have m:=m.dp 1;?_))
    obtain rfl:=sj aL
    obtain rfl:=aM _ rfl
    exact⟨_,Z,_,aN,f.k Z,m⟩
  ·rintro a w ⟨aE,rfl,aF,bt,f,m⟩
   refine Ae (Ab f Z λa f=>Ac f Z λa f=>Aa (Ar ?_))
   obtain rfl:=sj hd
   exact⟨[(.string aE)],f.g Z,f.d,_,[],(gt ah (gt am (gt aq (gt aA bt)))),m,Z,Z⟩
theorem Wk.m {aa:Value}{ab:LL}{x1 x2:Int}(m:Mem W G w (H))(ac:R2 G aa ab){y:Bool}(hd:D.m ab x1 x2=some y):
  Calls prog 27 #[(.agg #[aa]),iv x1,iv x2] w (Res W G H (λ_ Ho v=>Ho=[]∧v=(.bool y))):=by
 refine Au (args:=[(.agg #[aa]),iv x1,iv x2]) (N:=14) [.tmp 6] func27 Z Z (lb Z) Z λa f=> ?_
 unfold D.m at hd
 refine Ae (BW (cs:=[aa]) m f Z Z Z λad w a m f=>Ac f Z λa f=>AA (Br underlying26 Z sizeOf24 f Z λa f=>AV 0 0 m Bl f Z Z Z Z λa f=>Ab f Z λa f=>Bd hd λae af hd=>BA T24 f Z Z Z ac af λag ah a ai aj f=>AU m Bt f Z Z ai λa f=>Ab f Z λa f=>Bd hd λak al hd=>A7 f Z call53 (Wk.z m aj al) λam w an m a f=>Ac f Z λa f=>Aa (Ar (have m:=m.dp 1;?_))))
 obtain rfl:=sj hd
 exact⟨[(.bool ak)],f.g Z,f.d,_,[],an,m,Z,Z⟩
theorem Wk.y0 {x0:Bool}(m:Mem W G w (H)){y:Int}(hd:D.y0 x0=some y):
  Calls prog 26 #[(.bool x0)] w (Res W G H (λ_ Ho v=>Ho=[]∧v=(iv y))):=by
 refine Au (args:=[(.bool x0)]) (N:=4) [.tmp 2] func26 Z Z (lb Z) Z λa f=> ?_
 unfold D.y0 at hd
 refine Ae (Ac f Z λa f=>Aa (Ag (Ae (Ab f Z λa f=>Aa ?_))))
 rcases Af hd with⟨aa,hd⟩|⟨aa,hd⟩
 ·refine Ak f Z aa (Ae (Ac f Z λa f=>Aa (Ar ?_)))
  obtain rfl:=sj hd
  exact⟨[iv 1],f.g Z,f.d,_,[],gr,m,Z,Z⟩
 ·refine Ah f Z aa (Ap (Ae (Ac f Z λa f=>Aa (Ar ?_))))
  obtain rfl:=sj hd
  exact⟨[iv 0],f.g Z,f.d,_,[],gr,m,Z,Z⟩
theorem Wk.y {aa:Value}{ab:LL}(m:Mem W G w (H))(ac:R2 G aa ab){y:ByteArray}(hd:D.y ab=some y):
  Calls prog 9 #[(.agg #[aa])] w (Res W G H (λ_ Ho v=>Ho=[]∧v=(.string y))):=by
 refine Au (args:=[(.agg #[aa])]) (N:=33) [.tmp 2] func9 Z Z (lb Z) Z λa f=> ?_
 unfold D.y at hd
 refine Ae (BW (cs:=[aa]) m f Z Z Z λad w a m f=>Ac f Z λa f=>AA (Ac f Z λa f=>Aa (Ag (Ae (Ac f Z λa f=>Aa (Bd hd λae af hd=> ?_))))))
 refine AY (λa w=>∃ag:ByteArray,ag=ae∧∃(ah:GH),GLe G ah∧Fr a 33 [(3,(.string ag))]∧Mem W ah w (H)) ?_ ?_
 ·refine Aq (AP (λai a w=>∃aj:ByteArray,∃ak:Int,(aj,ak)=ai∧∃(al:GH),GLe G al∧Fr a 33 [(1,pb ad),(3,(.string aj)),(4,iv ak)]∧Mem W al w (ib ad 26 [aa]::H)) af ⟨_,_,Z,_,gr,f.k Z,m⟩ ?_)
  clear af f m
  rintro ai am an ao a w ⟨aj,ak,rfl,al,ap,f,m⟩
  refine have ac:=rd2 ap ac;Ag (Ae (Ab f Z λa f=>Ax 0 0 (ds:=[aa]) m Az f Z Z Z Z Z λa f=>Bd an λaq ar an=>A7 f Z call24 (Wk.g m ac ar) λau w av m a f=>have ac:=rd2 av ac;Ai f Z Z AN λa f=>Ab f Z λa f=>Bd an λaw ax an=> ?_))
  refine A2 3 (λa w=>∃ay,GLe au ay∧Mem W ay w (ib ad 26 [aa]::H)∧Fr a 33 [(1,pb ad),(3,(.string aj)),(4,iv ak),(6,iv ak),(7,(.agg #[aa])),(8,iv aq),(9,(.bool (decide (ak<aq)))),(10,(.bool (decide (ak<aq)))),(13,(.bool aw))]) ?_ ?_
  ·rcases Af ax with⟨az,ax⟩|⟨az,ax⟩
   ·refine Am f az (Ax 0 0 (ds:=[aa]) m Az f Z Z Z Z Z λa f=>Am f az (Bd ax λaA aB ax=>A7 f Z call22 (Wk.v m ac aB) λaC w aD m a f=>l_o f (AE (f.e Z) az (f.e Z)) λa f=> ?_))
    obtain rfl:=sj ax
    exact⟨_,aD,m,f.k Z⟩
   ·refine An f az λa f=>An f az λa f=>l_o f (AF (f.e Z) az (f.e Z)) λa f=> ?_
    obtain rfl:=sj ax
    exact⟨_,gr,m,f.k Z⟩
  ·rintro a w ⟨ay,aE,m,f⟩
   refine have ac:=rd2 aE ac;Aa ?_
   rcases Af an with⟨aF,an⟩|⟨aF,an⟩
   ·refine Ak f Z aF (Ap (Ag (Aq (Ag (Ae (Ac f Z λa f=>Aa (Bd an λaG aH an=> ?_)))))))
    refine AY (λa w=>∃aI:ByteArray,aI=aG∧∃(aJ:GH),GLe ay aJ∧Fr a 33 [(1,pb ad),(3,(.string aI)),(4,iv ak)]∧Mem W aJ w (ib ad 26 [aa]::H)) ?_ ?_
    ·refine Aq (AP (λaK a w=>∃aL:ByteArray,∃aM:Int,(aL,aM)=aK∧∃(aN:GH),GLe ay aN∧Fr a 33 [(1,pb ad),(3,(.string aL)),(4,iv ak),(5,iv aM)]∧Mem W aN w (ib ad 26 [aa]::H)) aH ⟨_,_,Z,_,gr,f.k Z,m⟩ ?_)
     clear aH f m
     rintro aK aO aP aQ a w ⟨aL,aM,rfl,aN,aR,f,m⟩
     refine have ac:=rd2 aR ac;Ag (Ae (Ab f Z λa f=>Ax 0 0 (ds:=[aa]) m Az f Z Z Z Z Z λa f=>Bd aP λaS aT aP=>A7 f Z call24 (Wk.g m ac aT) λaU w aV m a f=>have ac:=rd2 aV ac;Ai f Z Z AN λa f=>Aa ?_))
     rcases Af aP with⟨aW,aP⟩|⟨aW,aP⟩
     ·refine Ak f Z aW (Ap (Ag (Aq (Al (Ab f Z λa f=>Ax 0 0 (ds:=[aa]) m Az f Z Z Z Z Z λa f=>Ab f Z λa f=>Ab f Z λa f=>Bd aP λaX aY aP=>A7 f Z call27 (Wk.m m ac aY) λaZ w a0 m a f=>Bd aP λa1 a2 aP=>A7 f Z call26 (Wk.y0 m a2) λa3 w a4 m a f=>Bd aP λa5 a6 aP=>A7 f Z call23 (Wk.c m a6) λa7 w a8 m a f=>Bd aP λa9 ba aP=>l_o f (B3 (f.e Z) (f.e Z) ba) λa f=>Ac f Z λa f=>Aa (Al (Ab f Z λa f=>Ai f Z Z AD λa f=>Ac f Z λa f=>Aa ?_)))))))
      obtain rfl:=sj aP
      exact⟨_,Z,_,_,Z,_,(gt aR (gt aV (gt a0 (gt a4 a8)))),f.k Z,m⟩
     ·refine Ah f Z aW (AO Z ?_)
      obtain rfl:=sj aP
      obtain rfl:=aQ _ rfl
      exact⟨_,Z,_,(gt aR aV),f.k Z,m⟩
    ·rintro a w ⟨aI,rfl,aJ,bb,f,m⟩
     refine Al (Ab f Z λa f=>Bd an λbc bd an=>l_o f (B3 (f.e Z) (f.e Z) bd) λa f=>Ac f Z λa f=>Aa (Al (Ab f Z λa f=>Ai f Z Z AD λa f=>Ac f Z λa f=>Aa ?_)))
     obtain rfl:=sj an
     exact⟨_,Z,_,_,Z,_,(gt ap (gt av (gt aE bb))),f.k Z,m⟩
   ·refine Ah f Z aF (AO Z (have m:=m.dp 1;?_))
    obtain rfl:=sj an
    obtain rfl:=ao _ rfl
    exact⟨_,Z,_,(gt ap (gt av aE)),f.k Z,m⟩
 ·rintro a w ⟨ag,rfl,ah,be,f,m⟩
  refine Ae (Ab f Z λa f=>Ac f Z λa f=>Aa (Ar ?_))
  obtain rfl:=sj hd
  exact⟨[(.string ag)],f.g Z,f.d,_,[],be,m,Z,Z⟩
theorem Wk.j {x0:ByteArray}(hW:TxtW 2 3 1 W)(m:Mem W G w (H)){y:Int×Bool}(hd:D.j x0=some y):
  Calls prog 29 #[(.string x0)] w (Res W G H (λ_ Ho v=>Ho=[]∧v= .tuple #[iv y.1,(.bool y.2)])):=by
 refine Au (args:=[(.string x0)]) (N:=28) [.tmp 2,.tmp 3] func29 Z Z (lb Z) Z λa f=> ?_
 unfold D.j at hd
 refine Ae (Ac f Z λa f=>Ac f Z λa f=>Aa (Ag (Ae (Ab f Z λa f=>l_o f (BB (f.e Z) underlying9) λa f=>Ai f Z Z AN λa f=>Ab f Z λa f=> ?_))))
 refine A2 4 (λa w=>∃aa,GLe G aa∧Mem W aa w (H)∧Fr a 28 [(0,(.string x0)),(6,(.string x0)),(7,(iv (x0.size:Int))),(8,(.bool (decide ((x0.size:Int)<1)))),(9,(.bool (decide ((x0.size:Int)<1)))),(13,(.bool ((decide ((x0.size:Int)<1))||(decide ((9:Int)<(x0.size:Int))))))]) ?_ ?_
 ·rcases Bool.eq_false_or_eq_true (decide ((x0.size:Int)<1)) with ab|ab
  ·exact An f ab λa f=>An f ab λa f=>An f ab λa f=>l_o f (AE (f.e Z) ab (f.e Z)) λa f=>⟨_,gr,m,f.weak ⟨Z,Z,Z,Z,Z,by rw[ab];rfl,trivial⟩⟩
  ·exact Am f ab (Ab f Z λa f=>Am f ab (l_o f (BB (f.e Z) underlying9) λa f=>Am f ab (Ai f Z Z BQ λa f=>l_o f (AF (f.e Z) ab (f.e Z)) λa f=>⟨_,gr,m,f.weak ⟨Z,Z,Z,Z,Z,by rw[ab];rfl,trivial⟩⟩)))
 ·rintro a w ⟨aa,ac,m,f⟩
  refine Aa ?_
  rcases Af hd with⟨ad,hd⟩|⟨ad,hd⟩
  ·refine Ak f Z ad (Ae (Ac f Z λa f=>Ac f Z λa f=>Aa (Ar ?_)))
   obtain rfl:=sj hd
   exact⟨[iv 0,(.bool false)],⟨f.get _ _ Z,f.get _ _ Z,trivial⟩,f.d,_,[],ac,m,Z,Z⟩
  ·refine Ah f Z ad (Ap (Ae (Ab f Z λa f=>Bd hd λae af hd=>AH f Z call55 (Wk.i hW m af) λag ah ai w aj m ak a f=> ?_)))
   obtain⟨rfl,al,rfl,rfl,am⟩:=ak
   refine Ab f Z λa f=>l_o f (AB (f.e Z) Z) λa f=>l_o f (AB (f.e Z) Z) λa f=>Ac f Z λa f=>Ac f Z λa f=>Aa (Ag (Ae (Ab f Z λa f=>l_o f (r_erNeq (f.e Z) Z am underlying65) λa f=>Ab f Z λa f=>Bd hd λan ao hd=> ?_)))
   refine A2 5 (λa w=>∃ap,GLe aa ap∧Mem W ap w (H)∧Fr a 28 [(0,(.string x0)),(4,iv ae.1),(5,al),(19,al),(20,(.bool ae.2)),(21,(.bool ae.2)),(26,(.bool an))]) ?_ ?_
   ·rcases Af ao with⟨aq,ao⟩|⟨aq,ao⟩
    ·refine An f aq λa f=>An f aq λa f=>An f aq λa f=>An f aq λa f=>l_o f (AE (f.e Z) aq (f.e Z)) λa f=> ?_
     obtain rfl:=sj ao
     exact⟨_,gr,m,f.k Z⟩
    ·refine Am f aq (Ab f Z λa f=>Am f aq (Bd ao λar au ao=>A7 f Z call48 (Wk.f hW m au) λav w aw m a f=>Am f aq (Ab f Z λa f=>Am f aq (l_o f (CV (f.e Z) (f.e Z)) λa f=>l_o f (AF (f.e Z) aq (f.e Z)) λa f=> ?_))))
     obtain rfl:=sj ao
     exact⟨_,aw,m,f.k Z⟩
   ·rintro a w ⟨ap,ax,m,f⟩
    refine Aa ?_
    rcases Af hd with⟨ay,hd⟩|⟨ay,hd⟩
    ·refine Ak f Z ay (Ae (Ac f Z λa f=>Ac f Z λa f=>Aa (Ar ?_)))
     obtain rfl:=sj hd
     exact⟨[iv 0,(.bool false)],⟨f.get _ _ Z,f.get _ _ Z,trivial⟩,f.d,_,[],(gt ac ax),m,Z,Z⟩
    ·refine Ah f Z ay (Ap (Ae (Ab f Z λa f=>Ac f Z λa f=>Ac f Z λa f=>Aa (Ar ?_))))
     obtain rfl:=sj hd
     exact⟨[iv ae.1,(.bool true)],⟨f.get _ _ Z,f.get _ _ Z,trivial⟩,f.d,_,[],(gt ac ax),m,Z,Z⟩
theorem Wk.x0 {v0:Value}{it0:Itm}{x0:LI}{x1 x2:Int}(m:Mem W G w (it0::H))(o0:Ow (RI .u32) 75 G it0 v0 x0){y:(LI)}(hd:D.x0 x0 x1 x2=some y):
  Calls prog 58 #[v0,iv x1,iv x2] w (Res W G H (λG' Ho _=>∃i0:Itm,Ho=[i0]∧Ow (RI .u32) 75 G' i0 v0 y)):=by
 refine Au (args:=[v0,iv x1,iv x2]) (N:=22) [] func58 Z Z (lb Z) Z λa f=> ?_
 unfold D.x0 at hd
 refine Ag (BE 8 Bi (by kernel_rfl) m (AK 0 8 Z f Z λa f=>AK 1 8 Z f Z λa f=>Bd hd λaa ab hd=>Cz 2 8 0 m o0 T72 ab Z f Z Z λac a ad f=>q_ol 3 8 0 o0 Pl75 ad ab Z f Z λae a af f=> ?_))
 subst af
 refine AK 4 8 Z f Z λa f=>Bd hd λag ah hd=>CP (i:=5) 8 Z (by kernel_rfl) Z f Z Z Z call78 (λ_ _ w ai m=>Wk.p m ah) λa f=>q_p 6 8 Z f (λ_=>BX (f.e Z) (f.e Z) b_or) λa f=>Bd hd λaj ak hd=>Cz 7 8 0 m o0 T72 ak Z f Z Z λal a am f=>Bs λan w ao m=>have o0:=od1 ao o0;Cd 0 m o0 Z sizeOf75 f Z Z am ak Z Z Z λap w m aq=>Aa (BE 8 Bi (by kernel_rfl) m (AK 0 8 Z f Z λa f=>AK 1 8 Z f Z λa f=>Bd hd λar au hd=>Cz 2 8 0 m aq T72 au Z f Z Z λav a aw f=>q_ol 3 8 0 aq Pl75 aw au Z f Z λax a ay f=> ?_))
 subst ay
 refine AK 4 8 Z f Z λa f=>Bd hd λaz aA hd=>CP (i:=5) 8 Z (by kernel_rfl) Z f Z Z Z call78 (λ_ _ w aB m=>Wk.p m aA) λa f=>q_p 6 8 Z f (λ_=>BX (f.e Z) (f.e Z) b_or) λa f=>Bd hd λaC aD hd=>Cz 7 8 0 m aq T72 aD Z f Z Z λaE a aF f=>Bs λaG w aH m=>have aq:=od1 aH aq;Cd 0 m aq Z sizeOf75 f Z Z aF aD Z Z Z λaI w m aJ=>Aa ?_
 obtain rfl:=sj hd
 exact⟨[],trivial,f.d,_,[aI],(gt ao aH),m,_,Z,aJ⟩
theorem Wk.a0 {x0:Int}(hW:TxtW 2 3 1 W)(m:Mem W G w (H)){y:Int}(hd:D.a0 x0=some y):
  Calls prog 114 #[(.int .u32 x0)] w (Res W G H (λ_ Ho v=>Ho=[]∧v=(iv y))):=by
 refine Au (args:=[(.int .u32 x0)]) (N:=5) [.tmp 2] func114 Z Z (lb Z) Z λa f=> ?_
 unfold D.a0 at hd
 refine Ae (Ac f Z λa f=>AA (Ab f Z λa f=>Bd hd λaa ab hd=>A7 f Z call115 (Wk.D0 hW m ab) λac w ad m a f=>Ac f Z λa f=>Aa (Ar ?_)))
 obtain rfl:=sj hd
 exact⟨[iv aa],f.g Z,f.d,_,[],ad,m,Z,Z⟩
end Go.Proofs.YtgdadopbjdlddaaGreatDoor
