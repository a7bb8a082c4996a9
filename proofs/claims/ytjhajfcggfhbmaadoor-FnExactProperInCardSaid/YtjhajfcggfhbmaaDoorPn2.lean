/- Parts. -/
import Derived.Test.YtjhajfcggfhbmaaDoorPn1
import Derived.Shelf.Small.Bits
import Derived.Test.YtjhajfcggfhbmaaDoorProg
import Derived.KernelRfl
set_option linter.unusedVariables false
set_option linter.unusedSimpArgs false
namespace Go.Proofs
open Go.Shelf
def Tryd.lays125_ren :Go.Shelf.Ren:=⟨fun|125=>97|128=>118|129=>119|n=>n,fun|46=>62|3=>3|51=>74|53=>38|4=>4|5=>5|9=>9|n=>n,fun|n=>n⟩
theorem Tryd.lays125 :Go.Proofs.Lays.n125 Tryd.prog Tryd.lays125_ren:={
 mixed:=by kernel_rfl
 f125:=Tryd.func97.trans (congrArg some (by kernel_rfl))
 f128:=Tryd.func118.trans (congrArg some (by kernel_rfl))
 f129:=Tryd.func119.trans (congrArg some (by kernel_rfl))
 t3:=Tryd.underlying3
 a3:=Tryd.isAgg3
 z3:=Tryd.sizeOf3
 v3:=Tryd.zeroValue3
 t4:=Tryd.underlying4
 a4:=Tryd.isAgg4
 z4:=Tryd.sizeOf4
 v4:=Tryd.zeroValue4
 t5:=Tryd.underlying5
 a5:=Tryd.isAgg5
 z5:=Tryd.sizeOf5
 v5:=Tryd.zeroValue5
 t9:=Tryd.underlying9
 a9:=Tryd.isAgg9
 z9:=Tryd.sizeOf9
 v9:=Tryd.zeroValue9
 t46:=Tryd.underlying62
 a46:=Tryd.isAgg62
 z46:=Tryd.sizeOf62
 v46:=Tryd.zeroValue62
 t51:=Tryd.underlying74
 a51:=Tryd.isAgg74
 z51:=Tryd.sizeOf74
 v51:=Tryd.zeroValue74
 t53:=Tryd.underlying38
 a53:=Tryd.isAgg38
 z53:=Tryd.sizeOf38
 v53:=Tryd.zeroValue38}
theorem Tryd.bits_Len (x:Int)(w:World)(h0:0≤x)(h1:x≤18446744073709551615):
  Calls Tryd.prog 97 #[.int .u64 x] w λe w'=>e= .returned (.int .i64 (Lib.bitLen x.toNat))∧w'=w:=Any.bits_Len Tryd.lays125 x w h0 h1
end Go.Proofs
namespace Go.Proofs.YtjhajfcggfhbmaaDoor
open Go Go.Sx
theorem Wk.I {W w:World}{G:GH}{H:List Itm}{x0:Int}(m:Mem W G w H){y:Int}(hd:D.I x0=some y):
  Calls Tryd.prog 97 #[(.int .u64 x0)] w (Res W G H (λ_ Ho v=>Ho=[]∧v=(.int .i64 y))):=by
 unfold D.I at hd
 split at hd
 ·rename_i h
  obtain rfl:=Option.some.inj hd
  exact(Tryd.bits_Len x0 w h.1 h.2).mono (λe w' ⟨he,hw⟩=>by subst hw;exact⟨_,he,G,[],GLe.refl G,m,rfl,rfl⟩)
 ·cases hd
end Go.Proofs.YtjhajfcggfhbmaaDoor

namespace Go.Sx
theorem w64 {x:Int}(h1: -9223372036854775808≤x)(h2:x<9223372036854775808):IntKind.i64.wrap x=x:=by
 simp only[IntKind.wrap,IntKind.bits,IntKind.signed]
 have e:(2:Int)^64=18446744073709551616:=by decide
 have e':(2:Int)^(64-1)=9223372036854775808:=by decide
 simp
 omega
theorem dlt {i n:Nat}(h:i<n):decide ((i:Int)<(n:Int))=true:=by simp;omega
theorem Bm {n:Nat}:decide ((n:Int)<(n:Int))=false:=by simp
theorem Aw {α:Type}{xs:List α}{i:Nat}(h:i<xs.length):idx xs (i:Int)=some xs[i]:=by
 unfold idx;rw[if_pos (by omega)];simp[h]
theorem wi {i:Nat}(h:i<4611686018427387904):IntKind.i64.wrap ((i:Int)+1)=((i+1:Nat):Int):=by
 rw[w64 (by omega) (by omega)];rfl
theorem wi' {i n:Nat}(h:i<n)(hn:n≤4611686018427387904):IntKind.i64.wrap ((i:Int)+1)=((i+1:Nat):Int):=wi (by omega)
theorem As {α:Type}{xs:List α}{i:Nat}(h:i<xs.length)(d:α):xs.getD i d=xs[i]:=by simp[h]
theorem Bi {α:Type}{xs ys:List α}(h:xs.length+ys.length≤4294967296):AM xs ys=some (xs++ys):=by
 unfold AM;rw[if_pos h]
theorem sliceD_pre {α:Type}{xs:List α}{i:Nat}(h:i≤xs.length):CA xs 0 (i:Int)=some (xs.take i):=by
 unfold CA;rw[if_pos ⟨by omega,by omega,by omega⟩];simp
theorem sliceD_post {α:Type}{xs:List α}{i:Nat}(h:i≤xs.length):CA xs (i:Int) (xs.length:Int)=some (xs.drop i):=by
 unfold CA;rw[if_pos ⟨by omega,by omega,by omega⟩];simp
theorem Dj {α:Type}{z:α}{n:Nat}{c:Int}(h:(n:Int)≤c)(h2:c≤4294967296):Ci z (n:Int) c=some (List.replicate n z):=by
 unfold Ci;rw[if_pos ⟨by omega,h,h2⟩];simp
theorem makeD_zero {α:Type}{z:α}{c:Int}(h:0≤c)(h2:c≤4294967296):Ci z 0 c=some []:=by
 unfold Ci;rw[if_pos ⟨by omega,h,h2⟩];simp
def Stp {σ ρ:Type}(I:σ→Prop)(μ:σ→Nat)(Post:ρ→Prop)(s:σ):σ ⊕ ρ→Prop
 | .inl s'=>I s'∧μ s'<μ s
 | .inr r=>Post r
theorem AU {σ ρ β:Type}{step:σ→Option (σ ⊕ ρ)}{s:σ}{k:ρ→Option β}{Q:β→Prop}(I:σ→Prop)(μ:σ→Nat)(Post:ρ→Prop)
  (hstep:∀s,I s→∃y,step s=some y∧Stp I μ Post s y) (h0:I s) (hk:∀r,Post r→∃y,k r=some y∧Q y):∃y,(Ao step s).bind k=some y∧Q y:=by
 obtain⟨r,hr,hp⟩:=loopF_inv (step:=step) I μ Post (λs hs=>by
  obtain⟨y,hy,hq⟩:=hstep s hs
  cases y with
  |inl s'=>exact .inl ⟨s',hy,hq.1,hq.2⟩
  |inr r=>exact .inr ⟨r,hy,hq⟩) s h0
 rw[hr]
 exact hk r hp
theorem Ct {α β:Type}{e:Option α}{k:α→Option β}{Q:β→Prop}(R:α→Prop)(h:∃x,e=some x∧R x)(hk:∀x,R x→∃y,k x=some y∧Q y):∃y,e.bind k=some y∧Q y:=by
 obtain⟨x,rfl,hx⟩:=h
 exact hk x hx
theorem bind_eq {α β:Type}{e:Option α}{k:α→Option β}{Q:β→Prop}{x:α}(h:e=some x)(hk:∃y,k x=some y∧Q y):∃y,e.bind k=some y∧Q y:=by
 subst h;exact hk
theorem loop_steps {S ρ:Type}{step:S→Option (S ⊕ ρ)}(st:Nat→S)(n:Nat)(h:∀i,i<n→step (st i)=some (.inl (st (i+1)))):Ao step (st 0)=Ao step (st n):=by
 have key:∀k,k≤n→Ao step (st 0)=Ao step (st k):=by
  intro k
  induction k with
  |zero=>intro _;rfl
  |succ k ih=>intro hk;rw[ih (by omega),A9 (h k (by omega))]
 exact key n (Nat.le_refl n)
theorem CN {S ρ β:Type}{step:S→Option (S ⊕ ρ)}{k:ρ→Option β}{s0:S}(st:Nat→S)(n:Nat)(r:ρ)(h0:st 0=s0)(h:∀i,i<n→step (st i)=some (.inl (st (i+1))))(he:step (st n)=some (.inr r)):
  (Ao step s0).bind k=k r:=by
 rw[←h0,loop_steps st n h,AH he];rfl
theorem loop_list {α σ S ρ:Type}{step:S→Option (S ⊕ ρ)}(xs:List α)(enc:σ→Int→S)(f:σ→α→σ)(fin:σ→ρ)(I:σ→Prop)(s0:σ)
  (h0:I s0) (hstep:∀s (i:Nat) (h:i<xs.length),I s→step (enc s i)=some (.inl (enc (f s xs[i]) ((i+1:Nat):Int)))∧I (f s xs[i]))
  (hend:∀s,I s→step (enc s xs.length)=some (.inr (fin s))):Ao step (enc s0 0)=some (fin (xs.foldl f s0))∧I (xs.foldl f s0):=by
 have key:∀(k i:Nat) (s:σ),i+k=xs.length→I s→Ao step (enc s i)=some (fin ((xs.drop i).foldl f s))∧I ((xs.drop i).foldl f s):=by
  intro k
  induction k with
  |zero=>
   intro i s hk hs
   obtain rfl:i=xs.length:=by omega
   simp only[List.drop_length,List.foldl_nil]
   exact⟨AH (hend s hs),hs⟩
  |succ k ih=>
   intro i s hk hs
   have hi:i<xs.length:=by omega
   obtain⟨h1,h2⟩:=hstep s i hi hs
   rw[A9 h1,List.drop_eq_getElem_cons hi,List.foldl_cons]
   exact ih (i+1) _ (by omega) h2
 have:=key xs.length 0 s0 (by omega) h0
 simpa using this
theorem loop_listb {α σ S ρ β:Type}{step:S→Option (S ⊕ ρ)}{k:ρ→Option β}(xs:List α)(enc:σ→Int→S)(f:σ→α→σ)(fin:σ→ρ)(I:σ→Prop)(s0:σ)
  (h0:I s0) (hstep:∀s (i:Nat) (h:i<xs.length),I s→step (enc s i)=some (.inl (enc (f s xs[i]) ((i+1:Nat):Int)))∧I (f s xs[i]))
  (hend:∀s,I s→step (enc s xs.length)=some (.inr (fin s))):(Ao step (enc s0 0)).bind k=k (fin (xs.foldl f s0)):=by
 rw[(loop_list xs enc f fin I s0 h0 hstep hend).1];rfl
theorem DO {α β γ S:Type}{step:S→Option (S ⊕ List β)}{k:List β→Option γ}(xs:List α)(enc:List β→Int→S)(f:α→β)(hx:xs.length≤4294967296)
  (hstep:∀s (i:Nat) (h:i<xs.length),s.length=i→step (enc s i)=(AM s [f xs[i]]).bind λl=>some (.inl (enc l ((i+1:Nat):Int))))
  (hend:∀s,step (enc s xs.length)=some (.inr s)):(Ao step (enc [] 0)).bind k=k (xs.map f):=by
 have key:∀i,i≤xs.length→Ao step (enc [] 0)=Ao step (enc ((xs.take i).map f) i):=by
  intro i
  induction i with
  |zero=>intro _;simp
  |succ i ih=>
   intro hi
   rw[ih (by omega)]
   have h1:=hstep ((xs.take i).map f) i (by omega) (by simp;omega)
   have h2:AM ((xs.take i).map f) [f xs[i]]=some ((xs.take (i+1)).map f):=by
    unfold AM
    rw[if_pos (by simp;omega)]
    rw[List.take_succ_eq_append_getElem (show i<xs.length by omega),List.map_append];rfl
   rw[h2] at h1
   rw[A9 h1]
 rw[key xs.length (Nat.le_refl _),List.take_length,AH (hend _)];rfl
theorem loop_nat {σ S ρ:Type}{step:S→Option (S ⊕ ρ)}(n:Nat)(enc:σ→Int→S)(f:σ→Nat→σ)(fin:σ→ρ)(I:Nat→σ→Prop)(s0:σ)
  (h0:I 0 s0) (hstep:∀s (i:Nat),i<n→I i s→step (enc s i)=some (.inl (enc (f s i) ((i+1:Nat):Int)))∧I (i+1) (f s i))
  (hend:∀s,I n s→step (enc s n)=some (.inr (fin s))):Ao step (enc s0 0)=some (fin ((List.range n).foldl f s0))∧I n ((List.range n).foldl f s0):=by
 have key:∀k,k≤n→Ao step (enc s0 0)=Ao step (enc ((List.range k).foldl f s0) k)∧I k ((List.range k).foldl f s0):=by
  intro k
  induction k with
  |zero=>intro _;exact⟨rfl,h0⟩
  |succ k ih=>
   intro hk
   obtain⟨h1,h2⟩:=ih (by omega)
   obtain⟨h3,h4⟩:=hstep _ k (by omega) h2
   rw[List.range_succ,List.foldl_append,List.foldl_cons,List.foldl_nil]
   exact⟨by rw[h1,A9 h3],h4⟩
 obtain⟨h1,h2⟩:=key n (Nat.le_refl n)
 exact⟨by rw[h1,AH (hend _ h2)],h2⟩
theorem C1 {ρ : Type} {step : Int → Option (Int ⊕ ρ)} (n : Nat) (c : Nat → Option ρ) (fin : ρ)
    (hstep : ∀ i, i < n → step (i : Int) = match c i with | some r => some (.inr r) | none => some (.inl ((i + 1 : Nat) : Int)))
    (hend : step (n : Int) = some (.inr fin)) : Ao step 0 = some (((List.range n).findSome? c).getD fin) := by
  have key : ∀ (k i : Nat), i + k = n → Ao step (i : Int) = some (((List.range' i k).findSome? c).getD fin) := by
    intro k
    induction k with
    | zero => intro i h; obtain rfl : i = n := by omega
              simpa using AH hend
    | succ k ih =>
      intro i h
      have h1 := hstep i (by omega)
      rw [List.range'_succ, List.findSome?_cons]
      cases hc : c i with
      | some r => rw [hc] at h1; simpa using AH h1
      | none => rw [hc] at h1; rw [A9 h1]; exact ih (i + 1) (by omega)
  have := key n 0 (by omega)
  simpa [List.range_eq_range'] using this
theorem CF {β:Type}{step:Int→Option (Int ⊕ (Unit ⊕ β))}{k:Unit ⊕ β→Option Bool}(n:Nat)(c:Nat→Bool)(bad:β)
  (hstep:∀i,i<n→step (i:Int)=if c i then some (.inl ((i+1:Nat):Int)) else some (.inr (.inr bad)))
  (hend:step (n:Int)=some (.inr (.inl ()))) (hk1:k (.inl ())=some true) (hk2:k (.inr bad)=some false):
  (Ao step 0).bind k=some ((List.range n).all c):=by
 rw[C1 n (λi=>if c i then none else some (.inr bad)) (.inl ()) (λi hi=>by rw[hstep i hi];cases c i<;>rfl) hend]
 simp only[bs]
 cases h:(List.range n).all c with
 |true=>
  rw[List.findSome?_eq_none_iff.2 (λx hx=>by rw[if_pos (List.all_eq_true.1 h x hx)])]
  exact hk1
 |false=>
  cases h2:(List.range n).findSome? (λi=>if c i then none else some (Sum.inr bad)) with
  |none=>
   rw[List.findSome?_eq_none_iff] at h2
   have:(List.range n).all c=true:=List.all_eq_true.2 λx hx=>by
    have:=h2 x hx
    cases hc:c x
    ·rw[hc] at this;cases this
    ·rfl
   rw[this] at h;cases h
  |some r=>
   obtain⟨x,_,hx⟩:=List.exists_of_findSome?_eq_some h2
   cases hc:c x
   ·rw[hc] at hx;simp at hx;subst hx;exact hk2
   ·rw[hc] at hx;simp at hx
theorem D7 {ρ β:Type}{step:Int→Option (Int ⊕ ρ)}{k:ρ→Option β}(n:Nat)(c:Nat→Bool)(fine bad:ρ)
  (hstep:∀i,i<n→step (i:Int)=if c i then some (.inl ((i+1:Nat):Int)) else some (.inr bad))
  (hend:step (n:Int)=some (.inr fine)):(Ao step 0).bind k=cond ((List.range n).all c) (k fine) (k bad):=by
 rw[C1 n (λi=>if c i then none else some bad) fine (λi hi=>by rw[hstep i hi];cases c i<;>rfl) hend]
 simp only[bs]
 cases h:(List.range n).all c with
 |true=>
  rw[List.findSome?_eq_none_iff.2 (λx hx=>by rw[if_pos (List.all_eq_true.1 h x hx)])]
  rfl
 |false=>
  cases h2:(List.range n).findSome? (λi=>if c i then none else some bad) with
  |none=>
   rw[List.findSome?_eq_none_iff] at h2
   have:(List.range n).all c=true:=List.all_eq_true.2 λx hx=>by
    have:=h2 x hx
    cases hc:c x
    ·rw[hc] at this;cases this
    ·rfl
   rw[this] at h;cases h
  |some r=>
   obtain⟨x,_,hx⟩:=List.exists_of_findSome?_eq_some h2
   cases hc:c x
   ·rw[hc] at hx;simp at hx;subst hx;rfl
   ·rw[hc] at hx;simp at hx
theorem loop_anyb {β:Type}{step:Int→Option (Int ⊕ (Unit ⊕ β))}{k:Unit ⊕ β→Option Bool}(n:Nat)(c:Nat→Bool)(good:β)
  (hstep:∀i,i<n→step (i:Int)=if c i then some (.inr (.inr good)) else some (.inl ((i+1:Nat):Int)))
  (hend:step (n:Int)=some (.inr (.inl ()))) (hk1:k (.inl ())=some false) (hk2:k (.inr good)=some true):
  (Ao step 0).bind k=some ((List.range n).any c):=by
 rw[C1 n (λi=>if c i then some (.inr good) else none) (.inl ()) (λi hi=>by rw[hstep i hi];cases c i<;>rfl) hend]
 simp only[bs]
 cases h:(List.range n).any c with
 |false=>
  rw[List.findSome?_eq_none_iff.2 (λx hx=>by
   have:c x=false:=by
    cases hc:c x
    ·rfl
    ·rw[List.any_eq_true.2 ⟨x,hx,hc⟩] at h;cases h
   rw[this];rfl)]
  exact hk1
 |true=>
  obtain⟨x,hx,hc⟩:=List.any_eq_true.1 h
  cases h2:(List.range n).findSome? (λi=>if c i then some (Sum.inr good) else none) with
  |none=>
   rw[List.findSome?_eq_none_iff] at h2
   have:=h2 x hx
   rw[hc] at this;cases this
  |some r=>
   obtain⟨y,_,hy⟩:=List.exists_of_findSome?_eq_some h2
   cases hc:c y
   ·rw[hc] at hy;simp at hy
   ·rw[hc] at hy;simp at hy;subst hy;exact hk2
theorem DE {α:Type}(xs:List α)(p:α→Bool)(c:Nat→Bool)(h:∀i (hi:i<xs.length),c i=p xs[i]):(List.range xs.length).all c=xs.all p:=by
 rw[Bool.eq_iff_iff,List.all_eq_true,List.all_eq_true]
 constructor
 ·intro hh x hx
  obtain⟨i,hi,rfl⟩:=List.getElem_of_mem hx
  rw[←h i hi];exact hh i (List.mem_range.2 hi)
 ·intro hh i hi
  have hi':=List.mem_range.1 hi
  rw[h i hi'];exact hh _ (List.getElem_mem _)
theorem range_any_list {α:Type}(xs:List α)(p:α→Bool)(c:Nat→Bool)(h:∀i (hi:i<xs.length),c i=p xs[i]):(List.range xs.length).any c=xs.any p:=by
 rw[Bool.eq_iff_iff,List.any_eq_true,List.any_eq_true]
 constructor
 ·rintro⟨i,hi,hc⟩
  have hi':=List.mem_range.1 hi
  exact⟨_,List.getElem_mem hi',by rw[←h i hi'];exact hc⟩
 ·rintro⟨x,hx,hc⟩
  obtain⟨i,hi,rfl⟩:=List.getElem_of_mem hx
  exact⟨i,List.mem_range.2 hi,by rw[h i hi];exact hc⟩
theorem C8 (n:Nat)(c:Nat→Bool):(List.range n).all c=true↔∀i,i<n→c i=true:=by
 rw[List.all_eq_true]
 exact⟨λh i hi=>h i (List.mem_range.2 hi),λh i hi=>h i (List.mem_range.1 hi)⟩
end Go.Sx



namespace Go.Sx
noncomputable def DG.insertionSort {α:Type}(cmp:α→α→Option Int)(x0:(List α))(x1:Int)(x2:Int):Option (((List α))):=
 (Ao (σ:=(List α)×Int) (ρ:=((List α))) (fun(s_560:(List α)×Int)=>match s_560 with|(l_563,x_566)=>cond (decide (x_566<x2)) ((Ao (σ:=(List α)×Int) (ρ:=((List α))) (fun(s_984:(List α)×Int)=>match s_984 with|(l_987,x_990)=>(cond (decide (x1<x_990)) ((idx l_987 x_990).bind λe_1079=>(idx l_987 (IntKind.i64.wrap (x_990-1))).bind λe_1085=>(cmp e_1079 e_1085).bind λy_1091=>some (decide (y_1091<0))) (some false)).bind λb_1077=>cond b_1077 ((idx l_987 (IntKind.i64.wrap (x_990-1))).bind λe_1097=>(idx l_987 x_990).bind λe_1103=>(idx l_987 x_990).bind λe_1109=>(idx (l_987.set (Int.toNat x_990) e_1097) (IntKind.i64.wrap (x_990-1))).bind λe_1117=>some (.inl (((l_987.set (Int.toNat x_990) e_1097).set (Int.toNat (IntKind.i64.wrap (x_990-1))) e_1103),(IntKind.i64.wrap (x_990-1))))) (some (.inr l_987))) (l_563,x_566)).bind λl_1056=>some (.inl (l_1056,(IntKind.i64.wrap (x_566+1))))) (some (.inr l_563))) (x0,(IntKind.i64.wrap (x1+1)))).bind λl_844=>some l_844
noncomputable def DG.siftDown {α:Type}(cmp:α→α→Option Int)(x0:(List α))(x1:Int)(x2:Int)(x3:Int):Option (((List α))):=
 (Ao (σ:=(List α)×Int) (ρ:=((List α)) ⊕ (((List α)))) (fun(s_186:(List α)×Int)=>match s_186 with|(l_189,x_192)=>cond (decide (x2≤(IntKind.i64.wrap ((IntKind.i64.wrap (2*x_192))+1)))) (some (.inr (.inl l_189))) ((cond (decide ((IntKind.i64.wrap ((IntKind.i64.wrap ((IntKind.i64.wrap (2*x_192))+1))+1))<x2)) ((idx l_189 (IntKind.i64.wrap (x3+(IntKind.i64.wrap ((IntKind.i64.wrap (2*x_192))+1))))).bind λe_307=>(idx l_189 (IntKind.i64.wrap ((IntKind.i64.wrap (x3+(IntKind.i64.wrap ((IntKind.i64.wrap (2*x_192))+1))))+1))).bind λe_313=>(cmp e_307 e_313).bind λy_319=>some (decide (y_319<0))) (some false)).bind λb_305=>((cond b_305 (some (IntKind.i64.wrap ((IntKind.i64.wrap ((IntKind.i64.wrap (2*x_192))+1))+1))) (some (IntKind.i64.wrap ((IntKind.i64.wrap (2*x_192))+1))):Option (Int))).bind λx_328=>(idx l_189 (IntKind.i64.wrap (x3+x_192))).bind λe_331=>(idx l_189 (IntKind.i64.wrap (x3+x_328))).bind λe_337=>(cmp e_331 e_337).bind λy_343=>cond (!(decide (y_343<0))) (some (.inr (.inr l_189))) ((idx l_189 (IntKind.i64.wrap (x3+x_328))).bind λe_349=>(idx l_189 (IntKind.i64.wrap (x3+x_192))).bind λe_355=>(idx l_189 (IntKind.i64.wrap (x3+x_192))).bind λe_361=>(idx (l_189.set (Int.toNat (IntKind.i64.wrap (x3+x_192))) e_349) (IntKind.i64.wrap (x3+x_328))).bind λe_369=>some (.inl (((l_189.set (Int.toNat (IntKind.i64.wrap (x3+x_192))) e_349).set (Int.toNat (IntKind.i64.wrap (x3+x_328))) e_355),x_328))))) (x0,x1)).bind λzz=>match zz with| .inl l_283=>(some l_283)| .inr z=>(some z)
noncomputable def DG.heapSort {α:Type}(cmp:α→α→Option Int)(x0:(List α))(x1:Int)(x2:Int):Option (((List α))):=
 (Ao (σ:=(List α)×Int) (ρ:=((List α))) (fun(s_30:(List α)×Int)=>match s_30 with|(l_33,x_36)=>cond (decide ((0:Int)≤x_36)) ((DG.siftDown cmp l_33 x_36 (IntKind.i64.wrap (x2-x1)) x1).bind λy_54=>some (.inl (y_54,(IntKind.i64.wrap (x_36-1))))) (some (.inr l_33))) (x0,(IntKind.i64.wrap (Int.tdiv (IntKind.i64.wrap ((IntKind.i64.wrap (x2-x1))-1)) 2)))).bind λl_49=>(Ao (σ:=(List α)×Int) (ρ:=((List α))) (fun(s_144:(List α)×Int)=>match s_144 with|(l_147,x_150)=>cond (decide ((0:Int)≤x_150)) ((idx l_147 (IntKind.i64.wrap (x1+x_150))).bind λe_194=>(idx l_147 x1).bind λe_200=>(idx l_147 x1).bind λe_206=>(idx (l_147.set (Int.toNat x1) e_194) (IntKind.i64.wrap (x1+x_150))).bind λe_214=>(DG.siftDown cmp ((l_147.set (Int.toNat x1) e_194).set (Int.toNat (IntKind.i64.wrap (x1+x_150))) e_200) 0 x_150 x1).bind λy_220=>some (.inl (y_220,(IntKind.i64.wrap (x_150-1))))) (some (.inr l_147))) (l_49,(IntKind.i64.wrap ((IntKind.i64.wrap (x2-x1))-1)))).bind λl_189=>some l_189
noncomputable def DG.breakPatterns {α:Type}(cmp:α→α→Option Int)(x0:(List α))(x1:Int)(x2:Int):Option (((List α))):=
 cond (decide ((8:Int)≤(IntKind.i64.wrap (x2-x1)))) ((D.j0 (IntKind.i64.wrap (x2-x1))).bind λy_4=>(Ao (σ:=(List α)×Int×Int) (ρ:=((List α))) (fun(s_103:(List α)×Int×Int)=>match s_103 with|(l_106,x_109,x_110)=>cond (decide (x_109≤(IntKind.i64.wrap ((IntKind.i64.wrap (x1+(IntKind.i64.wrap ((IntKind.i64.wrap (Int.tdiv (IntKind.i64.wrap (x2-x1)) 4))*2))))+1)))) ((D.o0 x_110).bind λy_159=>((cond (decide ((IntKind.i64.wrap (x2-x1))≤(IntKind.i64.wrap (iand .u64 y_159.1 (IntKind.u64.wrap (y_4-1)))))) (some (IntKind.i64.wrap ((IntKind.i64.wrap (iand .u64 y_159.1 (IntKind.u64.wrap (y_4-1))))-(IntKind.i64.wrap (x2-x1))))) (some (IntKind.i64.wrap (iand .u64 y_159.1 (IntKind.u64.wrap (y_4-1))))):Option (Int))).bind λx_170=>(idx l_106 (IntKind.i64.wrap (x1+x_170))).bind λe_173=>(idx l_106 x_109).bind λe_179=>(idx l_106 x_109).bind λe_185=>(idx (l_106.set (Int.toNat x_109) e_173) (IntKind.i64.wrap (x1+x_170))).bind λe_193=>some (.inl (((l_106.set (Int.toNat x_109) e_173).set (Int.toNat (IntKind.i64.wrap (x1+x_170))) e_179),(IntKind.i64.wrap (x_109+1)),y_159.2))) (some (.inr l_106))) (x0,(IntKind.i64.wrap ((IntKind.i64.wrap (x1+(IntKind.i64.wrap ((IntKind.i64.wrap (Int.tdiv (IntKind.i64.wrap (x2-x1)) 4))*2))))-1)),(IntKind.u64.wrap (IntKind.i64.wrap (x2-x1))))).bind λl_154=>some l_154) (some x0)
noncomputable def DG.order2 {α:Type}(cmp:α→α→Option Int)(x0:(List α))(x1:Int)(x2:Int)(x3_0:Int):Option (Int×Int×((List α))×Int):=
 (idx x0 x2).bind λe_1=>(idx x0 x1).bind λe_7=>(cmp e_1 e_7).bind λy_13=>cond (decide (y_13<0)) (some (x2,x1,x0,(IntKind.i64.wrap (x3_0+1)))) (some (x1,x2,x0,x3_0))
noncomputable def DG.median {α:Type}(cmp:α→α→Option Int)(x0:(List α))(x1:Int)(x2:Int)(x3:Int)(x4_0:Int):Option (Int×((List α))×Int):=
 (DG.order2 cmp x0 x1 x2 x4_0).bind λy_1=>(DG.order2 cmp y_1.2.2.1 y_1.2.1 x3 y_1.2.2.2).bind λy_10=>(DG.order2 cmp y_10.2.2.1 y_1.1 y_10.1 y_10.2.2.2).bind λy_19=>some (y_19.2.1,y_19.2.2.1,y_19.2.2.2)
noncomputable def DG.medianAdjacent {α:Type}(cmp:α→α→Option Int)(x0:(List α))(x1:Int)(x2_0:Int):Option (Int×((List α))×Int):=
 (DG.median cmp x0 (IntKind.i64.wrap (x1-1)) x1 (IntKind.i64.wrap (x1+1)) x2_0).bind λy_1=>some (y_1.1,y_1.2.1,y_1.2.2)
noncomputable def DG.choosePivot {α:Type}(cmp:α→α→Option Int)(x0:(List α))(x1:Int)(x2:Int):Option (Int×Int×((List α))):=
 cond (decide ((8:Int)≤(IntKind.i64.wrap (x2-x1)))) (((cond (decide ((50:Int)≤(IntKind.i64.wrap (x2-x1)))) ((DG.medianAdjacent cmp x0 (IntKind.i64.wrap (x1+(IntKind.i64.wrap ((IntKind.i64.wrap (Int.tdiv (IntKind.i64.wrap (x2-x1)) 4))*1)))) 0).bind λy_44=>(DG.medianAdjacent cmp y_44.2.1 (IntKind.i64.wrap (x1+(IntKind.i64.wrap ((IntKind.i64.wrap (Int.tdiv (IntKind.i64.wrap (x2-x1)) 4))*2)))) y_44.2.2).bind λy_53=>(DG.medianAdjacent cmp y_53.2.1 (IntKind.i64.wrap (x1+(IntKind.i64.wrap ((IntKind.i64.wrap (Int.tdiv (IntKind.i64.wrap (x2-x1)) 4))*3)))) y_53.2.2).bind λy_62=>some (y_62.2.1,y_44.1,y_53.1,y_62.1,y_62.2.2)) (some (x0,(IntKind.i64.wrap (x1+(IntKind.i64.wrap ((IntKind.i64.wrap (Int.tdiv (IntKind.i64.wrap (x2-x1)) 4))*1)))),(IntKind.i64.wrap (x1+(IntKind.i64.wrap ((IntKind.i64.wrap (Int.tdiv (IntKind.i64.wrap (x2-x1)) 4))*2)))),(IntKind.i64.wrap (x1+(IntKind.i64.wrap ((IntKind.i64.wrap (Int.tdiv (IntKind.i64.wrap (x2-x1)) 4))*3)))),0)):Option ((List α)×Int×Int×Int×Int))).bind fun(l_35,x_38,x_39,x_40,x_41)=>(DG.median cmp l_35 x_38 x_39 x_40 x_41).bind λy_71=>cond (y_71.2.2==0) (some (y_71.1,1,y_71.2.1)) (cond (y_71.2.2==12) (some (y_71.1,2,y_71.2.1)) (some (y_71.1,0,y_71.2.1)))) (cond ((0:Int)==0) (some ((IntKind.i64.wrap (x1+(IntKind.i64.wrap ((IntKind.i64.wrap (Int.tdiv (IntKind.i64.wrap (x2-x1)) 4))*2)))),1,x0)) (cond ((0:Int)==12) (some ((IntKind.i64.wrap (x1+(IntKind.i64.wrap ((IntKind.i64.wrap (Int.tdiv (IntKind.i64.wrap (x2-x1)) 4))*2)))),2,x0)) (some ((IntKind.i64.wrap (x1+(IntKind.i64.wrap ((IntKind.i64.wrap (Int.tdiv (IntKind.i64.wrap (x2-x1)) 4))*2)))),0,x0))))
noncomputable def DG.reverseRange {α:Type}(cmp:α→α→Option Int)(x0:(List α))(x1:Int)(x2:Int):Option (((List α))):=
 (Ao (σ:=(List α)×Int×Int) (ρ:=((List α))) (fun(s_65:(List α)×Int×Int)=>match s_65 with|(l_68,x_71,x_72)=>cond (decide (x_71<x_72)) ((idx l_68 x_72).bind λe_107=>(idx l_68 x_71).bind λe_113=>(idx l_68 x_71).bind λe_119=>(idx (l_68.set (Int.toNat x_71) e_107) x_72).bind λe_127=>some (.inl (((l_68.set (Int.toNat x_71) e_107).set (Int.toNat x_72) e_113),(IntKind.i64.wrap (x_71+1)),(IntKind.i64.wrap (x_72-1))))) (some (.inr l_68))) (x0,x1,(IntKind.i64.wrap (x2-1)))).bind λl_102=>some l_102
noncomputable def DG.partialInsertionSort {α:Type}(cmp:α→α→Option Int)(x0:(List α))(x1:Int)(x2:Int):Option (Bool×((List α))):=
 (Ao (σ:=(List α)×Int×Int) (ρ:=((List α)) ⊕ (Bool×((List α)))) (fun(s_1625:(List α)×Int×Int)=>match s_1625 with|(l_1628,x_1631,x_1632)=>cond (decide (x_1632<5)) ((Ao (σ:=Int) (ρ:=(Int)) (fun(x_2530:Int)=>(cond (decide (x_2530<x2)) ((idx l_1628 x_2530).bind λe_2591=>(idx l_1628 (IntKind.i64.wrap (x_2530-1))).bind λe_2597=>(cmp e_2591 e_2597).bind λy_2603=>some (!(decide (y_2603<0)))) (some false)).bind λb_2589=>cond b_2589 (some (.inl (IntKind.i64.wrap (x_2530+1)))) (some (.inr x_2530))) x_1631).bind λx_2570=>cond (x_2570==x2) (some (.inr (.inr (true,l_1628)))) (cond (decide ((IntKind.i64.wrap (x2-x1))<50)) (some (.inr (.inr (false,l_1628)))) ((idx l_1628 (IntKind.i64.wrap (x_2570-1))).bind λe_2611=>(idx l_1628 x_2570).bind λe_2617=>(idx l_1628 x_2570).bind λe_2623=>(idx (l_1628.set (Int.toNat x_2570) e_2611) (IntKind.i64.wrap (x_2570-1))).bind λe_2631=>((cond (decide ((2:Int)≤(IntKind.i64.wrap (x_2570-x1)))) ((Ao (σ:=(List α)×Int) (ρ:=((List α))) (fun(s_2947:(List α)×Int)=>match s_2947 with|(l_2950,x_2953)=>cond (decide ((1:Int)≤x_2953)) ((idx l_2950 x_2953).bind λe_3006=>(idx l_2950 (IntKind.i64.wrap (x_2953-1))).bind λe_3012=>(cmp e_3006 e_3012).bind λy_3018=>cond (!(decide (y_3018<0))) (some (.inr l_2950)) ((idx l_2950 (IntKind.i64.wrap (x_2953-1))).bind λe_3024=>(idx l_2950 x_2953).bind λe_3030=>(idx l_2950 x_2953).bind λe_3036=>(idx (l_2950.set (Int.toNat x_2953) e_3024) (IntKind.i64.wrap (x_2953-1))).bind λe_3044=>some (.inl (((l_2950.set (Int.toNat x_2953) e_3024).set (Int.toNat (IntKind.i64.wrap (x_2953-1))) e_3030),(IntKind.i64.wrap (x_2953-1)))))) (some (.inr l_2950))) (((l_1628.set (Int.toNat x_2570) e_2611).set (Int.toNat (IntKind.i64.wrap (x_2570-1))) e_2617),(IntKind.i64.wrap (x_2570-1)))).bind λl_3001=>some l_3001) (some ((l_1628.set (Int.toNat x_2570) e_2611).set (Int.toNat (IntKind.i64.wrap (x_2570-1))) e_2617)):Option ((List α)))).bind λl_2843=>cond (decide ((2:Int)≤(IntKind.i64.wrap (x2-x_2570)))) ((Ao (σ:=(List α)×Int) (ρ:=((List α))) (fun(s_3150:(List α)×Int)=>match s_3150 with|(l_3153,x_3156)=>cond (decide (x_3156<x2)) ((idx l_3153 x_3156).bind λe_3209=>(idx l_3153 (IntKind.i64.wrap (x_3156-1))).bind λe_3215=>(cmp e_3209 e_3215).bind λy_3221=>cond (!(decide (y_3221<0))) (some (.inr l_3153)) ((idx l_3153 (IntKind.i64.wrap (x_3156-1))).bind λe_3227=>(idx l_3153 x_3156).bind λe_3233=>(idx l_3153 x_3156).bind λe_3239=>(idx (l_3153.set (Int.toNat x_3156) e_3227) (IntKind.i64.wrap (x_3156-1))).bind λe_3247=>some (.inl (((l_3153.set (Int.toNat x_3156) e_3227).set (Int.toNat (IntKind.i64.wrap (x_3156-1))) e_3233),(IntKind.i64.wrap (x_3156+1)))))) (some (.inr l_3153))) (l_2843,(IntKind.i64.wrap (x_2570+1)))).bind λl_3204=>some (.inl (l_3204,x_2570,(IntKind.i64.wrap (x_1632+1))))) (some (.inl (l_2843,x_2570,(IntKind.i64.wrap (x_1632+1)))))))) (some (.inr (.inl l_1628)))) (x0,(IntKind.i64.wrap (x1+1)),0)).bind λzz=>match zz with| .inl l_2442=>(some (false,l_2442))| .inr z=>(some z)
noncomputable def DG.partitionEqual {α:Type}(cmp:α→α→Option Int)(x0:(List α))(x1:Int)(x2:Int)(x3:Int):Option (Int×((List α))):=
 (idx x0 x3).bind λe_1=>(idx x0 x1).bind λe_7=>(idx x0 x1).bind λe_13=>(idx (x0.set (Int.toNat x1) e_1) x3).bind λe_21=>(Ao (σ:=(List α)×Int×Int) (ρ:=((List α)×Int)) (fun(s_739:(List α)×Int×Int)=>match s_739 with|(l_742,x_745,x_746)=>(Ao (σ:=Int) (ρ:=(Int)) (fun(x_1188:Int)=>(cond (decide (x_1188≤x_746)) ((idx l_742 x1).bind λe_1249=>(idx l_742 x_1188).bind λe_1255=>(cmp e_1249 e_1255).bind λy_1261=>some (!(decide (y_1261<0)))) (some false)).bind λb_1247=>cond b_1247 (some (.inl (IntKind.i64.wrap (x_1188+1)))) (some (.inr x_1188))) x_745).bind λx_1228=>(Ao (σ:=Int) (ρ:=(Int)) (fun(x_1350:Int)=>(cond (decide (x_1228≤x_1350)) ((idx l_742 x1).bind λe_1411=>(idx l_742 x_1350).bind λe_1417=>(cmp e_1411 e_1417).bind λy_1423=>some (decide (y_1423<0))) (some false)).bind λb_1409=>cond b_1409 (some (.inl (IntKind.i64.wrap (x_1350-1)))) (some (.inr x_1350))) x_746).bind λx_1390=>cond (decide (x_1390<x_1228)) (some (.inr (l_742,x_1228))) ((idx l_742 x_1390).bind λe_1430=>(idx l_742 x_1228).bind λe_1436=>(idx l_742 x_1228).bind λe_1442=>(idx (l_742.set (Int.toNat x_1228) e_1430) x_1390).bind λe_1450=>some (.inl (((l_742.set (Int.toNat x_1228) e_1430).set (Int.toNat x_1390) e_1436),(IntKind.i64.wrap (x_1228+1)),(IntKind.i64.wrap (x_1390-1)))))) (((x0.set (Int.toNat x1) e_1).set (Int.toNat x3) e_7),(IntKind.i64.wrap (x1+1)),(IntKind.i64.wrap (x2-1)))).bind fun(l_1100,x_1103)=>some (x_1103,l_1100)
noncomputable def DG.partition {α:Type}(cmp:α→α→Option Int)(x0:(List α))(x1:Int)(x2:Int)(x3:Int):Option (Int×Bool×((List α))):=
 (idx x0 x3).bind λe_1=>(idx x0 x1).bind λe_7=>(idx x0 x1).bind λe_13=>(idx (x0.set (Int.toNat x1) e_1) x3).bind λe_21=>(Ao (σ:=Int) (ρ:=(Int)) (fun(x_110:Int)=>(cond (decide (x_110≤(IntKind.i64.wrap (x2-1)))) ((idx ((x0.set (Int.toNat x1) e_1).set (Int.toNat x3) e_7) x_110).bind λe_171=>(idx ((x0.set (Int.toNat x1) e_1).set (Int.toNat x3) e_7) x1).bind λe_177=>(cmp e_171 e_177).bind λy_183=>some (decide (y_183<0))) (some false)).bind λb_169=>cond b_169 (some (.inl (IntKind.i64.wrap (x_110+1)))) (some (.inr x_110))) (IntKind.i64.wrap (x1+1))).bind λx_150=>(Ao (σ:=Int) (ρ:=(Int)) (fun(x_272:Int)=>(cond (decide (x_150≤x_272)) ((idx ((x0.set (Int.toNat x1) e_1).set (Int.toNat x3) e_7) x_272).bind λe_333=>(idx ((x0.set (Int.toNat x1) e_1).set (Int.toNat x3) e_7) x1).bind λe_339=>(cmp e_333 e_339).bind λy_345=>some (!(decide (y_345<0)))) (some false)).bind λb_331=>cond b_331 (some (.inl (IntKind.i64.wrap (x_272-1)))) (some (.inr x_272))) (IntKind.i64.wrap (x2-1))).bind λx_312=>cond (decide (x_312<x_150)) ((idx ((x0.set (Int.toNat x1) e_1).set (Int.toNat x3) e_7) x1).bind λe_352=>(idx ((x0.set (Int.toNat x1) e_1).set (Int.toNat x3) e_7) x_312).bind λe_358=>(idx ((x0.set (Int.toNat x1) e_1).set (Int.toNat x3) e_7) x_312).bind λe_364=>(idx (((x0.set (Int.toNat x1) e_1).set (Int.toNat x3) e_7).set (Int.toNat x_312) e_352) x1).bind λe_372=>some (x_312,true,((((x0.set (Int.toNat x1) e_1).set (Int.toNat x3) e_7).set (Int.toNat x_312) e_352).set (Int.toNat x1) e_358))) ((idx ((x0.set (Int.toNat x1) e_1).set (Int.toNat x3) e_7) x_312).bind λe_378=>(idx ((x0.set (Int.toNat x1) e_1).set (Int.toNat x3) e_7) x_150).bind λe_384=>(idx ((x0.set (Int.toNat x1) e_1).set (Int.toNat x3) e_7) x_150).bind λe_390=>(idx (((x0.set (Int.toNat x1) e_1).set (Int.toNat x3) e_7).set (Int.toNat x_150) e_378) x_312).bind λe_398=>(Ao (σ:=(List α)×Int×Int) (ρ:=((List α)×Int)) (fun(s_1116:(List α)×Int×Int)=>match s_1116 with|(l_1119,x_1122,x_1123)=>(Ao (σ:=Int) (ρ:=(Int)) (fun(x_1565:Int)=>(cond (decide (x_1565≤x_1123)) ((idx l_1119 x_1565).bind λe_1626=>(idx l_1119 x1).bind λe_1632=>(cmp e_1626 e_1632).bind λy_1638=>some (decide (y_1638<0))) (some false)).bind λb_1624=>cond b_1624 (some (.inl (IntKind.i64.wrap (x_1565+1)))) (some (.inr x_1565))) x_1122).bind λx_1605=>(Ao (σ:=Int) (ρ:=(Int)) (fun(x_1727:Int)=>(cond (decide (x_1605≤x_1727)) ((idx l_1119 x_1727).bind λe_1788=>(idx l_1119 x1).bind λe_1794=>(cmp e_1788 e_1794).bind λy_1800=>some (!(decide (y_1800<0)))) (some false)).bind λb_1786=>cond b_1786 (some (.inl (IntKind.i64.wrap (x_1727-1)))) (some (.inr x_1727))) x_1123).bind λx_1767=>cond (decide (x_1767<x_1605)) (some (.inr (l_1119,x_1767))) ((idx l_1119 x_1767).bind λe_1807=>(idx l_1119 x_1605).bind λe_1813=>(idx l_1119 x_1605).bind λe_1819=>(idx (l_1119.set (Int.toNat x_1605) e_1807) x_1767).bind λe_1827=>some (.inl (((l_1119.set (Int.toNat x_1605) e_1807).set (Int.toNat x_1767) e_1813),(IntKind.i64.wrap (x_1605+1)),(IntKind.i64.wrap (x_1767-1)))))) (((((x0.set (Int.toNat x1) e_1).set (Int.toNat x3) e_7).set (Int.toNat x_150) e_378).set (Int.toNat x_312) e_384),(IntKind.i64.wrap (x_150+1)),(IntKind.i64.wrap (x_312-1)))).bind fun(l_1477,x_1480)=>(idx l_1477 x1).bind λe_1833=>(idx l_1477 x_1480).bind λe_1839=>(idx l_1477 x_1480).bind λe_1845=>(idx (l_1477.set (Int.toNat x_1480) e_1833) x1).bind λe_1853=>some (x_1480,false,((l_1477.set (Int.toNat x_1480) e_1833).set (Int.toNat x1) e_1839)))
noncomputable def DG.pdqsortR {α:Type}(cmp:α→α→Option Int):Nat→((List α))→Int→Int→Int→Option (((List α)))
 |0,_,_,_,_=>none
 |fuel+1,x0,x1,x2,x3=>(Ao (σ:=(List α)×Int×Int×Int×Bool×Bool) (ρ:=(((List α)))) (fun(s_398:(List α)×Int×Int×Int×Bool×Bool)=>match s_398 with|(l_401,x_404,x_405,x_406,b_407,b_408)=>cond (decide ((IntKind.i64.wrap (x_405-x_404))≤12)) ((DG.insertionSort cmp l_401 x_404 x_405).bind λy_411=>some (.inr y_411)) (cond (x_406==0) ((DG.heapSort cmp l_401 x_404 x_405).bind λy_421=>some (.inr y_421)) (((cond (!b_407) ((DG.breakPatterns cmp l_401 x_404 x_405).bind λy_449=>some (y_449,(IntKind.i64.wrap (x_406-1)))) (some (l_401,x_406)):Option ((List α)×Int))).bind fun(l_443,x_446)=>(DG.choosePivot cmp l_443 x_404 x_405).bind λy_458=>((cond (y_458.2.1==2) ((DG.reverseRange cmp y_458.2.2 x_404 x_405).bind λy_487=>some (y_487,(IntKind.i64.wrap ((IntKind.i64.wrap (x_405-1))-(IntKind.i64.wrap (y_458.1-x_404)))),1)) (some (y_458.2.2,y_458.1,y_458.2.1)):Option ((List α)×Int×Int))).bind fun(l_480,x_483,x_484)=>((cond ((b_407&&b_408)&&(x_484==1)) ((DG.partialInsertionSort cmp l_480 x_404 x_405).bind λy_521=>cond y_521.1 (some (.inr y_521.2)) (some (.inl y_521.2))) (some (.inl l_480)):Option (((List α)) ⊕ (((List α)))))).bind λq=>match q with| .inl l_516=>((cond (decide ((0:Int)<x_404)) ((idx l_516 (IntKind.i64.wrap (x_404-1))).bind λe_550=>(idx l_516 x_483).bind λe_556=>(cmp e_550 e_556).bind λy_562=>some (!(decide (y_562<0)))) (some false)).bind λb_548=>cond b_548 ((DG.partitionEqual cmp l_516 x_404 x_405 x_483).bind λy_568=>some (.inl (y_568.2,y_568.1,x_405,x_446,b_407,b_408))) ((DG.partition cmp l_516 x_404 x_405 x_483).bind λy_577=>cond (decide ((IntKind.i64.wrap (y_577.1-x_404))<(IntKind.i64.wrap (x_405-y_577.1)))) ((DG.pdqsortR cmp fuel y_577.2.2 x_404 y_577.1 x_446).bind λy_587=>some (.inl (y_587,(IntKind.i64.wrap (y_577.1+1)),x_405,x_446,(decide ((IntKind.i64.wrap (Int.tdiv (IntKind.i64.wrap (x_405-x_404)) 8))≤(IntKind.i64.wrap (y_577.1-x_404)))),y_577.2.1))) ((DG.pdqsortR cmp fuel y_577.2.2 (IntKind.i64.wrap (y_577.1+1)) x_405 x_446).bind λy_596=>some (.inl (y_596,x_404,y_577.1,x_446,(decide ((IntKind.i64.wrap (Int.tdiv (IntKind.i64.wrap (x_405-x_404)) 8))≤(IntKind.i64.wrap (x_405-y_577.1)))),y_577.2.1)))))| .inr q=>(some (.inr q))))) (x0,x1,x2,x3,true,true)).bind λz=>some z
noncomputable def DG.pdqsort {α:Type}(cmp:α→α→Option Int)(x0:(List α))(x1:Int)(x2:Int)(x3:Int):Option (((List α))):=DG.pdqsortR cmp Bn x0 x1 x2 x3
noncomputable def DG.Sort {α:Type}(cmp:α→α→Option Int)(x0:(List α)):Option (((List α))):=
 (D.I (IntKind.u64.wrap (x0.length:Int))).bind λy_1=>(DG.pdqsort cmp x0 0 (x0.length:Int) y_1).bind λy_8=>some y_8
end Go.Sx

namespace Go.Sx.Gs
class Srtd (α:Type) where
 dflt:α
 key:α→Int
 good:α→Prop
 cmp:α→α→Option Int
 law:∀x y,good x→good y→∃v,cmp x y=some v∧decide (v<0)=decide (key x<key y)
variable {α : Type} [Srtd α]
def el (l:List α)(i:Int):α:=l.getD i.toNat Srtd.dflt
def at' (l:List α)(i:Int):Int:=Srtd.key (el l i)
theorem AQ {l:List α}{i:Int}(h0:0≤i)(h1:i<l.length):idx l i=some (el l i):=by
 unfold idx el
 rw[if_pos h0]
 have:i.toNat<l.length:=by omega
 simp[this]
theorem el_set {l:List α}{i k:Int}{x:α}(h0:0≤i)(h1:i<l.length)(hk:0≤k):el (l.set i.toNat x) k=if k=i then x else el l k:=by
 unfold el
 by_cases h:k=i
 ·subst h
  have:k.toNat<l.length:=by omega
  simp[this]
 ·rw[if_neg h]
  have:i.toNat≠k.toNat:=by omega
  simp[List.getD_eq_getElem?_getD,List.getElem?_set_ne this]
def sw (l:List α)(i j:Int):List α:=(l.set i.toNat (el l j)).set j.toNat (el l i)
theorem sw_len (l:List α)(i j:Int):(sw l i j).length=l.length:=by simp[sw]
theorem Bb {l:List α}{i j k:Int}(hi:0≤i)(hi':i<l.length)(hj:0≤j)(hj':j<l.length)(hk:0≤k):
  at' (sw l i j) k=if k=j then at' l i else if k=i then at' l j else at' l k:=by
 unfold sw at'
 rw[el_set hj (by simpa using hj') hk]
 split
 ·rfl
 ·rw[el_set hi hi' hk]
  split<;>rfl
omit [Srtd α] in
theorem Bt (z:α):∀(l:List α) (j:Nat),j<l.length→List.Perm (l.set j z) (z::l.eraseIdx j)
 |[],j,h=>by simp at h
 |x::l,0,_=>by simp
 |x::l,j+1,h=>by
  simp only[List.set_cons_succ,List.eraseIdx_cons_succ]
  exact((Bt z l j (by simpa using h)).cons x).trans (List.Perm.swap _ _ _)
omit [Srtd α] in
theorem CH (l:List α)(j:Nat)(h:j<l.length):List.Perm l (l[j]::l.eraseIdx j):=by
 have:=Bt l[j] l j h
 rwa [List.set_getElem_self] at this
omit [Srtd α] in
theorem Di :∀(l:List α) (i j:Nat) (x y:α),l[i]? =some x→l[j]? =some y→List.Perm ((l.set i y).set j x) l
 |[],i,j,x,y,h,_=>by simp at h
 |z::l,0,0,x,y,h,h'=>by simp at h h';subst h;simp
 |z::l,0,j+1,x,y,h,h'=>by
  simp at h h'
  subst h
  simp only[List.set_cons_zero,List.set_cons_succ]
  obtain⟨hj,rfl⟩:=List.getElem?_eq_some_iff.1 h'
  have h1:=Bt z l j hj
  have h2:=CH l j hj
  exact((h1.cons _).trans (List.Perm.swap _ _ _)).trans (h2.symm.cons z)
 |z::l,i+1,0,x,y,h,h'=>by
  simp at h h'
  subst h'
  simp only[List.set_cons_zero,List.set_cons_succ]
  obtain⟨hj,rfl⟩:=List.getElem?_eq_some_iff.1 h
  have h1:=Bt z l i hj
  have h2:=CH l i hj
  exact((h1.cons _).trans (List.Perm.swap _ _ _)).trans (h2.symm.cons z)
 |z::l,i+1,j+1,x,y,h,h'=>by
  simp at h h'
  simp only[List.set_cons_succ]
  exact(Di l i j x y h h').cons z
theorem sw_perm {l:List α}{i j:Int}(hi:0≤i)(hi':i<l.length)(hj:0≤j)(hj':j<l.length):List.Perm (sw l i j) l:=by
 have h1:i.toNat<l.length:=by omega
 have h2:j.toNat<l.length:=by omega
 exact Di l i.toNat j.toNat _ _ (by simp[el,h1]) (by simp[el,h2])
structure Rg (a b:Int)(l l':List α):Prop where
 len:l'.length=l.length
 perm:List.Perm l' l
 out:∀k,0≤k→(k<a∨b≤k)→at' l' k=at' l k
 all:∀Q:Int→Prop,(∀k,a≤k→k<b→Q (at' l k))→∀k,a≤k→k<b→Q (at' l' k)
theorem Rg.refl (a b:Int)(l:List α):Rg a b l l:=⟨rfl,List.Perm.refl _,λ_ _ _=>rfl,λ_ h=>h⟩
theorem Rg.trans {a b:Int}{l l' l'':List α}(h:Rg a b l l')(h':Rg a b l' l''):Rg a b l l'':=
 ⟨h'.len.trans h.len,h'.perm.trans h.perm,λk h0 hk=>(h'.out k h0 hk).trans (h.out k h0 hk),λQ hQ=>h'.all Q (h.all Q hQ)⟩
theorem Rg.swap {a b i j:Int}{l:List α}(ha:0≤a)(hb:b≤l.length)(hi:a≤i)(hi':i<b)(hj:a≤j)(hj':j<b):Rg a b l (sw l i j):=by
 refine⟨sw_len _ _ _,sw_perm (by omega) (by omega) (by omega) (by omega),λk h0 hk=> ?_,λQ hQ k h1 h2=> ?_⟩
 ·rw[Bb (by omega) (by omega) (by omega) (by omega) h0,if_neg (by omega),if_neg (by omega)]
 ·rw[Bb (by omega) (by omega) (by omega) (by omega) (by omega)]
  split
  ·exact hQ i hi hi'
  ·split
   ·exact hQ j hj hj'
   ·exact hQ k h1 h2
theorem Rg.widen {a b a' b':Int}{l l':List α}(h:Rg a b l l')(ha:a'≤a)(hb:b≤b')(h0:0≤a'):Rg a' b' l l':=by
 refine⟨h.len,h.perm,λk h0 hk=>h.out k h0 (by omega),λQ hQ k h1 h2=> ?_⟩
 by_cases hk:a≤k∧k<b
 ·exact h.all Q (λk h3 h4=>hQ k (by omega) (by omega)) k hk.1 hk.2
 ·rw[h.out k (by omega) (by omega)];exact hQ k h1 h2
def Srt (l:List α)(a b:Int):Prop:=∀i j,a≤i→i<j→j<b→at' l i≤at' l j
def Good (l:List α):Prop:=∀x∈l,Srtd.good x
theorem Rg.good {a b:Int}{l l':List α}(h:Rg a b l l')(hg:Good l):Good l':=λx hx=>hg x (h.perm.mem_iff.1 hx)
theorem Good.el {l:List α}(h:Good l){i:Int}(h0:0≤i)(h1:i<l.length):Srtd.good (el l i):=by
 unfold Gs.el
 have:i.toNat<l.length:=by omega
 rw[As this]
 exact h _ (List.getElem_mem this)
theorem Cj {l:List α}(h:Good l){i j:Int}(h0:0≤i)(h1:i<l.length)(h2:0≤j)(h3:j<l.length):∃v,Srtd.cmp (el l i) (el l j)=some v∧decide (v<0)=decide (at' l i<at' l j):=
 Srtd.law _ _ (h.el h0 h1) (h.el h2 h3)
theorem Bl {l:List α}{i j:Int}{x:α}(h0:0≤i)(h1:i<l.length):idx (l.set j.toNat x) i=some (el (l.set j.toNat x) i):=AQ h0 (by simpa using h1)
end Go.Sx.Gs

namespace Go.Sx.Gs
variable {α : Type} [Srtd α]
theorem DZ (l0:List α)(a b:Int)(ha:0≤a)(hab:a≤b)(hb:b≤l0.length)(hlen:l0.length≤1000000)(hG:Good l0):
  ∃l',DG.insertionSort Srtd.cmp l0 a b=some l'∧Rg a b l0 l'∧Srt l' a b:=by
 unfold DG.insertionSort
 rw[w64 (show-9223372036854775808≤a+1 by omega) (by omega)]
 refine AU (λs=>Rg a b l0 s.1∧Srt s.1 a s.2∧a+1≤s.2∧s.2≤b+1) (λs=>(b-s.2).toNat) (λr=>Rg a b l0 r∧Srt r a b) ?_ ?_ ?_
 ·rintro⟨l,i⟩ ⟨hR,hS,h1,h2⟩
  dsimp only at hR hS h1 h2 ⊢
  have hll:=hR.len
  by_cases hi:i<b
  ·simp only[hi,decide_true,cond_true]
   rw[w64 (show-9223372036854775808≤i+1 by omega) (by omega)]
   refine AU (λs=>Rg a b l0 s.1∧a≤s.2∧s.2≤i∧∀p q,a≤p→p<q→q≤i→q≠s.2→at' s.1 p≤at' s.1 q) (λs=>(s.2-a).toNat) (λr=>Rg a b l0 r∧Srt r a (i+1)) ?_ ?_ ?_
   ·rintro⟨m,j⟩ ⟨hR',g1,g2,hS'⟩
    dsimp only at hR' g1 g2 hS' ⊢
    have hml:=hR'.len
    rw[w64 (show-9223372036854775808≤j-1 by omega) (by omega)]
    by_cases hj:a<j
    ·have r1:idx m j=some (el m j):=AQ (by omega) (by omega)
     have r2:idx m (j-1)=some (el m (j-1)):=AQ (by omega) (by omega)
     have r3:∀x,idx (m.set j.toNat x) (j-1)=some (el (m.set j.toNat x) (j-1)):=λx=>Bl (by omega) (by omega)
     obtain⟨v,cv,hv⟩:=Cj (hR'.good hG) (i:=j) (j:=j-1) (by omega) (by omega) (by omega) (by omega)
     by_cases hlt:at' m j<at' m (j-1)
     ·refine⟨.inl (sw m j (j-1),j-1),?_,⟨hR'.trans (Rg.swap ha (by omega) (by omega) (by omega) (by omega) (by omega)),by dsimp only;omega,by dsimp only;omega,?_⟩,by dsimp only;omega⟩
      ·simp only[r1,r2,r3,hj,cv,hv,hlt,decide_true,cond_true,bs]
       rfl
      ·intro p q k1 k2 k3 k4
       dsimp only at k4 ⊢
       rw[Bb (by omega) (by omega) (by omega) (by omega) (by omega),Bb (by omega) (by omega) (by omega) (by omega) (by omega)]
       by_cases c1:q=j
       ·subst c1
        rw[if_neg (show¬q=q-1 by omega),if_pos rfl]
        by_cases c2:p=q-1
        ·rw[if_pos c2];omega
        ·rw[if_neg c2,if_neg (by omega)]
         exact hS' p (q-1) k1 (by omega) (by omega) (by omega)
       ·rw[if_neg (show¬q=j-1 by omega),if_neg c1]
        by_cases c2:p=j-1
        ·rw[if_pos c2]
         exact hS' j q (by omega) (by omega) k3 c1
        ·rw[if_neg c2]
         by_cases c3:p=j
         ·rw[if_pos c3]
          exact hS' (j-1) q (by omega) (by omega) k3 c1
         ·rw[if_neg c3]
          exact hS' p q k1 k2 k3 c1
     ·refine⟨.inr m,?_,hR',?_⟩
      ·simp only[r1,r2,hj,cv,hv,hlt,decide_true,decide_false,cond_true,cond_false,bs]
      ·intro p q k1 k2 k3
       by_cases c1:q=j
       ·subst c1
        by_cases c2:p=q-1
        ·subst c2;omega
        ·have:=hS' p (q-1) k1 (by omega) (by omega) (by omega)
         omega
       ·exact hS' p q k1 k2 (by omega) c1
    ·refine⟨.inr m,?_,hR',?_⟩
     ·simp only[hj,decide_false,cond_false,bs]
     ·intro p q k1 k2 k3
      exact hS' p q k1 k2 (by omega) (by omega)
   ·exact⟨hR,by dsimp only;omega,Int.le_refl _,λp q k1 k2 k3 k4=>hS p q k1 k2 (by dsimp only at k4 ⊢;omega)⟩
   ·rintro r ⟨hR',hS'⟩
    exact⟨.inl (r,i+1),rfl,⟨hR',hS',by dsimp only;omega,by dsimp only;omega⟩,by dsimp only;omega⟩
  ·refine⟨.inr l,by simp only[hi,decide_false,cond_false],hR,?_⟩
   intro p q k1 k2 k3
   exact hS p q k1 k2 (by omega)
 ·exact⟨Rg.refl _ _ _,λp q k1 k2 k3=>by dsimp only at k3;omega,by dsimp only;omega,by dsimp only;omega⟩
 ·rintro r hr
  exact⟨r,rfl,hr⟩
end Go.Sx.Gs

namespace Go.Sx.Gs
variable {α : Type} [Srtd α]
theorem D9 (l0:List α)(a b:Int)(ha:0≤a)(hab:a≤b)(hb:b≤l0.length)(hlen:l0.length≤1000000):
  ∃l',DG.reverseRange Srtd.cmp l0 a b=some l'∧Rg a b l0 l':=by
 unfold DG.reverseRange
 rw[w64 (show-9223372036854775808≤b-1 by omega) (by omega)]
 refine AU (λs=>Rg a b l0 s.1∧a≤s.2.1∧s.2.1≤b∧s.2.2<b∧a-1≤s.2.2) (λs=>(s.2.2-s.2.1).toNat) (λr=>Rg a b l0 r) ?_ ?_ ?_
 ·rintro⟨l,i,j⟩ ⟨hR,h1,h2,h3,h4⟩
  dsimp only at hR h1 h2 h3 h4 ⊢
  have hll:=hR.len
  by_cases hi:i<j
  ·have r1:idx l i=some (el l i):=AQ (by omega) (by omega)
   have r2:idx l j=some (el l j):=AQ (by omega) (by omega)
   have r3:∀x,idx (l.set i.toNat x) j=some (el (l.set i.toNat x) j):=λx=>Bl (by omega) (by omega)
   rw[w64 (show-9223372036854775808≤i+1 by omega) (by omega),w64 (show-9223372036854775808≤j-1 by omega) (by omega)]
   refine⟨.inl (sw l i j,i+1,j-1),?_,⟨hR.trans (Rg.swap ha (by omega) (by omega) (by omega) (by omega) (by omega)),by dsimp only;omega,by dsimp only;omega,by dsimp only;omega,by dsimp only;omega⟩,by dsimp only;omega⟩
   simp only[r1,r2,r3,hi,decide_true,cond_true,bs]
   rfl
  ·exact⟨.inr l,by simp only[hi,decide_false,cond_false],hR⟩
 ·exact⟨Rg.refl _ _ _,by dsimp only;omega,by dsimp only;omega,by dsimp only;omega,by dsimp only;omega⟩
 ·rintro r hr
  exact⟨r,rfl,hr⟩
theorem scanUp {β:Type}{k:Int→Option β}{Q:β→Prop}(l:List α)(hG:Good l)(a hi i0:Int)(ha:0≤a)(ha':a<l.length)(h0:0≤i0)(h1:i0≤hi+1)(h2:hi<l.length)(hlen:l.length≤1000000)
  (hk:∀i,i0≤i→i≤hi+1→(∀q,i0≤q→q<i→at' l q<at' l a)→(i≤hi→¬at' l i<at' l a)→∃y,k i=some y∧Q y):
  ∃y,(Ao (σ:=Int) (ρ:=(Int)) (fun(x:Int)=>(cond (decide (x≤hi)) ((idx l x).bind λe=>(idx l a).bind λe'=>(Srtd.cmp e e').bind λy=>some (decide (y<0))) (some false)).bind λb=>cond b (some (.inl (IntKind.i64.wrap (x+1)))) (some (.inr x))) i0).bind k=some y∧Q y:=by
 refine AU (λi=>i0≤i∧i≤hi+1∧∀q,i0≤q→q<i→at' l q<at' l a) (λi=>(hi+1-i).toNat) (λi=>i0≤i∧i≤hi+1∧(∀q,i0≤q→q<i→at' l q<at' l a)∧(i≤hi→¬at' l i<at' l a)) ?_ ?_ ?_
 ·rintro i ⟨g1,g2,g3⟩
  by_cases hi':i≤hi
  ·have r1:idx l i=some (el l i):=AQ (by omega) (by omega)
   have r2:idx l a=some (el l a):=AQ (by omega) (by omega)
   obtain⟨v,cv,hv⟩:=Cj hG (i:=i) (j:=a) (by omega) (by omega) (by omega) (by omega)
   by_cases hlt:at' l i<at' l a
   ·refine⟨.inl (i+1),?_,⟨by omega,by omega,λq q1 q2=> ?_⟩,by dsimp only;omega⟩
    ·simp only[r1,r2,hi',cv,hv,hlt,decide_true,cond_true,bs]
     rw[w64 (by omega) (by omega)]
    ·by_cases e:q=i
     ·rw[e];exact hlt
     ·exact g3 q q1 (by omega)
   ·exact⟨.inr i,by simp only[r1,r2,hi',cv,hv,hlt,decide_true,decide_false,cond_true,cond_false,bs],g1,g2,g3,λ_=>hlt⟩
  ·exact⟨.inr i,by simp only[hi',decide_false,cond_false,bs],g1,g2,g3,λh=>absurd h hi'⟩
 ·exact⟨Int.le_refl _,h1,λq q1 q2=>by omega⟩
 ·rintro i ⟨g1,g2,g3,g4⟩
  exact hk i g1 g2 g3 g4
theorem scanDown {β:Type}{k:Int→Option β}{Q:β→Prop}(l:List α)(hG:Good l)(a lo j0:Int)(ha:0≤a)(ha':a<l.length)(h0:0≤lo)(h1:lo≤j0+1)(h2:j0<l.length)(hlen:l.length≤1000000)
  (hk:∀j,lo≤j+1→j≤j0→(∀q,j<q→q≤j0→¬at' l q<at' l a)→(lo≤j→at' l j<at' l a)→∃y,k j=some y∧Q y):
  ∃y,(Ao (σ:=Int) (ρ:=(Int)) (fun(x:Int)=>(cond (decide (lo≤x)) ((idx l x).bind λe=>(idx l a).bind λe'=>(Srtd.cmp e e').bind λy=>some (!(decide (y<0)))) (some false)).bind λb=>cond b (some (.inl (IntKind.i64.wrap (x-1)))) (some (.inr x))) j0).bind k=some y∧Q y:=by
 refine AU (λj=>lo≤j+1∧j≤j0∧∀q,j<q→q≤j0→¬at' l q<at' l a) (λj=>(j+1-lo).toNat) (λj=>lo≤j+1∧j≤j0∧(∀q,j<q→q≤j0→¬at' l q<at' l a)∧(lo≤j→at' l j<at' l a)) ?_ ?_ ?_
 ·rintro j ⟨g1,g2,g3⟩
  by_cases hi':lo≤j
  ·have r1:idx l j=some (el l j):=AQ (by omega) (by omega)
   have r2:idx l a=some (el l a):=AQ (by omega) (by omega)
   obtain⟨v,cv,hv⟩:=Cj hG (i:=j) (j:=a) (by omega) (by omega) (by omega) (by omega)
   by_cases hlt:at' l j<at' l a
   ·exact⟨.inr j,by simp only[r1,r2,hi',cv,hv,hlt,decide_true,Bool.not_true,cond_true,cond_false,bs],g1,g2,g3,λ_=>hlt⟩
   ·refine⟨.inl (j-1),?_,⟨by omega,by omega,λq q1 q2=> ?_⟩,by dsimp only;omega⟩
    ·simp only[r1,r2,hi',cv,hv,hlt,decide_true,decide_false,Bool.not_false,cond_true,bs]
     rw[w64 (by omega) (by omega)]
    ·by_cases e:q=j
     ·rw[e];exact hlt
     ·exact g3 q (by omega) q2
  ·exact⟨.inr j,by simp only[hi',decide_false,cond_false,bs],g1,g2,g3,λh=>absurd h hi'⟩
 ·exact⟨h1,Int.le_refl _,λq q1 q2=>by omega⟩
 ·rintro j ⟨g1,g2,g3,g4⟩
  exact hk j g1 g2 g3 g4
structure Parted (l0 l':List α)(a b mid:Int):Prop where
 rg:Rg a b l0 l'
 lo:a≤mid
 hi:mid<b
 left:∀k,a≤k→k<mid→at' l' k≤at' l' mid
 right:∀k,mid<k→k<b→at' l' mid≤at' l' k
theorem partition_spec (l0:List α)(a b p:Int)(ha:0≤a)(hb:b≤l0.length)(hlen:l0.length≤1000000)(hG:Good l0)(hp:a≤p)(hp':p<b):
  ∃y,DG.partition Srtd.cmp l0 a b p=some y∧Parted l0 y.2.2 a b y.1:=by
 unfold DG.partition
 have r1:idx l0 p=some (el l0 p):=AQ (by omega) (by omega)
 have r2:idx l0 a=some (el l0 a):=AQ (by omega) (by omega)
 have r3:∀x,idx (l0.set a.toNat x) p=some (el (l0.set a.toNat x) p):=λx=>Bl (by omega) (by omega)
 simp only[r1,r2,r3,bs]
 rw[show (l0.set a.toNat (el l0 p)).set p.toNat (el l0 a)=sw l0 a p from rfl]
 have hR0:Rg a b l0 (sw l0 a p):=Rg.swap ha hb (by omega) (by omega) hp hp'
 generalize sw l0 a p=m0 at hR0 ⊢
 have hm0:=hR0.len
 rw[w64 (show-9223372036854775808≤b-1 by omega) (by omega),w64 (show-9223372036854775808≤a+1 by omega) (by omega)]
 refine scanUp m0 (hR0.good hG) a (b-1) (a+1) ha (by omega) (by omega) (by omega) (by omega) (by omega) (λi i1 i2 i3 i4=> ?_)
 refine scanDown m0 (hR0.good hG) a i (b-1) ha (by omega) (by omega) (by omega) (by omega) (by omega) (λj j1 j2 j3 j4=> ?_)
 have q1:idx m0 a=some (el m0 a):=AQ (by omega) (by omega)
 have q2:idx m0 j=some (el m0 j):=AQ (by omega) (by omega)
 by_cases hij:j<i
 ·have q3:∀x,idx (m0.set j.toNat x) a=some (el (m0.set j.toNat x) a):=λx=>Bl (by omega) (by omega)
  refine⟨(j,true,sw m0 j a),?_,⟨hR0.trans (Rg.swap ha (by omega) (by omega) (by omega) (by omega) (by omega)),by dsimp only;omega,by dsimp only;omega,λk k1 k2=> ?_,λk k1 k2=> ?_⟩⟩
  ·simp only[q1,q2,q3,hij,decide_true,cond_true,bs]
   rfl
  ·dsimp only at k1 k2 ⊢
   rw[Bb (by omega) (by omega) (by omega) (by omega) (by omega),Bb (by omega) (by omega) (by omega) (by omega) (by omega)]
   rw[if_neg (show¬j=a by omega),if_pos rfl]
   by_cases e:k=a
   ·rw[if_pos e]
    have:=i3 j (by omega) (by omega);omega
   ·rw[if_neg e,if_neg (by omega)]
    have:=i3 k (by omega) (by omega);omega
  ·dsimp only at k1 k2 ⊢
   rw[Bb (by omega) (by omega) (by omega) (by omega) (by omega),Bb (by omega) (by omega) (by omega) (by omega) (by omega)]
   rw[if_neg (show¬k=a by omega),if_neg (show¬k=j by omega)]
   have hk:=j3 k (by omega) (by omega)
   by_cases e:j=a
   ·rw[if_pos e];subst e;omega
   ·rw[if_neg e,if_pos rfl];omega
 ·have q4:idx m0 i=some (el m0 i):=AQ (by omega) (by omega)
  have q5:∀x,idx (m0.set i.toNat x) j=some (el (m0.set i.toNat x) j):=λx=>Bl (by omega) (by omega)
  simp only[q1,q2,q4,q5,hij,decide_false,cond_false,bs]
  rw[show (m0.set i.toNat (el m0 j)).set j.toNat (el m0 i)=sw m0 i j from rfl]
  have hia:=i4 (by omega)
  have hja:=j4 (by omega)
  have hne:i<j:=by
   rcases Int.lt_or_eq_of_le (show i≤j by omega) with h|h
   ·exact h
   ·subst h;exact absurd hja hia
  have hR1:Rg a b l0 (sw m0 i j):=hR0.trans (Rg.swap ha (by omega) (by omega) (by omega) (by omega) (by omega))
  have ea:at' (sw m0 i j) a=at' m0 a:=by rw[Bb (by omega) (by omega) (by omega) (by omega) (by omega),if_neg (by omega),if_neg (by omega)]
  have hlo:∀q,a+1≤q→q<i+1→at' (sw m0 i j) q<at' (sw m0 i j) a:=λq h1 h2=>by
   rw[ea,Bb (by omega) (by omega) (by omega) (by omega) (by omega),if_neg (by omega)]
   by_cases e:q=i
   ·rw[if_pos e];exact hja
   ·rw[if_neg e];exact i3 q h1 (by omega)
  have hhi:∀q,j-1<q→q<b→¬at' (sw m0 i j) q<at' (sw m0 i j) a:=λq h1 h2=>by
   rw[ea,Bb (by omega) (by omega) (by omega) (by omega) (by omega)]
   by_cases e:q=j
   ·rw[if_pos e];exact hia
   ·rw[if_neg e,if_neg (by omega)];exact j3 q (by omega) (by omega)
  rw[w64 (show-9223372036854775808≤i+1 by omega) (by omega),w64 (show-9223372036854775808≤j-1 by omega) (by omega)]
  generalize sw m0 i j=m1 at hR1 hlo hhi ⊢
  refine AU (λs=>Rg a b l0 s.1∧a+1≤s.2.1∧s.2.1≤s.2.2+1∧s.2.2<b∧(∀q,a+1≤q→q<s.2.1→at' s.1 q<at' s.1 a)∧(∀q,s.2.2<q→q<b→¬at' s.1 q<at' s.1 a)) (λs=>(s.2.2+1-s.2.1).toNat)
   (λs=>Rg a b l0 s.1∧a≤s.2∧s.2<b∧(∀q,a+1≤q→q≤s.2→at' s.1 q<at' s.1 a)∧(∀q,s.2<q→q<b→¬at' s.1 q<at' s.1 a)) ?_ ?_ ?_
  ·rintro⟨m,u,v⟩ ⟨hR,g1,g2,g3,g4,g5⟩
   dsimp only at hR g1 g2 g3 g4 g5 ⊢
   have hml:=hR.len
   refine scanUp m (hR.good hG) a v u ha (by omega) (by omega) (by omega) (by omega) (by omega) (λi i1 i2 i3 i4=> ?_)
   refine scanDown m (hR.good hG) a i v ha (by omega) (by omega) (by omega) (by omega) (by omega) (λj j1 j2 j3 j4=> ?_)
   have f1:∀q,a+1≤q→q<i→at' m q<at' m a:=λq h1 h2=>by
    by_cases h:q<u
    ·exact g4 q h1 h
    ·exact i3 q (by omega) h2
   have f2:∀q,j<q→q<b→¬at' m q<at' m a:=λq h1 h2=>by
    by_cases h:q≤v
    ·exact j3 q h1 h
    ·exact g5 q (by omega) h2
   by_cases hij:j<i
   ·exact⟨.inr (m,j),by simp only[hij,decide_true,cond_true],hR,by dsimp only;omega,by dsimp only;omega,λq h1 h2=>f1 q h1 (by dsimp only at h2;omega),f2⟩
   ·have t1:idx m i=some (el m i):=AQ (by omega) (by omega)
    have t2:idx m j=some (el m j):=AQ (by omega) (by omega)
    have t3:∀x,idx (m.set i.toNat x) j=some (el (m.set i.toNat x) j):=λx=>Bl (by omega) (by omega)
    have hia:=i4 (by omega)
    have hja:=j4 (by omega)
    have hne:i<j:=by
     rcases Int.lt_or_eq_of_le (show i≤j by omega) with h|h
     ·exact h
     ·subst h;exact absurd hja hia
    have ea:at' (sw m i j) a=at' m a:=by rw[Bb (by omega) (by omega) (by omega) (by omega) (by omega),if_neg (by omega),if_neg (by omega)]
    rw[w64 (show-9223372036854775808≤i+1 by omega) (by omega),w64 (show-9223372036854775808≤j-1 by omega) (by omega)]
    refine⟨.inl (sw m i j,i+1,j-1),?_,⟨hR.trans (Rg.swap ha (by omega) (by omega) (by omega) (by omega) (by omega)),by dsimp only;omega,by dsimp only;omega,by dsimp only;omega,λq h1 h2=> ?_,λq h1 h2=> ?_⟩,by dsimp only;omega⟩
    ·simp only[t1,t2,t3,hij,decide_false,cond_false,bs]
     rfl
    ·dsimp only at h2 ⊢
     rw[ea,Bb (by omega) (by omega) (by omega) (by omega) (by omega),if_neg (by omega)]
     by_cases e:q=i
     ·rw[if_pos e];exact hja
     ·rw[if_neg e];exact f1 q h1 (by omega)
    ·dsimp only at h1 ⊢
     rw[ea,Bb (by omega) (by omega) (by omega) (by omega) (by omega)]
     by_cases e:q=j
     ·rw[if_pos e];exact hia
     ·rw[if_neg e,if_neg (by omega)];exact f2 q (by omega) h2
  ·exact⟨hR1,by dsimp only;omega,by dsimp only;omega,by dsimp only;omega,hlo,hhi⟩
  ·rintro⟨m,v⟩ ⟨hR,g1,g2,g3,g4⟩
   dsimp only at hR g1 g2 g3 g4 ⊢
   have hml:=hR.len
   have t1:idx m a=some (el m a):=AQ (by omega) (by omega)
   have t2:idx m v=some (el m v):=AQ (by omega) (by omega)
   have t3:∀x,idx (m.set v.toNat x) a=some (el (m.set v.toNat x) a):=λx=>Bl (by omega) (by omega)
   refine⟨(v,false,sw m v a),?_,⟨hR.trans (Rg.swap ha (by omega) (by omega) (by omega) (by omega) (by omega)),g1,g2,λk k1 k2=> ?_,λk k1 k2=> ?_⟩⟩
   ·simp only[t1,t2,t3,bs]
    rfl
   ·dsimp only at k1 k2 ⊢
    rw[Bb (by omega) (by omega) (by omega) (by omega) (by omega),Bb (by omega) (by omega) (by omega) (by omega) (by omega)]
    rw[if_neg (show¬v=a by omega),if_pos rfl]
    by_cases e:k=a
    ·rw[if_pos e]
     have:=g3 v (by omega) (by omega);omega
    ·rw[if_neg e,if_neg (by omega)]
     have:=g3 k (by omega) (by omega);omega
   ·dsimp only at k1 k2 ⊢
    rw[Bb (by omega) (by omega) (by omega) (by omega) (by omega),Bb (by omega) (by omega) (by omega) (by omega) (by omega)]
    rw[if_neg (show¬k=a by omega),if_neg (show¬k=v by omega)]
    have hk:=g4 k (by omega) (by omega)
    by_cases e:v=a
    ·rw[if_pos e];subst e;omega
    ·rw[if_neg e,if_pos rfl];omega
end Go.Sx.Gs

namespace Go.Sx.Gs
variable {α : Type} [Srtd α]
theorem scanUp2 {β:Type}{k:Int→Option β}{Q:β→Prop}(l:List α)(hG:Good l)(a hi i0:Int)(ha:0≤a)(ha':a<l.length)(h0:0≤i0)(h1:i0≤hi+1)(h2:hi<l.length)(hlen:l.length≤1000000)
  (hk:∀i,i0≤i→i≤hi+1→(∀q,i0≤q→q<i→¬at' l a<at' l q)→(i≤hi→at' l a<at' l i)→∃y,k i=some y∧Q y):
  ∃y,(Ao (σ:=Int) (ρ:=(Int)) (fun(x:Int)=>(cond (decide (x≤hi)) ((idx l a).bind λe=>(idx l x).bind λe'=>(Srtd.cmp e e').bind λy=>some (!(decide (y<0)))) (some false)).bind λb=>cond b (some (.inl (IntKind.i64.wrap (x+1)))) (some (.inr x))) i0).bind k=some y∧Q y:=by
 refine AU (λi=>i0≤i∧i≤hi+1∧∀q,i0≤q→q<i→¬at' l a<at' l q) (λi=>(hi+1-i).toNat) (λi=>i0≤i∧i≤hi+1∧(∀q,i0≤q→q<i→¬at' l a<at' l q)∧(i≤hi→at' l a<at' l i)) ?_ ?_ ?_
 ·rintro i ⟨g1,g2,g3⟩
  by_cases hi':i≤hi
  ·have r1:idx l i=some (el l i):=AQ (by omega) (by omega)
   have r2:idx l a=some (el l a):=AQ (by omega) (by omega)
   obtain⟨v,cv,hv⟩:=Cj hG (i:=a) (j:=i) (by omega) (by omega) (by omega) (by omega)
   by_cases hlt:at' l a<at' l i
   ·exact⟨.inr i,by simp only[r1,r2,hi',cv,hv,hlt,decide_true,Bool.not_true,cond_true,cond_false,bs],g1,g2,g3,λ_=>hlt⟩
   ·refine⟨.inl (i+1),?_,⟨by omega,by omega,λq q1 q2=> ?_⟩,by dsimp only;omega⟩
    ·simp only[r1,r2,hi',cv,hv,hlt,decide_true,decide_false,Bool.not_false,cond_true,bs]
     rw[w64 (by omega) (by omega)]
    ·by_cases e:q=i
     ·rw[e];exact hlt
     ·exact g3 q q1 (by omega)
  ·exact⟨.inr i,by simp only[hi',decide_false,cond_false,bs],g1,g2,g3,λh=>absurd h hi'⟩
 ·exact⟨Int.le_refl _,h1,λq q1 q2=>by omega⟩
 ·rintro i ⟨g1,g2,g3,g4⟩
  exact hk i g1 g2 g3 g4
theorem scanDown2 {β:Type}{k:Int→Option β}{Q:β→Prop}(l:List α)(hG:Good l)(a lo j0:Int)(ha:0≤a)(ha':a<l.length)(h0:0≤lo)(h1:lo≤j0+1)(h2:j0<l.length)(hlen:l.length≤1000000)
  (hk:∀j,lo≤j+1→j≤j0→(∀q,j<q→q≤j0→at' l a<at' l q)→(lo≤j→¬at' l a<at' l j)→∃y,k j=some y∧Q y):
  ∃y,(Ao (σ:=Int) (ρ:=(Int)) (fun(x:Int)=>(cond (decide (lo≤x)) ((idx l a).bind λe=>(idx l x).bind λe'=>(Srtd.cmp e e').bind λy=>some (decide (y<0))) (some false)).bind λb=>cond b (some (.inl (IntKind.i64.wrap (x-1)))) (some (.inr x))) j0).bind k=some y∧Q y:=by
 refine AU (λj=>lo≤j+1∧j≤j0∧∀q,j<q→q≤j0→at' l a<at' l q) (λj=>(j+1-lo).toNat) (λj=>lo≤j+1∧j≤j0∧(∀q,j<q→q≤j0→at' l a<at' l q)∧(lo≤j→¬at' l a<at' l j)) ?_ ?_ ?_
 ·rintro j ⟨g1,g2,g3⟩
  by_cases hi':lo≤j
  ·have r1:idx l j=some (el l j):=AQ (by omega) (by omega)
   have r2:idx l a=some (el l a):=AQ (by omega) (by omega)
   obtain⟨v,cv,hv⟩:=Cj hG (i:=a) (j:=j) (by omega) (by omega) (by omega) (by omega)
   by_cases hlt:at' l a<at' l j
   ·refine⟨.inl (j-1),?_,⟨by omega,by omega,λq q1 q2=> ?_⟩,by dsimp only;omega⟩
    ·simp only[r1,r2,hi',cv,hv,hlt,decide_true,cond_true,bs]
     rw[w64 (by omega) (by omega)]
    ·by_cases e:q=j
     ·rw[e];exact hlt
     ·exact g3 q (by omega) q2
   ·exact⟨.inr j,by simp only[r1,r2,hi',cv,hv,hlt,decide_true,decide_false,cond_true,cond_false,bs],g1,g2,g3,λ_=>hlt⟩
  ·exact⟨.inr j,by simp only[hi',decide_false,cond_false,bs],g1,g2,g3,λh=>absurd h hi'⟩
 ·exact⟨h1,Int.le_refl _,λq q1 q2=>by omega⟩
 ·rintro j ⟨g1,g2,g3,g4⟩
  exact hk j g1 g2 g3 g4
theorem DU (l0:List α)(a b p:Int)(ha:0≤a)(hb:b≤l0.length)(hlen:l0.length≤1000000)(hG:Good l0)(hp:a≤p)(hp':p<b):
  ∃y,DG.partitionEqual Srtd.cmp l0 a b p=some y∧Rg a b l0 y.2∧a<y.1∧y.1≤b∧(∀k,a≤k→k<y.1→at' y.2 k≤at' l0 p)∧(∀k,y.1≤k→k<b→at' l0 p<at' y.2 k):=by
 unfold DG.partitionEqual
 have r1:idx l0 p=some (el l0 p):=AQ (by omega) (by omega)
 have r2:idx l0 a=some (el l0 a):=AQ (by omega) (by omega)
 have r3:∀x,idx (l0.set a.toNat x) p=some (el (l0.set a.toNat x) p):=λx=>Bl (by omega) (by omega)
 simp only[r1,r2,r3,bs]
 rw[show (l0.set a.toNat (el l0 p)).set p.toNat (el l0 a)=sw l0 a p from rfl]
 have hR0:Rg a b l0 (sw l0 a p):=Rg.swap ha hb (by omega) (by omega) hp hp'
 have ep:at' (sw l0 a p) a=at' l0 p:=by
  rw[Bb (by omega) (by omega) (by omega) (by omega) (by omega)]
  by_cases e:a=p
  ·rw[if_pos e,e]
  ·rw[if_neg e,if_pos rfl]
 generalize sw l0 a p=m0 at hR0 ep ⊢
 rw[w64 (show-9223372036854775808≤b-1 by omega) (by omega),w64 (show-9223372036854775808≤a+1 by omega) (by omega)]
 refine AU (λs=>Rg a b l0 s.1∧a+1≤s.2.1∧s.2.1≤s.2.2+1∧s.2.2<b∧at' s.1 a=at' l0 p∧(∀q,a+1≤q→q<s.2.1→¬at' s.1 a<at' s.1 q)∧(∀q,s.2.2<q→q<b→at' s.1 a<at' s.1 q)) (λs=>(s.2.2+1-s.2.1).toNat)
  (λs=>Rg a b l0 s.1∧a+1≤s.2∧s.2≤b∧at' s.1 a=at' l0 p∧(∀q,a+1≤q→q<s.2→¬at' s.1 a<at' s.1 q)∧(∀q,s.2≤q→q<b→at' s.1 a<at' s.1 q)) ?_ ?_ ?_
 ·rintro⟨m,u,v⟩ ⟨hR,g1,g2,g3,g6,g4,g5⟩
  dsimp only at hR g1 g2 g3 g4 g5 g6 ⊢
  have hml:=hR.len
  refine scanUp2 m (hR.good hG) a v u ha (by omega) (by omega) (by omega) (by omega) (by omega) (λi i1 i2 i3 i4=> ?_)
  refine scanDown2 m (hR.good hG) a i v ha (by omega) (by omega) (by omega) (by omega) (by omega) (λj j1 j2 j3 j4=> ?_)
  have f1:∀q,a+1≤q→q<i→¬at' m a<at' m q:=λq h1 h2=>by
   by_cases h:q<u
   ·exact g4 q h1 h
   ·exact i3 q (by omega) h2
  have f2:∀q,j<q→q<b→at' m a<at' m q:=λq h1 h2=>by
   by_cases h:q≤v
   ·exact j3 q h1 h
   ·exact g5 q (by omega) h2
  by_cases hij:j<i
  ·exact⟨.inr (m,i),by simp only[hij,decide_true,cond_true],hR,by dsimp only;omega,by dsimp only;omega,g6,f1,λq h1 h2=>f2 q (by dsimp only at h1;omega) h2⟩
  ·have t1:idx m i=some (el m i):=AQ (by omega) (by omega)
   have t2:idx m j=some (el m j):=AQ (by omega) (by omega)
   have t3:∀x,idx (m.set i.toNat x) j=some (el (m.set i.toNat x) j):=λx=>Bl (by omega) (by omega)
   have hia:=i4 (by omega)
   have hja:=j4 (by omega)
   have hne:i<j:=by
    rcases Int.lt_or_eq_of_le (show i≤j by omega) with h|h
    ·exact h
    ·subst h;exact absurd hia hja
   have ea:at' (sw m i j) a=at' m a:=by rw[Bb (by omega) (by omega) (by omega) (by omega) (by omega),if_neg (by omega),if_neg (by omega)]
   rw[w64 (show-9223372036854775808≤i+1 by omega) (by omega),w64 (show-9223372036854775808≤j-1 by omega) (by omega)]
   refine⟨.inl (sw m i j,i+1,j-1),?_,⟨hR.trans (Rg.swap ha (by omega) (by omega) (by omega) (by omega) (by omega)),by dsimp only;omega,by dsimp only;omega,by dsimp only;omega,by dsimp only;rw[ea];exact g6,λq h1 h2=> ?_,λq h1 h2=> ?_⟩,by dsimp only;omega⟩
   ·simp only[t1,t2,t3,hij,decide_false,cond_false,bs]
    rfl
   ·dsimp only at h2 ⊢
    rw[ea,Bb (by omega) (by omega) (by omega) (by omega) (by omega),if_neg (by omega)]
    by_cases e:q=i
    ·rw[if_pos e];exact hja
    ·rw[if_neg e];exact f1 q h1 (by omega)
   ·dsimp only at h1 ⊢
    rw[ea,Bb (by omega) (by omega) (by omega) (by omega) (by omega)]
    by_cases e:q=j
    ·rw[if_pos e];exact hia
    ·rw[if_neg e,if_neg (by omega)];exact f2 q (by omega) h2
 ·exact⟨hR0,by dsimp only;omega,by dsimp only;omega,by dsimp only;omega,ep,λq h1 h2=>by dsimp only at h2;omega,λq h1 h2=>by dsimp only at h1;omega⟩
 ·rintro⟨m,v⟩ ⟨hR,g1,g2,g3,g4,g5⟩
  refine⟨(v,m),rfl,hR,by dsimp only at*;omega,g2,λk k1 k2=> ?_,λk k1 k2=> ?_⟩
  ·dsimp only at*
   by_cases e:k=a
   ·rw[e,g3];exact Int.le_refl _
   ·have:=g4 k (by omega) k2;omega
  ·dsimp only at*
   have:=g5 k k1 k2;omega
theorem Dv (l:List α)(hG:Good l)(a b s:Int)(ha:0≤a)(ha':a<l.length)(hb:0≤b)(hb':b<l.length):
  ∃y,DG.order2 Srtd.cmp l a b s=some y∧y.2.2.1=l∧((y.1=a∧y.2.1=b)∨(y.1=b∧y.2.1=a)):=by
 have r1:idx l a=some (el l a):=AQ ha ha'
 have r2:idx l b=some (el l b):=AQ hb hb'
 unfold DG.order2
 obtain⟨v,cv,hv⟩:=Cj hG (i:=b) (j:=a) hb hb' ha ha'
 simp only[r1,r2,cv,hv,bs]
 by_cases h:at' l b<at' l a
 ·simp only[h,decide_true,cond_true];exact⟨_,rfl,rfl,.inr ⟨rfl,rfl⟩⟩
 ·simp only[h,decide_false,cond_false];exact⟨_,rfl,rfl,.inl ⟨rfl,rfl⟩⟩
theorem Eb (l:List α)(hG:Good l)(a b c s:Int)(ha:0≤a)(ha':a<l.length)(hb:0≤b)(hb':b<l.length)(hc:0≤c)(hc':c<l.length):
  ∃y,DG.median Srtd.cmp l a b c s=some y∧y.2.1=l∧(y.1=a∨y.1=b∨y.1=c):=by
 unfold DG.median
 obtain⟨y1,h1,e1,c1⟩:=Dv l hG a b s ha ha' hb hb'
 rw[h1,bs,e1]
 have b1:0≤y1.2.1∧y1.2.1<l.length∧0≤y1.1∧y1.1<l.length:=by rcases c1 with⟨c,d⟩|⟨c,d⟩<;>rw[c,d]<;>exact⟨by assumption,by assumption,by assumption,by assumption⟩
 obtain⟨y2,h2,e2,c2⟩:=Dv l hG y1.2.1 c y1.2.2.2 b1.1 b1.2.1 hc hc'
 rw[h2,bs,e2]
 have b2:0≤y2.1∧y2.1<l.length:=by rcases c2 with⟨c,d⟩|⟨c,d⟩<;>rw[c]<;>exact⟨by omega,by omega⟩
 obtain⟨y3,h3,e3,c3⟩:=Dv l hG y1.1 y2.1 y2.2.2.2 b1.2.2.1 b1.2.2.2 b2.1 b2.2
 rw[h3,bs]
 refine⟨_,rfl,e3,?_⟩
 dsimp only
 omega
theorem CR (l:List α)(hG:Good l)(p s:Int)(h0:1≤p)(h1:p+1<l.length)(hlen:l.length≤1000000):
  ∃y,DG.medianAdjacent Srtd.cmp l p s=some y∧y.2.1=l∧p-1≤y.1∧y.1≤p+1:=by
 unfold DG.medianAdjacent
 rw[w64 (show-9223372036854775808≤p-1 by omega) (by omega),w64 (show-9223372036854775808≤p+1 by omega) (by omega)]
 obtain⟨y,h,e,c⟩:=Eb l hG (p-1) p (p+1) s (by omega) (by omega) (by omega) (by omega) (by omega) (by omega)
 rw[h,bs]
 exact⟨_,rfl,e,by dsimp only;omega,by dsimp only;omega⟩
theorem Em (l:List α)(hG:Good l)(a b:Int)(ha:0≤a)(hb:b≤l.length)(h8:8≤b-a)(hlen:l.length≤1000000):
  ∃y,DG.choosePivot Srtd.cmp l a b=some y∧y.2.2=l∧a≤y.1∧y.1<b:=by
 unfold DG.choosePivot
 rw[w64 (show-9223372036854775808≤b-a by omega) (by omega)]
 have e4:(b-a).tdiv 4=(b-a)/4:=Int.tdiv_eq_ediv_of_nonneg (by omega)
 rw[e4,w64 (show-9223372036854775808≤(b-a)/4 by omega) (by omega)]
 rw[w64 (show-9223372036854775808≤(b-a)/4*1 by omega) (by omega),w64 (show-9223372036854775808≤(b-a)/4*2 by omega) (by omega),w64 (show-9223372036854775808≤(b-a)/4*3 by omega) (by omega)]
 rw[w64 (show-9223372036854775808≤a+(b-a)/4*1 by omega) (by omega),w64 (show-9223372036854775808≤a+(b-a)/4*2 by omega) (by omega),w64 (show-9223372036854775808≤a+(b-a)/4*3 by omega) (by omega)]
 simp only[h8,decide_true,cond_true]
 refine Ct (λq:List α×Int×Int×Int×Int=>q.1=l∧(a≤q.2.1∧q.2.1<b)∧(a≤q.2.2.1∧q.2.2.1<b)∧(a≤q.2.2.2.1∧q.2.2.2.1<b)) ?_ ?_
 ·by_cases h50:50≤b-a
  ·simp only[h50,decide_true,cond_true]
   obtain⟨y1,h1,e1,c1⟩:=CR l hG (a+(b-a)/4*1) 0 (by omega) (by omega) hlen
   rw[h1,bs,e1]
   obtain⟨y2,h2,e2,c2⟩:=CR l hG (a+(b-a)/4*2) y1.2.2 (by omega) (by omega) hlen
   rw[h2,bs,e2]
   obtain⟨y3,h3,e3,c3⟩:=CR l hG (a+(b-a)/4*3) y2.2.2 (by omega) (by omega) hlen
   rw[h3,bs]
   exact⟨_,rfl,e3,⟨by dsimp only;omega,by dsimp only;omega⟩,⟨by dsimp only;omega,by dsimp only;omega⟩,⟨by dsimp only;omega,by dsimp only;omega⟩⟩
  ·simp only[h50,decide_false,cond_false]
   exact⟨_,rfl,rfl,⟨by dsimp only;omega,by dsimp only;omega⟩,⟨by dsimp only;omega,by dsimp only;omega⟩,⟨by dsimp only;omega,by dsimp only;omega⟩⟩
 ·rintro⟨q,i,j,k,sw⟩ ⟨rfl,g1,g2,g3⟩
  dsimp only at g1 g2 g3 hb hlen ⊢
  obtain⟨y,h1,e1,c1⟩:=Eb q hG i j k sw (by omega) (by omega) (by omega) (by omega) (by omega) (by omega)
  rw[h1,bs,e1]
  have hy:a≤y.1∧y.1<b:=by omega
  cases (y.2.2==0)
  ·cases (y.2.2==12)
   ·exact⟨_,rfl,rfl,hy⟩
   ·exact⟨_,rfl,rfl,hy⟩
  ·exact⟨_,rfl,rfl,hy⟩
end Go.Sx.Gs

namespace Go.Sx
def at' (l:LI)(i:Int):Int:=l.getD i.toNat 0
theorem at_set {l:LI}{i k x:Int}(h0:0≤i)(h1:i<l.length)(hk:0≤k):at' (l.set i.toNat x) k=if k=i then x else at' l k:=by
 unfold at'
 by_cases h:k=i
 ·subst h
  have:k.toNat<l.length:=by omega
  simp[this]
 ·rw[if_neg h]
  have:i.toNat≠k.toNat:=by omega
  simp[List.getD_eq_getElem?_getD,List.getElem?_set_ne this]
def sw (l:LI)(i j:Int):LI:=(l.set i.toNat (at' l j)).set j.toNat (at' l i)
theorem sw_len (l:LI)(i j:Int):(sw l i j).length=l.length:=by simp[sw]
theorem Bb {l:LI}{i j k:Int}(hi:0≤i)(hi':i<l.length)(hj:0≤j)(hj':j<l.length)(hk:0≤k):
  at' (sw l i j) k=if k=j then at' l i else if k=i then at' l j else at' l k:=by
 unfold sw
 rw[at_set hj (by simpa using hj') hk]
 split
 ·rfl
 ·rw[at_set hi hi' hk]
theorem Bt (z:Int):∀(l:LI) (j:Nat),j<l.length→List.Perm (l.set j z) (z::l.eraseIdx j)
 |[],j,h=>by simp at h
 |x::l,0,_=>by simp
 |x::l,j+1,h=>by
  simp only[List.set_cons_succ,List.eraseIdx_cons_succ]
  exact((Bt z l j (by simpa using h)).cons x).trans (List.Perm.swap _ _ _)
theorem CH (l:LI)(j:Nat)(h:j<l.length):List.Perm l (l[j]::l.eraseIdx j):=by
 have:=Bt l[j] l j h
 rwa [List.set_getElem_self] at this
theorem Di :∀(l:LI) (i j:Nat) (x y:Int),l[i]? =some x→l[j]? =some y→List.Perm ((l.set i y).set j x) l
 |[],i,j,x,y,h,_=>by simp at h
 |z::l,0,0,x,y,h,h'=>by simp at h h';subst h;simp
 |z::l,0,j+1,x,y,h,h'=>by
  simp at h h'
  subst h
  simp only[List.set_cons_zero,List.set_cons_succ]
  obtain⟨hj,rfl⟩:=List.getElem?_eq_some_iff.1 h'
  have h1:=Bt z l j hj
  have h2:=CH l j hj
  exact((h1.cons _).trans (List.Perm.swap _ _ _)).trans (h2.symm.cons z)
 |z::l,i+1,0,x,y,h,h'=>by
  simp at h h'
  subst h'
  simp only[List.set_cons_zero,List.set_cons_succ]
  obtain⟨hj,rfl⟩:=List.getElem?_eq_some_iff.1 h
  have h1:=Bt z l i hj
  have h2:=CH l i hj
  exact((h1.cons _).trans (List.Perm.swap _ _ _)).trans (h2.symm.cons z)
 |z::l,i+1,j+1,x,y,h,h'=>by
  simp at h h'
  simp only[List.set_cons_succ]
  exact(Di l i j x y h h').cons z
theorem sw_perm {l:LI}{i j:Int}(hi:0≤i)(hi':i<l.length)(hj:0≤j)(hj':j<l.length):List.Perm (sw l i j) l:=by
 have h1:i.toNat<l.length:=by omega
 have h2:j.toNat<l.length:=by omega
 exact Di l i.toNat j.toNat _ _ (by simp[at',h1]) (by simp[at',h2])
structure Rg (a b:Int)(l l':LI):Prop where
 len:l'.length=l.length
 perm:List.Perm l' l
 out:∀k,0≤k→(k<a∨b≤k)→at' l' k=at' l k
 all:∀Q:Int→Prop,(∀k,a≤k→k<b→Q (at' l k))→∀k,a≤k→k<b→Q (at' l' k)
theorem Rg.refl (a b:Int)(l:LI):Rg a b l l:=⟨rfl,List.Perm.refl _,λ_ _ _=>rfl,λ_ h=>h⟩
theorem Rg.trans {a b:Int}{l l' l'':LI}(h:Rg a b l l')(h':Rg a b l' l''):Rg a b l l'':=
 ⟨h'.len.trans h.len,h'.perm.trans h.perm,λk h0 hk=>(h'.out k h0 hk).trans (h.out k h0 hk),λQ hQ=>h'.all Q (h.all Q hQ)⟩
theorem Rg.swap {a b i j:Int}{l:LI}(ha:0≤a)(hb:b≤l.length)(hi:a≤i)(hi':i<b)(hj:a≤j)(hj':j<b):Rg a b l (sw l i j):=by
 refine⟨sw_len _ _ _,sw_perm (by omega) (by omega) (by omega) (by omega),λk h0 hk=> ?_,λQ hQ k h1 h2=> ?_⟩
 ·rw[Bb (by omega) (by omega) (by omega) (by omega) h0,if_neg (by omega),if_neg (by omega)]
 ·rw[Bb (by omega) (by omega) (by omega) (by omega) (by omega)]
  split
  ·exact hQ i hi hi'
  ·split
   ·exact hQ j hj hj'
   ·exact hQ k h1 h2
structure Parted (l0 l':LI)(a b mid:Int):Prop where
 rg:Rg a b l0 l'
 lo:a≤mid
 hi:mid<b
 left:∀k,a≤k→k<mid→at' l' k≤at' l' mid
 right:∀k,mid<k→k<b→at' l' mid≤at' l' k
theorem iand_small (y m:Int)(h0:0≤m)(h1:m<4294967296):0≤iand .u64 y m∧iand .u64 y m≤m:=by
 unfold iand
 have e:(BitVec.ofInt IntKind.u64.bits y&&&BitVec.ofInt IntKind.u64.bits m).toNat≤(BitVec.ofInt IntKind.u64.bits m).toNat:=by
  rw[BitVec.toNat_and];exact Nat.and_le_right
 have e2:(BitVec.ofInt IntKind.u64.bits m).toNat=m.toNat:=by
  rw[BitVec.toNat_ofInt]
  show (m%(2^64:Nat)).toNat=m.toNat
  congr 1
  omega
 rw[e2] at e
 generalize (BitVec.ofInt IntKind.u64.bits y&&&BitVec.ofInt IntKind.u64.bits m).toNat=t at e
 have:IntKind.u64.wrap (t:Int)=t:=by
  simp only[IntKind.wrap,IntKind.bits,IntKind.signed]
  simp
  omega
 rw[this]
 omega
theorem wu64 {x:Int}(h1:0≤x)(h2:x<18446744073709551616):IntKind.u64.wrap x=x:=by
 simp only[IntKind.wrap,IntKind.bits,IntKind.signed]
 simp
 omega
end Go.Sx

namespace Go.Sx.Gs
variable {α : Type} [Srtd α]
theorem Dz (l0:List α)(hG:Good l0)(a b:Int)(ha:0≤a)(hab:a<b)(hb:b≤l0.length)(hlen:l0.length≤1000000)
  (hpre:0<a→∀k,a≤k→k<b→at' l0 (a-1)≤at' l0 k):
  ∃y,DG.partialInsertionSort Srtd.cmp l0 a b=some y∧Rg a b l0 y.2∧(y.1=true→Srt y.2 a b):=by
 unfold DG.partialInsertionSort
 rw[w64 (show-9223372036854775808≤a+1 by omega) (by omega),w64 (show-9223372036854775808≤b-a by omega) (by omega)]
 refine AU (λs=>Rg a b l0 s.1∧a+1≤s.2.1∧s.2.1≤b∧Srt s.1 a s.2.1∧0≤s.2.2∧s.2.2≤5) (λs=>(5-s.2.2).toNat)
  (λr=>match r with| .inl l=>Rg a b l0 l| .inr y=>Rg a b l0 y.2∧(y.1=true→Srt y.2 a b)) ?_ ⟨Rg.refl _ _ _,by dsimp only;omega,by dsimp only;omega,λp q k1 k2 k3=>by dsimp only at k3;omega,by dsimp only;omega,by dsimp only;omega⟩ ?_
 ·rintro⟨l,i,j⟩ ⟨hR,g1,g2,g3,g4,g5⟩
  dsimp only at hR g1 g2 g3 g4 g5 ⊢
  have hll:=hR.len
  by_cases hj:j<5
  ·simp only[hj,decide_true,cond_true]
   refine AU (λi=>a+1≤i∧i≤b∧Srt l a i) (λi=>(b-i).toNat) (λi=>a+1≤i∧i≤b∧Srt l a i∧(i<b→at' l i<at' l (i-1))) ?_ ⟨g1,g2,g3⟩ ?_
   ·rintro i ⟨g1,g2,g3⟩
    by_cases hi:i<b
    ·have r1:idx l i=some (el l i):=AQ (by omega) (by omega)
     have r2:idx l (i-1)=some (el l (i-1)):=AQ (by omega) (by omega)
     have e1:IntKind.i64.wrap (i-1)=i-1:=w64 (by omega) (by omega)
     obtain⟨v,cv,hv⟩:=Cj (hR.good hG) (i:=i) (j:=i-1) (by omega) (by omega) (by omega) (by omega)
     by_cases hlt:at' l i<at' l (i-1)
     ·exact⟨.inr i,by simp only[r1,r2,e1,hi,cv,hv,hlt,decide_true,Bool.not_true,cond_true,cond_false,bs],g1,g2,g3,λ_=>hlt⟩
     ·refine⟨.inl (i+1),?_,⟨by omega,by omega,λp q k1 k2 k3=> ?_⟩,by dsimp only;omega⟩
      ·simp only[r1,r2,e1,hi,cv,hv,hlt,decide_true,decide_false,Bool.not_false,cond_true,bs]
       rw[w64 (by omega) (by omega)]
      ·by_cases e:q=i
       ·subst e
        by_cases e2:p=q-1
        ·subst e2;omega
        ·have:=g3 p (q-1) k1 (by omega) (by omega);omega
       ·exact g3 p q k1 k2 (by omega)
    ·exact⟨.inr i,by simp only[hi,decide_false,cond_false,bs],g1,g2,g3,λh=>absurd h hi⟩
   ·rintro i ⟨g1,g2,g3,g6⟩
    by_cases he:i=b
    ·have:(i==b)=true:=by simp[he]
     simp only[this,cond_true]
     exact⟨_,rfl,hR,λ_=>by rw[←he];exact g3⟩
    ·have:(i==b)=false:=by simp[he]
     simp only[this,cond_false]
     by_cases h50:b-a<50
     ·simp only[h50,decide_true,cond_true]
      exact⟨_,rfl,hR,λh=>by cases h⟩
     ·simp only[h50,decide_false,cond_false]
      have hib:i<b:=by omega
      have hlt:=g6 hib
      have e1:IntKind.i64.wrap (i-1)=i-1:=w64 (by omega) (by omega)
      have r1:idx l i=some (el l i):=AQ (by omega) (by omega)
      have r2:idx l (i-1)=some (el l (i-1)):=AQ (by omega) (by omega)
      have r3:∀x,idx (l.set i.toNat x) (i-1)=some (el (l.set i.toNat x) (i-1)):=λx=>Bl (by omega) (by omega)
      simp only[e1,r1,r2,r3,bs]
      rw[show (l.set i.toNat (el l (i-1))).set (i-1).toNat (el l i)=sw l i (i-1) from rfl]
      have hR1:Rg a b l0 (sw l i (i-1)):=hR.trans (Rg.swap ha (by omega) (by omega) (by omega) (by omega) (by omega))
      have hS1:∀p q,a≤p→p<q→q≤i-1→q≠i-1→at' (sw l i (i-1)) p≤at' (sw l i (i-1)) q:=λp q k1 k2 k3 k4=>by
       rw[Bb (by omega) (by omega) (by omega) (by omega) (by omega),Bb (by omega) (by omega) (by omega) (by omega) (by omega)]
       rw[if_neg (by omega),if_neg (by omega),if_neg (by omega),if_neg (by omega)]
       exact g3 p q k1 k2 (by omega)
      generalize sw l i (i-1)=m at hR1 hS1 ⊢
      have hml:=hR1.len
      have hpre':∀m',Rg a b l0 m'→0<a→∀k,a≤k→k<b→at' m' (a-1)≤at' m' k:=λm' hr h0 k k1 k2=>by
       rw[hr.out (a-1) (by omega) (.inl (by omega))]
       exact hr.all (λx=>at' l0 (a-1)≤x) (hpre h0) k k1 k2
      rw[w64 (show-9223372036854775808≤i-a by omega) (by omega),w64 (show-9223372036854775808≤b-i by omega) (by omega),w64 (show-9223372036854775808≤i+1 by omega) (by omega),w64 (show-9223372036854775808≤j+1 by omega) (by omega)]
      refine Ct (λm=>Rg a b l0 m∧Srt m a i) ?_ ?_
      ·by_cases h2:2≤i-a
       ·simp only[h2,decide_true,cond_true]
        refine AU (λs=>Rg a b l0 s.1∧a≤s.2∧s.2≤i-1∧∀p q,a≤p→p<q→q≤i-1→q≠s.2→at' s.1 p≤at' s.1 q) (λs=>s.2.toNat) (λr=>Rg a b l0 r∧Srt r a i) ?_ ⟨hR1,by dsimp only;omega,Int.le_refl _,hS1⟩ (λr hr=>⟨r,rfl,hr⟩)
        rintro⟨m,j⟩ ⟨hR',q1,q2,hS'⟩
        dsimp only at hR' q1 q2 hS' ⊢
        have hml:=hR'.len
        by_cases hj1:1≤j
        ·have f1:idx m j=some (el m j):=AQ (by omega) (by omega)
         have f2:idx m (j-1)=some (el m (j-1)):=AQ (by omega) (by omega)
         have f3:∀x,idx (m.set j.toNat x) (j-1)=some (el (m.set j.toNat x) (j-1)):=λx=>Bl (by omega) (by omega)
         have e2:IntKind.i64.wrap (j-1)=j-1:=w64 (by omega) (by omega)
         obtain⟨v,cv,hv⟩:=Cj (hR'.good hG) (i:=j) (j:=j-1) (by omega) (by omega) (by omega) (by omega)
         by_cases hlt:at' m j<at' m (j-1)
         ·have hja:a<j:=by
           rcases Int.lt_or_eq_of_le q1 with h|h
           ·exact h
           ·subst h
            have:=hpre' m hR' (by omega) a (Int.le_refl _) hab
            omega
          refine⟨.inl (sw m j (j-1),j-1),?_,⟨hR'.trans (Rg.swap ha (by omega) (by omega) (by omega) (by omega) (by omega)),by dsimp only;omega,by dsimp only;omega,?_⟩,by dsimp only;omega⟩
          ·simp only[hj1,decide_true,cond_true,e2,f1,f2,f3,cv,hv,hlt,Bool.not_true,cond_false,bs]
           rfl
          ·intro p q k1 k2 k3 k4
           dsimp only at k4 ⊢
           rw[Bb (by omega) (by omega) (by omega) (by omega) (by omega),Bb (by omega) (by omega) (by omega) (by omega) (by omega)]
           by_cases c1:q=j
           ·subst c1
            rw[if_neg (show¬q=q-1 by omega),if_pos rfl]
            by_cases c2:p=q-1
            ·rw[if_pos c2];omega
            ·rw[if_neg c2,if_neg (by omega)]
             exact hS' p (q-1) k1 (by omega) (by omega) (by omega)
           ·rw[if_neg (show¬q=j-1 by omega),if_neg c1]
            by_cases c2:p=j-1
            ·rw[if_pos c2]
             exact hS' j q (by omega) (by omega) k3 c1
            ·rw[if_neg c2]
             by_cases c3:p=j
             ·rw[if_pos c3]
              exact hS' (j-1) q (by omega) (by omega) k3 c1
             ·rw[if_neg c3]
              exact hS' p q k1 k2 k3 c1
         ·refine⟨.inr m,?_,hR',?_⟩
          ·simp only[hj1,decide_true,cond_true,e2,f1,f2,cv,hv,hlt,decide_false,Bool.not_false,bs]
          ·intro p q k1 k2 k3
           by_cases c1:q=j
           ·subst c1
            by_cases c2:p=q-1
            ·subst c2;omega
            ·have:=hS' p (q-1) k1 (by omega) (by omega) (by omega)
             omega
           ·exact hS' p q k1 k2 (by omega) c1
        ·refine⟨.inr m,?_,hR',?_⟩
         ·simp only[hj1,decide_false,cond_false]
         ·intro p q k1 k2 k3
          exact hS' p q k1 k2 (by omega) (by omega)
       ·simp only[h2,decide_false,cond_false]
        exact⟨_,rfl,hR1,λp q k1 k2 k3=>by omega⟩
      ·rintro m1 ⟨hR2,hS2⟩
       have hm1:=hR2.len
       by_cases h2:2≤b-i
       ·simp only[h2,decide_true,cond_true]
        refine AU (λs=>Rg a b l0 s.1∧Srt s.1 a i∧i+1≤s.2∧s.2≤b) (λs=>(b-s.2).toNat) (λr=>Rg a b l0 r∧Srt r a i) ?_ ⟨hR2,hS2,by dsimp only;omega,by dsimp only;omega⟩ ?_
        ·rintro⟨m,q⟩ ⟨hR',hS',q1,q2⟩
         dsimp only at hR' hS' q1 q2 ⊢
         have hml:=hR'.len
         by_cases hq:q<b
         ·have f1:idx m q=some (el m q):=AQ (by omega) (by omega)
          have f2:idx m (q-1)=some (el m (q-1)):=AQ (by omega) (by omega)
          have f3:∀x,idx (m.set q.toNat x) (q-1)=some (el (m.set q.toNat x) (q-1)):=λx=>Bl (by omega) (by omega)
          have e2:IntKind.i64.wrap (q-1)=q-1:=w64 (by omega) (by omega)
          have e3:IntKind.i64.wrap (q+1)=q+1:=w64 (by omega) (by omega)
          obtain⟨v,cv,hv⟩:=Cj (hR'.good hG) (i:=q) (j:=q-1) (by omega) (by omega) (by omega) (by omega)
          by_cases hlt:at' m q<at' m (q-1)
          ·refine⟨.inl (sw m q (q-1),q+1),?_,⟨hR'.trans (Rg.swap ha (by omega) (by omega) (by omega) (by omega) (by omega)),λp r k1 k2 k3=> ?_,by dsimp only;omega,by dsimp only;omega⟩,by dsimp only;omega⟩
           ·simp only[hq,decide_true,cond_true,e2,e3,f1,f2,f3,cv,hv,hlt,Bool.not_true,cond_false,bs]
            rfl
           ·dsimp only
            rw[Bb (by omega) (by omega) (by omega) (by omega) (by omega),Bb (by omega) (by omega) (by omega) (by omega) (by omega)]
            rw[if_neg (by omega),if_neg (by omega),if_neg (by omega),if_neg (by omega)]
            exact hS' p r k1 k2 k3
          ·refine⟨.inr m,?_,hR',hS'⟩
           simp only[hq,decide_true,cond_true,e2,f1,f2,cv,hv,hlt,decide_false,Bool.not_false,bs]
         ·exact⟨.inr m,by simp only[hq,decide_false,cond_false],hR',hS'⟩
        ·rintro m2 ⟨hR3,hS3⟩
         exact⟨_,rfl,⟨hR3,g1,g2,hS3,by dsimp only;omega,by dsimp only;omega⟩,by dsimp only;omega⟩
       ·simp only[h2,decide_false,cond_false]
        exact⟨_,rfl,⟨hR2,g1,g2,hS2,by dsimp only;omega,by dsimp only;omega⟩,by dsimp only;omega⟩
  ·simp only[hj,decide_false,cond_false]
   exact⟨_,rfl,hR⟩
 ·rintro(l|y) h
  ·exact⟨_,rfl,h,λh=>by cases h⟩
  ·exact⟨_,rfl,h⟩
theorem Ei :∀x:Nat,1≤x→x<2^64→x<2^(Lib.bitLen x)∧2^(Lib.bitLen x)≤2*x:=by
 intro x
 induction x using Nat.strongRecOn with
 |ind x ih=>
  intro h1 h2
  rw[Lib.bitLen_half x (by omega) h2]
  by_cases h:x=1
  ·subst h;decide
  ·obtain⟨a,b⟩:=ih (x/2) (by omega) (by omega) (by omega)
   rw[Nat.add_comm,Nat.pow_succ]
   generalize 2^Lib.bitLen (x/2)=p at a b
   omega
theorem pow2_spec (n:Int)(h1:8≤n)(h2:n≤1000000):∃y,D.j0 n=some y∧n<y∧y≤2*n:=by
 obtain⟨m,rfl⟩:∃m:Nat,n=(m:Int):=⟨n.toNat,by omega⟩
 obtain⟨k1,k2⟩:=Ei m (by omega) (by omega)
 have hb:Lib.bitLen m<22:=by
  apply Classical.byContradiction
  intro hc
  have:2^22≤2^Lib.bitLen m:=Nat.pow_le_pow_right (by omega) (by omega)
  omega
 unfold D.j0
 rw[wu64 (by omega) (by omega)]
 unfold D.I
 rw[if_pos (by omega),bs]
 have:decide (((Lib.bitLen m:Nat):Int)<0)=false:=by simp
 rw[Int.toNat_natCast,this,cond_false]
 have e:ishl .u64 1 ((Lib.bitLen m:Nat):Int)=((2^Lib.bitLen m:Nat):Int):=by
  show IntKind.u64.wrap (1*2^(min (((Lib.bitLen m:Nat):Int)).toNat 64))=_
  rw[Int.toNat_natCast,show min (Lib.bitLen m) 64=Lib.bitLen m by omega,Int.one_mul]
  have e':((2^Lib.bitLen m:Nat):Int)=(2:Int)^Lib.bitLen m:=by simp
  rw[←e',wu64 (by omega) (by omega)]
 rw[e]
 exact⟨_,rfl,by omega,by omega⟩
theorem DW (l0:List α)(a b:Int)(ha:0≤a)(hb:b≤l0.length)(h8:8≤b-a)(hlen:l0.length≤1000000):
  ∃l',DG.breakPatterns Srtd.cmp l0 a b=some l'∧Rg a b l0 l':=by
 unfold DG.breakPatterns
 rw[w64 (show-9223372036854775808≤b-a by omega) (by omega)]
 have e4:(b-a).tdiv 4=(b-a)/4:=Int.tdiv_eq_ediv_of_nonneg (by omega)
 rw[e4,w64 (show-9223372036854775808≤(b-a)/4 by omega) (by omega)]
 rw[w64 (show-9223372036854775808≤(b-a)/4*2 by omega) (by omega)]
 rw[w64 (show-9223372036854775808≤a+(b-a)/4*2 by omega) (by omega)]
 rw[w64 (show-9223372036854775808≤a+(b-a)/4*2+1 by omega) (by omega),w64 (show-9223372036854775808≤a+(b-a)/4*2-1 by omega) (by omega)]
 simp only[h8,decide_true,cond_true]
 obtain⟨y,hy,g1,g2⟩:=pow2_spec (b-a) h8 (by omega)
 rw[hy,bs,wu64 (show 0≤y-1 by omega) (by omega)]
 refine AU (λs=>Rg a b l0 s.1∧a+(b-a)/4*2-1≤s.2.1∧s.2.1≤a+(b-a)/4*2+2) (λs=>(a+(b-a)/4*2+2-s.2.1).toNat) (λr=>Rg a b l0 r) ?_ ?_ ?_
 ·rintro⟨l,i,z⟩ ⟨hR,k1,k2⟩
  dsimp only at hR k1 k2 ⊢
  have hll:=hR.len
  by_cases hi:i≤a+(b-a)/4*2+1
  ·simp only[hi,decide_true,cond_true,D.o0,bs]
   obtain⟨t1,t2⟩:=iand_small (AW .u64 (AW .u64 (AW .u64 z (ishl .u64 z 13)) (BH .u64 (AW .u64 z (ishl .u64 z 13)) 7)) (ishl .u64 (AW .u64 (AW .u64 z (ishl .u64 z 13)) (BH .u64 (AW .u64 z (ishl .u64 z 13)) 7)) 17)) (y-1) (by omega) (by omega)
   revert t1 t2
   generalize iand .u64 (AW .u64 (AW .u64 (AW .u64 z (ishl .u64 z 13)) (BH .u64 (AW .u64 z (ishl .u64 z 13)) 7)) (ishl .u64 (AW .u64 (AW .u64 z (ishl .u64 z 13)) (BH .u64 (AW .u64 z (ishl .u64 z 13)) 7)) 17)) (y-1)=t
   generalize (AW .u64 (AW .u64 (AW .u64 z (ishl .u64 z 13)) (BH .u64 (AW .u64 z (ishl .u64 z 13)) 7)) (ishl .u64 (AW .u64 (AW .u64 z (ishl .u64 z 13)) (BH .u64 (AW .u64 z (ishl .u64 z 13)) 7)) 17))=z'
   intro t1 t2
   rw[w64 (show-9223372036854775808≤t by omega) (by omega),w64 (show-9223372036854775808≤t-(b-a) by omega) (by omega)]
   have hc:∃o,(bif decide (b-a≤t) then some (t-(b-a)) else some t)=some o∧0≤o∧o<b-a:=by
    by_cases h:b-a≤t
    ·exact⟨t-(b-a),by simp[h],by omega,by omega⟩
    ·exact⟨t,by simp[h],by omega,by omega⟩
   obtain⟨o,ho,o1,o2⟩:=hc
   rw[ho,bs,w64 (show-9223372036854775808≤a+o by omega) (by omega),w64 (show-9223372036854775808≤i+1 by omega) (by omega)]
   have r1:idx l i=some (el l i):=AQ (by omega) (by omega)
   have r2:idx l (a+o)=some (el l (a+o)):=AQ (by omega) (by omega)
   have r3:∀x,idx (l.set i.toNat x) (a+o)=some (el (l.set i.toNat x) (a+o)):=λx=>Bl (by omega) (by omega)
   refine⟨.inl (sw l i (a+o),i+1,z'),?_,⟨hR.trans (Rg.swap ha (by omega) (by omega) (by omega) (by omega) (by omega)),by dsimp only;omega,by dsimp only;omega⟩,by dsimp only;omega⟩
   simp only[r1,r2,r3,bs]
   rfl
  ·exact⟨.inr l,by simp only[hi,decide_false,cond_false],hR⟩
 ·exact⟨Rg.refl _ _ _,by dsimp only;omega,by dsimp only;omega⟩
 ·rintro r hr
  exact⟨r,rfl,hr⟩
end Go.Sx.Gs

namespace Go.Sx.Gs
variable {α : Type} [Srtd α]
def kid (i c:Int):Prop:=c=2*i+1∨c=2*i+2
theorem DQ (l0:List α)(hG:Good l0)(lo hi f:Int)(h0:0≤lo)(hf:0≤f)(hlh:lo≤hi)(hb:f+hi≤l0.length)(hlen:l0.length≤1000000)
  (hH:∀i c,lo<i→kid i c→c<hi→at' l0 (f+c)≤at' l0 (f+i)):
  ∃l',DG.siftDown Srtd.cmp l0 lo hi f=some l'∧Rg (f+lo) (f+hi) l0 l'∧∀i c,lo≤i→kid i c→c<hi→at' l' (f+c)≤at' l' (f+i):=by
 unfold DG.siftDown
 refine AU (λs=>Rg (f+lo) (f+hi) l0 s.1∧lo≤s.2∧s.2≤hi∧(∀i c,lo≤i→i≠s.2→kid i c→c<hi→at' s.1 (f+c)≤at' s.1 (f+i))∧(∀p c,lo≤p→kid p s.2→kid s.2 c→c<hi→at' s.1 (f+c)≤at' s.1 (f+p)))
  (λs=>(hi-s.2).toNat)
  (λr=>match r with| .inl l'=>Rg (f+lo) (f+hi) l0 l'∧∀i c,lo≤i→kid i c→c<hi→at' l' (f+c)≤at' l' (f+i)| .inr l'=>Rg (f+lo) (f+hi) l0 l'∧∀i c,lo≤i→kid i c→c<hi→at' l' (f+c)≤at' l' (f+i)) ?_
  ⟨Rg.refl _ _ _,Int.le_refl _,hlh,λi c h1 h2 h3 h4=>hH i c (by dsimp only at h2;omega) h3 h4,λp c h1 h2 h3 h4=>by unfold kid at h2;dsimp only at h2;omega⟩ ?_
 ·rintro⟨l,r⟩ ⟨hR,g1,g2,g3,g4⟩
  dsimp only at hR g1 g2 g3 g4 ⊢
  have hll:=hR.len
  rw[w64 (show-9223372036854775808≤2*r by omega) (by omega),w64 (show-9223372036854775808≤2*r+1 by omega) (by omega)]
  rw[w64 (show-9223372036854775808≤2*r+1+1 by omega) (by omega),w64 (show-9223372036854775808≤f+(2*r+1) by omega) (by omega),w64 (show-9223372036854775808≤f+(2*r+1)+1 by omega) (by omega),w64 (show-9223372036854775808≤f+r by omega) (by omega)]
  by_cases hc:hi≤2*r+1
  ·simp only[hc,decide_true,cond_true]
   refine⟨_,rfl,hR,λi c h1 h2 h3=> ?_⟩
   by_cases e:i=r
   ·subst e;unfold kid at h2;omega
   ·exact g3 i c h1 e h2 h3
  ·simp only[hc,decide_false,cond_false]
   refine Ct (λb:Bool=>(b=true→2*r+2<hi∧at' l (f+(2*r+1))<at' l (f+(2*r+2)))∧(b=false→2*r+2<hi→at' l (f+(2*r+2))≤at' l (f+(2*r+1)))) ?_ ?_
   ·by_cases h2:2*r+1+1<hi
    ·have r1:idx l (f+(2*r+1))=some (el l (f+(2*r+1))):=AQ (by omega) (by omega)
     have r2:idx l (f+(2*r+1)+1)=some (el l (f+(2*r+1)+1)):=AQ (by omega) (by omega)
     obtain⟨v,cv,hv⟩:=Cj (hR.good hG) (i:=f+(2*r+1)) (j:=f+(2*r+1)+1) (by omega) (by omega) (by omega) (by omega)
     simp only[h2,decide_true,cond_true,r1,r2,cv,hv,bs]
     rw[show f+(2*r+1)+1=f+(2*r+2) by omega]
     refine⟨_,rfl,λh=>⟨by omega,of_decide_eq_true h⟩,λh _=> ?_⟩
     have:=of_decide_eq_false h
     omega
    ·simp only[h2,decide_false,cond_false]
     exact⟨_,rfl,(λh=>by cases h),(λ_ h=>by omega)⟩
   ·rintro b ⟨hbb,hbf⟩
    have hch:∃c,(bif b then some (2*r+1+1) else some (2*r+1))=some c∧(b=true→c=2*r+2)∧(b=false→c=2*r+1):=by
     cases b
     ·exact⟨2*r+1,rfl,by simp,by simp⟩
     ·exact⟨2*r+2,by simp;omega,by simp,by simp⟩
    obtain⟨c,ec,c1,c2⟩:=hch
    have hkc:kid r c:=by unfold kid;cases b<;>simp at c1 c2<;>omega
    have hchi:c<hi:=by
     cases b
     ·have:=c2 rfl;omega
     ·have:=c1 rfl;have:=hbb rfl;omega
    rw[ec,bs,w64 (show-9223372036854775808≤f+c by unfold kid at hkc;omega) (by omega)]
    have hcr:r<c:=by unfold kid at hkc;omega
    have t1:idx l (f+r)=some (el l (f+r)):=AQ (by omega) (by omega)
    have t2:idx l (f+c)=some (el l (f+c)):=AQ (by omega) (by omega)
    have t3:∀x,idx (l.set (f+r).toNat x) (f+c)=some (el (l.set (f+r).toNat x) (f+c)):=λx=>Bl (by omega) (by omega)
    obtain⟨v,cv,hv⟩:=Cj (hR.good hG) (i:=f+r) (j:=f+c) (by omega) (by omega) (by omega) (by omega)
    have hbest:∀d,kid r d→d<hi→at' l (f+d)≤at' l (f+c):=λd hd hdh=>by
     cases b
     ·have e:=c2 rfl
      subst e
      rcases hd with rfl|rfl
      ·exact Int.le_refl _
      ·exact hbf rfl hdh
     ·have e:=c1 rfl
      subst e
      rcases hd with rfl|rfl
      ·have:=(hbb rfl).2;omega
      ·exact Int.le_refl _
    by_cases hlt:at' l (f+r)<at' l (f+c)
    ·refine⟨.inl (sw l (f+r) (f+c),c),?_,⟨hR.trans (Rg.swap (by omega) (by omega) (by omega) (by omega) (by omega) (by omega)),by dsimp only;omega,by dsimp only;omega,λi d h1 h2 h3 h4=> ?_,λp d h1 h2 h3 h4=> ?_⟩,by dsimp only;omega⟩
     ·simp only[t1,t2,t3,cv,hv,hlt,decide_true,Bool.not_true,cond_false,bs]
      rfl
     ·dsimp only at h2 ⊢
      have hd0:i<d:=by unfold kid at h3;omega
      rw[Bb (by omega) (by omega) (by omega) (by omega) (by omega),Bb (by omega) (by omega) (by omega) (by omega) (by omega)]
      rw[if_neg (show¬f+i=f+c by omega)]
      by_cases e:i=r
      ·subst e
       rw[if_pos rfl]
       by_cases e2:d=c
       ·subst e2;rw[if_pos rfl];omega
       ·rw[if_neg (show¬f+d=f+c by omega),if_neg (show¬f+d=f+i by omega)]
        exact hbest d h3 h4
      ·rw[if_neg (show¬f+i=f+r by omega)]
       have e2:d≠c:=λe2=>by subst e2;unfold kid at h3 hkc;omega
       rw[if_neg (show¬f+d=f+c by omega)]
       by_cases e3:d=r
       ·subst e3
        rw[if_pos rfl]
        exact g4 i c h1 h3 hkc hchi
       ·rw[if_neg (show¬f+d=f+r by omega)]
        exact g3 i d h1 e h3 h4
     ·dsimp only at h2 h3 ⊢
      have e:p=r:=by unfold kid at h2 hkc;omega
      subst e
      have hd0:c<d:=by unfold kid at h3;omega
      rw[Bb (by omega) (by omega) (by omega) (by omega) (by omega),Bb (by omega) (by omega) (by omega) (by omega) (by omega)]
      rw[if_neg (show¬f+d=f+c by omega),if_neg (show¬f+d=f+p by omega),if_neg (show¬f+p=f+c by omega),if_pos rfl]
      exact g3 c d (by omega) (by omega) h3 h4
    ·refine⟨.inr (.inr l),?_,hR,λi d h1 h2 h3=> ?_⟩
     ·simp only[t1,t2,cv,hv,hlt,decide_false,Bool.not_false,cond_true,bs]
     ·by_cases e:i=r
      ·subst e
       have:=hbest d h2 h3
       omega
      ·exact g3 i d h1 e h2 h3
 ·rintro(l|l) h
  ·exact⟨_,rfl,h⟩
  ·exact⟨_,rfl,h⟩
theorem heap_root {l:List α}{f hi:Int}(hH:∀i c,0≤i→kid i c→c<hi→at' l (f+c)≤at' l (f+i)):∀(n:Nat) (k:Int),k.toNat≤n→0≤k→k<hi→at' l (f+k)≤at' l (f+0):=by
 intro n
 induction n with
 |zero=>intro k h1 h2 h3;rw[show k=0 by omega];exact Int.le_refl _
 |succ n ih=>
  intro k h1 h2 h3
  by_cases h:k=0
  ·subst h;exact Int.le_refl _
  ·have hk:kid ((k-1)/2) k:=by unfold kid;omega
   have a:=hH ((k-1)/2) k (by omega) hk h3
   have b:=ih ((k-1)/2) (by omega) (by omega) (by omega)
   omega
theorem heapSort_spec (l0:List α)(hG:Good l0)(a b:Int)(ha:0≤a)(hab:a≤b)(hb:b≤l0.length)(hlen:l0.length≤1000000):
  ∃l',DG.heapSort Srtd.cmp l0 a b=some l'∧Rg a b l0 l'∧Srt l' a b:=by
 unfold DG.heapSort
 rw[w64 (show-9223372036854775808≤b-a by omega) (by omega),w64 (show-9223372036854775808≤b-a-1 by omega) (by omega)]
 have e2: -1≤(b-a-1).tdiv 2∧(b-a-1).tdiv 2≤b-a∧b-a≤2*(b-a-1).tdiv 2+2:=by
  by_cases h:1≤b-a
  ·rw[Int.tdiv_eq_ediv_of_nonneg (by omega)];omega
  ·have:b-a-1= -1:=by omega
   have e:(-1:Int).tdiv 2=0:=by decide
   rw[this,e];omega
 rw[w64 (show-9223372036854775808≤(b-a-1).tdiv 2 by omega) (by omega)]
 generalize (b-a-1).tdiv 2=st at e2
 refine AU (λs=>Rg a b l0 s.1∧-1≤s.2∧s.2≤b-a∧∀i c,s.2<i→kid i c→c<b-a→at' s.1 (a+c)≤at' s.1 (a+i)) (λs=>(s.2+1).toNat)
  (λr=>Rg a b l0 r∧∀i c,0≤i→kid i c→c<b-a→at' r (a+c)≤at' r (a+i)) ?_ ⟨Rg.refl _ _ _,by dsimp only;omega,by dsimp only;omega,λi c h1 h2 h3=>by unfold kid at h2;dsimp only at h1;omega⟩ ?_
 ·rintro⟨l,i⟩ ⟨hR,g1,g2,g3⟩
  dsimp only at hR g1 g2 g3 ⊢
  have hll:=hR.len
  by_cases hi:0≤i
  ·simp only[hi,decide_true,cond_true]
   obtain⟨l',e,r1,r2⟩:=DQ l (hR.good hG) i (b-a) a hi ha (by omega) (by omega) (by omega) g3
   rw[e,bs,w64 (show-9223372036854775808≤i-1 by omega) (by omega)]
   exact⟨_,rfl,⟨hR.trans (r1.widen (by omega) (by omega) ha),by dsimp only;omega,by dsimp only;omega,λp c h1 h2 h3=>r2 p c (by dsimp only at h1;omega) h2 h3⟩,by dsimp only;omega⟩
  ·simp only[hi,decide_false,cond_false]
   exact⟨_,rfl,hR,λp c h1 h2 h3=>g3 p c (by omega) h2 h3⟩
 ·rintro l1 ⟨hR1,hH1⟩
  refine AU (λs=>Rg a b l0 s.1∧-1≤s.2∧s.2<b-a∧(∀i c,0≤i→kid i c→c≤s.2→at' s.1 (a+c)≤at' s.1 (a+i))∧(∀p q,s.2<p→p<q→q<b-a→at' s.1 (a+p)≤at' s.1 (a+q))∧(∀p q,0≤p→p≤s.2→s.2<q→q<b-a→at' s.1 (a+p)≤at' s.1 (a+q))) (λs=>(s.2+1).toNat)
   (λr=>Rg a b l0 r∧Srt r a b) ?_ ⟨hR1,by dsimp only;omega,by dsimp only;omega,λi c h1 h2 h3=>hH1 i c h1 h2 (by dsimp only at h3;omega),λp q h1 h2 h3=>by dsimp only at h1;omega,λp q h1 h2 h3 h4=>by dsimp only at h3;omega⟩ (λr hr=>⟨r,rfl,hr⟩)
  rintro⟨l,i⟩ ⟨hR,g1,g2,g3,g4,g5⟩
  dsimp only at hR g1 g2 g3 g4 g5 ⊢
  have hll:=hR.len
  by_cases hi:0≤i
  ·rw[w64 (show-9223372036854775808≤a+i by omega) (by omega)]
   have t1:idx l a=some (el l a):=AQ (by omega) (by omega)
   have t2:idx l (a+i)=some (el l (a+i)):=AQ (by omega) (by omega)
   have t3:∀x,idx (l.set a.toNat x) (a+i)=some (el (l.set a.toNat x) (a+i)):=λx=>Bl (by omega) (by omega)
   simp only[hi,decide_true,cond_true,t1,t2,t3,bs]
   rw[show (l.set a.toNat (el l (a+i))).set (a+i).toNat (el l a)=sw l a (a+i) from rfl]
   have hRs:Rg a (a+(i+1)) l (sw l a (a+i)):=Rg.swap ha (by omega) (by omega) (by omega) (by omega) (by omega)
   have sat:∀k,0≤k→at' (sw l a (a+i)) (a+k)=if k=i then at' l a else if k=0 then at' l (a+i) else at' l (a+k):=λk hk=>by
    rw[Bb (by omega) (by omega) (by omega) (by omega) (by omega)]
    by_cases c1:k=i
    ·subst c1;simp
    ·rw[if_neg (show¬a+k=a+i by omega),if_neg c1]
     by_cases c2:k=0
     ·subst c2;simp
     ·rw[if_neg (show¬a+k=a by omega),if_neg c2]
   have hroot:∀k,0≤k→k≤i→at' l (a+k)≤at' l a:=λk k1 k2=>by
    have:=heap_root (hi:=i+1) (λp c h1 h2 h3=>g3 p c h1 h2 (by omega)) k.toNat k (Nat.le_refl _) k1 (by omega)
    rwa [Int.add_zero] at this
   have hsl:(sw l a (a+i)).length=l.length:=sw_len _ _ _
   obtain⟨l',e,r1,r2⟩:=DQ (sw l a (a+i)) (hRs.good (hR.good hG)) 0 i a (Int.le_refl _) ha hi (by omega) (by omega) (λp c h1 h2 h3=>by
    have hc:p<c:=by unfold kid at h2;omega
    rw[sat c (by omega),sat p (by omega),if_neg (by omega),if_neg (by omega),if_neg (by omega),if_neg (by omega)]
    exact g3 p c (by omega) h2 (by omega))
   rw[e,bs,w64 (show-9223372036854775808≤i-1 by omega) (by omega)]
   rw[Int.add_zero] at r1
   have same:∀k,i≤k→at' l' (a+k)=at' (sw l a (a+i)) (a+k):=λk hk=>r1.out (a+k) (by omega) (.inr (by omega))
   have big:∀k,i<k→k<b-a→at' l' (a+k)=at' l (a+k):=λk hk hk2=>by
    rw[same k (by omega),sat k (by omega),if_neg (by omega),if_neg (by omega)]
   have ati:at' l' (a+i)=at' l a:=by rw[same i (Int.le_refl _),sat i hi,if_pos rfl]
   have low:∀Q:Int→Prop,(∀k,0≤k→k≤i→Q (at' l (a+k)))→∀k,0≤k→k<i→Q (at' l' (a+k)):=λQ hQ k k1 k2=>
    r1.all Q (λm m1 m2=>by
     have h1:=sat (m-a) (by omega)
     rw[show a+(m-a)=m by omega] at h1
     rw[h1]
     split
     ·have:=hQ 0 (by omega) hi;rwa [Int.add_zero] at this
     ·split
      ·exact hQ i hi (Int.le_refl _)
      ·have:=hQ (m-a) (by omega) (by omega);rwa [show a+(m-a)=m by omega] at this) (a+k) (by omega) (by omega)
   refine⟨_,rfl,⟨hR.trans ((hRs.widen (Int.le_refl a) (by omega) ha).trans (r1.widen (Int.le_refl a) (by omega) ha)),by dsimp only;omega,by dsimp only;omega,λp c h1 h2 h3=> ?_,λp q h1 h2 h3=> ?_,λp q h1 h2 h3 h4=> ?_⟩,by dsimp only;omega⟩
   ·dsimp only at h3 ⊢;exact r2 p c h1 h2 (by omega)
   ·dsimp only at h1 ⊢
    by_cases c1:p=i
    ·subst c1
     rw[ati,big q h2 h3]
     have:=g5 0 q (Int.le_refl _) hi h2 h3
     rwa [Int.add_zero] at this
    ·rw[big p (by omega) (by omega),big q (by omega) h3]
     exact g4 p q (by omega) h2 h3
   ·dsimp only at h2 h3 ⊢
    by_cases c1:q=i
    ·subst c1
     rw[ati]
     exact low (λx=>x≤at' l a) hroot p h1 (by omega)
    ·rw[big q (by omega) h4]
     exact low (λx=>x≤at' l (a+q)) (λk k1 k2=>g5 k q k1 k2 (by omega) h4) p h1 (by omega)
  ·simp only[hi,decide_false,cond_false]
   refine⟨_,rfl,hR,λp q h1 h2 h3=> ?_⟩
   have:=g4 (p-a) (q-a) (by omega) (by omega) (by omega)
   rwa [show a+(p-a)=p by omega,show a+(q-a)=q by omega] at this
end Go.Sx.Gs

namespace Go.Sx.Gs
variable {α : Type} [Srtd α]
def Out (l:List α)(a0 b0 a b:Int):Prop:=∀i j,a0≤i→i<j→j<b0→¬(a≤i∧j<b)→at' l i≤at' l j
theorem Out.keep {a0 a b b0:Int}{l l':List α}(h:Rg a b l l')(h0:0≤a0)(ha:a0≤a)(hb:b≤b0)(c:Out l a0 b0 a b):Out l' a0 b0 a b:=by
 intro i j h1 h2 h3 h4
 by_cases hi:a≤i∧i<b
 ·rw[h.out j (by omega) (by omega)]
  exact h.all (λx=>x≤at' l j) (λk k1 k2=>c k j (by omega) (by omega) h3 (by omega)) i hi.1 hi.2
 ·rw[h.out i (by omega) (by omega)]
  by_cases hj:a≤j∧j<b
  ·exact h.all (λx=>at' l i≤x) (λk k1 k2=>c i k (by omega) (by omega) (by omega) (by omega)) j hj.1 hj.2
  ·rw[h.out j (by omega) (by omega)];exact c i j h1 h2 h3 h4
theorem pdqsort_spec :∀(n:Nat) (l0:List α) (a0 b0 lim:Int),0≤a0→a0≤b0→b0≤l0.length→l0.length≤1000000→Good l0→0≤lim→lim≤64→
  (0<a0→∀k,a0≤k→k<b0→at' l0 (a0-1)≤at' l0 k)→b0-a0<n→∃l',DG.pdqsortR Srtd.cmp n l0 a0 b0 lim=some l'∧Rg a0 b0 l0 l'∧Srt l' a0 b0:=by
 intro n
 induction n with
 |zero=>intro l0 a0 b0 lim h1 h2 h3 h4 hG h7 h8 h9 h10;omega
 |succ n ih=>
  intro l0 a0 b0 lim h1 h2 h3 h4 hG h7 h8 h9 h10
  unfold DG.pdqsortR
  refine AU (λs=>Rg a0 b0 l0 s.1∧Out s.1 a0 b0 s.2.1 s.2.2.1∧a0≤s.2.1∧s.2.1≤s.2.2.1∧s.2.2.1≤b0∧0≤s.2.2.2.1∧s.2.2.2.1≤64∧(0<s.2.1→∀k,s.2.1≤k→k<s.2.2.1→at' s.1 (s.2.1-1)≤at' s.1 k))
   (λs=>(s.2.2.1-s.2.1).toNat) (λr=>Rg a0 b0 l0 r∧Srt r a0 b0) ?_ ?_ ?_
  ·rintro⟨l,a,b,lm,bal,par⟩ ⟨hR,hO,g1,g2,g3,g5,g6,g7⟩
   dsimp only at hR hO g1 g2 g3 g5 g6 g7 ⊢
   have hll:=hR.len
   have fin:∀l',Rg a b l l'→Srt l' a b→Rg a0 b0 l0 l'∧Srt l' a0 b0:=λl' hr hs=>
    ⟨hR.trans (hr.widen g1 g3 h1),λi j k1 k2 k3=>by
     by_cases hc:a≤i∧j<b
     ·exact hs i j hc.1 k2 hc.2
     ·exact(hO.keep hr h1 g1 g3) i j k1 k2 k3 hc⟩
   rw[w64 (show-9223372036854775808≤b-a by omega) (by omega)]
   by_cases hs:b-a≤12
   ·obtain⟨l',e,r1,r2⟩:=DZ l a b (by omega) g2 (by omega) (by omega) (hR.good hG)
    refine⟨.inr l',?_,fin l' r1 r2⟩
    simp only[hs,decide_true,cond_true,e,bs]
   ·simp only[hs,decide_false,cond_false]
    by_cases hlm:lm=0
    ·have hl0:(lm==0)=true:=by simp[hlm]
     obtain⟨l',e,r1,r2⟩:=heapSort_spec l (hR.good hG) a b (by omega) g2 (by omega) (by omega)
     refine⟨.inr l',?_,fin l' r1 r2⟩
     simp only[hl0,cond_true,e,bs]
    have hl0:(lm==0)=false:=by simp[hlm]
    simp only[hl0,cond_false]
    refine Ct (λq:List α×Int=>Rg a b l q.1∧0≤q.2∧q.2≤64) ?_ ?_
    ·cases bal
     ·obtain⟨l1,e,r1⟩:=DW l a b (by omega) (by omega) (by omega) (by omega)
      refine⟨(l1,lm-1),?_,r1,by dsimp only;omega,by dsimp only;omega⟩
      simp only[Bool.not_false,cond_true,e,bs]
      rw[w64 (by omega) (by omega)]
     ·exact⟨(l,lm),rfl,Rg.refl _ _ _,by dsimp only;omega,by dsimp only;omega⟩
    rintro⟨l1,lm1⟩ ⟨hr1,k2,k3⟩
    dsimp only at hr1 k2 k3 ⊢
    have hl1:=hr1.len
    obtain⟨y,ey,c1,c2,c3⟩:=Em l1 ((hR.trans (hr1.widen g1 g3 h1)).good hG) a b (by omega) (by omega) (by omega) (by omega)
    rw[ey,bs]
    refine Ct (λq:List α×Int×Int=>Rg a b l q.1∧a≤q.2.1∧q.2.1<b) ?_ ?_
    ·cases (y.2.1==2)
     ·exact⟨_,rfl,by dsimp only;rw[c1];exact hr1,c2,c3⟩
     ·obtain⟨l2,e2,r2⟩:=D9 l1 a b (by omega) (by omega) (by omega) (by omega)
      rw[c1]
      simp only[cond_true,e2,bs]
      rw[w64 (show-9223372036854775808≤b-1 by omega) (by omega),w64 (show-9223372036854775808≤y.1-a by omega) (by omega),w64 (show-9223372036854775808≤b-1-(y.1-a) by omega) (by omega)]
      exact⟨_,rfl,hr1.trans r2,by dsimp only;omega,by dsimp only;omega⟩
    rintro⟨l2,p,hint⟩ ⟨hr2,p1,p2⟩
    dsimp only at hr2 p1 p2 ⊢
    have hl2:=hr2.len
    refine Ct (λq:List α ⊕ List α=>match q with| .inl q=>Rg a b l q| .inr q=>Rg a b l q∧Srt q a b) ?_ ?_
    ·cases ((bal&&par)&&(hint==1))
     ·exact⟨.inl l2,rfl,hr2⟩
     ·obtain⟨y2,e2,d1,d2⟩:=Dz l2 ((hR.trans (hr2.widen g1 g3 h1)).good hG) a b (by omega) (by omega) (by omega) (by omega) (λha k m1 m2=>by
       rw[hr2.out (a-1) (by omega) (.inl (by omega))]
       exact hr2.all (λx=>at' l (a-1)≤x) (g7 ha) k m1 m2)
      simp only[cond_true,e2,bs]
      cases hy:y2.1
      ·exact⟨.inl y2.2,rfl,hr2.trans d1⟩
      ·exact⟨.inr y2.2,rfl,hr2.trans d1,d2 hy⟩
    rintro(q|q) hq
    case inr=>
     exact⟨.inr q,rfl,fin q hq.1 hq.2⟩
    dsimp only at hq ⊢
    clear hr2 hl2
    have hr2:Rg a b l q:=hq
    have hl2:=hr2.len
    have hGq:Good q:=(hR.trans (hr2.widen g1 g3 h1)).good hG
    have hO2:=hO.keep hr2 h1 g1 g3
    have g7':0<a→∀k,a≤k→k<b→at' q (a-1)≤at' q k:=λha k m1 m2=>by
     rw[hr2.out (a-1) (by omega) (.inl (by omega))]
     exact hr2.all (λx=>at' l (a-1)≤x) (g7 ha) k m1 m2
    refine Ct (λc:Bool=>c=true→0<a∧at' q p≤at' q (a-1)) ?_ ?_
    ·by_cases ha:0<a
     ·have r1:idx q (a-1)=some (el q (a-1)):=AQ (by omega) (by omega)
      have r2:idx q p=some (el q p):=AQ (by omega) (by omega)
      rw[w64 (show-9223372036854775808≤a-1 by omega) (by omega)]
      obtain⟨v,cv,hv⟩:=Cj hGq (i:=a-1) (j:=p) (by omega) (by omega) (by omega) (by omega)
      simp only[ha,decide_true,cond_true,r1,r2,cv,hv,bs]
      exact⟨_,rfl,λh=>⟨by trivial,by simpa using h⟩⟩
     ·simp only[ha,decide_false,cond_false]
      exact⟨_,rfl,λh=>by cases h⟩
    intro c hc
    cases c
    ·
     simp only[cond_false]
     obtain⟨⟨mid,par',l3⟩,e3,P⟩:=partition_spec q a b p (by omega) (by omega) (by omega) hGq p1 p2
     rw[e3,bs]
     obtain⟨hr3,m1,m2,m3,m4⟩:=P
     dsimp only at hr3 m1 m2 m3 m4 ⊢
     have hl3:=hr3.len
     have hO3:=hO2.keep hr3 h1 g1 g3
     have g7'':0<a→∀k,a≤k→k<b→at' l3 (a-1)≤at' l3 k:=λha k n1 n2=>by
      rw[hr3.out (a-1) (by omega) (.inl (by omega))]
      exact hr3.all (λx=>at' q (a-1)≤x) (g7' ha) k n1 n2
     have hR3:Rg a0 b0 l0 l3:=hR.trans ((hr2.trans hr3).widen g1 g3 h1)
     rw[w64 (show-9223372036854775808≤mid-a by omega) (by omega),w64 (show-9223372036854775808≤b-mid by omega) (by omega),w64 (show-9223372036854775808≤mid+1 by omega) (by omega)]
     by_cases hside:mid-a<b-mid
     ·simp only[hside,decide_true,cond_true]
      obtain⟨l4,e4,r4,s4⟩:=ih l3 a mid lm1 (by omega) m1 (by omega) (by omega) (hR3.good hG) k2 k3 (λha k n1 n2=>g7'' ha k n1 (by omega)) (by omega)
      rw[e4,bs]
      have hl4:=r4.len
      have em:∀k,mid≤k→at' l4 k=at' l3 k:=λk hk=>r4.out k (by omega) (.inr hk)
      have lf:∀k,a≤k→k<mid→at' l4 k≤at' l4 mid:=λk n1 n2=>by
       rw[em mid (Int.le_refl _)];exact r4.all (λx=>x≤at' l3 mid) m3 k n1 n2
      refine⟨.inl _,rfl,⟨hR3.trans (r4.widen g1 (by omega) h1),?_,by dsimp only;omega,by dsimp only;omega,g3,k2,k3,?_⟩,by dsimp only;omega⟩
      ·have hO4:=hO3.keep (r4.widen (Int.le_refl a) (by omega) (by omega)) h1 g1 g3
       intro i j n1 n2 n3 n4
       dsimp only at n4 ⊢
       by_cases hin:a≤i∧j<b
       ·by_cases hj:j<mid
        ·exact s4 i j hin.1 n2 hj
        ·have hi:i≤mid:=by omega
         have e1:at' l4 i≤at' l4 mid:=by
          by_cases e:i=mid
          ·rw[e];exact Int.le_refl _
          ·exact lf i hin.1 (by omega)
         have e2:at' l4 mid≤at' l4 j:=by
          by_cases e:j=mid
          ·rw[e];exact Int.le_refl _
          ·rw[em mid (Int.le_refl _),em j (by omega)];exact m4 j (by omega) hin.2
         omega
       ·exact hO4 i j n1 n2 n3 hin
      ·intro _ k n1 n2
       dsimp only at n1 n2 ⊢
       rw[show mid+1-1=mid by omega,em mid (Int.le_refl _),em k (by omega)]
       exact m4 k (by omega) n2
     ·simp only[hside,decide_false,cond_false]
      obtain⟨l4,e4,r4,s4⟩:=ih l3 (mid+1) b lm1 (by omega) (by omega) (by omega) (by omega) (hR3.good hG) k2 k3 (λ_ k n1 n2=>by rw[show mid+1-1=mid by omega];exact m4 k (by omega) n2) (by omega)
      rw[e4,bs]
      have hl4:=r4.len
      have em:∀k,0≤k→k≤mid→at' l4 k=at' l3 k:=λk h0 hk=>r4.out k h0 (.inl (by omega))
      have rt:∀k,mid<k→k<b→at' l4 mid≤at' l4 k:=λk n1 n2=>by
       rw[em mid (by omega) (Int.le_refl _)];exact r4.all (λx=>at' l3 mid≤x) (λk q1 q2=>m4 k (by omega) q2) k (by omega) n2
      refine⟨.inl _,rfl,⟨hR3.trans (r4.widen (by omega) g3 h1),?_,g1,m1,by dsimp only;omega,k2,k3,?_⟩,by dsimp only;omega⟩
      ·have hO4:=hO3.keep (r4.widen (by omega) (Int.le_refl b) (by omega)) h1 g1 g3
       intro i j n1 n2 n3 n4
       dsimp only at n4 ⊢
       by_cases hin:a≤i∧j<b
       ·by_cases hi:mid<i
        ·exact s4 i j (by omega) n2 hin.2
        ·have hj:mid≤j:=by omega
         have e1:at' l4 i≤at' l4 mid:=by
          by_cases e:i=mid
          ·rw[e];exact Int.le_refl _
          ·rw[em i (by omega) (by omega),em mid (by omega) (Int.le_refl _)];exact m3 i hin.1 (by omega)
         have e2:at' l4 mid≤at' l4 j:=by
          by_cases e:j=mid
          ·rw[e];exact Int.le_refl _
          ·exact rt j (by omega) hin.2
         omega
       ·exact hO4 i j n1 n2 n3 hin
      ·intro ha k n1 n2
       dsimp only at ha n1 n2 ⊢
       rw[em (a-1) (by omega) (by omega),em k (by omega) (by omega)]
       exact g7'' ha k n1 (by omega)
    ·
     simp only[cond_true]
     obtain⟨hc1,hc2⟩:=hc rfl
     obtain⟨⟨mid,l3⟩,e3,hr3,m1,m2,m3,m4⟩:=DU q a b p (by omega) (by omega) (by omega) hGq p1 p2
     rw[e3,bs]
     dsimp only at hr3 m1 m2 m3 m4 ⊢
     have hl3:=hr3.len
     have hO3:=hO2.keep hr3 h1 g1 g3
     have lw:∀k,a≤k→k<b→at' q p≤at' l3 k:=λk n1 n2=>
      hr3.all (λx=>at' q p≤x) (λk q1 q2=>Int.le_trans hc2 (g7' hc1 k q1 q2)) k n1 n2
     refine⟨.inl _,rfl,⟨hR.trans ((hr2.trans hr3).widen g1 g3 h1),?_,by dsimp only;omega,m2,g3,k2,k3,?_⟩,by dsimp only;omega⟩
     ·intro i j n1 n2 n3 n4
      dsimp only at n4 ⊢
      by_cases hin:a≤i∧j<b
      ·have:=m3 i hin.1 (by omega)
       have:=lw j (by omega) hin.2
       omega
      ·exact hO3 i j n1 n2 n3 hin
     ·intro _ k n1 n2
      dsimp only at n1 n2 ⊢
      have:=m3 (mid-1) (by omega) (by omega)
      have:=m4 k n1 n2
      omega
  ·exact⟨Rg.refl _ _ _,λi j n1 n2 n3 n4=>by dsimp only at n4;omega,Int.le_refl _,h2,Int.le_refl _,h7,h8,h9⟩
  ·rintro r hr
   exact⟨r,rfl,hr⟩
theorem sort_spec (l:List α)(hG:Good l)(hlen:l.length≤1000000):∃l',DG.Sort Srtd.cmp l=some l'∧List.Perm l' l∧Srt l' 0 l'.length:=by
 unfold DG.Sort
 rw[wu64 (by omega) (by omega)]
 unfold D.I
 rw[if_pos (by omega),bs]
 have hb:Lib.bitLen l.length≤64:=by
  by_cases h:1≤l.length
  ·obtain⟨_,k2⟩:=Ei l.length h (by omega)
   apply Classical.byContradiction
   intro hc
   have:2^22≤2^Lib.bitLen l.length:=Nat.pow_le_pow_right (by omega) (by omega)
   omega
  ·have:l.length=0:=by omega
   rw[this];decide
 have hf:=Eg
 obtain⟨l',e,r,s⟩:=pdqsort_spec Bn l 0 (l.length:Int) ((Lib.bitLen l.length:Nat):Int) (Int.le_refl _) (by omega) (Int.le_refl _) (by omega) hG (by omega) (by omega) (λh=>by omega) (by omega)
 unfold DG.pdqsort
 rw[Int.toNat_natCast,e]
 refine⟨l',rfl,r.perm,?_⟩
 rw[r.len];exact s
end Go.Sx.Gs

namespace Go.Sx
theorem list2 {l:LI}(h:l.length=2):∃a b,l=[a,b]:=by
 match l,h with
 |[a,b],_=>exact⟨a,b,rfl⟩
theorem row_inj {x y:LI}(hx:rowGood x)(hy:rowGood y)(h:rowKey x=rowKey y):x=y:=by
 obtain⟨h1,h2,h3,h4,h5⟩:=hx
 obtain⟨k1,k2,k3,k4,k5⟩:=hy
 obtain⟨a,b,rfl⟩:=list2 h1
 obtain⟨c,d,rfl⟩:=list2 k1
 unfold rowKey at h
 simp only[List.getD_cons_zero,List.getD_cons_succ] at*
 have:a=c:=by omega
 subst this
 have:b=d:=by omega
 subst this
 rfl
end Go.Sx

set_option maxRecDepth 100000
namespace Go.Proofs.YtjhajfcggfhbmaaDoor
open Go Go.Sx
open Go.Proofs.Tryd Go.Proofs.YtjhajfcggfhbmaaDoor.Tryd IntKind
variable {W w : World} {G : GH} {H : List Itm}
theorem AF :prog.follows .mixedOrders=true:=by kernel_rfl
theorem Pl2 :BN prog 2:=isAgg2
theorem T49 :SlT prog 49 2 1 8 (iv 0):=⟨underlying49,Tryd.t2,by kernel_rfl,by kernel_rfl,by kernel_rfl,by kernel_rfl⟩
theorem Pl5 :BN prog 5:=isAgg5
theorem Pl135 :BN prog 135:=isAgg135
theorem Pl3 :BN prog 3:=isAgg3
theorem T71 :SlT prog 71 3 1 8 (iv 0):=⟨underlying71,Tryd.t3,by kernel_rfl,by kernel_rfl,by kernel_rfl,by kernel_rfl⟩
theorem Wk.V0 {v0:Value}{x0:LI}{x1:Int}(m:Mem W G w (H))(h0:R1 G v0 x0){y:Int}(hd:D.V0 x0 x1=some y):
  Calls prog 90 #[v0,(iv x1)] w (Res W G H (λ_ Ho v=>Ho=[]∧v=(iv y))):=by
 refine Ar (args:=[v0,(iv x1)]) (N:=19) [.tmp 4] func90 Z Z (lb Z) Z λa f=> ?_
 unfold D.V0 at hd
 refine Ad ?_
 refine Ac f Z λa f=>Aa (Af (Ad ?_))
 refine Ab f Z λa f=>AT underlying49 f Z Z h0 λa f=>Ab f Z λa f=>Aa ?_
 have⟨aa,ab,hd⟩:=bind_some hd
 refine AB (λa w=>∃q_19':Unit,aa= .inl q_19'∧∃(ac:GH),GLe G ac∧Fr a 19 []∧Mem W ac w (H)) ?_ ?_
 ·refine Aj ?_
  refine Ay (λad a w=>∃ae:Int,ae=ad∧∃(af:GH),GLe G af∧Fr a 19 [(0,v0),(1,(iv x1)),(7,(iv (x0.length:Int))),(8,(iv ae))]∧Mem W af w (H)) ab ⟨_,Z,_,gr,f.k Z,m⟩ ?_
  clear ab f m
  rintro ad ag ah ai a w ⟨ae,rfl,af,aj,f,m⟩
  have h0:=rd1 aj h0
  refine Ad ?_
  refine Ah f Z Z AD λa f=>Aa (Af ?_)
  rcases Ae ah with⟨ak,ah⟩|⟨ak,ah⟩
  ·refine Ak f Z ak ?_
   refine Al ?_
   refine Af (Aj (Ad ?_))
   refine Ab f Z λa f=>Ac f Z λa f=>Av ?_
   refine Ab f Z λa f=>Ab f Z λa f=>Ab f Z λa f=> ?_
   have⟨al,am,ah⟩:=bind_some ah
   refine Bk T49 f Z Z Z h0 am λan ao a ap aq f=> ?_
   subst aq
   refine AG m Pl2 f Z Z ap λa f=>Ah f Z Z BC λa f=>Aa ?_
   rcases Ae ah with⟨ar,ah⟩|⟨ar,ah⟩
   ·refine Ak f Z ar ?_
    refine Ad ?_
    refine Ab f Z λa f=>Ac f Z λa f=>Aa ?_
    refine Ap ?_
    obtain rfl:=sj ah
    obtain rfl:=ai _ rfl
    obtain rfl:=sj hd
    exact⟨[(iv ae)],f.g Z,f.d,_,[],aj,m,Z,Z⟩
   ·refine Ai f Z ar ?_
    refine Al ?_
    refine An ?_
    refine Ah f Z Z Au λa f=>Ab f Z λa f=>Aa ?_
    obtain rfl:=sj ah
    exact⟨_,Z,_,Z,_,aj,f.k Z,m⟩
  ·refine Ai f Z ak ?_
   refine Ax Z ?_
   obtain rfl:=sj ah
   obtain rfl:=ai _ rfl
   exact⟨_,Z,_,aj,f.weak trivial,m⟩
 ·rintro a w ⟨_,rfl,ac,au,f,m⟩
  refine Ad ?_
  refine Ac f Z λa f=>Aa ?_
  refine Ap ?_
  obtain rfl:=sj hd
  exact⟨[(iv (-1))],f.g Z,f.d,_,[],au,m,Z,Z⟩
theorem Wk.R {v0:Value}{x0:LI}{x1:Int}(m:Mem W G w (H))(h0:R1 G v0 x0){y:Bool}(hd:D.R x0 x1=some y):
  Calls prog 65 #[v0,(iv x1)] w (Res W G H (λ_ Ho v=>Ho=[]∧v=(.bool y))):=by
 refine Ar (args:=[v0,(iv x1)]) (N:=9) [.tmp 4] func65 Z Z (lb Z) Z λa f=> ?_
 unfold D.R at hd
 refine Ad ?_
 refine Ac f Z λa f=>Av ?_
 refine Ab f Z λa f=>Ab f Z λa f=> ?_
 have⟨aa,ab,hd⟩:=bind_some hd
 refine A4 f Z call90 (Wk.V0 m h0 ab) λac w ad m a f=>Ah f Z Z B3 λa f=>Ac f Z λa f=>Aa ?_
 refine Ap ?_
 obtain rfl:=sj hd
 exact⟨[(.bool (decide ((0:Int)≤aa)))],f.g Z,f.d,_,[],ad,m,Z,Z⟩
theorem Wk.N0 {x0:Int}(hW:Br W)(m:Mem W G w (H)){y:Int}(hd:D.N0 x0=some y):
  Calls prog 109 #[(.int .u32 x0)] w (Res W G H (λ_ Ho v=>Ho=[]∧v=(iv y))):=by
 refine Ar (args:=[(.int .u32 x0)]) (N:=14) [.tmp 2] func109 Z Z (lb Z) Z λa f=> ?_
 unfold D.N0 at hd
 refine Ad ?_
 refine Ac f Z λa f=>Aa (Af (Ad ?_))
 refine Ab f Z λa f=>Ah f Z Z BC λa f=>Aa ?_
 rcases Ae hd with⟨aa,hd⟩|⟨aa,hd⟩
 ·refine Ak f Z aa ?_
  refine Ad ?_
  refine Ac f Z λa f=>Aa ?_
  refine Ap ?_
  obtain rfl:=sj hd
  exact⟨[(iv 32)],f.g Z,f.d,_,[],gr,m,Z,Z⟩
 ·refine Ai f Z aa ?_
  refine Al ?_
  refine Ad ?_
  refine Ab f Z λa f=>Ab f Z λa f=>l_o f (r_neg (f.e Z)) λa f=>Ah f Z Z Cx λa f=>Ah f Z Z b_mul λa f=>l_o f (r_shr (f.e Z) (f.e Z) (by decide)) λa f=> ?_
  have⟨ab,ac,hd⟩:=bind_some hd
  refine l_tab hW m underlying134 sizeOf5 f Z Z ac λad a ae f=>AG m Pl5 f Z Z ae λa f=>l_o f (Dc (f.e Z) ⟨_,underlying5⟩ underlying3) λa f=>Ac f Z λa f=>Aa ?_
  refine Ap ?_
  obtain rfl:=sj hd
  exact⟨[(iv (i64.wrap ab))],f.g Z,f.d,_,[],gr,m,Z,Z⟩
theorem Wk.n0 {x0:Int}(m:Mem W G w (H)){y:Int}(hd:D.n0 x0=some y):
  Calls prog 121 #[(.int .u32 x0)] w (Res W G H (λ_ Ho v=>Ho=[]∧v=(iv y))):=by
 refine Ar (args:=[(.int .u32 x0)]) (N:=21) [.tmp 2] func121 Z Z (lb Z) Z λa f=> ?_
 unfold D.n0 at hd
 refine Ad ?_
 refine Ac f Z λa f=>Aa (Af ?_)
 refine A8 19 AF (by kernel_rfl) m ?_
 refine Ag 0 19 Z f Z λa f=>q_p 1 19 Z f (λ_=>r_shr (f.e Z) (f.e Z) (by decide)) λa f=> ?_
 have⟨aa,ab,hd⟩:=bind_some hd
 refine q_p 2 19 Z f (λ_=>D8 (f.e Z) (f.e Z) underlying9 ab) λa f=>Ag 3 19 Z f Z λa f=>q_p 4 19 Z f (λ_=>r_shr (f.e Z) (f.e Z) (by decide)) λa f=>q_p 5 19 Z f (λ_=>AA (f.e Z) (f.e Z) Cx) λa f=> ?_
 have⟨ac,ad,hd⟩:=bind_some hd
 refine q_p 6 19 Z f (λ_=>D8 (f.e Z) (f.e Z) underlying9 ad) λa f=>q_p 7 19 Z f (λ_=>AA (f.e Z) (f.e Z) Au) λa f=>Ag 8 19 Z f Z λa f=>q_p 9 19 Z f (λ_=>r_shr (f.e Z) (f.e Z) (by decide)) λa f=>q_p 10 19 Z f (λ_=>AA (f.e Z) (f.e Z) Cx) λa f=> ?_
 have⟨ae,af,hd⟩:=bind_some hd
 refine q_p 11 19 Z f (λ_=>D8 (f.e Z) (f.e Z) underlying9 af) λa f=>q_p 12 19 Z f (λ_=>AA (f.e Z) (f.e Z) Au) λa f=>Ag 13 19 Z f Z λa f=>q_p 14 19 Z f (λ_=>AA (f.e Z) (f.e Z) Cx) λa f=> ?_
 have⟨ag,ah,hd⟩:=bind_some hd
 refine q_p 15 19 Z f (λ_=>D8 (f.e Z) (f.e Z) underlying9 ah) λa f=>q_p 16 19 Z f (λ_=>AA (f.e Z) (f.e Z) Au) λa f=>q_p 17 19 Z f (λ_=>Dc (f.e Z) ⟨_,underlying5⟩ underlying3) λa f=>q_p 18 19 Z f (λ_=>BY (f.e Z)) λa f=>AP λai w aj m=>Aa ?_
 refine Ap ?_
 obtain rfl:=sj hd
 exact⟨[(iv (i64.wrap (IntKind.u8.wrap ((IntKind.u8.wrap ((IntKind.u8.wrap (aa+ac))+ae))+ag))))],f.g Z,f.d,_,[],aj,m,Z,Z⟩
theorem Wk.j0 {x0:Int}(m:Mem W G w (H)){y:Int}(hd:D.j0 x0=some y):
  Calls prog 126 #[(iv x0)] w (Res W G H (λ_ Ho v=>Ho=[]∧v=(.int .u64 y))):=by
 refine Ar (args:=[(iv x0)]) (N:=7) [.tmp 2] func126 Z Z (lb Z) Z λa f=> ?_
 unfold D.j0 at hd
 refine Ad ?_
 refine Ac f Z λa f=>Av ?_
 refine Ab f Z λa f=>l_o f (Dc (f.e Z) ⟨_,underlying3⟩ underlying62) λa f=> ?_
 have⟨aa,ab,hd⟩:=bind_some hd
 refine AE f Z call97 (Wk.I m ab) λac ad ae w af m ag a f=> ?_
 obtain⟨rfl,rfl⟩:=ag
 obtain⟨ah,hd⟩:=Dl hd
 refine l_o f (r_shl (f.e Z) (f.e Z) ah) λa f=>Ac f Z λa f=>Aa ?_
 refine Ap ?_
 obtain rfl:=sj hd
 exact⟨[(.int .u64 (ishl .u64 1 aa))],f.g Z,f.d,_,[],af,m,Z,Z⟩
theorem Wk.o0 {b0:Nat}{aa:Int}(m:Mem W G w (ib b0 135 [(.int .u64 aa)]::H)){y:Int×Int}(hd:D.o0 aa=some y):
  Calls prog 127 #[(pb b0)] w (Res W G H (λ_ Ho v=>Ho=[ib b0 135 [(.int .u64 y.2)]]∧v=(.int .u64 y.1))):=by
 refine Ar (args:=[(pb b0)]) (N:=33) [.tmp 2] func127 Z Z (lb Z) Z λa f=> ?_
 unfold D.o0 at hd
 refine Ad ?_
 refine Ac f Z λa f=>Aa (Af ?_)
 refine A8 9 AF (by kernel_rfl) m ?_
 refine Ag 0 9 Z f Z λa f=>q_p 1 9 Z f (λ_=>Be (f.e Z)) λa f=>CO 2 9 0 Pl135 Z Z Z f Z λa f=>Ag 3 9 Z f Z λa f=>q_p 4 9 Z f (λ_=>Be (f.e Z)) λa f=>CO 5 9 0 Pl135 Z Z Z f Z λa f=>q_p 6 9 Z f (λ_=>r_shl (f.e Z) (f.e Z) (by decide)) λa f=>q_p 7 9 Z f (λ_=>AA (f.e Z) (f.e Z) b_xor) λa f=>q_p 8 9 Z f (λ_=>Be (f.e Z)) λa f=>AP λab w ac m=>Bz 0 0 (ds:=[(.int .u64 (AW .u64 aa (ishl .u64 aa 13)))]) m sizeOf135 f Z Z Z (BG Z BU) Z (lb Z) Z λw m=>Aa (Af ?_)
 refine A8 9 AF (by kernel_rfl) m ?_
 refine Ag 0 9 Z f Z λa f=>q_p 1 9 Z f (λ_=>Be (f.e Z)) λa f=>CO 2 9 0 Pl135 Z Z Z f Z λa f=>Ag 3 9 Z f Z λa f=>q_p 4 9 Z f (λ_=>Be (f.e Z)) λa f=>CO 5 9 0 Pl135 Z Z Z f Z λa f=>q_p 6 9 Z f (λ_=>r_shr (f.e Z) (f.e Z) (by decide)) λa f=>q_p 7 9 Z f (λ_=>AA (f.e Z) (f.e Z) b_xor) λa f=>q_p 8 9 Z f (λ_=>Be (f.e Z)) λa f=>AP λad w ae m=>Bz 0 0 (ds:=[(.int .u64 (AW .u64 (AW .u64 aa (ishl .u64 aa 13)) (BH .u64 (AW .u64 aa (ishl .u64 aa 13)) 7)))]) m sizeOf135 f Z Z Z (BG Z BU) Z (lb Z) Z λw m=>Aa (Af ?_)
 refine A8 9 AF (by kernel_rfl) m ?_
 refine Ag 0 9 Z f Z λa f=>q_p 1 9 Z f (λ_=>Be (f.e Z)) λa f=>CO 2 9 0 Pl135 Z Z Z f Z λa f=>Ag 3 9 Z f Z λa f=>q_p 4 9 Z f (λ_=>Be (f.e Z)) λa f=>CO 5 9 0 Pl135 Z Z Z f Z λa f=>q_p 6 9 Z f (λ_=>r_shl (f.e Z) (f.e Z) (by decide)) λa f=>q_p 7 9 Z f (λ_=>AA (f.e Z) (f.e Z) b_xor) λa f=>q_p 8 9 Z f (λ_=>Be (f.e Z)) λa f=>AP λaf w ag m=>Bz 0 0 (ds:=[(.int .u64 (AW .u64 (AW .u64 (AW .u64 aa (ishl .u64 aa 13)) (BH .u64 (AW .u64 aa (ishl .u64 aa 13)) 7)) (ishl .u64 (AW .u64 (AW .u64 aa (ishl .u64 aa 13)) (BH .u64 (AW .u64 aa (ishl .u64 aa 13)) 7)) 17)))]) m sizeOf135 f Z Z Z (BG Z BU) Z (lb Z) Z λw m=>Av ?_
 refine Ab f Z λa f=>l_o f (Be (f.e Z)) λa f=>AK 0 0 m Pl135 f Z Z Z Z λa f=>Ac f Z λa f=>Aa ?_
 refine Ap ?_
 obtain rfl:=sj hd
 exact⟨[(.int .u64 (AW .u64 (AW .u64 (AW .u64 aa (ishl .u64 aa 13)) (BH .u64 (AW .u64 aa (ishl .u64 aa 13)) 7)) (ishl .u64 (AW .u64 (AW .u64 aa (ishl .u64 aa 13)) (BH .u64 (AW .u64 aa (ishl .u64 aa 13)) 7)) 17)))],f.g Z,f.d,_,[ib b0 135 [(.int .u64 (AW .u64 (AW .u64 (AW .u64 aa (ishl .u64 aa 13)) (BH .u64 (AW .u64 aa (ishl .u64 aa 13)) 7)) (ishl .u64 (AW .u64 (AW .u64 aa (ishl .u64 aa 13)) (BH .u64 (AW .u64 aa (ishl .u64 aa 13)) 7)) 17)))]],(gt ac (gt ae ag)),m,Z,Z⟩
theorem Wk.f0 {x0:Int}(m:Mem W G w (H)){y:Bool}(hd:D.f0 x0=some y):
  Calls prog 130 #[(iv x0)] w (Res W G H (λ_ Ho v=>Ho=[]∧v=(.bool y))):=by
 refine Ar (args:=[(iv x0)]) (N:=6) [.tmp 2] func130 Z Z (lb Z) Z λa f=> ?_
 unfold D.f0 at hd
 refine Ad ?_
 refine Ac f Z λa f=>Av ?_
 refine Ab f Z λa f=>Ab f Z λa f=>Ah f Z Z Dr λa f=>Ac f Z λa f=>Aa ?_
 refine Ap ?_
 obtain rfl:=sj hd
 exact⟨[(.bool (x0 !=x0))],f.g Z,f.d,_,[],gr,m,Z,Z⟩
theorem Wk.h0 {x0 x1:Int}(m:Mem W G w (H)){y:Int}(hd:D.h0 x0 x1=some y):
  Calls prog 120 #[(iv x0),(iv x1)] w (Res W G H (λ_ Ho v=>Ho=[]∧v=(iv y))):=by
 refine Ar (args:=[(iv x0),(iv x1)]) (N:=20) [.tmp 4] func120 Z Z (lb Z) Z λa f=> ?_
 unfold D.h0 at hd
 refine Ad ?_
 refine Ac f Z λa f=>Av ?_
 refine Ab f Z λa f=> ?_
 have⟨aa,ab,hd⟩:=bind_some hd
 refine A4 f Z call130 (Wk.f0 m ab) λac w ad m a f=>Ac f Z λa f=>Av ?_
 refine Ab f Z λa f=> ?_
 have⟨ae,af,hd⟩:=bind_some hd
 refine A4 f Z call130 (Wk.f0 m af) λag w ah m a f=>Ac f Z λa f=>Aa (Af (Ad ?_))
 refine Ab f Z λa f=>Aa ?_
 rcases Ae hd with⟨ai,hd⟩|⟨ai,hd⟩
 ·refine Ak f Z ai ?_
  refine Af (Ad ?_)
  refine Ab f Z λa f=>Aa ?_
  rcases Ae hd with⟨aj,hd⟩|⟨aj,hd⟩
  ·refine Ak f Z aj ?_
   refine Ad ?_
   refine Ac f Z λa f=>Aa ?_
   refine Ap ?_
   obtain rfl:=sj hd
   exact⟨[(iv 0)],f.g Z,f.d,_,[],(gt ad ah),m,Z,Z⟩
  ·refine Ai f Z aj ?_
   refine Al ?_
   refine Ad ?_
   refine Ac f Z λa f=>Aa ?_
   refine Ap ?_
   obtain rfl:=sj hd
   exact⟨[(iv (-1))],f.g Z,f.d,_,[],(gt ad ah),m,Z,Z⟩
 ·refine Ai f Z ai ?_
  refine Al ?_
  refine Af (Ad ?_)
  refine Ab f Z λa f=>Aa ?_
  rcases Ae hd with⟨ak,hd⟩|⟨ak,hd⟩
  ·refine Ak f Z ak ?_
   refine Ad ?_
   refine Ac f Z λa f=>Aa ?_
   refine Ap ?_
   obtain rfl:=sj hd
   exact⟨[(iv 1)],f.g Z,f.d,_,[],(gt ad ah),m,Z,Z⟩
  ·refine Ai f Z ak ?_
   refine Al ?_
   refine Af (Ad ?_)
   refine Ab f Z λa f=>Ab f Z λa f=>Ah f Z Z AD λa f=>Aa ?_
   rcases Ae hd with⟨al,hd⟩|⟨al,hd⟩
   ·refine Ak f Z al ?_
    refine Ad ?_
    refine Ac f Z λa f=>Aa ?_
    refine Ap ?_
    obtain rfl:=sj hd
    exact⟨[(iv (-1))],f.g Z,f.d,_,[],(gt ad ah),m,Z,Z⟩
   ·refine Ai f Z al ?_
    refine Al ?_
    refine Af (Ad ?_)
    refine Ab f Z λa f=>Ab f Z λa f=>Ah f Z Z CV λa f=>Aa ?_
    rcases Ae hd with⟨am,hd⟩|⟨am,hd⟩
    ·refine Ak f Z am ?_
     refine Ad ?_
     refine Ac f Z λa f=>Aa ?_
     refine Ap ?_
     obtain rfl:=sj hd
     exact⟨[(iv 1)],f.g Z,f.d,_,[],(gt ad ah),m,Z,Z⟩
    ·refine Ai f Z am ?_
     refine Al ?_
     refine Ad ?_
     refine Ac f Z λa f=>Aa ?_
     refine Ap ?_
     obtain rfl:=sj hd
     exact⟨[(iv 0)],f.g Z,f.d,_,[],(gt ad ah),m,Z,Z⟩
theorem Wk.u0 {v0 v1:Value}{x0 x1:LI}(m:Mem W G w (H))(h0:R1 G v0 x0)(h1:R1 G v1 x1){y:Int}(hd:D.u0 x0 x1=some y):
  Calls prog 98 #[v0,v1] w (Res W G H (λ_ Ho v=>Ho=[]∧v=(iv y))):=by
 refine Ar (args:=[v0,v1]) (N:=36) [.tmp 4] func98 Z Z (lb Z) Z λa f=> ?_
 unfold D.u0 at hd
 refine Ad ?_
 refine Ac f Z λa f=>Aa (Af (Ad ?_))
 refine Ab f Z λa f=>AT underlying71 f Z Z h0 λa f=>Ab f Z λa f=>Aa ?_
 have⟨aa,ab,hd⟩:=bind_some hd
 refine AB (λa w=>∃q_47':Unit,aa= .inl q_47'∧∃(ac:GH),GLe G ac∧Fr a 36 [(0,v0),(1,v1)]∧Mem W ac w (H)) ?_ ?_
 ·refine Aj ?_
  refine Ay (λad a w=>∃ae:Int,ae=ad∧∃(af:GH),GLe G af∧Fr a 36 [(0,v0),(1,v1),(9,v0),(10,(iv (x0.length:Int))),(11,(iv ae))]∧Mem W af w (H)) ab ⟨_,Z,_,gr,f.k Z,m⟩ ?_
  clear ab f m
  rintro ad ag ah ai a w ⟨ae,rfl,af,aj,f,m⟩
  have h0:=rd1 aj h0
  have h1:=rd1 aj h1
  refine Ad ?_
  refine Ah f Z Z AD λa f=>Aa (Af ?_)
  rcases Ae ah with⟨ak,ah⟩|⟨ak,ah⟩
  ·refine Ak f Z ak ?_
   refine Al ?_
   refine Af (Aj (Ad ?_))
   refine Ab f Z λa f=> ?_
   have⟨al,am,ah⟩:=bind_some ah
   refine Bk T71 f Z Z Z h0 am λan ao a ap aq f=> ?_
   subst aq
   refine AG m Pl3 f Z Z ap λa f=>Ac f Z λa f=>Ac f Z λa f=>Aa (Af (Ad ?_))
   refine Ab f Z λa f=>Ab f Z λa f=>AT underlying71 f Z Z h1 λa f=>Ah f Z Z B3 λa f=>Aa ?_
   rcases Ae ah with⟨ar,ah⟩|⟨ar,ah⟩
   ·refine Ak f Z ar ?_
    refine Ad ?_
    refine Ac f Z λa f=>Aa ?_
    refine Ap ?_
    obtain rfl:=sj ah
    obtain rfl:=ai _ rfl
    obtain rfl:=sj hd
    exact⟨[(iv 1)],f.g Z,f.d,_,[],aj,m,Z,Z⟩
   ·refine Ai f Z ar ?_
    refine Al ?_
    refine Ad ?_
    refine Ab f Z λa f=>Ab f Z λa f=> ?_
    have⟨au,av,ah⟩:=bind_some ah
    refine Bk T71 f Z Z Z h1 av λaw ax a ay az f=> ?_
    subst az
    refine AG m Pl3 f Z Z ay λa f=>Ac f Z λa f=>Av ?_
    refine Ab f Z λa f=>Ab f Z λa f=> ?_
    have⟨aA,aB,ah⟩:=bind_some ah
    refine A4 f Z call120 (Wk.h0 m aB) λaC w aD m a f=>Ac f Z λa f=>Av ?_
    refine Ab f Z λa f=>Ah f Z Z Dr λa f=>Aa ?_
    rcases Ae ah with⟨aE,ah⟩|⟨aE,ah⟩
    ·refine Ak f Z aE ?_
     refine Ad ?_
     refine Ab f Z λa f=>Ac f Z λa f=>Aa ?_
     refine Ap ?_
     obtain rfl:=sj ah
     obtain rfl:=ai _ rfl
     obtain rfl:=sj hd
     exact⟨[(iv aA)],f.g Z,f.d,_,[],(gt aj aD),m,Z,Z⟩
    ·refine Ai f Z aE ?_
     refine Al ?_
     refine An ?_
     refine Ah f Z Z Au λa f=>Ab f Z λa f=>Aa ?_
     obtain rfl:=sj ah
     exact⟨_,Z,_,Z,_,(gt aj aD),f.k Z,m⟩
  ·refine Ai f Z ak ?_
   refine Ax Z ?_
   obtain rfl:=sj ah
   obtain rfl:=ai _ rfl
   exact⟨_,Z,_,aj,f.k Z,m⟩
 ·rintro a w ⟨_,rfl,ac,aF,f,m⟩
  have h0:=rd1 aF h0
  have h1:=rd1 aF h1
  refine Af (Ad ?_)
  refine Ab f Z λa f=>AT underlying71 f Z Z h0 λa f=>Ab f Z λa f=>AT underlying71 f Z Z h1 λa f=>Ah f Z Z AD λa f=>Aa ?_
  rcases Ae hd with⟨aG,hd⟩|⟨aG,hd⟩
  ·refine Ak f Z aG ?_
   refine Ad ?_
   refine Ac f Z λa f=>Aa ?_
   refine Ap ?_
   obtain rfl:=sj hd
   exact⟨[(iv (-1))],f.g Z,f.d,_,[],aF,m,Z,Z⟩
  ·refine Ai f Z aG ?_
   refine Al ?_
   refine Ad ?_
   refine Ac f Z λa f=>Aa ?_
   refine Ap ?_
   obtain rfl:=sj hd
   exact⟨[(iv 0)],f.g Z,f.d,_,[],aF,m,Z,Z⟩
end Go.Proofs.YtjhajfcggfhbmaaDoor

set_option maxRecDepth 100000
namespace Go.Proofs.YtjhajfcggfhbmaaDoor
open Go Go.Sx
open Go.Proofs.Tryd Go.Proofs.YtjhajfcggfhbmaaDoor.Tryd IntKind
variable {W w : World} {G : GH} {H : List Itm}
theorem BW :BN prog 49:=isAgg49
theorem T22 :SlT prog 22 49 1 24 sn:=⟨underlying22,Tryd.t49,by kernel_rfl,by kernel_rfl,by kernel_rfl,by kernel_rfl⟩
theorem BP :BN prog 22:=isAgg22
theorem Bv :Agg prog 27 1:=⟨isAgg27,sizeOf27⟩
theorem Pl4 :BN prog 4:=isAgg4
theorem T118 :SlT prog 118 4 1 1 (.bool false):=⟨underlying118,Tryd.t4,by kernel_rfl,by kernel_rfl,by kernel_rfl,by kernel_rfl⟩
theorem Wk.k {v0:Value}{x0:LI}{x1:Int}(m:Mem W G w (H))(h0:R1 G v0 x0){y:Int}(hd:D.k x0 x1=some y):
  Calls prog 52 #[v0,(iv x1)] w (Res W G H (λ_ Ho v=>Ho=[]∧v=(iv y))):=by
 refine Ar (args:=[v0,(iv x1)]) (N:=12) [.tmp 4] func52 Z Z (lb Z) Z λa f=> ?_
 unfold D.k at hd
 refine Ad ?_
 refine Ac f Z λa f=>Av ?_
 refine Ab f Z λa f=>Ab f Z λa f=>AT underlying49 f Z Z h0 λa f=>Ah f Z Z AI λa f=>Ac f Z λa f=>Aa (Af (Ad ?_))
 refine Ab f Z λa f=>Ah f Z Z AD λa f=>Aa ?_
 rcases Ae hd with⟨aa,hd⟩|⟨aa,hd⟩
 ·refine Ak f Z aa ?_
  refine Ad ?_
  refine Ac f Z λa f=>Aa ?_
  refine Ap ?_
  obtain rfl:=sj hd
  exact⟨[(iv (-1))],f.g Z,f.d,_,[],gr,m,Z,Z⟩
 ·refine Ai f Z aa ?_
  refine Al ?_
  refine Ad ?_
  refine Ab f Z λa f=>Ac f Z λa f=>Aa ?_
  refine Ap ?_
  obtain rfl:=sj hd
  exact⟨[(iv (i64.wrap (x1-(x0.length:Int))))],f.g Z,f.d,_,[],gr,m,Z,Z⟩
theorem Wk.k0 {v0:Value}{x0:LL}{x1:Int}(m:Mem W G w (H))(h0:R2 G v0 x0){y:Int}(hd:D.k0 x0 x1=some y):
  Calls prog 25 #[v0,(iv x1)] w (Res W G H (λ_ Ho v=>Ho=[]∧v=(iv y))):=by
 refine Ar (args:=[v0,(iv x1)]) (N:=27) [.tmp 4] func25 Z Z (lb Z) Z λa f=> ?_
 unfold D.k0 at hd
 refine Ad ?_
 refine Ac f Z λa f=>Av ?_
 refine Ab f Z λa f=>Ab f Z λa f=>AT underlying22 f Z Z h0 λa f=>Ah f Z Z AI λa f=>Ac f Z λa f=>Aa (Af (Ad ?_))
 refine Ab f Z λa f=>Ah f Z Z AD λa f=>Aa ?_
 rcases Ae hd with⟨aa,hd⟩|⟨aa,hd⟩
 ·refine Ak f Z aa ?_
  refine Ad ?_
  refine Ac f Z λa f=>Aa ?_
  refine Ap ?_
  obtain rfl:=sj hd
  exact⟨[(iv (-1))],f.g Z,f.d,_,[],gr,m,Z,Z⟩
 ·refine Ai f Z aa ?_
  refine Al ?_
  refine Af (Ad ?_)
  refine Ac f Z λa f=>Aa ?_
  have⟨ab,ac,hd⟩:=bind_some hd
  refine AB (λa w=>∃q_35':Int,ab= .inl q_35'∧∃ad:Int,ad=q_35'∧∃(ae:GH),GLe G ae∧Fr a 27 [(1,(iv ad))]∧Mem W ae w (H)) ?_ ?_
  ·refine Aj ?_
   refine Ay (λaf a w=>∃ag:Int,∃ah:Int,(ag,ah)=af∧∃(ai:GH),GLe G ai∧Fr a 27 [(0,v0),(1,(iv ag)),(5,(iv ah))]∧Mem W ai w (H)) ac ⟨_,_,Z,_,gr,f.k Z,m⟩ ?_
   clear ac f m
   rintro af aj ak al a w ⟨ag,ah,rfl,ai,am,f,m⟩
   have h0:=rd2 am h0
   refine Af (Ad ?_)
   refine Ab f Z λa f=>Ab f Z λa f=>AT underlying22 f Z Z h0 λa f=>Ah f Z Z AD λa f=>Aa ?_
   rcases Ae ak with⟨an,ak⟩|⟨an,ak⟩
   ·refine Ak f Z an ?_
    refine Al ?_
    refine Af (Aj (Ad ?_))
    refine Ab f Z λa f=>Ab f Z λa f=> ?_
    have⟨ao,ap,ak⟩:=bind_some ak
    refine Bk T22 f Z Z Z h0 ap λaq ar a au av f=>AG m BW f Z Z au λa f=>Ab f Z λa f=> ?_
    have⟨aw,ax,ak⟩:=bind_some ak
    refine A4 f Z call52 (Wk.k m av ax) λay w az m a f=>Ac f Z λa f=>Av ?_
    refine Ab f Z λa f=>Ah f Z Z AD λa f=>Aa ?_
    rcases Ae ak with⟨aA,ak⟩|⟨aA,ak⟩
    ·refine Ak f Z aA ?_
     refine Ad ?_
     refine Ac f Z λa f=>Aa ?_
     refine Ap ?_
     obtain rfl:=sj ak
     obtain rfl:=al _ rfl
     obtain rfl:=sj hd
     exact⟨[(iv (-1))],f.g Z,f.d,_,[],(gt am az),m,Z,Z⟩
    ·refine Ai f Z aA ?_
     refine Al ?_
     refine An ?_
     refine Ab f Z λa f=>Ah f Z Z Au λa f=>Ac f Z λa f=>Aa ?_
     obtain rfl:=sj ak
     exact⟨_,Z,_,_,Z,_,(gt am az),f.k Z,m⟩
   ·refine Ai f Z an ?_
    refine Ax Z ?_
    obtain rfl:=sj ak
    obtain rfl:=al _ rfl
    exact⟨_,Z,_,Z,_,am,f.k Z,m⟩
  ·rintro a w ⟨_,rfl,ad,rfl,ae,aB,f,m⟩
   refine Ad ?_
   refine Ab f Z λa f=>Ac f Z λa f=>Aa ?_
   refine Ap ?_
   obtain rfl:=sj hd
   exact⟨[(iv ad)],f.g Z,f.d,_,[],aB,m,Z,Z⟩
theorem Wk.D0 {aa:Value}{ab:LL}{x1:Int}(m:Mem W G w (H))(ac:R2 G aa ab){y:Int}(hd:D.D0 ab x1=some y):
  Calls prog 6 #[(.agg #[aa]),(iv x1)] w (Res W G H (λ_ Ho v=>Ho=[]∧v=(iv y))):=by
 refine Ar (args:=[(.agg #[aa]),(iv x1)]) (N:=12) [.tmp 4] func6 Z Z (lb Z) Z λa f=> ?_
 unfold D.D0 at hd
 refine Ad ?_
 refine Bw (cs:=[aa]) m f Z Z Z λad w a m f=>Ac f Z λa f=>Av ?_
 refine BX underlying24 Z sizeOf22 f Z λa f=>AK 0 0 m BP f Z Z Z Z λa f=>Ab f Z λa f=> ?_
 have⟨ae,af,hd⟩:=bind_some hd
 refine A4 f Z call25 (Wk.k0 m ac af) λag w ah m a f=>Ac f Z λa f=>Aa (Af (Ad ?_))
 refine Ab f Z λa f=>Ah f Z Z AD λa f=>Aa ?_
 rcases Ae hd with⟨ai,hd⟩|⟨ai,hd⟩
 ·refine Ak f Z ai ?_
  refine Ad ?_
  refine Ac f Z λa f=>Aa ?_
  refine Ap ?_
  have m:Mem W ag w H:=Mem.drop (H':=[ib ad 24 [aa]]) m
  obtain rfl:=sj hd
  exact⟨[(iv (-1))],f.g Z,f.d,_,[],ah,m,Z,Z⟩
 ·refine Ai f Z ai ?_
  refine Al ?_
  refine Ad ?_
  refine Ab f Z λa f=>Ac f Z λa f=>Aa ?_
  refine Ap ?_
  have m:Mem W ag w H:=Mem.drop (H':=[ib ad 24 [aa]]) m
  obtain rfl:=sj hd
  exact⟨[(iv ae)],f.g Z,f.d,_,[],ah,m,Z,Z⟩
theorem Wk.m {v0:Value}{x0:LI}(m:Mem W G w (H))(h0:R1 G v0 x0){y:(LI)}(hd:D.m x0=some y):
  Calls prog 63 #[v0] w (Res W G H (λG' Ho v=>∃r0:Value,∃i0:Itm,Ho=[i0]∧r0=v∧Ow R0 2 G' i0 r0 y)):=by
 refine Ar (args:=[v0]) (N:=22) [.tmp 2] func63 Z Z (lb Z) Z λa f=> ?_
 unfold D.m at hd
 refine Ad ?_
 refine Ac f Z λa f=>Av ?_
 refine Ab f Z λa f=>AT underlying49 f Z Z h0 λa f=> ?_
 have⟨aa,ab,hd⟩:=bind_some hd
 refine l_make (R:=R0) m T49 Z (by decide) Z f Z Z Z ab λac ad w a m ae f=>Ac f Z λa f=>Aa (Af (Ad ?_))
 refine Ac f Z λa f=>Aa ?_
 have⟨af,ag,hd⟩:=bind_some hd
 refine AB (λa w=>∃ah:LI,ah=af∧∃(ai:GH) (aj:Itm),GLe G ai∧Fr a 22 [(3,ad)]∧Mem W ai w (aj::H)∧Ow R0 2 ai aj ad ah) ?_ ?_
 ·refine Aj ?_
  refine Ay (λak a w=>∃al:LI,∃am:Int,(al,am)=ak∧∃(an:GH) (ao:Itm),GLe G an∧Fr a 22 [(0,v0),(3,ad),(4,(iv am))]∧Mem W an w (ao::H)∧Ow R0 2 an ao ad al) ag ⟨_,_,Z,_,ac,gr,f.k Z,m,ae⟩ ?_
  clear ag f m
  rintro ak ap aq ar a w ⟨al,am,rfl,an,ao,au,f,m,av⟩
  have h0:=rd1 au h0
  refine Af (Ad ?_)
  refine Ab f Z λa f=>Ab f Z λa f=>AT underlying49 f Z Z h0 λa f=>Ah f Z Z AD λa f=>Aa ?_
  rcases Ae aq with⟨aw,aq⟩|⟨aw,aq⟩
  ·refine Ak f Z aw ?_
   refine Al ?_
   refine Af (Aj (An ?_))
   refine Ab f Z λa f=>Ab f Z λa f=>Ab f Z λa f=>Ab f Z λa f=> ?_
   have⟨ax,ay,aq⟩:=bind_some aq
   refine Bk T49 f Z Z Z h0 ay λaz aA a aB aC f=> ?_
   subst aC
   refine AG m Pl2 f Z Z aB λa f=> ?_
   have⟨aD,aE,aq⟩:=bind_some aq
   refine A2 0 m av Z T49 f Z Z Z aE λaF a aG f=>Az 0 m av Z sizeOf2 f Z Z aG aE Z Z Z λaH w m aI=>Aa (An ?_)
   refine Ab f Z λa f=>Ah f Z Z Au λa f=>Ac f Z λa f=>Aa ?_
   obtain rfl:=sj aq
   exact⟨_,Z,_,_,Z,_,aH,au,f.k Z,m,aI⟩
  ·refine Ai f Z aw ?_
   refine Ax Z ?_
   obtain rfl:=sj aq
   obtain rfl:=ar _ rfl
   exact⟨_,Z,_,ao,au,f.k Z,m,av⟩
 ·rintro a w ⟨ah,rfl,ai,aj,aJ,f,m,aK⟩
  refine Ad ?_
  refine Ab f Z λa f=>Ac f Z λa f=>Aa ?_
  refine Ap ?_
  obtain rfl:=sj hd
  exact⟨[ad],f.g Z,f.d,_,[aj],aJ,m,_,_,Z,Z,aK⟩
theorem Wk.p0 {v0:Value}{x0:LL}(m:Mem W G w (H))(h0:R2 G v0 x0){y:(LL)}(hd:D.p0 x0=some y):
  Calls prog 29 #[v0] w (Res W G H (λG' Ho v=>∃r0:Value,∃i0:Itm,Ho=[i0]∧r0=v∧Ow2 R0 49 2 G' i0 r0 y)):=by
 refine Ar (args:=[v0]) (N:=23) [.tmp 2] func29 Z Z (lb Z) Z λa f=> ?_
 unfold D.p0 at hd
 refine Ad ?_
 refine Ac f Z λa f=>Av ?_
 refine Ab f Z λa f=>AT underlying22 f Z Z h0 λa f=> ?_
 have⟨aa,ab,hd⟩:=bind_some hd
 refine l_make2 (R:=R0) (t2:=2) m T22 (by decide) f Z Z Z ab λac ad w a m ae f=>Ac f Z λa f=>Aa (Af (Ad ?_))
 refine Ac f Z λa f=>Aa ?_
 have⟨af,ag,hd⟩:=bind_some hd
 refine AB (λa w=>∃ah:LL,ah=af∧∃(ai:GH) (aj:Itm),GLe G ai∧Fr a 23 [(3,ad)]∧Mem W ai w (aj::H)∧Ow2 R0 49 2 ai aj ad ah) ?_ ?_
 ·refine Aj ?_
  refine Ay (λak a w=>∃al:LL,∃am:Int,(al,am)=ak∧∃(an:GH) (ao:Itm),GLe G an∧Fr a 23 [(0,v0),(3,ad),(4,(iv am))]∧Mem W an w (ao::H)∧Ow2 R0 49 2 an ao ad al) ag ⟨_,_,Z,_,ac,gr,f.k Z,m,ae⟩ ?_
  clear ag f m
  rintro ak ap aq ar a w ⟨al,am,rfl,an,ao,au,f,m,av⟩
  have h0:=rd2 au h0
  refine Af (Ad ?_)
  refine Ab f Z λa f=>Ab f Z λa f=>AT underlying22 f Z Z h0 λa f=>Ah f Z Z AD λa f=>Aa ?_
  rcases Ae aq with⟨aw,aq⟩|⟨aw,aq⟩
  ·refine Ak f Z aw ?_
   refine Al ?_
   refine Af (Aj (An ?_))
   refine Ab f Z λa f=>Ab f Z λa f=>Ab f Z λa f=>Ab f Z λa f=> ?_
   have⟨ax,ay,aq⟩:=bind_some aq
   refine Bk T22 f Z Z Z h0 ay λaz aA a aB aC f=>AG m BW f Z Z aB λa f=> ?_
   have⟨aD,aE,aq⟩:=bind_some aq
   refine AE f Z call63 (Wk.m m aC aE) λaF aG aH w aI m aJ a f=> ?_
   obtain⟨aK,aL,rfl,rfl,aM⟩:=aJ
   have av:=od2 aI av
   have⟨aN,aO,aq⟩:=bind_some aq
   refine l_own2_at 1 m av Z T22 f Z Z Z aO λaP a aQ f=> ?_
   have m:=m.fr 1
   refine l_own2_store m av aM sizeOf49 f Z Z aQ aO λaR w m aS=>Aa (An ?_)
   refine Ab f Z λa f=>Ah f Z Z Au λa f=>Ac f Z λa f=>Aa ?_
   obtain rfl:=sj aq
   exact⟨_,Z,_,_,Z,_,aR,(gt au aI),f.k Z,m,aS⟩
  ·refine Ai f Z aw ?_
   refine Ax Z ?_
   obtain rfl:=sj aq
   obtain rfl:=ar _ rfl
   exact⟨_,Z,_,ao,au,f.k Z,m,av⟩
 ·rintro a w ⟨ah,rfl,ai,aj,aT,f,m,aU⟩
  refine Ad ?_
  refine Ab f Z λa f=>Ac f Z λa f=>Aa ?_
  refine Ap ?_
  obtain rfl:=sj hd
  exact⟨[ad],f.g Z,f.d,_,[aj],aT,m,_,_,Z,Z,aU⟩
theorem Wk.u {aa:Value}{ab:LL}(m:Mem W G w (H))(ac:R2 G aa ab){y:(LL)}(hd:D.u ab=some y):
  Calls prog 8 #[(.agg #[aa])] w (Res W G H (λG' Ho v=>∃r0:Value,∃i0:Itm,Ho=[i0]∧v=(.agg #[r0])∧Ow2 R0 49 2 G' i0 r0 y)):=by
 refine Ar (args:=[(.agg #[aa])]) (N:=9) [.cell 2 27] func8 Z Z (lb Z) Z λa f=> ?_
 unfold D.u at hd
 refine Ad ?_
 refine Bw (cs:=[aa]) m f Z Z Z λad w a m f=>CG (cs:=[sn]) zeroValue27 m f Z Z λae w a m f=>Av ?_
 refine CG (cs:=[sn]) zeroValue27 m f Z Z λaf w a m f=>Av ?_
 refine BX underlying24 Z sizeOf22 f Z λa f=>AK 2 0 m BP f Z Z Z Z λa f=> ?_
 have⟨ag,ah,hd⟩:=bind_some hd
 refine AE f Z call29 (Wk.p0 m ac ah) λai aj ak w al m am a f=> ?_
 obtain⟨an,ao,rfl,rfl,ap⟩:=am
 refine BX underlying27 Z sizeOf22 f Z λa f=>Bz 1 0 (ds:=[an]) m sizeOf22 f Z Z (Ow2.cells 0 m ap Z) (BG (Ow2.one1 0 m ap Z) BU) Z (lb Z) Z λw m=>Av ?_
 refine A3 1 0 (ds:=[an]) m Bv f Z Z Z Z Z λa f=>Bz 2 0 (ds:=[an]) m sizeOf27 f Z Z Z (BG (Ow2.one1 0 m ap Z) BU) Z (lb Z) Z λw m=>Aa ?_
 refine Ap ?_
 have aq:=rr_agg (P:=prog) 2 m Bv f (s:=2) rfl rfl rfl
 have m:=m.eraseAt 3
 have m:=m.eraseAt 2
 have m:=m.eraseAt 1
 obtain rfl:=sj hd
 exact⟨[(.agg #[an])],⟨aq,trivial⟩,f.d,_,[ao],al,m,_,_,Z,Z,ap⟩
theorem Wk.d {aa:Value}{ab:LL}(m:Mem W G w (H))(ac:R2 G aa ab){y:Int}(hd:D.d ab=some y):
  Calls prog 53 #[(.agg #[aa])] w (Res W G H (λ_ Ho v=>Ho=[]∧v=(iv y))):=by
 refine Ar (args:=[(.agg #[aa])]) (N:=6) [.tmp 2] func53 Z Z (lb Z) Z λa f=> ?_
 unfold D.d at hd
 refine Ad ?_
 refine Bw (cs:=[aa]) m f Z Z Z λad w a m f=>Ac f Z λa f=>Av ?_
 refine BX underlying27 Z sizeOf22 f Z λa f=>AK 0 0 m BP f Z Z Z Z λa f=>AT underlying22 f Z Z ac λa f=>Ac f Z λa f=>Aa ?_
 refine Ap ?_
 have m:Mem W G w H:=Mem.drop (H':=[ib ad 27 [aa]]) m
 obtain rfl:=sj hd
 exact⟨[(iv (ab.length:Int))],f.g Z,f.d,_,[],gr,m,Z,Z⟩
theorem Wk.a0 {x0 x1 x2:Int}(m:Mem W G w (H)){y:Bool}(hd:D.a0 x0 x1 x2=some y):
  Calls prog 54 #[(iv x0),(iv x1),(iv x2)] w (Res W G H (λ_ Ho v=>Ho=[]∧v=(.bool y))):=by
 refine Ar (args:=[(iv x0),(iv x1),(iv x2)]) (N:=15) [.tmp 6] func54 Z Z (lb Z) Z λa f=> ?_
 unfold D.a0 at hd
 refine Ad ?_
 refine Ac f Z λa f=>Av ?_
 refine Ab f Z λa f=>Ab f Z λa f=>Ah f Z Z B3 λa f=>Ab f Z λa f=> ?_
 refine B4 4 (λa w=>∃aa,GLe G aa∧Mem W aa w (H)∧Fr a 15 [(0,(iv x0)),(1,(iv x1)),(2,(iv x2)),(7,(iv x0)),(8,(iv x1)),(9,(.bool (decide (x1≤x0)))),(10,(.bool (decide (x1≤x0)))),(14,(.bool ((decide (x1≤x0))&&(decide (x0≤x2)))))]) ?_ ?_
 ·rcases Bool.eq_false_or_eq_true (decide (x1≤x0)) with ab|ab
  ·refine AJ f ab ?_
   refine Ab f Z λa f=>AJ f ab ?_
   refine Ab f Z λa f=>AJ f ab ?_
   refine Ah f Z Z Cz λa f=>l_o f (AV (f.e Z) ab (f.e Z)) λa f=> ?_
   exact⟨_,gr,m,f.weak ⟨Z,Z,Z,Z,Z,Z,Z,by rw[ab];rfl,trivial⟩⟩
  ·refine AN f ab λa f=> ?_
   refine AN f ab λa f=>AN f ab λa f=>l_o f (AZ (f.e Z) ab (f.e Z)) λa f=> ?_
   exact⟨_,gr,m,f.weak ⟨Z,Z,Z,Z,Z,Z,Z,by rw[ab];rfl,trivial⟩⟩
 ·rintro a w ⟨aa,ac,m,f⟩
  refine Ac f Z λa f=>Aa ?_
  refine Ap ?_
  obtain rfl:=sj hd
  exact⟨[(.bool ((decide (x1≤x0))&&(decide (x0≤x2))))],f.g Z,f.d,_,[],ac,m,Z,Z⟩
theorem Wk.s0 {v0:Value}{x0:LI}{x1:Int}(m:Mem W G w (H))(h0:R1 G v0 x0){y:Bool}(hd:D.s0 x0 x1=some y):
  Calls prog 55 #[v0,(iv x1)] w (Res W G H (λ_ Ho v=>Ho=[]∧v=(.bool y))):=by
 refine Ar (args:=[v0,(iv x1)]) (N:=40) [.tmp 4] func55 Z Z (lb Z) Z λa f=> ?_
 unfold D.s0 at hd
 refine Ad ?_
 refine Ac f Z λa f=>Aa (Af (Ad ?_))
 refine Ab f Z λa f=>AT underlying49 f Z Z h0 λa f=>Ab f Z λa f=>Ah f Z Z CV λa f=>Aa ?_
 rcases Ae hd with⟨aa,hd⟩|⟨aa,hd⟩
 ·refine Ak f Z aa ?_
  refine Ad ?_
  refine Ac f Z λa f=>Aa ?_
  refine Ap ?_
  obtain rfl:=sj hd
  exact⟨[(.bool false)],f.g Z,f.d,_,[],gr,m,Z,Z⟩
 ·refine Ai f Z aa ?_
  refine Al ?_
  refine Af (Ad ?_)
  refine Ac f Z λa f=>Aa ?_
  have⟨ab,ac,hd⟩:=bind_some hd
  refine AB (λa w=>∃q_150':Unit,ab= .inl q_150'∧∃(ad:GH),GLe G ad∧Fr a 40 []∧Mem W ad w (H)) ?_ ?_
  ·refine Aj ?_
   refine Ay (λae a w=>∃af:Int,af=ae∧∃(ag:GH),GLe G ag∧Fr a 40 [(0,v0),(1,(iv x1)),(5,(iv af))]∧Mem W ag w (H)) ac ⟨_,Z,_,gr,f.k Z,m⟩ ?_
   clear ac f m
   rintro ae ah ai aj a w ⟨af,rfl,ag,ak,f,m⟩
   have h0:=rd1 ak h0
   refine Af (Ad ?_)
   refine Ab f Z λa f=>Ab f Z λa f=>AT underlying49 f Z Z h0 λa f=>Ah f Z Z AD λa f=>Aa ?_
   rcases Ae ai with⟨al,ai⟩|⟨al,ai⟩
   ·refine Ak f Z al ?_
    refine Al ?_
    refine Af (Aj (Af ?_))
    refine A8 24 AF (by kernel_rfl) m ?_
    refine Ag 0 24 Z f Z λa f=>Ag 1 24 Z f Z λa f=> ?_
    have⟨am,an,ai⟩:=bind_some ai
    refine Bx 2 24 T49 h0 an Z f Z Z λao ap a aq ar f=> ?_
    subst ar
    refine By 3 24 Pl2 aq Z f Z λa f=>Ag 4 24 Z f Z λa f=>q_p 5 24 Z f (λ_=>AA (f.e Z) (f.e Z) AI) λa f=> ?_
    have⟨au,av,ai⟩:=bind_some ai
    refine Ck (i:=6) 24 Z (by kernel_rfl) Z f Z Z Z call54 (λ_ _ w aw m=>Wk.a0 m av) λa f=>q_p 7 24 Z f (λ_=>Bc (f.e Z)) λa f=>Ag 8 24 Z f Z λa f=> ?_
    have⟨ax,ay,ai⟩:=bind_some ai
    refine Cr (fuel':=0) (listed':= #[true,true,true,true,true,true,true,true,true,true,true,true,true,true,true,true,true,true,true,true,true,true,true,true]) (λa=>Fr a 40 [(0,v0),(1,(iv x1)),(5,(iv af)),(13,(.bool (decide (af<(x0.length:Int))))),(16,v0),(17,(iv af)),(18,ao),(19,(iv am)),(20,(iv x1)),(21,(iv (i64.wrap (x1-1)))),(22,(.bool au)),(23,(.bool (!au))),(24,(.bool (!au))),(39,(.bool ax))]) ?_ ?_
    ·intro a f
     refine AP λaz w aA m=>Aa ?_
     rcases Ae ai with⟨aB,ai⟩|⟨aB,ai⟩
     ·refine Ak f Z aB ?_
      refine Ad ?_
      refine Ac f Z λa f=>Aa ?_
      refine Ap ?_
      obtain rfl:=sj ai
      obtain rfl:=aj _ rfl
      obtain rfl:=sj hd
      exact⟨[(.bool false)],f.g Z,f.d,_,[],(gt ak aA),m,Z,Z⟩
     ·refine Ai f Z aB ?_
      refine Al ?_
      refine An ?_
      refine Ab f Z λa f=>Ah f Z Z Au λa f=>Ac f Z λa f=>Aa ?_
      obtain rfl:=sj ai
      exact⟨_,Z,_,Z,_,(gt ak aA),f.k Z,m⟩
    ·intro aC
     rcases Ae ay with⟨aD,ay⟩|⟨aD,ay⟩
     ·refine Aq 9 24 Z f aD λa f=> ?_
      refine Aq 10 24 Z f aD λa f=>Aq 11 24 Z f aD λa f=>Cu 12 24 Z f λa f=>Cu 13 24 Z f λa f=>Cu 14 24 Z f λa f=>Cu 15 24 Z f λa f=>Cu 16 24 Z f λa f=>Cu 17 24 Z f λa f=>Cu 18 24 Z f λa f=>Cu 19 24 Z f λa f=>Cu 20 24 Z f λa f=>Cu 21 24 Z f λa f=>Aq 22 24 Z f aD λa f=>q_p 23 24 Z f (λ_=>AV (f.e Z) aD (f.e Z)) λa f=> ?_
      obtain rfl:=sj ay
      exact aC _ (f.k Z)
     ·refine Ag (hw:=wo f aD) 9 24 Z f Z λa f=> ?_
      refine q_p (hw:=wo f aD) 10 24 Z f (λ_=>AA (f.e Z) (f.e Z) CV) λa f=>Ag (hw:=wo f aD) 11 24 Z f Z λa f=> ?_
      have⟨aE,aF,ay⟩:=bind_some ay
      refine Cr (fuel':=1) (listed':= #[true,true,true,true,true,true,true,true,true,true,true,true,true,true,true,true,true,true,true,true,true,true,true,false]) (λa=>Fr a 40 [(0,v0),(1,(iv x1)),(5,(iv af)),(13,(.bool (decide (af<(x0.length:Int))))),(16,v0),(17,(iv af)),(18,ao),(19,(iv am)),(20,(iv x1)),(21,(iv (i64.wrap (x1-1)))),(22,(.bool au)),(23,(.bool (!au))),(24,(.bool (!au))),(25,(iv af)),(26,(.bool (decide ((0:Int)<af)))),(27,(.bool (decide ((0:Int)<af)))),(38,(.bool aE))]) ?_ ?_
      ·intro a f
       refine q_p 23 24 Z f (λ_=>AZ (f.e Z) aD (f.e Z)) λa f=> ?_
       obtain rfl:=sj ay
       exact aC _ (f.k Z)
      ·intro aG
       rcases Ae aF with⟨aH,aF⟩|⟨aH,aF⟩
       ·refine Ag (hw:=wo f aH) 12 24 Z f Z λa f=> ?_
        refine Ag (hw:=wo f aH) 13 24 Z f Z λa f=> ?_
        have⟨aI,aJ,aF⟩:=bind_some aF
        refine Bx (hw:=wo f aH) 14 24 T49 h0 aJ Z f Z Z λaK aL a aM aN f=> ?_
        subst aN
        refine By (hw:=wo f aH) 15 24 Pl2 aM Z f Z λa f=>Ag (hw:=wo f aH) 16 24 Z f Z λa f=>Ag (hw:=wo f aH) 17 24 Z f Z λa f=>q_p (hw:=wo f aH) 18 24 Z f (λ_=>AA (f.e Z) (f.e Z) AI) λa f=> ?_
        have⟨aO,aP,aF⟩:=bind_some aF
        refine Bx (hw:=wo f aH) 19 24 T49 h0 aP Z f Z Z λaQ aR a aS aT f=> ?_
        subst aT
        refine By (hw:=wo f aH) 20 24 Pl2 aS Z f Z λa f=>q_p (hw:=wo f aH) 21 24 Z f (λ_=>AA (f.e Z) (f.e Z) Cz) λa f=>q_p (hw:=wo f aD) 22 24 Z f (λ_=>AV (f.e Z) aH (f.e Z)) λa f=> ?_
        obtain rfl:=sj aF
        exact aG _ (f.k Z)
       ·refine Aq 12 24 Z f aH λa f=> ?_
        refine Aq 13 24 Z f aH λa f=>Aq 14 24 Z f aH λa f=>Aq 15 24 Z f aH λa f=>Aq 16 24 Z f aH λa f=>Aq 17 24 Z f aH λa f=>Aq 18 24 Z f aH λa f=>Aq 19 24 Z f aH λa f=>Aq 20 24 Z f aH λa f=>Aq 21 24 Z f aH λa f=>q_p (hw:=wo f aD) 22 24 Z f (λ_=>AZ (f.e Z) aH (f.e Z)) λa f=> ?_
        obtain rfl:=sj aF
        exact aG _ (f.k Z)
   ·refine Ai f Z al ?_
    refine Ax Z ?_
    obtain rfl:=sj ai
    obtain rfl:=aj _ rfl
    exact⟨_,Z,_,ak,f.weak trivial,m⟩
  ·rintro a w ⟨_,rfl,ad,aU,f,m⟩
   refine Ad ?_
   refine Ac f Z λa f=>Aa ?_
   refine Ap ?_
   obtain rfl:=sj hd
   exact⟨[(.bool true)],f.g Z,f.d,_,[],aU,m,Z,Z⟩
theorem Wk.b {v0:Value}{x0:LI}{x1:Int}(m:Mem W G w (H))(h0:R1 G v0 x0){y:Bool}(hd:D.b x0 x1=some y):
  Calls prog 56 #[v0,(iv x1)] w (Res W G H (λ_ Ho v=>Ho=[]∧v=(.bool y))):=by
 refine Ar (args:=[v0,(iv x1)]) (N:=18) [.tmp 4] func56 Z Z (lb Z) Z λa f=> ?_
 unfold D.b at hd
 refine Ad ?_
 refine Ac f Z λa f=>Aa (Af (Ad ?_))
 refine Ac f Z λa f=>Aa ?_
 have⟨aa,ab,hd⟩:=bind_some hd
 refine AB (λa w=>∃q_19':Unit,aa= .inl q_19'∧∃(ac:GH),GLe G ac∧Fr a 18 []∧Mem W ac w (H)) ?_ ?_
 ·refine Aj ?_
  refine Ay (λad a w=>∃ae:Int,ae=ad∧∃(af:GH),GLe G af∧Fr a 18 [(0,v0),(1,(iv x1)),(5,(iv ae))]∧Mem W af w (H)) ab ⟨_,Z,_,gr,f.k Z,m⟩ ?_
  clear ab f m
  rintro ad ag ah ai a w ⟨ae,rfl,af,aj,f,m⟩
  have h0:=rd1 aj h0
  refine Af (Ad ?_)
  refine Ab f Z λa f=>Ab f Z λa f=>AT underlying49 f Z Z h0 λa f=>Ah f Z Z AD λa f=>Aa ?_
  rcases Ae ah with⟨ak,ah⟩|⟨ak,ah⟩
  ·refine Ak f Z ak ?_
   refine Al ?_
   refine Af (Aj (Ad ?_))
   refine Ab f Z λa f=>Ab f Z λa f=> ?_
   have⟨al,am,ah⟩:=bind_some ah
   refine Bk T49 f Z Z Z h0 am λan ao a ap aq f=> ?_
   subst aq
   refine AG m Pl2 f Z Z ap λa f=>Ab f Z λa f=>Ah f Z Z BC λa f=>Aa ?_
   rcases Ae ah with⟨ar,ah⟩|⟨ar,ah⟩
   ·refine Ak f Z ar ?_
    refine Ad ?_
    refine Ac f Z λa f=>Aa ?_
    refine Ap ?_
    obtain rfl:=sj ah
    obtain rfl:=ai _ rfl
    obtain rfl:=sj hd
    exact⟨[(.bool true)],f.g Z,f.d,_,[],aj,m,Z,Z⟩
   ·refine Ai f Z ar ?_
    refine Al ?_
    refine An ?_
    refine Ab f Z λa f=>Ah f Z Z Au λa f=>Ac f Z λa f=>Aa ?_
    obtain rfl:=sj ah
    exact⟨_,Z,_,Z,_,aj,f.k Z,m⟩
  ·refine Ai f Z ak ?_
   refine Ax Z ?_
   obtain rfl:=sj ah
   obtain rfl:=ai _ rfl
   exact⟨_,Z,_,aj,f.weak trivial,m⟩
 ·rintro a w ⟨_,rfl,ac,au,f,m⟩
  refine Ad ?_
  refine Ac f Z λa f=>Aa ?_
  refine Ap ?_
  obtain rfl:=sj hd
  exact⟨[(.bool false)],f.g Z,f.d,_,[],au,m,Z,Z⟩
theorem Wk.o {aa:Value}{ab:LL}(m:Mem W G w (H))(ac:R2 G aa ab){y:Bool}(hd:D.o ab=some y):
  Calls prog 26 #[(.agg #[aa])] w (Res W G H (λ_ Ho v=>Ho=[]∧v=(.bool y))):=by
 refine Ar (args:=[(.agg #[aa])]) (N:=64) [.tmp 2] func26 Z Z (lb Z) Z λa f=> ?_
 unfold D.o at hd
 refine Ad ?_
 refine Bw (cs:=[aa]) m f Z Z Z λad w a m f=>Ac f Z λa f=>Av ?_
 refine A3 0 0 (ds:=[aa]) m Bv f Z Z Z Z Z λa f=> ?_
 have⟨ae,af,hd⟩:=bind_some hd
 refine A4 f Z call53 (Wk.d m ac af) λag w ah m a f=> ?_
 have ac:=rd2 ah ac
 refine Ac f Z λa f=>Aa (Af (Ad ?_))
 refine Ab f Z λa f=> ?_
 have⟨ai,aj,hd⟩:=bind_some hd
 refine A4 f Z call54 (Wk.a0 m aj) λak w al m a f=> ?_
 have ac:=rd2 al ac
 refine l_o f (Bc (f.e Z)) λa f=>Aa ?_
 rcases Ae hd with⟨am,hd⟩|⟨am,hd⟩
 ·refine Ak f Z am ?_
  refine Ad ?_
  refine Ac f Z λa f=>Aa ?_
  refine Ap ?_
  have m:Mem W ak w H:=Mem.drop (H':=[ib ad 27 [aa]]) m
  obtain rfl:=sj hd
  exact⟨[(.bool false)],f.g Z,f.d,_,[],(gt ah al),m,Z,Z⟩
 ·refine Ai f Z am ?_
  refine Al ?_
  refine Af (Ad ?_)
  refine Ac f Z λa f=>Aa ?_
  have⟨an,ao,hd⟩:=bind_some hd
  refine AB (λa w=>∃q_138':Unit,an= .inl q_138'∧∃(ap:GH),GLe ak ap∧Fr a 64 [(1,(pb ad)),(3,(iv ae))]∧Mem W ap w (ib ad 27 [aa]::H)) ?_ ?_
  ·refine Aj ?_
   refine Ay (λaq a w=>∃ar:Int,ar=aq∧∃(au:GH),GLe ak au∧Fr a 64 [(1,(pb ad)),(3,(iv ae)),(4,(iv ar))]∧Mem W au w (ib ad 27 [aa]::H)) ao ⟨_,Z,_,gr,f.k Z,m⟩ ?_
   clear ao f m
   rintro aq av aw ax a w ⟨ar,rfl,au,ay,f,m⟩
   have ac:=rd2 ay ac
   refine Af (Ad ?_)
   refine Ab f Z λa f=>Ab f Z λa f=>Ah f Z Z AD λa f=>Aa ?_
   rcases Ae aw with⟨az,aw⟩|⟨az,aw⟩
   ·refine Ak f Z az ?_
    refine Al ?_
    refine Af (Aj (Ad ?_))
    refine BX underlying27 Z sizeOf22 f Z λa f=>AK 0 0 m BP f Z Z Z Z λa f=>Ab f Z λa f=> ?_
    have⟨aA,aB,aw⟩:=bind_some aw
    refine Bk T22 f Z Z Z ac aB λaC aD a aE aF f=>AG m BW f Z Z aE λa f=>Ab f Z λa f=> ?_
    have⟨aG,aH,aw⟩:=bind_some aw
    refine A4 f Z call55 (Wk.s0 m aF aH) λaI w aJ m a f=> ?_
    have ac:=rd2 aJ ac
    refine l_o f (Bc (f.e Z)) λa f=>Ab f Z λa f=> ?_
    have⟨aK,aL,aw⟩:=bind_some aw
    refine B4 8 (λa w=>∃aM,GLe aI aM∧Mem W aM w (ib ad 27 [aa]::H)∧Fr a 64 [(1,(pb ad)),(3,(iv ae)),(4,(iv ar)),(14,(.bool (decide (ar<ae)))),(17,(pb ad)),(18,aa),(19,(iv ar)),(20,aC),(21,aD),(22,(iv ae)),(23,(.bool aG)),(24,(.bool (!aG))),(25,(.bool (!aG))),(33,(.bool aK))]) ?_ ?_
    ·rcases Ae aL with⟨aN,aL⟩|⟨aN,aL⟩
     ·refine AN f aN λa f=> ?_
      refine AN f aN λa f=>AN f aN λa f=>AN f aN λa f=>AN f aN λa f=>AN f aN λa f=>AN f aN λa f=>l_o f (AV (f.e Z) aN (f.e Z)) λa f=> ?_
      obtain rfl:=sj aL
      exact⟨_,gr,m,f.k Z⟩
     ·refine AJ f aN ?_
      refine BX underlying27 Z sizeOf22 f Z λa f=>AJ f aN ?_
      refine AK 0 0 m BP f Z Z Z Z λa f=>AJ f aN ?_
      refine Ab f Z λa f=>AJ f aN ?_
      have⟨aO,aP,aL⟩:=bind_some aL
      refine Bk T22 f Z Z Z ac aP λaQ aR a aS aT f=>AJ f aN ?_
      refine AG m BW f Z Z aS λa f=>AJ f aN ?_
      refine Ab f Z λa f=>AJ f aN ?_
      have⟨aU,aV,aL⟩:=bind_some aL
      refine A4 f Z call56 (Wk.b m aT aV) λaW w aX m a f=>l_o f (AZ (f.e Z) aN (f.e Z)) λa f=> ?_
      obtain rfl:=sj aL
      exact⟨_,aX,m,f.k Z⟩
    ·rintro a w ⟨aM,aY,m,f⟩
     refine Aa ?_
     rcases Ae aw with⟨aZ,aw⟩|⟨aZ,aw⟩
     ·refine Ak f Z aZ ?_
      refine Ad ?_
      refine Ac f Z λa f=>Aa ?_
      refine Ap ?_
      have m:Mem W aM w H:=Mem.drop (H':=[ib ad 27 [aa]]) m
      obtain rfl:=sj aw
      obtain rfl:=ax _ rfl
      obtain rfl:=sj hd
      exact⟨[(.bool false)],f.g Z,f.d,_,[],(gt ah (gt al (gt ay (gt aJ aY)))),m,Z,Z⟩
     ·refine Ai f Z aZ ?_
      refine Al ?_
      refine An ?_
      refine Ab f Z λa f=>Ah f Z Z Au λa f=>Ac f Z λa f=>Aa ?_
      obtain rfl:=sj aw
      exact⟨_,Z,_,Z,_,(gt ay (gt aJ aY)),f.k Z,m⟩
   ·refine Ai f Z az ?_
    refine Ax Z ?_
    obtain rfl:=sj aw
    obtain rfl:=ax _ rfl
    exact⟨_,Z,_,ay,f.k Z,m⟩
  ·rintro a w ⟨_,rfl,ap,a0,f,m⟩
   have ac:=rd2 a0 ac
   refine Af (Ad ?_)
   refine Ac f Z λa f=>Aa ?_
   have⟨a1,a2,hd⟩:=bind_some hd
   refine AB (λa w=>∃q_545':Unit,a1= .inl q_545'∧∃(a3:GH),GLe ap a3∧Fr a 64 []∧Mem W a3 w (H)) ?_ ?_
   ·refine Aj ?_
    refine Ay (λa4 a w=>∃a5:Int,a5=a4∧∃(a6:GH),GLe ap a6∧Fr a 64 [(1,(pb ad)),(3,(iv ae)),(5,(iv a5))]∧Mem W a6 w (ib ad 27 [aa]::H)) a2 ⟨_,Z,_,gr,f.k Z,m⟩ ?_
    clear a2 f m
    rintro a4 a7 a8 a9 a w ⟨a5,rfl,a6,ba,f,m⟩
    have ac:=rd2 ba ac
    refine Af (Ad ?_)
    refine Ab f Z λa f=>Ab f Z λa f=>Ah f Z Z AD λa f=>Aa ?_
    rcases Ae a8 with⟨bb,a8⟩|⟨bb,a8⟩
    ·refine Ak f Z bb ?_
     refine Al ?_
     refine Af (Aj (Ad ?_))
     refine Ac f Z λa f=>Aa ?_
     have⟨bc,bd,a8⟩:=bind_some a8
     refine AB (λa w=>∃q_759':Unit,bc= .inl q_759'∧∃(be:GH),GLe a6 be∧Fr a 64 [(1,(pb ad)),(3,(iv ae)),(5,(iv a5))]∧Mem W be w (ib ad 27 [aa]::H)) ?_ ?_
     ·refine Aj ?_
      refine Ay (λbf a w=>∃bg:Int,bg=bf∧∃(bh:GH),GLe a6 bh∧Fr a 64 [(1,(pb ad)),(3,(iv ae)),(5,(iv a5)),(6,(iv bg))]∧Mem W bh w (ib ad 27 [aa]::H)) bd ⟨_,Z,_,gr,f.k Z,m⟩ ?_
      clear bd f m
      rintro bf bi bj bk a w ⟨bg,rfl,bh,bl,f,m⟩
      have ac:=rd2 bl ac
      refine Af (Ad ?_)
      refine Ab f Z λa f=>BX underlying27 Z sizeOf22 f Z λa f=>AK 0 0 m BP f Z Z Z Z λa f=>Ab f Z λa f=> ?_
      have⟨bm,bn,bj⟩:=bind_some bj
      refine Bk T22 f Z Z Z ac bn λbo bp a bq br f=>AG m BW f Z Z bq λa f=>AT underlying49 f Z Z br λa f=>Ah f Z Z AD λa f=>Aa ?_
      rcases Ae bj with⟨bs,bj⟩|⟨bs,bj⟩
      ·refine Ak f Z bs ?_
       refine Al ?_
       refine Af (Aj (Af ?_))
       refine A8 15 AF (by kernel_rfl) m ?_
       refine q_fa 0 15 underlying27 Z sizeOf22 Z f Z λa f=>CO 1 15 0 BP Z Z Z f Z λa f=>q_fa 2 15 underlying27 Z sizeOf22 Z f Z λa f=>CO 3 15 0 BP Z Z Z f Z λa f=>Ag 4 15 Z f Z λa f=> ?_
       have⟨bt,bu,bj⟩:=bind_some bj
       refine Bx 5 15 T22 ac bu Z f Z Z λbv bw a bx bz f=>By 6 15 BW bx Z f Z λa f=>Ag 7 15 Z f Z λa f=> ?_
       have⟨bA,bB,bj⟩:=bind_some bj
       refine Bx 8 15 T49 bz bB Z f Z Z λbC bD a bE bF f=> ?_
       subst bF
       refine By 9 15 Pl2 bE Z f Z λa f=> ?_
       have⟨bG,bH,bj⟩:=bind_some bj
       refine Bx 10 15 T22 ac bH Z f Z Z λbI bJ a bK bL f=>By 11 15 BW bK Z f Z λa f=>Ag 12 15 Z f Z λa f=> ?_
       have⟨bM,bN,bj⟩:=bind_some bj
       refine Ck (i:=13) 15 Z (by kernel_rfl) Z f Z Z Z call56 (λ_ _ w bO m=>Wk.b m (rd1 bO bL) bN) λa f=>q_p 14 15 Z f (λ_=>Bc (f.e Z)) λa f=>AP λbP w bQ m=>Aa ?_
       rcases Ae bj with⟨bR,bj⟩|⟨bR,bj⟩
       ·refine Ak f Z bR ?_
        refine Ad ?_
        refine Ac f Z λa f=>Aa ?_
        refine Ap ?_
        have m:Mem W bP w H:=Mem.drop (H':=[ib ad 27 [aa]]) m
        obtain rfl:=sj bj
        obtain rfl:=bk _ rfl
        obtain rfl:=sj a8
        obtain rfl:=a9 _ rfl
        obtain rfl:=sj hd
        exact⟨[(.bool false)],f.g Z,f.d,_,[],(gt ah (gt al (gt a0 (gt ba (gt bl bQ))))),m,Z,Z⟩
       ·refine Ai f Z bR ?_
        refine Al ?_
        refine An ?_
        refine Ab f Z λa f=>Ah f Z Z Au λa f=>Ac f Z λa f=>Aa ?_
        obtain rfl:=sj bj
        exact⟨_,Z,_,Z,_,(gt bl bQ),f.k Z,m⟩
      ·refine Ai f Z bs ?_
       refine Ax Z ?_
       obtain rfl:=sj bj
       obtain rfl:=bk _ rfl
       exact⟨_,Z,_,bl,f.k Z,m⟩
     ·rintro a w ⟨_,rfl,be,bS,f,m⟩
      refine An ?_
      refine Ab f Z λa f=>Ah f Z Z Au λa f=>Ac f Z λa f=>Aa ?_
      obtain rfl:=sj a8
      exact⟨_,Z,_,Z,_,(gt ba bS),f.k Z,m⟩
    ·refine Ai f Z bb ?_
     refine Ax Z ?_
     have m:Mem W a6 w H:=Mem.drop (H':=[ib ad 27 [aa]]) m
     obtain rfl:=sj a8
     obtain rfl:=a9 _ rfl
     exact⟨_,Z,_,ba,f.weak trivial,m⟩
   ·rintro a w ⟨_,rfl,a3,bT,f,m⟩
    refine Ad ?_
    refine Ac f Z λa f=>Aa ?_
    refine Ap ?_
    obtain rfl:=sj hd
    exact⟨[(.bool true)],f.g Z,f.d,_,[],(gt ah (gt al (gt a0 bT))),m,Z,Z⟩
theorem Wk.d0 {aa:Value}{ab:LL}(m:Mem W G w (H))(ac:R2 G aa ab){y:(LI)×Bool}(hd:D.d0 ab=some y):
  Calls prog 50 #[(.agg #[aa])] w (Res W G H (λG' Ho v=>∃r0:Value,∃i0:Itm,Ho=[i0]∧v= .tuple #[r0,(.bool y.2)]∧Ow R0 2 G' i0 r0 y.1)):=by
 refine Ar (args:=[(.agg #[aa])]) (N:=108) [.tmp 2,.tmp 3] func50 Z Z (lb Z) Z λa f=> ?_
 unfold D.d0 at hd
 refine Ad ?_
 refine Bw (cs:=[aa]) m f Z Z Z λad w a m f=>Ac f Z λa f=>Ac f Z λa f=>Aa (Af (Ad ?_))
 refine A3 0 0 (ds:=[aa]) m Bv f Z Z Z Z Z λa f=> ?_
 have⟨ae,af,hd⟩:=bind_some hd
 refine A4 f Z call26 (Wk.o m ac af) λag w ah m a f=> ?_
 have ac:=rd2 ah ac
 refine l_o f (Bc (f.e Z)) λa f=>Aa ?_
 rcases Ae hd with⟨ai,hd⟩|⟨ai,hd⟩
 ·refine Ak f Z ai ?_
  refine Ad ?_
  refine AO (R:=R0) (xs:=([]:LI)) (RI.one _) m T49 f Z Z Z (by decide) (All2.nil _) λaj ak w a m al f=>Ac f Z λa f=>Ac f Z λa f=>Aa ?_
  refine Ap ?_
  have m:=m.eraseAt 1
  obtain rfl:=sj hd
  exact⟨[ak,(.bool false)],⟨f.get _ _ Z,f.get _ _ Z,trivial⟩,f.d,_,[aj],ah,m,_,_,Z,Z,al⟩
 ·refine Ai f Z ai ?_
  refine Al ?_
  refine Af (Ad ?_)
  refine Ac f Z λa f=>Aa ?_
  have⟨am,an,hd⟩:=bind_some hd
  refine AB (λa w=>∃q_19049':Unit,am= .inl q_19049'∧∃(ao:GH),GLe ag ao∧Fr a 108 []∧Mem W ao w (H)) ?_ ?_
  ·refine Aj ?_
   refine Ay (λap a w=>∃aq:Int,aq=ap∧∃(ar:GH),GLe ag ar∧Fr a 108 [(1,(pb ad)),(4,(iv aq))]∧Mem W ar w (ib ad 27 [aa]::H)) an ⟨_,Z,_,gr,f.k Z,m⟩ ?_
   clear an f m
   rintro ap au av aw a w ⟨aq,rfl,ar,ax,f,m⟩
   have ac:=rd2 ax ac
   refine Af (Ad ?_)
   refine Ab f Z λa f=>BX underlying27 Z sizeOf22 f Z λa f=>AK 0 0 m BP f Z Z Z Z λa f=>AT underlying22 f Z Z ac λa f=>Ah f Z Z AD λa f=>Aa ?_
   rcases Ae av with⟨ay,av⟩|⟨ay,av⟩
   ·refine Ak f Z ay ?_
    refine Al ?_
    refine Af (Aj (Ad ?_))
    refine BX underlying27 Z sizeOf22 f Z λa f=>AK 0 0 m BP f Z Z Z Z λa f=>Ab f Z λa f=> ?_
    have⟨az,aA,av⟩:=bind_some av
    refine Bk T22 f Z Z Z ac aA λaB aC a aD aE f=>AG m BW f Z Z aD λa f=>Ac f Z λa f=>Av ?_
    refine Ac f Z λa f=>Aa ?_
    have⟨aF,aG,av⟩:=bind_some av
    refine AB (λa w=>∃q_33333':Unit,aF= .inl q_33333'∧∃(aH:GH),GLe ar aH∧Fr a 108 [(1,(pb ad)),(4,(iv aq))]∧Mem W aH w (ib ad 27 [aa]::H)) ?_ ?_
    ·refine Aj ?_
     refine Ay (λaI a w=>∃aJ:Int,aJ=aI∧∃(aK:GH),GLe ar aK∧Fr a 108 [(1,(pb ad)),(4,(iv aq)),(5,aC),(6,(iv aJ))]∧Mem W aK w (ib ad 27 [aa]::H)) aG ⟨_,Z,_,gr,f.k Z,m⟩ ?_
     clear aG f m
     rintro aI aL aM aN a w ⟨aJ,rfl,aK,aO,f,m⟩
     have aE:=rd1 aO aE
     have ac:=rd2 aO ac
     refine Af (Ad ?_)
     refine Ab f Z λa f=>Ab f Z λa f=>AT underlying49 f Z Z aE λa f=>Ah f Z Z AD λa f=>Aa ?_
     rcases Ae aM with⟨aP,aM⟩|⟨aP,aM⟩
     ·refine Ak f Z aP ?_
      refine Al ?_
      refine Af (Aj (Ad ?_))
      refine Ab f Z λa f=>Ah f Z Z Au λa f=>Ac f Z λa f=>Aa ?_
      have⟨aQ,aR,aM⟩:=bind_some aM
      refine AB (λa w=>∃q_36901':Unit,aQ= .inl q_36901'∧∃(aS:GH),GLe aK aS∧Fr a 108 [(1,(pb ad)),(4,(iv aq)),(5,aC),(6,(iv aJ))]∧Mem W aS w (ib ad 27 [aa]::H)) ?_ ?_
      ·refine Aj ?_
       refine Ay (λaT a w=>∃aU:Int,aU=aT∧∃(aV:GH),GLe aK aV∧Fr a 108 [(1,(pb ad)),(4,(iv aq)),(5,aC),(6,(iv aJ)),(7,(iv aU))]∧Mem W aV w (ib ad 27 [aa]::H)) aR ⟨_,Z,_,gr,f.k Z,m⟩ ?_
       clear aR f m
       rintro aT aW aX aY a w ⟨aU,rfl,aV,aZ,f,m⟩
       have aE:=rd1 aZ aE
       have ac:=rd2 aZ ac
       refine Af (Ad ?_)
       refine Ab f Z λa f=>Ab f Z λa f=>AT underlying49 f Z Z aE λa f=>Ah f Z Z AD λa f=>Aa ?_
       rcases Ae aX with⟨a0,aX⟩|⟨a0,aX⟩
       ·refine Ak f Z a0 ?_
        refine Al ?_
        refine Af (Aj (Ad ?_))
        refine Ab f Z λa f=>Ah f Z Z Au λa f=>Ac f Z λa f=>Aa ?_
        have⟨a1,a2,aX⟩:=bind_some aX
        refine AB (λa w=>∃q_37793':Unit,a1= .inl q_37793'∧∃(a3:GH),GLe aV a3∧Fr a 108 [(1,(pb ad)),(4,(iv aq)),(5,aC),(6,(iv aJ)),(7,(iv aU))]∧Mem W a3 w (ib ad 27 [aa]::H)) ?_ ?_
        ·refine Aj ?_
         refine Ay (λa4 a w=>∃a5:Int,a5=a4∧∃(a6:GH),GLe aV a6∧Fr a 108 [(1,(pb ad)),(4,(iv aq)),(5,aC),(6,(iv aJ)),(7,(iv aU)),(8,(iv a5))]∧Mem W a6 w (ib ad 27 [aa]::H)) a2 ⟨_,Z,_,gr,f.k Z,m⟩ ?_
         clear a2 f m
         rintro a4 a7 a8 a9 a w ⟨a5,rfl,a6,ba,f,m⟩
         have aE:=rd1 ba aE
         have ac:=rd2 ba ac
         refine Af (Ad ?_)
         refine Ab f Z λa f=>Ab f Z λa f=>AT underlying49 f Z Z aE λa f=>Ah f Z Z AD λa f=>Aa ?_
         rcases Ae a8 with⟨bb,a8⟩|⟨bb,a8⟩
         ·refine Ak f Z bb ?_
          refine Al ?_
          refine Af (Aj (Af ?_))
          refine A8 46 AF (by kernel_rfl) m ?_
          refine q_fa 0 46 underlying27 Z sizeOf22 Z f Z λa f=>CO 1 46 0 BP Z Z Z f Z λa f=>Ag 2 46 Z f Z λa f=>Ag 3 46 Z f Z λa f=> ?_
          have⟨bc,bd,a8⟩:=bind_some a8
          refine Bx 4 46 T49 aE bd Z f Z Z λbe bf a bg bh f=> ?_
          subst bh
          refine By 5 46 Pl2 bg Z f Z λa f=> ?_
          have⟨bi,bj,a8⟩:=bind_some a8
          refine Bx 6 46 T22 ac bj Z f Z Z λbk bl a bm bn f=>By 7 46 BW bm Z f Z λa f=>Ag 8 46 Z f Z λa f=>Ag 9 46 Z f Z λa f=> ?_
          have⟨bo,bp,a8⟩:=bind_some a8
          refine Bx 10 46 T49 aE bp Z f Z Z λbq br a bs bt f=> ?_
          subst bt
          refine By 11 46 Pl2 bs Z f Z λa f=> ?_
          have⟨bu,bv,a8⟩:=bind_some a8
          refine Ck (i:=12) 46 Z (by kernel_rfl) Z f Z Z Z call56 (λ_ _ w bw m=>Wk.b m (rd1 bw bn) bv) λa f=>q_p 13 46 Z f (λ_=>Bc (f.e Z)) λa f=>Ag 14 46 Z f Z λa f=> ?_
          have⟨bx,bz,a8⟩:=bind_some a8
          refine Cr (fuel':=16) (listed':= #[true,true,true,true,true,true,true,true,true,true,true,true,true,true,true,true,true,true,true,true,true,true,true,true,true,true,true,true,true,true,false,false,false,false,false,false,false,false,false,false,false,false,false,false,false,false]) (λa=>Fr a 108 [(1,(pb ad)),(4,(iv aq)),(5,aC),(6,(iv aJ)),(7,(iv aU)),(8,(iv a5)),(44,(.bool (decide (a5<(az.length:Int))))),(47,(pb ad)),(48,aa),(49,aC),(50,(iv aJ)),(51,be),(52,(iv bc)),(53,bk),(54,bl),(55,aC),(56,(iv aU)),(57,bq),(58,(iv bo)),(59,(.bool bu)),(60,(.bool (!bu))),(61,(.bool (!bu))),(76,(.bool bx))]) ?_ ?_
          ·intro a f
           refine Ag 30 46 Z f Z λa f=> ?_
           have⟨bA,bB,a8⟩:=bind_some a8
           refine Cr (fuel':=0) (listed':= #[true,true,true,true,true,true,true,true,true,true,true,true,true,true,true,true,true,true,true,true,true,true,true,true,true,true,true,true,true,true,true,true,true,true,true,true,true,true,true,true,true,true,true,true,true,true]) (λa=>Fr a 108 [(1,(pb ad)),(4,(iv aq)),(5,aC),(6,(iv aJ)),(7,(iv aU)),(8,(iv a5)),(44,(.bool (decide (a5<(az.length:Int))))),(47,(pb ad)),(48,aa),(49,aC),(50,(iv aJ)),(51,be),(52,(iv bc)),(53,bk),(54,bl),(55,aC),(56,(iv aU)),(57,bq),(58,(iv bo)),(59,(.bool bu)),(60,(.bool (!bu))),(61,(.bool (!bu))),(76,(.bool bx)),(77,(.bool bx)),(92,(.bool bA))]) ?_ ?_
           ·intro a f
            refine AP λbC w bD m=> ?_
            have aE:=rd1 bD aE
            refine Aa ?_
            rcases Ae a8 with⟨bE,a8⟩|⟨bE,a8⟩
            ·refine Ak f Z bE ?_
             refine Af ?_
             refine A8 16 AF (by kernel_rfl) m ?_
             refine Ag 0 16 Z f Z λa f=>Ag 1 16 Z f Z λa f=>Ag 2 16 Z f Z λa f=> ?_
             have⟨bF,bG,a8⟩:=bind_some a8
             refine Bx 3 16 T49 aE bG Z f Z Z λbH bI a bJ bK f=> ?_
             subst bK
             refine By 4 16 Pl2 bJ Z f Z λa f=>Ag 5 16 Z f Z λa f=>Ag 6 16 Z f Z λa f=> ?_
             have⟨bL,bM,a8⟩:=bind_some a8
             refine Bx 7 16 T49 aE bM Z f Z Z λbN bO a bP bQ f=> ?_
             subst bQ
             refine By 8 16 Pl2 bP Z f Z λa f=>Ag 9 16 Z f Z λa f=>Ag 10 16 Z f Z λa f=> ?_
             have⟨bR,bS,a8⟩:=bind_some a8
             refine Bx 11 16 T49 aE bS Z f Z Z λbT bU a bV bW f=> ?_
             subst bW
             refine By 12 16 Pl2 bV Z f Z λa f=>BD 13 Z λbX w bY m bZ bZ=>AO (R:=R0) (xs:=([aq,bF,bL,bR]:LI)) (RI.one _) m T49 f Z Z Z (by decide) (All2.cons Z (All2.cons Z (All2.cons Z (All2.cons Z (All2.nil _))))) λb0 b1 w a m b2 f=>Aa ?_
             refine bZ bX [b0] _ _ gr m ?_
             refine q_p 14 16 Z f (λ_=>BY (f.e Z)) λa f=>q_p 15 16 Z f (λ_=>BY (f.e Z)) λa f=>AP λb3 w b4 m=> ?_
             have b2:=od1 b4 b2
             refine Aa ?_
             refine Ap ?_
             have m:=m.eraseAt 1
             obtain rfl:=sj a8
             obtain rfl:=a9 _ rfl
             obtain rfl:=sj aX
             obtain rfl:=aY _ rfl
             obtain rfl:=sj aM
             obtain rfl:=aN _ rfl
             obtain rfl:=sj av
             obtain rfl:=aw _ rfl
             obtain rfl:=sj hd
             exact⟨[b1,(.bool true)],⟨f.get _ _ Z,f.get _ _ Z,trivial⟩,f.d,_,[b0],(gt ah (gt ax (gt aO (gt aZ (gt ba (gt bD (gt bY b4))))))),m,_,_,Z,Z,b2⟩
            ·refine Ai f Z bE ?_
             refine Al ?_
             refine An ?_
             refine Ab f Z λa f=>Ah f Z Z Au λa f=>Ac f Z λa f=>Aa ?_
             obtain rfl:=sj a8
             exact⟨_,Z,_,Z,_,(gt ba bD),f.k Z,m⟩
           ·intro b5
            rcases Ae bB with⟨b6,bB⟩|⟨b6,bB⟩
            ·refine q_fa (hw:=wo f b6) 31 46 underlying27 Z sizeOf22 Z f Z λa f=> ?_
             refine CO (hw:=wo f b6) 32 46 0 BP Z Z Z f Z λa f=>Ag (hw:=wo f b6) 33 46 Z f Z λa f=>Ag (hw:=wo f b6) 34 46 Z f Z λa f=> ?_
             have⟨b7,b8,bB⟩:=bind_some bB
             refine Bx (hw:=wo f b6) 35 46 T49 aE b8 Z f Z Z λb9 ca a cb cc f=> ?_
             subst cc
             refine By (hw:=wo f b6) 36 46 Pl2 cb Z f Z λa f=> ?_
             have⟨cd,ce,bB⟩:=bind_some bB
             refine Bx (hw:=wo f b6) 37 46 T22 ac ce Z f Z Z λcf cg a ch ci f=>By (hw:=wo f b6) 38 46 BW ch Z f Z λa f=>Ag (hw:=wo f b6) 39 46 Z f Z λa f=>Ag (hw:=wo f b6) 40 46 Z f Z λa f=> ?_
             have⟨cj,ck,bB⟩:=bind_some bB
             refine Bx (hw:=wo f b6) 41 46 T49 aE ck Z f Z Z λcl cm a cn co f=> ?_
             subst co
             refine By (hw:=wo f b6) 42 46 Pl2 cn Z f Z λa f=> ?_
             have⟨cp,cq,bB⟩:=bind_some bB
             refine Ck (i:=43) 46 Z (by kernel_rfl) Z f (Bo f Z Z Z b6) Z Z call56 (λ_ _ w cr m=>Wk.b m (rd1 cr ci) cq) λa f=>q_p (hw:=wo f b6) 44 46 Z f (λ_=>Bc (f.e Z)) λa f=>q_p 45 46 Z f (λ_=>AV (f.e Z) b6 (f.e Z)) λa f=> ?_
             obtain rfl:=sj bB
             exact b5 _ (f.k Z)
            ·refine Aq 31 46 Z f b6 λa f=> ?_
             refine Aq 32 46 Z f b6 λa f=>Aq 33 46 Z f b6 λa f=>Aq 34 46 Z f b6 λa f=>Aq 35 46 Z f b6 λa f=>Aq 36 46 Z f b6 λa f=>Aq 37 46 Z f b6 λa f=>Aq 38 46 Z f b6 λa f=>Aq 39 46 Z f b6 λa f=>Aq 40 46 Z f b6 λa f=>Aq 41 46 Z f b6 λa f=>Aq 42 46 Z f b6 λa f=>Aq 43 46 Z f b6 λa f=>Aq 44 46 Z f b6 λa f=>q_p 45 46 Z f (λ_=>AZ (f.e Z) b6 (f.e Z)) λa f=> ?_
             obtain rfl:=sj bB
             exact b5 _ (f.k Z)
          ·intro ct
           rcases Ae bz with⟨cu,bz⟩|⟨cu,bz⟩
           ·refine q_fa (hw:=wo f cu) 15 46 underlying27 Z sizeOf22 Z f Z λa f=> ?_
            refine CO (hw:=wo f cu) 16 46 0 BP Z Z Z f Z λa f=>Ag (hw:=wo f cu) 17 46 Z f Z λa f=>Ag (hw:=wo f cu) 18 46 Z f Z λa f=> ?_
            have⟨cv,cw,bz⟩:=bind_some bz
            refine Bx (hw:=wo f cu) 19 46 T49 aE cw Z f Z Z λcx cy a cz cA f=> ?_
            subst cA
            refine By (hw:=wo f cu) 20 46 Pl2 cz Z f Z λa f=> ?_
            have⟨cB,cC,bz⟩:=bind_some bz
            refine Bx (hw:=wo f cu) 21 46 T22 ac cC Z f Z Z λcD cE a cF cG f=>By (hw:=wo f cu) 22 46 BW cF Z f Z λa f=>Ag (hw:=wo f cu) 23 46 Z f Z λa f=>Ag (hw:=wo f cu) 24 46 Z f Z λa f=> ?_
            have⟨cH,cI,bz⟩:=bind_some bz
            refine Bx (hw:=wo f cu) 25 46 T49 aE cI Z f Z Z λcJ cK a cL cM f=> ?_
            subst cM
            refine By (hw:=wo f cu) 26 46 Pl2 cL Z f Z λa f=> ?_
            have⟨cN,cO,bz⟩:=bind_some bz
            refine Ck (i:=27) 46 Z (by kernel_rfl) Z f (Bo f Z Z Z cu) Z Z call56 (λ_ _ w cP m=>Wk.b m (rd1 cP cG) cO) λa f=>q_p (hw:=wo f cu) 28 46 Z f (λ_=>Bc (f.e Z)) λa f=>q_p 29 46 Z f (λ_=>AV (f.e Z) cu (f.e Z)) λa f=> ?_
            obtain rfl:=sj bz
            exact ct _ (f.k Z)
           ·refine Aq 15 46 Z f cu λa f=> ?_
            refine Aq 16 46 Z f cu λa f=>Aq 17 46 Z f cu λa f=>Aq 18 46 Z f cu λa f=>Aq 19 46 Z f cu λa f=>Aq 20 46 Z f cu λa f=>Aq 21 46 Z f cu λa f=>Aq 22 46 Z f cu λa f=>Aq 23 46 Z f cu λa f=>Aq 24 46 Z f cu λa f=>Aq 25 46 Z f cu λa f=>Aq 26 46 Z f cu λa f=>Aq 27 46 Z f cu λa f=>Aq 28 46 Z f cu λa f=>q_p 29 46 Z f (λ_=>AZ (f.e Z) cu (f.e Z)) λa f=> ?_
            obtain rfl:=sj bz
            exact ct _ (f.k Z)
         ·refine Ai f Z bb ?_
          refine Ax Z ?_
          obtain rfl:=sj a8
          obtain rfl:=a9 _ rfl
          exact⟨_,Z,_,ba,f.k Z,m⟩
        ·rintro a w ⟨_,rfl,a3,cQ,f,m⟩
         refine An ?_
         refine Ab f Z λa f=>Ah f Z Z Au λa f=>Ac f Z λa f=>Aa ?_
         obtain rfl:=sj aX
         exact⟨_,Z,_,Z,_,(gt aZ cQ),f.k Z,m⟩
       ·refine Ai f Z a0 ?_
        refine Ax Z ?_
        obtain rfl:=sj aX
        obtain rfl:=aY _ rfl
        exact⟨_,Z,_,aZ,f.k Z,m⟩
      ·rintro a w ⟨_,rfl,aS,cR,f,m⟩
       refine An ?_
       refine Ab f Z λa f=>Ah f Z Z Au λa f=>Ac f Z λa f=>Aa ?_
       obtain rfl:=sj aM
       exact⟨_,Z,_,Z,_,(gt aO cR),f.k Z,m⟩
     ·refine Ai f Z aP ?_
      refine Ax Z ?_
      obtain rfl:=sj aM
      obtain rfl:=aN _ rfl
      exact⟨_,Z,_,aO,f.k Z,m⟩
    ·rintro a w ⟨_,rfl,aH,cS,f,m⟩
     refine An ?_
     refine Ab f Z λa f=>Ah f Z Z Au λa f=>Ac f Z λa f=>Aa ?_
     obtain rfl:=sj av
     exact⟨_,Z,_,Z,_,(gt ax cS),f.k Z,m⟩
   ·refine Ai f Z ay ?_
    refine Ax Z ?_
    have m:Mem W ar w H:=Mem.drop (H':=[ib ad 27 [aa]]) m
    obtain rfl:=sj av
    obtain rfl:=aw _ rfl
    exact⟨_,Z,_,ax,f.weak trivial,m⟩
  ·rintro a w ⟨_,rfl,ao,cT,f,m⟩
   refine Ad ?_
   refine AO (R:=R0) (xs:=([]:LI)) (RI.one _) m T49 f Z Z Z (by decide) (All2.nil _) λcU cV w a m cW f=>Ac f Z λa f=>Ac f Z λa f=>Aa ?_
   refine Ap ?_
   obtain rfl:=sj hd
   exact⟨[cV,(.bool false)],⟨f.get _ _ Z,f.get _ _ Z,trivial⟩,f.d,_,[cU],(gt ah cT),m,_,_,Z,Z,cW⟩
theorem Wk.S {aa v2:Value}{ab:LL}{x1:Int}{x2:(List Bool)}(m:Mem W G w (H))(ac:R2 G aa ab)(h2:RSl RB G v2 x2){y:(LI)}(hd:D.S ab x1 x2=some y):
  Calls prog 132 #[(.agg #[aa]),(iv x1),v2] w (Res W G H (λG' Ho v=>∃r0:Value,∃i0:Itm,Ho=[i0]∧r0=v∧Ow R0 2 G' i0 r0 y)):=by
 refine Ar (args:=[(.agg #[aa]),(iv x1),v2]) (N:=44) [.tmp 6] func132 Z Z (lb Z) Z λa f=> ?_
 unfold D.S at hd
 refine Ad ?_
 refine Bw (cs:=[aa]) m f Z Z Z λad w a m f=>Ac f Z λa f=>Av ?_
 refine AO (R:=R0) (xs:=([]:LI)) (RI.one _) m T49 f Z Z Z (by decide) (All2.nil _) λae af w a m ag f=>Ac f Z λa f=>Aa (Af (Ad ?_))
 refine Ac f Z λa f=>Aa ?_
 have⟨ah,ai,hd⟩:=bind_some hd
 refine AB (λa w=>∃aj:LI,aj=ah∧∃(ak:GH) (al:Value) (am:Itm),GLe G ak∧Fr a 44 [(7,al)]∧Mem W ak w (am::H)∧Ow R0 2 ak am al aj) ?_ ?_
 ·refine Aj ?_
  have m:=m.fr 1
  refine Ay (λan a w=>∃ao:LI,∃ap:Int,(ao,ap)=an∧∃(aq:GH) (ar:Value) (au:Itm),GLe G aq∧Fr a 44 [(1,(iv x1)),(2,v2),(3,(pb ad)),(7,ar),(8,(iv ap))]∧Mem W aq w (ib ad 27 [aa]::au::H)∧Ow R0 2 aq au ar ao) ai ⟨_,_,Z,_,af,ae,gr,f.k Z,m,ag⟩ ?_
  clear ai f m
  rintro an av aw ax a w ⟨ao,ap,rfl,aq,ar,au,ay,f,m,az⟩
  have h2:=RSl.mono RB.mono _ _ _ _ ay h2
  have ac:=rd2 ay ac
  refine Af (Ad ?_)
  refine Ab f Z λa f=>BX underlying27 Z sizeOf22 f Z λa f=>AK 0 0 m BP f Z Z Z Z λa f=>Ab f Z λa f=> ?_
  have⟨aA,aB,aw⟩:=bind_some aw
  refine Bk T22 f Z Z Z ac aB λaC aD a aE aF f=>AG m BW f Z Z aE λa f=>AT underlying49 f Z Z aF λa f=>Ah f Z Z AD λa f=>Aa ?_
  rcases Ae aw with⟨aG,aw⟩|⟨aG,aw⟩
  ·refine Ak f Z aG ?_
   refine Al ?_
   refine Af (Aj (Ad ?_))
   refine Ab f Z λa f=>BX underlying27 Z sizeOf22 f Z λa f=>AK 0 0 m BP f Z Z Z Z λa f=>Ab f Z λa f=> ?_
   have⟨aH,aI,aw⟩:=bind_some aw
   refine Bk T22 f Z Z Z ac aI λaJ aK a aL aM f=>AG m BW f Z Z aL λa f=>Ab f Z λa f=> ?_
   have⟨aN,aO,aw⟩:=bind_some aw
   refine Bk T49 f Z Z Z aM aO λaP aQ a aR aS f=> ?_
   subst aS
   refine AG m Pl2 f Z Z aR λa f=> ?_
   have⟨aT,aU,aw⟩:=bind_some aw
   refine Bk T118 f Z Z Z h2 aU λaV aW a aX aY f=> ?_
   subst aY
   refine AG m Pl4 f Z Z aX λa f=>l_o f (Bc (f.e Z)) λa f=>Aa ?_
   rcases Ae aw with⟨aZ,aw⟩|⟨aZ,aw⟩
   ·refine Ak f Z aZ ?_
    refine An ?_
    refine Ab f Z λa f=>BX underlying27 Z sizeOf22 f Z λa f=>AK 0 0 m BP f Z Z Z Z λa f=>Ab f Z λa f=> ?_
    have⟨a0,a1,aw⟩:=bind_some aw
    refine Bk T22 f Z Z Z ac a1 λa2 a3 a a4 a5 f=>AG m BW f Z Z a4 λa f=>Ab f Z λa f=> ?_
    have⟨a6,a7,aw⟩:=bind_some aw
    refine Bk T49 f Z Z Z a5 a7 λa8 a9 a ba bb f=> ?_
    subst bb
    refine AG m Pl2 f Z Z ba λa f=>AO (R:=R0) (xs:=([a6]:LI)) (RI.one _) m T49 f Z Z Z (by decide) (All2.cons Z (All2.nil _)) λbc bd w a m be f=> ?_
    have⟨bf,bg,aw⟩:=bind_some aw
    refine Bj (RI.one _) 2 m az Z T49 Z (by decide) f Z Z Z (Ow.src (j:=0) be m Z) bg λbh bi w a m bj f=>Ac f Z λa f=>Aa (An ?_)
    refine Ab f Z λa f=>Ah f Z Z Au λa f=>Ac f Z λa f=>Aa ?_
    have m:=m.fr 2
    have m:=m.fr 2
    have m:=m.eraseAt 2
    obtain rfl:=sj aw
    exact⟨_,Z,_,_,Z,_,bi,bh,ay,f.k Z,m,bj⟩
   ·refine Ai f Z aZ ?_
    refine Al ?_
    refine An ?_
    refine Ab f Z λa f=>Ah f Z Z Au λa f=>Ac f Z λa f=>Aa ?_
    obtain rfl:=sj aw
    exact⟨_,Z,_,_,Z,_,ar,au,ay,f.k Z,m,az⟩
  ·refine Ai f Z aG ?_
   refine Ax Z ?_
   have m:=m.fr 1
   have m:=m.eraseAt 1
   obtain rfl:=sj aw
   obtain rfl:=ax _ rfl
   exact⟨_,Z,_,ar,au,ay,f.k Z,m,az⟩
 ·rintro a w ⟨aj,rfl,ak,al,am,bk,f,m,bl⟩
  refine Ad ?_
  refine Ab f Z λa f=>Ac f Z λa f=>Aa ?_
  refine Ap ?_
  obtain rfl:=sj hd
  exact⟨[al],f.g Z,f.d,_,[am],bk,m,_,_,Z,Z,bl⟩
theorem Wk.m0 {aa:Value}{ab:LL}{x1 x2:Int}(m:Mem W G w (H))(ac:R2 G aa ab){y:Bool}(hd:D.m0 ab x1 x2=some y):
  Calls prog 136 #[(.agg #[aa]),(iv x1),(iv x2)] w (Res W G H (λ_ Ho v=>Ho=[]∧v=(.bool y))):=by
 refine Ar (args:=[(.agg #[aa]),(iv x1),(iv x2)]) (N:=14) [.tmp 6] func136 Z Z (lb Z) Z λa f=> ?_
 unfold D.m0 at hd
 refine Ad ?_
 refine Bw (cs:=[aa]) m f Z Z Z λad w a m f=>Ac f Z λa f=>Av ?_
 refine BX underlying27 Z sizeOf22 f Z λa f=>AK 0 0 m BP f Z Z Z Z λa f=>Ab f Z λa f=> ?_
 have⟨ae,af,hd⟩:=bind_some hd
 refine Bk T22 f Z Z Z ac af λag ah a ai aj f=>AG m BW f Z Z ai λa f=>Ab f Z λa f=> ?_
 have⟨ak,al,hd⟩:=bind_some hd
 refine A4 f Z call56 (Wk.b m aj al) λam w an m a f=>Ac f Z λa f=>Aa ?_
 refine Ap ?_
 have m:Mem W am w H:=Mem.drop (H':=[ib ad 27 [aa]]) m
 obtain rfl:=sj hd
 exact⟨[(.bool ak)],f.g Z,f.d,_,[],an,m,Z,Z⟩
theorem Wk.Q {aa v1:Value}{ab:LL}{x1:LI}(m:Mem W G w (H))(ac:R2 G aa ab)(h1:R1 G v1 x1){y:Int}(hd:D.Q ab x1=some y):
  Calls prog 135 #[(.agg #[aa]),v1] w (Res W G H (λ_ Ho v=>Ho=[]∧v=(iv y))):=by
 refine Ar (args:=[(.agg #[aa]),v1]) (N:=33) [.tmp 4] func135 Z Z (lb Z) Z λa f=> ?_
 unfold D.Q at hd
 refine Ad ?_
 refine Bw (cs:=[aa]) m f Z Z Z λad w a m f=>Ac f Z λa f=>Av ?_
 refine Ac f Z λa f=>Aa (Af (Ad ?_))
 refine Ac f Z λa f=>Aa ?_
 have⟨ae,af,hd⟩:=bind_some hd
 refine AB (λa w=>∃ag:Int,ag=ae∧∃(ah:GH),GLe G ah∧Fr a 33 [(5,(iv ag))]∧Mem W ah w (H)) ?_ ?_
 ·refine Aj ?_
  refine Ay (λai a w=>∃aj:Int,∃ak:Int,(aj,ak)=ai∧∃(al:GH),GLe G al∧Fr a 33 [(1,v1),(2,(pb ad)),(5,(iv aj)),(6,(iv ak))]∧Mem W al w (ib ad 27 [aa]::H)) af ⟨_,_,Z,_,gr,f.k Z,m⟩ ?_
  clear af f m
  rintro ai am an ao a w ⟨aj,ak,rfl,al,ap,f,m⟩
  have h1:=rd1 ap h1
  have ac:=rd2 ap ac
  refine Af (Ad ?_)
  refine Ab f Z λa f=>Ab f Z λa f=>AT underlying49 f Z Z h1 λa f=>Ah f Z Z AD λa f=>Aa ?_
  rcases Ae an with⟨aq,an⟩|⟨aq,an⟩
  ·refine Ak f Z aq ?_
   refine Al ?_
   refine Af (Aj (Ad ?_))
   refine Ac f Z λa f=>Aa ?_
   have⟨ar,au,an⟩:=bind_some an
   refine AB (λa w=>∃av:Int,av=ar∧∃(aw:GH),GLe al aw∧Fr a 33 [(1,v1),(2,(pb ad)),(5,(iv av)),(6,(iv ak))]∧Mem W aw w (ib ad 27 [aa]::H)) ?_ ?_
   ·refine Aj ?_
    refine Ay (λax a w=>∃ay:Int,∃az:Int,(ay,az)=ax∧∃(aA:GH),GLe al aA∧Fr a 33 [(1,v1),(2,(pb ad)),(5,(iv ay)),(6,(iv ak)),(7,(iv az))]∧Mem W aA w (ib ad 27 [aa]::H)) au ⟨_,_,Z,_,gr,f.k Z,m⟩ ?_
    clear au f m
    rintro ax aB aC aD a w ⟨ay,az,rfl,aA,aE,f,m⟩
    have h1:=rd1 aE h1
    have ac:=rd2 aE ac
    refine Af (Ad ?_)
    refine Ab f Z λa f=>Ab f Z λa f=>Ah f Z Z AD λa f=>Aa ?_
    rcases Ae aC with⟨aF,aC⟩|⟨aF,aC⟩
    ·refine Ak f Z aF ?_
     refine Al ?_
     refine Af (Aj (Af ?_))
     refine A8 11 AF (by kernel_rfl) m ?_
     refine Cf (i:=0) (ds:=[aa]) 11 0 Bv Z Z Z Z (by kernel_rfl) Z f Z Z Z λa f=>Ag 1 11 Z f Z λa f=>Ag 2 11 Z f Z λa f=> ?_
     have⟨aG,aH,aC⟩:=bind_some aC
     refine Bx 3 11 T49 h1 aH Z f Z Z λaI aJ a aK aL f=> ?_
     subst aL
     refine By 4 11 Pl2 aK Z f Z λa f=>Ag 5 11 Z f Z λa f=>Ag 6 11 Z f Z λa f=> ?_
     have⟨aM,aN,aC⟩:=bind_some aC
     refine Bx 7 11 T49 h1 aN Z f Z Z λaO aP a aQ aR f=> ?_
     subst aR
     refine By 8 11 Pl2 aQ Z f Z λa f=> ?_
     have⟨aS,aT,aC⟩:=bind_some aC
     refine Ck (i:=9) 11 Z (by kernel_rfl) Z f Z Z Z call136 (λ_ _ w aU m=>Wk.m0 m (rd2 aU ac) aT) λa f=>q_p 10 11 Z f (λ_=>Bc (f.e Z)) λa f=>AP λaV w aW m=>Aa ?_
     rcases Ae aC with⟨aX,aC⟩|⟨aX,aC⟩
     ·refine Ak f Z aX ?_
      refine An ?_
      refine Ab f Z λa f=>Ah f Z Z Au λa f=>Ac f Z λa f=>Aa (An ?_)
      refine Ab f Z λa f=>Ah f Z Z Au λa f=>Ac f Z λa f=>Aa ?_
      obtain rfl:=sj aC
      exact⟨_,Z,_,_,Z,_,(gt aE aW),f.k Z,m⟩
     ·refine Ai f Z aX ?_
      refine Al ?_
      refine An ?_
      refine Ab f Z λa f=>Ah f Z Z Au λa f=>Ac f Z λa f=>Aa ?_
      obtain rfl:=sj aC
      exact⟨_,Z,_,_,Z,_,(gt aE aW),f.k Z,m⟩
    ·refine Ai f Z aF ?_
     refine Ax Z ?_
     obtain rfl:=sj aC
     obtain rfl:=aD _ rfl
     exact⟨_,Z,_,aE,f.k Z,m⟩
   ·rintro a w ⟨av,rfl,aw,aY,f,m⟩
    refine An ?_
    refine Ab f Z λa f=>Ah f Z Z Au λa f=>Ac f Z λa f=>Aa ?_
    obtain rfl:=sj an
    exact⟨_,Z,_,_,Z,_,(gt ap aY),f.k Z,m⟩
  ·refine Ai f Z aq ?_
   refine Ax Z ?_
   have m:Mem W al w H:=Mem.drop (H':=[ib ad 27 [aa]]) m
   obtain rfl:=sj an
   obtain rfl:=ao _ rfl
   exact⟨_,Z,_,ap,f.k Z,m⟩
 ·rintro a w ⟨ag,rfl,ah,aZ,f,m⟩
  refine Ad ?_
  refine Ab f Z λa f=>Ac f Z λa f=>Aa ?_
  refine Ap ?_
  obtain rfl:=sj hd
  exact⟨[(iv ag)],f.g Z,f.d,_,[],aZ,m,Z,Z⟩
theorem Wk.c {aa v1:Value}{ab:LL}{x1:LI}(m:Mem W G w (H))(ac:R2 G aa ab)(h1:R1 G v1 x1){y:Bool}(hd:D.c ab x1=some y):
  Calls prog 131 #[(.agg #[aa]),v1] w (Res W G H (λ_ Ho v=>Ho=[]∧v=(.bool y))):=by
 refine Ar (args:=[(.agg #[aa]),v1]) (N:=9) [.tmp 4] func131 Z Z (lb Z) Z λa f=> ?_
 unfold D.c at hd
 refine Ad ?_
 refine Bw (cs:=[aa]) m f Z Z Z λad w a m f=>Ac f Z λa f=>Av ?_
 refine A3 0 0 (ds:=[aa]) m Bv f Z Z Z Z Z λa f=>Ab f Z λa f=> ?_
 have⟨ae,af,hd⟩:=bind_some hd
 refine A4 f Z call135 (Wk.Q m ac h1 af) λag w ah m a f=>Ah f Z Z BC λa f=>Ac f Z λa f=>Aa ?_
 refine Ap ?_
 have m:Mem W ag w H:=Mem.drop (H':=[ib ad 27 [aa]]) m
 obtain rfl:=sj hd
 exact⟨[(.bool (ae==0))],f.g Z,f.d,_,[],ah,m,Z,Z⟩
theorem Wk.Y {aa:Value}{ab:LL}(m:Mem W G w (H))(ac:R2 G aa ab){y:(LI)×Bool}(hd:D.Y ab=some y):
  Calls prog 122 #[(.agg #[aa])] w (Res W G H (λG' Ho v=>∃r0:Value,∃i0:Itm,Ho=[i0]∧v= .tuple #[r0,(.bool y.2)]∧Ow R0 2 G' i0 r0 y.1)):=by
 refine Ar (args:=[(.agg #[aa])]) (N:=54) [.tmp 2,.tmp 3] func122 Z Z (lb Z) Z λa f=> ?_
 unfold D.Y at hd
 refine Ad ?_
 refine Bw (cs:=[aa]) m f Z Z Z λad w a m f=>Ac f Z λa f=>Ac f Z λa f=>Aa (Af (Ad ?_))
 refine A3 0 0 (ds:=[aa]) m Bv f Z Z Z Z Z λa f=> ?_
 have⟨ae,af,hd⟩:=bind_some hd
 refine A4 f Z call26 (Wk.o m ac af) λag w ah m a f=> ?_
 have ac:=rd2 ah ac
 refine l_o f (Bc (f.e Z)) λa f=>Aa ?_
 rcases Ae hd with⟨ai,hd⟩|⟨ai,hd⟩
 ·refine Ak f Z ai ?_
  refine Ad ?_
  refine AO (R:=R0) (xs:=([]:LI)) (RI.one _) m T49 f Z Z Z (by decide) (All2.nil _) λaj ak w a m al f=>Ac f Z λa f=>Ac f Z λa f=>Aa ?_
  refine Ap ?_
  have m:=m.eraseAt 1
  obtain rfl:=sj hd
  exact⟨[ak,(.bool false)],⟨f.get _ _ Z,f.get _ _ Z,trivial⟩,f.d,_,[aj],ah,m,_,_,Z,Z,al⟩
 ·refine Ai f Z ai ?_
  refine Al ?_
  refine Ad ?_
  refine A3 0 0 (ds:=[aa]) m Bv f Z Z Z Z Z λa f=> ?_
  have⟨am,an,hd⟩:=bind_some hd
  refine A4 f Z call53 (Wk.d m ac an) λao w ap m a f=> ?_
  have ac:=rd2 ap ac
  have⟨aq,ar,hd⟩:=bind_some hd
  refine l_make (R:=RB) m T118 Z (by decide) Z f Z Z Z ar λau av w a m aw f=>Ac f Z λa f=>Av ?_
  refine AO (R:=R0) (xs:=([]:LI)) (RI.one _) m T49 f Z Z Z (by decide) (All2.nil _) λax ay w a m az f=>Ac f Z λa f=>Aa (Af ?_)
  have⟨aA,aB,hd⟩:=bind_some hd
  refine AB (λa w=>∃q_525':LI,aA= .inl q_525'∧∃aC:LI,aC=q_525'∧∃(aD:GH) (aE:Value) (aF:Itm),GLe ao aD∧Fr a 54 [(5,aE)]∧Mem W aD w (aF::H)∧Ow R0 2 aD aF aE aC) ?_ ?_
  ·refine Aj ?_
   have m:=m.fr 1
   have m:=m.fr 2
   refine Ay (λaG a w=>∃aH:List Bool,∃aI:LI,(aH,aI)=aG∧∃(aJ:GH) (aK:Itm) (aL:Value) (aM:Itm),GLe ao aJ∧Fr a 54 [(1,(pb ad)),(4,av),(5,aL)]∧Mem W aJ w (ib ad 27 [aa]::aK::aM::H)∧Ow RB 4 aJ aK av aH∧Ow R0 2 aJ aM aL aI) aB ⟨_,_,Z,_,au,ay,ax,gr,f.k Z,m,aw,az⟩ ?_
   clear aB f m
   rintro aG aN aO aP a w ⟨aH,aI,rfl,aJ,aK,aL,aM,aQ,f,m,aR,aS⟩
   have ac:=rd2 aQ ac
   refine Af (Ad ?_)
   refine Ab f Z λa f=>B2 2 m aS Z underlying49 f Z Z λa f=>A3 0 0 (ds:=[aa]) m Bv f Z Z Z Z Z λa f=> ?_
   have⟨aT,aU,aO⟩:=bind_some aO
   refine A4 f Z call53 (Wk.d m ac aU) λaV w aW m a f=> ?_
   have ac:=rd2 aW ac
   have aR:=Ow.mono RB.mono aW aR
   have aS:=od1 aW aS
   refine Ah f Z Z AD λa f=>Aa ?_
   rcases Ae aO with⟨aX,aO⟩|⟨aX,aO⟩
   ·refine Ak f Z aX ?_
    refine Al ?_
    refine Aj (Ad ?_)
    refine Ac f Z λa f=>Aa (Af ?_)
    have⟨aY,aZ,aO⟩:=bind_some aO
    refine AB (λa w=>∃a2:Int,a2=aY∧∃(a3:GH),GLe aV a3∧Fr a 54 [(1,(pb ad)),(4,av),(5,aL),(6,(iv a2))]∧Mem W a3 w (ib ad 27 [aa]::aK::aM::H)) ?_ ?_
    ·refine Aj ?_
     refine Ay (λa4 a w=>∃a5:Int,a5=a4∧∃(a6:GH),GLe aV a6∧Fr a 54 [(1,(pb ad)),(4,av),(5,aL),(6,(iv a5))]∧Mem W a6 w (ib ad 27 [aa]::aK::aM::H)) aZ ⟨_,Z,_,gr,f.k Z,m⟩ ?_
     clear aZ f m
     rintro a4 a7 a8 a9 a w ⟨a5,rfl,a6,ba,f,m⟩
     have ac:=rd2 ba ac
     have aR:=Ow.mono RB.mono ba aR
     refine Af (Af ?_)
     refine A8 19 AF (by kernel_rfl) m ?_
     refine Ag 0 19 Z f Z λa f=>Cf (i:=1) (ds:=[aa]) 19 0 Bv Z Z Z Z (by kernel_rfl) Z f Z Z Z λa f=> ?_
     have⟨bb,bc,a8⟩:=bind_some a8
     refine Ck (i:=2) 19 Z (by kernel_rfl) Z f Z Z Z call53 (λ_ _ w bd m=>Wk.d m (rd2 bd ac) bc) λa f=>q_p 3 19 Z f (λ_=>AA (f.e Z) (f.e Z) AD) λa f=>Ag 4 19 Z f Z λa f=> ?_
     rcases Ae a8 with⟨be,a8⟩|⟨be,a8⟩
     ·refine Ag (hw:=wo f be) 5 19 Z f Z λa f=> ?_
      refine Ag (hw:=wo f be) 6 19 Z f Z λa f=> ?_
      have⟨bf,bg,a8⟩:=bind_some a8
      refine AL (hw:=wo f be) 7 19 1 m aR T118 bg Z f Z Z λbh a bi f=>A1 (hw:=wo f be) 8 19 1 aR Pl4 bi bg Z f Z λbj a bk f=> ?_
      subst bk
      refine Ag (hw:=wo f be) 9 19 Z f Z λa f=> ?_
      rcases Ae a8 with⟨bl,a8⟩|⟨bl,a8⟩
      ·refine Aq 10 19 Z f bl λa f=> ?_
       refine Aq 11 19 Z f bl λa f=>Aq 12 19 Z f bl λa f=>Aq 13 19 Z f bl λa f=>Aq 14 19 Z f bl λa f=>Aq 15 19 Z f bl λa f=>Aq 16 19 Z f bl λa f=>q_p (hw:=wo f be) 17 19 Z f (λ_=>AV (f.e Z) bl (f.e Z)) λa f=>q_p 18 19 Z f (λ_=>AV (f.e Z) be (f.e Z)) λa f=>AP λbm w bn m=>Aa ?_
       refine Ak f Z Z ?_
       refine Al ?_
       refine Aj (An ?_)
       refine Ab f Z λa f=>Ah f Z Z Au λa f=>Ac f Z λa f=>Aa ?_
       obtain rfl:=sj a8
       exact⟨_,Z,_,Z,_,(gt ba bn),f.k Z,m⟩
      ·refine Cf (i:=10) (ds:=[aa]) 19 0 Bv Z Z Z Z (by kernel_rfl) Z f (Bo f Z Z Z bl) Z Z λa f=> ?_
       refine Cf (i:=11) (ds:=[aa]) 19 0 Bv Z Z Z Z (by kernel_rfl) Z f (Bo f Z Z Z bl) Z Z λa f=>Ag (hw:=wo f bl) 12 19 Z f Z λa f=>Ag (hw:=wo f bl) 13 19 Z f Z λa f=>BD 14 Z λbo w bp m bq bq=> ?_
       have ac:=rd2 bp ac
       have aR:=Ow.mono RB.mono bp aR
       refine AJ f bl ?_
       have⟨br,bs,a8⟩:=bind_some a8
       refine AE f Z call132 (Ow.lendCall RB.mono 1 aR m Z (λbt bu m bv=>Wk.S m (rd2 bu ac) bv bs) (λ_ G' _ _ ⟨a0,a1,e1,e2,o0⟩=>⟨a0,a1,e1,e2,Ow.free (RI.free _) G' o0⟩)) λbw bx bz w bA m bB a f=> ?_
       obtain⟨bC,bD,rfl,rfl,bE⟩:=bB
       have ac:=rd2 bA ac
       refine Aa ?_
       refine bq bx [bD] _ _ bA m ?_
       refine BD 15 Z λbF w bG m bH bH=> ?_
       have ac:=rd2 bG ac
       have bE:=od1 bG bE
       refine AJ f bl ?_
       have⟨bI,bJ,a8⟩:=bind_some a8
       refine AE f Z call131 (Ow.lendCall (RI.mono _) 0 bE m Z (λbK bL m bM=>Wk.c m (rd2 bL ac) bM bJ) (λ_ _ _ _ h=>h)) λbN bO bP w bQ m bR a f=> ?_
       obtain⟨rfl,rfl⟩:=bR
       refine Aa ?_
       refine bH bO [bD] _ _ bQ m ?_
       refine q_p (hw:=wo f bl) 16 19 Z f (λ_=>Bc (f.e Z)) λa f=>q_p (hw:=wo f be) 17 19 Z f (λ_=>AZ (f.e Z) bl (f.e Z)) λa f=>q_p 18 19 Z f (λ_=>AV (f.e Z) be (f.e Z)) λa f=>AP λbS w bT m=>Aa ?_
       rcases Ae a8 with⟨bU,a8⟩|⟨bU,a8⟩
       ·refine Ak f Z bU ?_
        refine Al ?_
        refine Aj (An ?_)
        refine Ab f Z λa f=>Ah f Z Z Au λa f=>Ac f Z λa f=>Aa ?_
        have m:=m.fr 3
        have m:=m.fr 3
        have m:Mem W bS w (ib ad 27 [aa]::aK::aM::bD::H):=m.fr 3
        have m:=m.eraseAt 3
        obtain rfl:=sj a8
        exact⟨_,Z,_,Z,_,(gt ba (gt bp (gt bA (gt bG (gt bQ bT))))),f.k Z,m⟩
       ·refine Ai f Z bU ?_
        refine Ax Z ?_
        have m:=m.fr 3
        have m:=m.fr 3
        have m:Mem W bS w (ib ad 27 [aa]::aK::aM::bD::H):=m.fr 3
        have m:=m.eraseAt 3
        obtain rfl:=sj a8
        obtain rfl:=a9 _ rfl
        exact⟨_,Z,_,(gt ba (gt bp (gt bA (gt bG (gt bQ bT))))),f.k Z,m⟩
     ·refine Aq 5 19 Z f be λa f=> ?_
      refine Aq 6 19 Z f be λa f=>Aq 7 19 Z f be λa f=>Aq 8 19 Z f be λa f=>Aq 9 19 Z f be λa f=>Cu 10 19 Z f λa f=>Cu 11 19 Z f λa f=>Cu 12 19 Z f λa f=>Cu 13 19 Z f λa f=>Cu 14 19 Z f λa f=>Cu 15 19 Z f λa f=>Cu 16 19 Z f λa f=>Aq 17 19 Z f be λa f=>q_p 18 19 Z f (λ_=>AZ (f.e Z) be (f.e Z)) λa f=>AP λbV w bW m=>Aa ?_
      refine Ai f Z Z ?_
      refine Ax Z ?_
      obtain rfl:=sj a8
      obtain rfl:=a9 _ rfl
      exact⟨_,Z,_,(gt ba bW),f.k Z,m⟩
    ·rintro a w ⟨a2,rfl,a3,bX,f,m⟩
     have ac:=rd2 bX ac
     have aR:=Ow.mono RB.mono bX aR
     have aS:=od1 bX aS
     refine Af (Ad ?_)
     refine Ab f Z λa f=>A3 0 0 (ds:=[aa]) m Bv f Z Z Z Z Z λa f=> ?_
     have⟨bY,bZ,aO⟩:=bind_some aO
     refine A4 f Z call53 (Wk.d m ac bZ) λb0 w b1 m a f=> ?_
     have aR:=Ow.mono RB.mono b1 aR
     have aS:=od1 b1 aS
     refine Ah f Z Z BC λa f=>Aa ?_
     rcases Ae aO with⟨b2,aO⟩|⟨b2,aO⟩
     ·refine Ak f Z b2 ?_
      refine Ad ?_
      refine AO (R:=R0) (xs:=([]:LI)) (RI.one _) m T49 f Z Z Z (by decide) (All2.nil _) λb3 b4 w a m b5 f=>Ac f Z λa f=>Ac f Z λa f=>Aa ?_
      refine Ap ?_
      have m:=m.eraseAt 3
      have m:=m.eraseAt 2
      have m:=m.eraseAt 1
      obtain rfl:=sj aO
      obtain rfl:=aP _ rfl
      obtain rfl:=sj hd
      exact⟨[b4,(.bool false)],⟨f.get _ _ Z,f.get _ _ Z,trivial⟩,f.d,_,[b3],(gt ah (gt ap (gt aQ (gt aW (gt bX b1))))),m,_,_,Z,Z,b5⟩
     ·refine Ai f Z b2 ?_
      refine Al ?_
      refine Ad ?_
      refine Ab f Z λa f=>Ab f Z λa f=> ?_
      have⟨b6,b7,aO⟩:=bind_some aO
      refine A2 1 m aR Z T118 f Z Z Z b7 λb8 a b9 f=>Az 1 m aR Z sizeOf4 f Z Z b9 b7 Z Z Z λca w m cb=>Aa (An ?_)
      refine Ab f Z λa f=>Ab f Z λa f=>AO (R:=R0) (xs:=([a2]:LI)) (RI.one _) m T49 f Z Z Z (by decide) (All2.cons Z (All2.nil _)) λcc cd w a m ce f=> ?_
      have⟨cf,cg,aO⟩:=bind_some aO
      refine Bj (RI.one _) 3 m aS Z T49 Z (by decide) f Z Z Z (Ow.src (j:=0) ce m Z) cg λch ci w a m cj f=>Ac f Z λa f=>Aa ?_
      have m:=m.fr 3
      have m:=m.fr 3
      have m:Mem W b0 w (ib ad 27 [aa]::ca::ch::cc::H):=m.fr 3
      have m:=m.eraseAt 3
      obtain rfl:=sj aO
      exact⟨_,Z,_,_,Z,_,ca,ci,ch,(gt aQ (gt aW (gt bX b1))),f.k Z,m,cb,cj⟩
   ·refine Ai f Z aX ?_
    refine Ax Z ?_
    have m:=m.fr 2
    have m:=m.eraseAt 2
    have m:=m.eraseAt 1
    obtain rfl:=sj aO
    obtain rfl:=aP _ rfl
    exact⟨_,Z,_,Z,_,aL,aM,(gt aQ aW),f.k Z,m,aS⟩
  ·rintro a w ⟨_,rfl,aC,rfl,aD,aE,aF,ck,f,m,cl⟩
   refine Ad ?_
   refine Ab f Z λa f=>Ac f Z λa f=>Ac f Z λa f=>Aa ?_
   refine Ap ?_
   obtain rfl:=sj hd
   exact⟨[aE,(.bool true)],⟨f.get _ _ Z,f.get _ _ Z,trivial⟩,f.d,_,[aF],(gt ah (gt ap ck)),m,_,_,Z,Z,cl⟩
theorem Wk.q {aa:Value}{ab:LL}(m:Mem W G w (H))(ac:R2 G aa ab){y:Bool}(hd:D.q ab=some y):
  Calls prog 102 #[(.agg #[aa])] w (Res W G H (λ_ Ho v=>Ho=[]∧v=(.bool y))):=by
 refine Ar (args:=[(.agg #[aa])]) (N:=11) [.tmp 2] func102 Z Z (lb Z) Z λa f=> ?_
 unfold D.q at hd
 refine Ad ?_
 refine Bw (cs:=[aa]) m f Z Z Z λad w a m f=>Ac f Z λa f=>Av ?_
 refine A3 0 0 (ds:=[aa]) m Bv f Z Z Z Z Z λa f=> ?_
 have⟨ae,af,hd⟩:=bind_some hd
 refine AE f Z call122 (Wk.Y m ac af) λag ah ai w aj m ak a f=> ?_
 obtain⟨al,am,rfl,rfl,an⟩:=ak
 refine Ab f Z λa f=>l_o f (A7 (f.e Z) Z) λa f=>l_o f (A7 (f.e Z) Z) λa f=>Ac f Z λa f=>Ac f Z λa f=>Av ?_
 refine Ab f Z λa f=>Ac f Z λa f=>Aa ?_
 refine Ap ?_
 have m:Mem W ah w H:=Mem.drop (H':=[am,ib ad 27 [aa]]) m
 obtain rfl:=sj hd
 exact⟨[(.bool ae.2)],f.g Z,f.d,_,[],aj,m,Z,Z⟩
theorem Wk.x {x0:Int}(m:Mem W G w (H)){y:(LI)}(hd:D.x x0=some y):
  Calls prog 124 #[(iv x0)] w (Res W G H (λG' Ho v=>∃r0:Value,∃i0:Itm,Ho=[i0]∧r0=v∧Ow R0 2 G' i0 r0 y)):=by
 refine Ar (args:=[(iv x0)]) (N:=16) [.tmp 2] func124 Z Z (lb Z) Z λa f=> ?_
 unfold D.x at hd
 refine Ad ?_
 refine Ac f Z λa f=>Av ?_
 refine AO (R:=R0) (xs:=([]:LI)) (RI.one _) m T49 f Z Z Z (by decide) (All2.nil _) λaa ab w a m ac f=>Ac f Z λa f=>Aa (Af (Ad ?_))
 refine Ac f Z λa f=>Aa ?_
 have⟨ad,ae,hd⟩:=bind_some hd
 refine AB (λa w=>∃af:LI,af=ad∧∃(ag:GH) (ah:Value) (ai:Itm),GLe G ag∧Fr a 16 [(3,ah)]∧Mem W ag w (ai::H)∧Ow R0 2 ag ai ah af) ?_ ?_
 ·refine Aj ?_
  refine Ay (λaj a w=>∃ak:LI,∃al:Int,(ak,al)=aj∧∃(am:GH) (an:Value) (ao:Itm),GLe G am∧Fr a 16 [(0,(iv x0)),(3,an),(4,(iv al))]∧Mem W am w (ao::H)∧Ow R0 2 am ao an ak) ae ⟨_,_,Z,_,ab,aa,gr,f.k Z,m,ac⟩ ?_
  clear ae f m
  rintro aj ap aq ar a w ⟨ak,al,rfl,am,an,ao,au,f,m,av⟩
  refine Af (Ad ?_)
  refine Ab f Z λa f=>Ab f Z λa f=>Ah f Z Z AD λa f=>Aa ?_
  rcases Ae aq with⟨aw,aq⟩|⟨aw,aq⟩
  ·refine Ak f Z aw ?_
   refine Al ?_
   refine Af (Aj (An ?_))
   refine Ab f Z λa f=>Ab f Z λa f=>AO (R:=R0) (xs:=([al]:LI)) (RI.one _) m T49 f Z Z Z (by decide) (All2.cons Z (All2.nil _)) λax ay w a m az f=> ?_
   have⟨aA,aB,aq⟩:=bind_some aq
   refine Bj (RI.one _) 1 m av Z T49 Z (by decide) f Z Z Z (Ow.src (j:=0) az m Z) aB λaC aD w a m aE f=>Ac f Z λa f=>Aa (An ?_)
   refine Ab f Z λa f=>Ah f Z Z Au λa f=>Ac f Z λa f=>Aa ?_
   have m:=m.fr 1
   have m:=m.eraseAt 1
   obtain rfl:=sj aq
   exact⟨_,Z,_,_,Z,_,aD,aC,au,f.k Z,m,aE⟩
  ·refine Ai f Z aw ?_
   refine Ax Z ?_
   obtain rfl:=sj aq
   obtain rfl:=ar _ rfl
   exact⟨_,Z,_,an,ao,au,f.k Z,m,av⟩
 ·rintro a w ⟨af,rfl,ag,ah,ai,aF,f,m,aG⟩
  refine Ad ?_
  refine Ab f Z λa f=>Ac f Z λa f=>Aa ?_
  refine Ap ?_
  obtain rfl:=sj hd
  exact⟨[ah],f.g Z,f.d,_,[ai],aF,m,_,_,Z,Z,aG⟩
theorem Wk.p {v0:Value}{x0:LI}(m:Mem W G w (H))(h0:R1 G v0 x0){y:(LI)}(hd:D.p x0=some y):
  Calls prog 88 #[v0] w (Res W G H (λG' Ho v=>∃r0:Value,∃i0:Itm,Ho=[i0]∧r0=v∧Ow R0 2 G' i0 r0 y)):=by
 refine Ar (args:=[v0]) (N:=6) [.tmp 2] func88 Z Z (lb Z) Z λa f=> ?_
 unfold D.p at hd
 refine Ad ?_
 refine Ac f Z λa f=>Av ?_
 refine AO (R:=R0) (xs:=([]:LI)) (RI.one _) m T49 f Z Z Z (by decide) (All2.nil _) λaa ab w a m ac f=>Ab f Z λa f=> ?_
 have⟨ad,ae,hd⟩:=bind_some hd
 refine Bj (RI.one _) 0 m ac Z T49 Z (by decide) f Z Z Z (h0.src m) ae λaf ag w a m ah f=>Ac f Z λa f=>Aa ?_
 refine Ap ?_
 obtain rfl:=sj hd
 exact⟨[ag],f.g Z,f.d,_,[af],gr,m,_,_,Z,Z,ah⟩
theorem Wk.B {v0 v1:Value}{x0 x1:LI}(m:Mem W G w (H))(h0:R1 G v0 x0)(h1:R1 G v1 x1){y:(LI)}(hd:D.B x0 x1=some y):
  Calls prog 133 #[v0,v1] w (Res W G H (λG' Ho v=>∃r0:Value,∃i0:Itm,Ho=[i0]∧r0=v∧Ow R0 2 G' i0 r0 y)):=by
 refine Ar (args:=[v0,v1]) (N:=28) [.tmp 4] func133 Z Z (lb Z) Z λa f=> ?_
 unfold D.B at hd
 refine Ad ?_
 refine Ac f Z λa f=>Av ?_
 refine AO (R:=R0) (xs:=([]:LI)) (RI.one _) m T49 f Z Z Z (by decide) (All2.nil _) λaa ab w a m ac f=>Ac f Z λa f=>Aa (Af (Ad ?_))
 refine Ac f Z λa f=>Aa ?_
 have⟨ad,ae,hd⟩:=bind_some hd
 refine AB (λa w=>∃af:LI,af=ad∧∃(ag:GH) (ah:Value) (ai:Itm),GLe G ag∧Fr a 28 [(5,ah)]∧Mem W ag w (ai::H)∧Ow R0 2 ag ai ah af) ?_ ?_
 ·refine Aj ?_
  refine Ay (λaj a w=>∃ak:LI,∃al:Int,(ak,al)=aj∧∃(am:GH) (an:Value) (ao:Itm),GLe G am∧Fr a 28 [(0,v0),(1,v1),(5,an),(6,(iv al))]∧Mem W am w (ao::H)∧Ow R0 2 am ao an ak) ae ⟨_,_,Z,_,ab,aa,gr,f.k Z,m,ac⟩ ?_
  clear ae f m
  rintro aj ap aq ar a w ⟨ak,al,rfl,am,an,ao,au,f,m,av⟩
  have h0:=rd1 au h0
  have h1:=rd1 au h1
  refine Af (Ad ?_)
  refine Ab f Z λa f=>Ab f Z λa f=>AT underlying49 f Z Z h0 λa f=>Ah f Z Z AD λa f=>Aa ?_
  rcases Ae aq with⟨aw,aq⟩|⟨aw,aq⟩
  ·refine Ak f Z aw ?_
   refine Al ?_
   refine Af (Aj (Ad ?_))
   refine Ab f Z λa f=>Ab f Z λa f=>Ab f Z λa f=> ?_
   have⟨ax,ay,aq⟩:=bind_some aq
   refine Bk T49 f Z Z Z h0 ay λaz aA a aB aC f=> ?_
   subst aC
   refine AG m Pl2 f Z Z aB λa f=> ?_
   have⟨aD,aE,aq⟩:=bind_some aq
   refine A4 f Z call56 (Wk.b m h1 aE) λaF w aG m a f=> ?_
   have h0:=rd1 aG h0
   have av:=od1 aG av
   refine Aa ?_
   rcases Ae aq with⟨aH,aq⟩|⟨aH,aq⟩
   ·refine Ak f Z aH ?_
    refine An ?_
    refine Ab f Z λa f=>Ab f Z λa f=>Ab f Z λa f=> ?_
    have⟨aI,aJ,aq⟩:=bind_some aq
    refine Bk T49 f Z Z Z h0 aJ λaK aL a aM aN f=> ?_
    subst aN
    refine AG m Pl2 f Z Z aM λa f=>AO (R:=R0) (xs:=([aI]:LI)) (RI.one _) m T49 f Z Z Z (by decide) (All2.cons Z (All2.nil _)) λaO aP w a m aQ f=> ?_
    have⟨aR,aS,aq⟩:=bind_some aq
    refine Bj (RI.one _) 1 m av Z T49 Z (by decide) f Z Z Z (Ow.src (j:=0) aQ m Z) aS λaT aU w a m aV f=>Ac f Z λa f=>Aa (An ?_)
    refine Ab f Z λa f=>Ah f Z Z Au λa f=>Ac f Z λa f=>Aa ?_
    have m:=m.fr 1
    have m:=m.eraseAt 1
    obtain rfl:=sj aq
    exact⟨_,Z,_,_,Z,_,aU,aT,(gt au aG),f.k Z,m,aV⟩
   ·refine Ai f Z aH ?_
    refine Al ?_
    refine An ?_
    refine Ab f Z λa f=>Ah f Z Z Au λa f=>Ac f Z λa f=>Aa ?_
    obtain rfl:=sj aq
    exact⟨_,Z,_,_,Z,_,an,ao,(gt au aG),f.k Z,m,av⟩
  ·refine Ai f Z aw ?_
   refine Ax Z ?_
   obtain rfl:=sj aq
   obtain rfl:=ar _ rfl
   exact⟨_,Z,_,an,ao,au,f.k Z,m,av⟩
 ·rintro a w ⟨af,rfl,ag,ah,ai,aW,f,m,aX⟩
  refine Ad ?_
  refine Ab f Z λa f=>Ac f Z λa f=>Aa ?_
  refine Ap ?_
  obtain rfl:=sj hd
  exact⟨[ah],f.g Z,f.d,_,[ai],aW,m,_,_,Z,Z,aX⟩
theorem Wk.O {W:World}(n:Nat):∀{w:World} {G:GH} {H:List Itm} {aa v1 v2 v3:Value} {ab:LL} {x1 x2 x3:LI} (m:Mem W G w (H)) (ac:R2 G aa ab) (h1:R1 G v1 x1) (h2:R1 G v2 x2) (h3:R1 G v3 x3) {y:(LL)} (hd:D.O n ab x1 x2 x3=some y),
  Calls prog 123 #[(.agg #[aa]),v1,v2,v3] w (Res W G H (λG' Ho v=>∃r0:Value,∃i0:Itm,Ho=[i0]∧r0=v∧Ow R1 49 G' i0 r0 y)):=by
 induction n with
 |zero=>intros;rename_i hd;simp[D.O] at hd
 |succ fuel ih=>
  intro w G H aa v1 v2 v3 ab x1 x2 x3 m ac h1 h2 h3 y hd
  refine Ar (args:=[(.agg #[aa]),v1,v2,v3]) (N:=67) [.tmp 8] func123 Z Z (lb Z) Z λa f=> ?_
  unfold D.O at hd
  refine Ad ?_
  refine Bw (cs:=[aa]) m f Z Z Z λad w a m f=>Ac f Z λa f=>Aa (Af (Ad ?_))
  refine Ab f Z λa f=>AT underlying49 f Z Z h2 λa f=>Ah f Z Z BC λa f=>Ab f Z λa f=> ?_
  refine B4 4 (λa w=>∃ae,GLe G ae∧Mem W ae w (ib ad 27 [aa]::H)∧Fr a 67 [(0,(.agg #[aa])),(1,v1),(2,v2),(3,v3),(4,(pb ad)),(13,v2),(14,(iv (x2.length:Int))),(15,(.bool ((x2.length:Int)==0))),(16,(.bool ((x2.length:Int)==0))),(20,(.bool (((x2.length:Int)==0)&&((x3.length:Int)==0))))]) ?_ ?_
  ·rcases Bool.eq_false_or_eq_true ((x2.length:Int)==0) with af|af
   ·refine AJ f af ?_
    refine Ab f Z λa f=>AJ f af ?_
    refine AT underlying49 f Z Z h3 λa f=>AJ f af ?_
    refine Ah f Z Z BC λa f=>l_o f (AV (f.e Z) af (f.e Z)) λa f=> ?_
    exact⟨_,gr,m,f.weak ⟨Z,Z,Z,Z,Z,Z,Z,Z,Z,by rw[af];rfl,trivial⟩⟩
   ·refine AN f af λa f=> ?_
    refine AN f af λa f=>AN f af λa f=>l_o f (AZ (f.e Z) af (f.e Z)) λa f=> ?_
    exact⟨_,gr,m,f.weak ⟨Z,Z,Z,Z,Z,Z,Z,Z,Z,by rw[af];rfl,trivial⟩⟩
  ·rintro a w ⟨ae,ag,m,f⟩
   have ac:=rd2 ag ac
   have h1:=rd1 ag h1
   have h2:=rd1 ag h2
   have h3:=rd1 ag h3
   refine Aa ?_
   rcases Ae hd with⟨ah,hd⟩|⟨ah,hd⟩
   ·refine Ak f Z ah ?_
    refine Ad ?_
    refine Ab f Z λa f=>AO (R:=R1) (xs:=([x1]:LL)) (RSl.one _) m T22 f Z Z Z (by decide) (All2.cons h1 (All2.nil _)) λai aj w a m ak f=>Ac f Z λa f=>Aa ?_
    refine Ap ?_
    have m:=m.eraseAt 1
    obtain rfl:=sj hd
    exact⟨[aj],f.g Z,f.d,_,[ai],ag,m,_,_,Z,Z,ak⟩
   ·refine Ai f Z ah ?_
    refine Al ?_
    refine Ad ?_
    refine AO (R:=R1) (xs:=([]:LL)) (RSl.one _) m T22 f Z Z Z (by decide) (All2.nil _) λal am w a m an f=>Ac f Z λa f=>Aa (Af (Ad ?_))
    refine Ac f Z λa f=>Aa ?_
    have⟨ao,ap,hd⟩:=bind_some hd
    refine AB (λa w=>∃aq:LL,aq=ao∧∃(ar:GH) (au:Value) (av:Itm),GLe ae ar∧Fr a 67 [(9,au)]∧Mem W ar w (av::H)∧Ow R1 49 ar av au aq) ?_ ?_
    ·refine Aj ?_
     have m:=m.fr 1
     refine Ay (λaw a w=>∃ax:LL,∃ay:Int,(ax,ay)=aw∧∃(az:GH) (aA:Value) (aB:Itm),GLe ae az∧Fr a 67 [(1,v1),(2,v2),(3,v3),(4,(pb ad)),(9,aA),(10,(iv ay))]∧Mem W az w (ib ad 27 [aa]::aB::H)∧Ow R1 49 az aB aA ax) ap ⟨_,_,Z,_,am,al,gr,f.k Z,m,an⟩ ?_
     clear ap f m
     rintro aw aC aD aE a w ⟨ax,ay,rfl,az,aA,aB,aF,f,m,aG⟩
     have h1:=rd1 aF h1
     have h2:=rd1 aF h2
     have h3:=rd1 aF h3
     have ac:=rd2 aF ac
     refine Af (Ad ?_)
     refine Ab f Z λa f=>Ab f Z λa f=>AT underlying49 f Z Z h2 λa f=>Ah f Z Z AD λa f=>Aa ?_
     rcases Ae aD with⟨aH,aD⟩|⟨aH,aD⟩
     ·refine Ak f Z aH ?_
      refine Al ?_
      refine Af (Aj (Ad ?_))
      refine Ab f Z λa f=>Ab f Z λa f=> ?_
      have⟨aI,aJ,aD⟩:=bind_some aD
      refine Bk T49 f Z Z Z h2 aJ λaK aL a aM aN f=> ?_
      subst aN
      refine AG m Pl2 f Z Z aM λa f=>Ac f Z λa f=>Aa (Af ?_)
      have⟨aO,aP,aD⟩:=bind_some aD
      refine AB (λa w=>∃aQ:LL,aQ=aO∧∃(aR:GH) (aS:Value) (aT:Itm),GLe az aR∧Fr a 67 [(1,v1),(2,v2),(3,v3),(4,(pb ad)),(9,aA),(10,(iv ay)),(12,aS)]∧Mem W aR w (ib ad 27 [aa]::aB::aT::H)∧Ow R1 49 aR aT aS aQ) ?_ ?_
      ·refine A8 28 AF (by kernel_rfl) m ?_
       refine Cf (i:=0) (ds:=[aa]) 28 0 Bv Z Z Z Z (by kernel_rfl) Z f Z Z Z λa f=>Ag 1 28 Z f Z λa f=>Ag 3 28 Z f Z λa f=>Ag 6 28 Z f Z λa f=>Ag 7 28 Z f Z λa f=>q_p 8 28 Z f (λ_=>AA (f.e Z) (f.e Z) Au) λa f=> ?_
       have⟨aU,aV,aP⟩:=bind_some aP
       refine q_slice (i:=9) 28 T49 h2 aV Z (by kernel_rfl) Z f Z Z Z (.inr ⟨_,_,Z,Z⟩) (.inl ⟨Z,Z⟩) λaW a aX f=>q_fa 10 28 underlying27 Z sizeOf22 Z f Z λa f=>CO 11 28 0 BP Z Z Z f Z λa f=>Ag 12 28 Z f Z λa f=> ?_
       have⟨aY,aZ,aP⟩:=bind_some aP
       refine Bx 13 28 T22 ac aZ Z f Z Z λa2 a3 a a4 a5 f=>By 14 28 BW a4 Z f Z λa f=>Ag 16 28 Z f Z λa f=>Ag 18 28 Z f Z λa f=>Ag 19 28 Z f Z λa f=> ?_
       have⟨a6,a7,aP⟩:=bind_some aP
       refine q_slice (i:=20) 28 T49 h2 a7 Z (by kernel_rfl) Z f Z Z Z (.inl ⟨Z,Z⟩) (.inr ⟨_,_,Z,Z⟩) λa8 a a9 f=>q_fa 22 28 underlying27 Z sizeOf22 Z f Z λa f=>CO 23 28 0 BP Z Z Z f Z λa f=>Ag 24 28 Z f Z λa f=> ?_
       have⟨ba,bb,aP⟩:=bind_some aP
       refine Bx 25 28 T22 ac bb Z f Z Z λbc bd a be bf f=>By 26 28 BW be Z f Z λa f=>q_two (i:=2) (j:=4) (l1:= #[true,true,true,true,false,false,true,true,true,true,true,true,true,true,true,false,true,false,true,true,true,false,true,true,true,true,true,false,false,false]) (l2:= #[true,true,false,true,true,false,true,true,true,true,true,true,true,true,true,false,true,false,true,true,true,false,true,true,true,true,true,false,false,false]) Z Z (by kernel_rfl) Z Z ?_ ?_
       ·intro bg w bh m bi bi
        have h1:=rd1 bh h1
        have h3:=rd1 bh h3
        have ac:=rd2 bh ac
        have aX:=rd1 bh aX
        have a5:=rd1 bh a5
        have a9:=rd1 bh a9
        have bf:=rd1 bh bf
        have⟨bj,bk,aP⟩:=bind_some aP
        refine AE f Z call88 (Wk.p m h1 bk) λbl bm bn w bo m bp a f=> ?_
        obtain⟨bq,br,rfl,rfl,bs⟩:=bp
        have h3:=rd1 bo h3
        have ac:=rd2 bo ac
        have aX:=rd1 bo aX
        have a5:=rd1 bo a5
        have a9:=rd1 bo a9
        have bf:=rd1 bo bf
        refine Aa ?_
        refine bi bm [br] _ _ bo m ?_
        refine BD 4 Z λbt w bu m bv bv=> ?_
        have h3:=rd1 bu h3
        have ac:=rd2 bu ac
        have aX:=rd1 bu aX
        have a5:=rd1 bu a5
        have a9:=rd1 bu a9
        have bf:=rd1 bu bf
        have bs:=od1 bu bs
        refine AO (R:=R0) (xs:=([aI]:LI)) (RI.one _) m T49 f Z Z Z (by decide) (All2.cons Z (All2.nil _)) λbw bx w a m bz f=>Aa ?_
        refine bv bt [bw,br] _ _ gr m ?_
        refine BD 5 Z λbA w bB m bC bC=> ?_
        have h3:=rd1 bB h3
        have ac:=rd2 bB ac
        have aX:=rd1 bB aX
        have a5:=rd1 bB a5
        have a9:=rd1 bB a9
        have bf:=rd1 bB bf
        have bz:=od1 bB bz
        have bs:=od1 bB bs
        have⟨bD,bE,aP⟩:=bind_some aP
        refine Bj (RI.one _) 1 m bs Z T49 Z (by decide) f Z Z Z (Ow.src (j:=0) bz m Z) bE λbF bG w a m bH f=>Aa ?_
        refine bC bA [bw,bF] _ _ gr m ?_
        refine BD 15 Z λbI w bJ m bK bK=> ?_
        have h3:=rd1 bJ h3
        have ac:=rd2 bJ ac
        have aX:=rd1 bJ aX
        have a5:=rd1 bJ a5
        have a9:=rd1 bJ a9
        have bf:=rd1 bJ bf
        have bH:=od1 bJ bH
        have⟨bL,bM,aP⟩:=bind_some aP
        refine AE f Z call133 (Wk.B m aX a5 bM) λbN bO bP w bQ m bR a f=> ?_
        obtain⟨bS,bT,rfl,rfl,bU⟩:=bR
        have h3:=rd1 bQ h3
        have ac:=rd2 bQ ac
        have a9:=rd1 bQ a9
        have bf:=rd1 bQ bf
        have bH:=od1 bQ bH
        refine Aa ?_
        refine bK bO [bT,bw,bF] _ _ bQ m ?_
        refine BD 17 Z λbV w bW m bX bX=> ?_
        have h3:=rd1 bW h3
        have ac:=rd2 bW ac
        have a9:=rd1 bW a9
        have bf:=rd1 bW bf
        have bU:=od1 bW bU
        have bH:=od1 bW bH
        have⟨bY,bZ,aP⟩:=bind_some aP
        refine AE f Z call88 (Wk.p m h3 bZ) λb0 b1 b2 w b3 m b4 a f=> ?_
        obtain⟨b5,b6,rfl,rfl,b7⟩:=b4
        have ac:=rd2 b3 ac
        have a9:=rd1 b3 a9
        have bf:=rd1 b3 bf
        have bU:=od1 b3 bU
        have bH:=od1 b3 bH
        refine Aa ?_
        refine bX b1 [b6,bT,bw,bF] _ _ b3 m ?_
        refine BD 21 Z λb8 w b9 m ca ca=> ?_
        have ac:=rd2 b9 ac
        have a9:=rd1 b9 a9
        have bf:=rd1 b9 bf
        have b7:=od1 b9 b7
        have bU:=od1 b9 bU
        have bH:=od1 b9 bH
        have⟨cb,cc,aP⟩:=bind_some aP
        refine Bj (RI.one _) 0 m b7 Z T49 Z (by decide) f Z Z Z (a9.src m) cc λcd ce w a m cf f=>Aa ?_
        refine ca b8 [cd,bT,bw,bF] _ _ gr m ?_
        refine BD 27 Z λcg w ch m ci ci=> ?_
        have ac:=rd2 ch ac
        have bf:=rd1 ch bf
        have cf:=od1 ch cf
        have bU:=od1 ch bU
        have bH:=od1 ch bH
        have⟨cj,ck,aP⟩:=bind_some aP
        refine AE f Z call133 (Ow.lendCall (RI.mono _) 0 cf m Z (λcl cm m cn=>Wk.B m cn (rd1 cm bf) ck) (λ_ G' _ _ ⟨a0,a1,e1,e2,o0⟩=>⟨a0,a1,e1,e2,Ow.free (RI.free _) G' o0⟩)) λco cp cq w cr m ct a f=> ?_
        obtain⟨cu,cv,rfl,rfl,cw⟩:=ct
        have ac:=rd2 cr ac
        have bU:=od1 cr bU
        have bH:=od1 cr bH
        refine Aa ?_
        refine ci cp [cv,cd,bT,bw,bF] _ _ cr m ?_
        refine AP λcx w cy m=> ?_
        have ac:=rd2 cy ac
        have cw:=od1 cy cw
        have bU:=od1 cy bU
        have bH:=od1 cy bH
        have m:Mem W cx w (bF::cv::cd::bT::bw::ib ad 27 [aa]::aB::H):=m.fr 4
        obtain⟨cz,cA,m,cB⟩:=Ow.stamp (RI.mono _) bH m
        have ac:=rd2 cA ac
        have cw:=od1 cA cw
        have bU:=od1 cA bU
        have m:Mem W cz w (bT::cv::cd::bw::ib ad 27 [aa]::aB::H):=m.fr 2
        obtain⟨cC,cD,m,cE⟩:=Ow.stamp (RI.mono _) bU m
        have ac:=rd2 cD ac
        have cB:=rd1 cD cB
        have cw:=od1 cD cw
        obtain⟨cF,cG,m,cH⟩:=Ow.stamp (RI.mono _) cw m
        have ac:=rd2 cG ac
        have cB:=rd1 cG cB
        have cE:=rd1 cG cE
        have⟨cI,cJ,aP⟩:=bind_some aP
        refine AE f Z call123 (ih m ac cB cE cH cJ) λcK cL cM w cN m cO a f=> ?_
        obtain⟨cP,cQ,rfl,rfl,cR⟩:=cO
        refine Ac f Z λa f=>Aa ?_
        have m:=m.fr 4
        have m:=m.fr 4
        have m:Mem W cL w (ib ad 27 [aa]::aB::cQ::cd::H):=m.eraseAt 4
        have m:=m.eraseAt 3
        obtain rfl:=sj aP
        exact⟨_,Z,_,cP,cQ,(gt bh (gt bo (gt bu (gt bB (gt bJ (gt bQ (gt bW (gt b3 (gt b9 (gt ch (gt cr (gt cy (gt cA (gt cD (gt cG cN))))))))))))))),f.k Z,m,cR⟩
       ·intro bt w bu m bv bv
        have⟨bj,bk,aP⟩:=bind_some aP
        have⟨bD,bE,aP⟩:=bind_some aP
        have⟨bL,bM,aP⟩:=bind_some aP
        have⟨bY,bZ,aP⟩:=bind_some aP
        have⟨cb,cc,aP⟩:=bind_some aP
        have⟨cj,ck,aP⟩:=bind_some aP
        have⟨cI,cJ,aP⟩:=bind_some aP
        have h1:=rd1 bu h1
        have h3:=rd1 bu h3
        have ac:=rd2 bu ac
        have aX:=rd1 bu aX
        have a5:=rd1 bu a5
        have a9:=rd1 bu a9
        have bf:=rd1 bu bf
        refine AO (R:=R0) (xs:=([aI]:LI)) (RI.one _) m T49 f Z Z Z (by decide) (All2.cons Z (All2.nil _)) λbw bx w a m bz f=>Aa ?_
        refine bv bt [bw] _ _ gr m ?_
        refine BD 2 Z λbg w bh m bi bi=> ?_
        have h1:=rd1 bh h1
        have h3:=rd1 bh h3
        have ac:=rd2 bh ac
        have aX:=rd1 bh aX
        have a5:=rd1 bh a5
        have a9:=rd1 bh a9
        have bf:=rd1 bh bf
        have bz:=od1 bh bz
        refine AE f Z call88 (Wk.p m h1 bk) λbl bm bn w bo m bp a f=> ?_
        obtain⟨bq,br,rfl,rfl,bs⟩:=bp
        have h3:=rd1 bo h3
        have ac:=rd2 bo ac
        have aX:=rd1 bo aX
        have a5:=rd1 bo a5
        have a9:=rd1 bo a9
        have bf:=rd1 bo bf
        have bz:=od1 bo bz
        refine Aa ?_
        refine bi bm [br,bw] _ _ bo m ?_
        refine BD 5 Z λbA w bB m bC bC=> ?_
        have h3:=rd1 bB h3
        have ac:=rd2 bB ac
        have aX:=rd1 bB aX
        have a5:=rd1 bB a5
        have a9:=rd1 bB a9
        have bf:=rd1 bB bf
        have bs:=od1 bB bs
        have bz:=od1 bB bz
        refine Bj (RI.one _) 0 m bs Z T49 Z (by decide) f Z Z Z (Ow.src (j:=1) bz m Z) bE λbF bG w a m bH f=>Aa ?_
        refine bC bA [bF,bw] _ _ gr m ?_
        refine BD 15 Z λbI w bJ m bK bK=> ?_
        have h3:=rd1 bJ h3
        have ac:=rd2 bJ ac
        have aX:=rd1 bJ aX
        have a5:=rd1 bJ a5
        have a9:=rd1 bJ a9
        have bf:=rd1 bJ bf
        have bH:=od1 bJ bH
        refine AE f Z call133 (Wk.B m aX a5 bM) λbN bO bP w bQ m bR a f=> ?_
        obtain⟨bS,bT,rfl,rfl,bU⟩:=bR
        have h3:=rd1 bQ h3
        have ac:=rd2 bQ ac
        have a9:=rd1 bQ a9
        have bf:=rd1 bQ bf
        have bH:=od1 bQ bH
        refine Aa ?_
        refine bK bO [bT,bF,bw] _ _ bQ m ?_
        refine BD 17 Z λbV w bW m bX bX=> ?_
        have h3:=rd1 bW h3
        have ac:=rd2 bW ac
        have a9:=rd1 bW a9
        have bf:=rd1 bW bf
        have bU:=od1 bW bU
        have bH:=od1 bW bH
        refine AE f Z call88 (Wk.p m h3 bZ) λb0 b1 b2 w b3 m b4 a f=> ?_
        obtain⟨b5,b6,rfl,rfl,b7⟩:=b4
        have ac:=rd2 b3 ac
        have a9:=rd1 b3 a9
        have bf:=rd1 b3 bf
        have bU:=od1 b3 bU
        have bH:=od1 b3 bH
        refine Aa ?_
        refine bX b1 [b6,bT,bF,bw] _ _ b3 m ?_
        refine BD 21 Z λb8 w b9 m ca ca=> ?_
        have ac:=rd2 b9 ac
        have a9:=rd1 b9 a9
        have bf:=rd1 b9 bf
        have b7:=od1 b9 b7
        have bU:=od1 b9 bU
        have bH:=od1 b9 bH
        refine Bj (RI.one _) 0 m b7 Z T49 Z (by decide) f Z Z Z (a9.src m) cc λcd ce w a m cf f=>Aa ?_
        refine ca b8 [cd,bT,bF,bw] _ _ gr m ?_
        refine BD 27 Z λcg w ch m ci ci=> ?_
        have ac:=rd2 ch ac
        have bf:=rd1 ch bf
        have cf:=od1 ch cf
        have bU:=od1 ch bU
        have bH:=od1 ch bH
        refine AE f Z call133 (Ow.lendCall (RI.mono _) 0 cf m Z (λcl cm m cn=>Wk.B m cn (rd1 cm bf) ck) (λ_ G' _ _ ⟨a0,a1,e1,e2,o0⟩=>⟨a0,a1,e1,e2,Ow.free (RI.free _) G' o0⟩)) λco cp cq w cr m ct a f=> ?_
        obtain⟨cu,cv,rfl,rfl,cw⟩:=ct
        have ac:=rd2 cr ac
        have bU:=od1 cr bU
        have bH:=od1 cr bH
        refine Aa ?_
        refine ci cp [cv,cd,bT,bF,bw] _ _ cr m ?_
        refine AP λcx w cy m=> ?_
        have ac:=rd2 cy ac
        have cw:=od1 cy cw
        have bU:=od1 cy bU
        have bH:=od1 cy bH
        have m:Mem W cx w (bF::cv::cd::bT::bw::ib ad 27 [aa]::aB::H):=m.fr 3
        obtain⟨cz,cA,m,cB⟩:=Ow.stamp (RI.mono _) bH m
        have ac:=rd2 cA ac
        have cw:=od1 cA cw
        have bU:=od1 cA bU
        have m:Mem W cz w (bT::cv::cd::bw::ib ad 27 [aa]::aB::H):=m.fr 2
        obtain⟨cC,cD,m,cE⟩:=Ow.stamp (RI.mono _) bU m
        have ac:=rd2 cD ac
        have cB:=rd1 cD cB
        have cw:=od1 cD cw
        obtain⟨cF,cG,m,cH⟩:=Ow.stamp (RI.mono _) cw m
        have ac:=rd2 cG ac
        have cB:=rd1 cG cB
        have cE:=rd1 cG cE
        refine AE f Z call123 (ih m ac cB cE cH cJ) λcK cL cM w cN m cO a f=> ?_
        obtain⟨cP,cQ,rfl,rfl,cR⟩:=cO
        refine Ac f Z λa f=>Aa ?_
        have m:=m.fr 4
        have m:=m.fr 4
        have m:Mem W cL w (ib ad 27 [aa]::aB::cQ::cd::H):=m.eraseAt 4
        have m:=m.eraseAt 3
        obtain rfl:=sj aP
        exact⟨_,Z,_,cP,cQ,(gt bu (gt bh (gt bo (gt bB (gt bJ (gt bQ (gt bW (gt b3 (gt b9 (gt ch (gt cr (gt cy (gt cA (gt cD (gt cG cN))))))))))))))),f.k Z,m,cR⟩
      ·rintro a w ⟨aQ,rfl,aR,aS,aT,cS,f,m,cT⟩
       have aG:=Ow.mono (RSl.mono (RI.mono _)) cS aG
       refine An ?_
       refine Ab f Z λa f=>Ab f Z λa f=> ?_
       have⟨cU,cV,aD⟩:=bind_some aD
       refine Bj (RSl.one _) 1 m aG Z T22 Z (by decide) f Z Z Z (Ow.src (j:=2) cT m Z) cV λcW cX w a m cY f=>Ac f Z λa f=>Aa (An ?_)
       refine Ab f Z λa f=>Ah f Z Z Au λa f=>Ac f Z λa f=>Aa ?_
       have m:=m.eraseAt 2
       obtain rfl:=sj aD
       exact⟨_,Z,_,_,Z,_,cX,cW,(gt aF cS),f.k Z,m,cY⟩
     ·refine Ai f Z aH ?_
      refine Ax Z ?_
      have m:=m.fr 1
      have m:=m.eraseAt 1
      obtain rfl:=sj aD
      obtain rfl:=aE _ rfl
      exact⟨_,Z,_,aA,aB,aF,f.k Z,m,aG⟩
    ·rintro a w ⟨aq,rfl,ar,au,av,cZ,f,m,c0⟩
     refine Ad ?_
     refine Ab f Z λa f=>Ac f Z λa f=>Aa ?_
     refine Ap ?_
     obtain rfl:=sj hd
     exact⟨[au],f.g Z,f.d,_,[av],(gt ag cZ),m,_,_,Z,Z,c0⟩
theorem Wk.i {aa v1 v2 v3:Value}{ab:LL}{x1 x2 x3:LI}(m:Mem W G w (H))(ac:R2 G aa ab)(h1:R1 G v1 x1)(h2:R1 G v2 x2)(h3:R1 G v3 x3){y:(LL)}(hd:D.i ab x1 x2 x3=some y):
  Calls prog 123 #[(.agg #[aa]),v1,v2,v3] w (Res W G H (λG' Ho v=>∃r0:Value,∃i0:Itm,Ho=[i0]∧r0=v∧Ow R1 49 G' i0 r0 y)):=by
 exact Wk.O Bn m ac h1 h2 h3 hd
end Go.Proofs.YtjhajfcggfhbmaaDoor
