/- Parts. -/
import Derived.Test.YtfmaahgchbfbiaaDoorL1
import Derived.Laws.StructEq
import Derived.Laws.IdiomRangeMap
import Derived.WideKeyRuns
import Derived.Lib.TrailingZeros
import Derived.Shelf.Small.Bits
import Derived.Test.YtfmaahgchbfbiaaDoorProg
import Derived.RangeFuncBox
import Derived.RangeFuncLeaves
import Derived.Shelf.Abstract
import Derived.WalkKit
import Derived.OwnWalkIn
import Derived.TacticsInMore
import Derived.LoopNIn
import Derived.LoopIn
import Derived.Maps.AppendAt
import Derived.KernelRfl
set_option linter.unusedVariables false
set_option linter.unusedSimpArgs false
namespace Go.Sx
section
variable {P : Program} {ops : Array Oper} {rest : List Oper} {nn r : AP} {x : List (Nat × AP)} {a : Act} {w : World} {N : Nat} {L : AZ}
variable {d : Nat} {t : TypeId} {pos : String} {af : Array Edge} {W : World} {G : GH} {H : List Itm} {α : Type} {C : Rec α}
theorem OwR.cellAt {tt:TypeId}{w':World}{G':GH}{H':List Itm}{it:Itm}{v p:Value}{xs:List α}{i:Int}{y:α}{fo:Nat}(h:OwR C tt G it v xs)(m:Mem W G' w' H'){j:Nat}(hj:H'[j]? =some it)
  (ha:CO C.m v p i fo) (he:idx xs i=some y):∃b,p= .pointer (some ⟨b,i.toNat*C.m+fo,none⟩)∧∀k c,(C.enc y)[fo+k]? =some c→w'.cell? ⟨b,i.toNat*C.m+fo+k,none⟩=some c:=by
 obtain⟨b,mm,cc,e1,rfl⟩:=ha
 obtain⟨g0,g1,g2⟩:=Cg he
 rcases(h.has m hj).2 with⟨_,e2⟩|⟨g,cap,cur,e1',_,hg,h2,h3,h4,h5⟩
 ·omega
 ·rw[e1'] at e1
  cases e1
  refine⟨b,rfl,λk c hc=> ?_⟩
  have hl:fo+k<C.m:=by rw[←C.len y];exact(List.getElem?_eq_some_iff.1 hc).1
  have hin:i.toNat*C.m+C.m≤xs.length*C.m:=by
   have:(i.toNat+1)*C.m≤xs.length*C.m:=Nat.mul_le_mul_right _ (by omega)
   rw[Nat.succ_mul] at this;exact this
  have hx:(xs.flatMap C.enc)[i.toNat*C.m+(fo+k)]? =some c:=C.get xs i.toNat y (fo+k) c g2 hc
  rw[←h5,List.getElem?_take] at hx
  split at hx
  ·simp only[World.cell?,hg]
   have e:i.toNat*C.m+(fo+k)=i.toNat*C.m+fo+k:=by omega
   rw[e] at hx
   simpa using hx
  ·cases hx
theorem l_ownR_get {tt:TypeId}{it:Itm}{v p c:Value}{xs:List α}{u:TypeId}{xo:Operand}{i:Int}{y:α}{fo:Nat}(j:Nat)(m:Mem W G w H)(h:OwR C tt G it v xs)(hj:H[j]? =some it)(hp:BO P u)
  (f:Fr a N L) (hN:Nat.blt d N=true) (hx:AH L xo=some p) (ha:CO C.m v p i fo) (he:idx xs i=some y) (hc:(C.enc y)[fo]? =some c)
  (q:∀a',Fr a' N ((d,c)::L)→wpList P ops (Qk nn x r) rest a' w):
  wpList P ops (Qk nn x r) (⟨some d,.load u xo,t,pos,af,none⟩::rest) a w:=by
 obtain⟨b,rfl,hh⟩:=h.cellAt m hj ha he
 exact Bb f rfl rfl hN (Dn (f.eval hx) hp (hh 0 c hc)) q
end
section
variable {P : Program} {ops : Array Oper} {nn r : AP} {x : List (Nat × AP)} {a : Act} {W : World} {T : Act → World → Prop} {H E : List Itm} {G : GH} {N fuel : Nat} {L : AZ} {listed listed' : Array Bool}
variable {i d : Nat} {t : TypeId} {pos : String} {af : Array Edge} {gd : Option (Nat × Bool)} {α : Type} {C : Rec α}
theorem Ey {tt:TypeId}{it:Itm}{v:Value}{xs:List α}{u e bytes:Nat}{z:Value}{xo io:Operand}{k0:IntKind}{jx:Int}{y:α}{w₀:World}{G₀:GH}{H₀:List Itm}(n:Nat)(j:Nat)(m:Mem W G₀ w₀ H₀)(h:OwR C tt G it v xs)(hj:H₀[j]? =some it)
  (hu:SlT P u e C.m bytes z) (he:idx xs jx=some y)
  (hi:ops[i]? =some ⟨some d,.indexAddr u xo io,t,pos,af,gd⟩) (hck:Bw ops n fuel listed i=true) (hl:listed.setIfInBounds i true=listed') (f:Fr a N L)
  (hw:Region.wanted ⟨some d,.indexAddr u xo io,t,pos,af,gd⟩ (yielded ops a.tmps)=true) (hN:Nat.blt d N=true) (hx:AH L xo=some v) (hio:AH L io=some (.int k0 jx))
  (k:∀p a',CO C.m v p jx 0→Fr a' N ((d,p)::L)→AnyB W P ops (Qk nn x r) T H fuel G E listed' a'):AnyB W P ops (Qk nn x r) T H (fuel+1) G E listed a:=by
 obtain⟨g0,g1,_⟩:=Cg he
 rcases(h.has m hj).2 with⟨_,e2⟩|⟨g,cap,cur,e1,_⟩
 ·omega
 ·subst e1
  refine CW n hi hck hl f hw rfl hN (λ_ _ _ _ _=>Cy (f.eval hx) (f.eval hio) hu g0 g1) λa' f'=> ?_
  exact k _ a' ⟨g,_,cap,rfl,by rw[BA,Nat.zero_add];rfl⟩ f'
theorem q_ownR_get {tt:TypeId}{it:Itm}{v p c:Value}{xs:List α}{u:TypeId}{xo:Operand}{jx:Int}{y:α}{fo:Nat}(n:Nat)(j:Nat)(h:OwR C tt G it v xs)(hj:H[j]? =some it)
  (hp:BO P u) (ha:CO C.m v p jx fo) (he:idx xs jx=some y) (hc:(C.enc y)[fo]? =some c)
  (hi:ops[i]? =some ⟨some d,.load u xo,t,pos,af,gd⟩) (hck:Bw ops n fuel listed i=true) (hl:listed.setIfInBounds i true=listed') (f:Fr a N L)
  (hw:Region.wanted ⟨some d,.load u xo,t,pos,af,gd⟩ (yielded ops a.tmps)=true) (hN:Nat.blt d N=true) (hx:AH L xo=some p)
  (k:∀a',Fr a' N ((d,c)::L)→AnyB W P ops (Qk nn x r) T H fuel G E listed' a'):AnyB W P ops (Qk nn x r) T H (fuel+1) G E listed a:=by
 refine CW n hi hck hl f hw rfl hN (λ_ Ho _ _ m=> ?_) k
 obtain⟨b,rfl,hh⟩:=h.cellAt m.drop hj ha he
 exact Dn (f.eval hx) hp (hh 0 c hc)
end
end Go.Sx

namespace Go.Sx
section
variable {P : Program} {ρ : Operand → Value} {w : World} {d : Option Tmp} {t : TypeId} {pos : String} {af : Array Edge} {gd : Option (Nat × Bool)}
end
section
variable {P : Program} {ops : Array Oper} {rest : List Oper} {n r : AP} {x : List (Nat × AP)} {a : Act} {w : World} {N : Nat} {L : AZ}
variable {W : World} {G : GH} {H : List Itm}
variable {d : Nat} {t : TypeId} {pos : String} {af : Array Edge}
end
end Go.Sx

namespace Go.Sx
structure PrK (P:Program)(kt ft:TypeId)(f0 f1:Field):Prop where
 u:P.underlying kt=some (.struct #[f0,f1])
 t0:f0.type=ft
 t1:f1.type=ft
 o0:f0.offset=0
 o1:f1.offset=1
 n0:f0.name≠ "_"
 n1:f1.name≠ "_"
 i:P.underlying ft=some (.int .i64)
 a:∀w,(isAgg ft).run P w= .ok false w
 st:P.stoodInHeld kt=false
section
variable {P : Program} {kt ft : TypeId} {f0 f1 : Field}
end
section
variable {P : Program} {ops : Array Oper} {rest : List Oper} {n r : AP} {x : List (Nat × AP)} {a : Act} {w : World} {N : Nat} {L : AZ}
variable {W : World} {G : GH} {H : List Itm} {d : Nat} {t : TypeId} {pos : String} {af : Array Edge} {kt ft : TypeId} {f0 f1 : Field}
end
section
variable {P : Program} {ops : Array Oper} {rest : List Oper} {n r : AP} {x : List (Nat × AP)} {a : Act} {w : World} {N : Nat} {L : AZ}
variable {W : World} {G : GH} {H : List Itm} {d : Nat} {t : TypeId} {pos : String} {af : Array Edge}
end
section
variable {P : Program} {ops : Array Oper} {nn r : AP} {x : List (Nat × AP)} {a : Act} {W : World} {T : Act → World → Prop} {H E : List Itm} {G : GH} {N fuel : Nat} {L : AZ} {listed listed' : Array Bool}
variable {i d : Nat} {t : TypeId} {pos : String} {af : Array Edge} {gd : Option (Nat × Bool)} {kt ft : TypeId} {f0 f1 : Field}
end
end Go.Sx

namespace Go.Sx
theorem w64 {x:Int}(h1: -9223372036854775808≤x)(h2:x<9223372036854775808):IntKind.i64.wrap x=x:=by
 simp only[IntKind.wrap,IntKind.bits,IntKind.signed]
 have e:(2:Int)^64=18446744073709551616:=by decide
 have e':(2:Int)^(64-1)=9223372036854775808:=by decide
 simp
 omega
theorem dlt {i n:Nat}(h:i<n):decide ((i:Int)<(n:Int))=true:=by simp;omega
theorem Bm {n:Nat}:decide ((n:Int)<(n:Int))=false:=by simp
theorem Az {α:Type}{xs:List α}{i:Nat}(h:i<xs.length):idx xs (i:Int)=some xs[i]:=by
 unfold idx;rw[if_pos (by omega)];simp[h]
theorem idx_int {α:Type}{xs:List α}{i:Int}(h0:0≤i)(h:i<xs.length):idx xs i=some (xs[i.toNat]'(by omega)):=by
 unfold idx;rw[if_pos h0];simp
theorem wi {i:Nat}(h:i<4611686018427387904):IntKind.i64.wrap ((i:Int)+1)=((i+1:Nat):Int):=by
 rw[w64 (by omega) (by omega)];rfl
theorem wi' {i n:Nat}(h:i<n)(hn:n≤4611686018427387904):IntKind.i64.wrap ((i:Int)+1)=((i+1:Nat):Int):=wi (by omega)
theorem AA {α:Type}{xs:List α}{i:Nat}(h:i<xs.length)(d:α):xs.getD i d=xs[i]:=by simp[h]
theorem Bk {α:Type}{xs ys:List α}(h:xs.length+ys.length≤4294967296):AT xs ys=some (xs++ys):=by
 unfold AT;rw[if_pos h]
theorem Dt {α:Type}{xs:List α}{i:Nat}(h:i≤xs.length):BR xs 0 (i:Int)=some (xs.take i):=by
 unfold BR;rw[if_pos ⟨by omega,by omega,by omega⟩];simp
theorem EX {α:Type}{xs:List α}{i:Nat}(h:i≤xs.length):BR xs (i:Int) (xs.length:Int)=some (xs.drop i):=by
 unfold BR;rw[if_pos ⟨by omega,by omega,by omega⟩];simp
theorem Ej {α:Type}{z:α}{n:Nat}{c:Int}(h:(n:Int)≤c)(h2:c≤4294967296):Cv z (n:Int) c=some (List.replicate n z):=by
 unfold Cv;rw[if_pos ⟨by omega,h,h2⟩];simp
theorem makeD_zero {α:Type}{z:α}{c:Int}(h:0≤c)(h2:c≤4294967296):Cv z 0 c=some []:=by
 unfold Cv;rw[if_pos ⟨by omega,h,h2⟩];simp
def Stp {σ ρ:Type}(I:σ→Prop)(μ:σ→Nat)(Post:ρ→Prop)(s:σ):σ ⊕ ρ→Prop
 | .inl s'=>I s'∧μ s'<μ s
 | .inr r=>Post r
theorem AS {σ ρ β:Type}{step:σ→Option (σ ⊕ ρ)}{s:σ}{k:ρ→Option β}{Q:β→Prop}(I:σ→Prop)(μ:σ→Nat)(Post:ρ→Prop)
  (hstep:∀s,I s→∃y,step s=some y∧Stp I μ Post s y) (h0:I s) (hk:∀r,Post r→∃y,k r=some y∧Q y):∃y,(Ar step s).bind k=some y∧Q y:=by
 obtain⟨r,hr,hp⟩:=Do (step:=step) I μ Post (λs hs=>by
  obtain⟨y,hy,hq⟩:=hstep s hs
  cases y with
  |inl s'=>exact .inl ⟨s',hy,hq.1,hq.2⟩
  |inr r=>exact .inr ⟨r,hy,hq⟩) s h0
 rw[hr]
 exact hk r hp
theorem CE {α β:Type}{e:Option α}{k:α→Option β}{Q:β→Prop}(R:α→Prop)(h:∃x,e=some x∧R x)(hk:∀x,R x→∃y,k x=some y∧Q y):∃y,e.bind k=some y∧Q y:=by
 obtain⟨x,rfl,hx⟩:=h
 exact hk x hx
theorem bind_eq {α β:Type}{e:Option α}{k:α→Option β}{Q:β→Prop}{x:α}(h:e=some x)(hk:∃y,k x=some y∧Q y):∃y,e.bind k=some y∧Q y:=by
 subst h;exact hk
theorem loop_steps {S ρ:Type}{step:S→Option (S ⊕ ρ)}(st:Nat→S)(n:Nat)(h:∀i,i<n→step (st i)=some (.inl (st (i+1)))):Ar step (st 0)=Ar step (st n):=by
 have key:∀k,k≤n→Ar step (st 0)=Ar step (st k):=by
  intro k
  induction k with
  |zero=>intro _;rfl
  |succ k ih=>intro hk;rw[ih (by omega),B4 (h k (by omega))]
 exact key n (Nat.le_refl n)
theorem Co {S ρ β:Type}{step:S→Option (S ⊕ ρ)}{k:ρ→Option β}{s0:S}(st:Nat→S)(n:Nat)(r:ρ)(h0:st 0=s0)(h:∀i,i<n→step (st i)=some (.inl (st (i+1))))(he:step (st n)=some (.inr r)):
  (Ar step s0).bind k=k r:=by
 rw[←h0,loop_steps st n h,Bt he];rfl
theorem loop_list {α σ S ρ:Type}{step:S→Option (S ⊕ ρ)}(xs:List α)(enc:σ→Int→S)(f:σ→α→σ)(fin:σ→ρ)(I:σ→Prop)(s0:σ)
  (h0:I s0) (hstep:∀s (i:Nat) (h:i<xs.length),I s→step (enc s i)=some (.inl (enc (f s xs[i]) ((i+1:Nat):Int)))∧I (f s xs[i]))
  (hend:∀s,I s→step (enc s xs.length)=some (.inr (fin s))):Ar step (enc s0 0)=some (fin (xs.foldl f s0))∧I (xs.foldl f s0):=by
 have key:∀(k i:Nat) (s:σ),i+k=xs.length→I s→Ar step (enc s i)=some (fin ((xs.drop i).foldl f s))∧I ((xs.drop i).foldl f s):=by
  intro k
  induction k with
  |zero=>
   intro i s hk hs
   obtain rfl:i=xs.length:=by omega
   simp only[List.drop_length,List.foldl_nil]
   exact⟨Bt (hend s hs),hs⟩
  |succ k ih=>
   intro i s hk hs
   have hi:i<xs.length:=by omega
   obtain⟨h1,h2⟩:=hstep s i hi hs
   rw[B4 h1,List.drop_eq_getElem_cons hi,List.foldl_cons]
   exact ih (i+1) _ (by omega) h2
 have:=key xs.length 0 s0 (by omega) h0
 simpa using this
theorem loop_listb {α σ S ρ β:Type}{step:S→Option (S ⊕ ρ)}{k:ρ→Option β}(xs:List α)(enc:σ→Int→S)(f:σ→α→σ)(fin:σ→ρ)(I:σ→Prop)(s0:σ)
  (h0:I s0) (hstep:∀s (i:Nat) (h:i<xs.length),I s→step (enc s i)=some (.inl (enc (f s xs[i]) ((i+1:Nat):Int)))∧I (f s xs[i]))
  (hend:∀s,I s→step (enc s xs.length)=some (.inr (fin s))):(Ar step (enc s0 0)).bind k=k (fin (xs.foldl f s0)):=by
 rw[(loop_list xs enc f fin I s0 h0 hstep hend).1];rfl
theorem Em {α β γ S:Type}{step:S→Option (S ⊕ List β)}{k:List β→Option γ}(xs:List α)(enc:List β→Int→S)(f:α→β)(hx:xs.length≤4294967296)
  (hstep:∀s (i:Nat) (h:i<xs.length),s.length=i→step (enc s i)=(AT s [f xs[i]]).bind λl=>some (.inl (enc l ((i+1:Nat):Int))))
  (hend:∀s,step (enc s xs.length)=some (.inr s)):(Ar step (enc [] 0)).bind k=k (xs.map f):=by
 have key:∀i,i≤xs.length→Ar step (enc [] 0)=Ar step (enc ((xs.take i).map f) i):=by
  intro i
  induction i with
  |zero=>intro _;simp
  |succ i ih=>
   intro hi
   rw[ih (by omega)]
   have h1:=hstep ((xs.take i).map f) i (by omega) (by simp;omega)
   have h2:AT ((xs.take i).map f) [f xs[i]]=some ((xs.take (i+1)).map f):=by
    unfold AT
    rw[if_pos (by simp;omega)]
    rw[List.take_succ_eq_append_getElem (show i<xs.length by omega),List.map_append];rfl
   rw[h2] at h1
   rw[B4 h1]
 rw[key xs.length (Nat.le_refl _),List.take_length,Bt (hend _)];rfl
theorem loop_nat {σ S ρ:Type}{step:S→Option (S ⊕ ρ)}(n:Nat)(enc:σ→Int→S)(f:σ→Nat→σ)(fin:σ→ρ)(I:Nat→σ→Prop)(s0:σ)
  (h0:I 0 s0) (hstep:∀s (i:Nat),i<n→I i s→step (enc s i)=some (.inl (enc (f s i) ((i+1:Nat):Int)))∧I (i+1) (f s i))
  (hend:∀s,I n s→step (enc s n)=some (.inr (fin s))):Ar step (enc s0 0)=some (fin ((List.range n).foldl f s0))∧I n ((List.range n).foldl f s0):=by
 have key:∀k,k≤n→Ar step (enc s0 0)=Ar step (enc ((List.range k).foldl f s0) k)∧I k ((List.range k).foldl f s0):=by
  intro k
  induction k with
  |zero=>intro _;exact⟨rfl,h0⟩
  |succ k ih=>
   intro hk
   obtain⟨h1,h2⟩:=ih (by omega)
   obtain⟨h3,h4⟩:=hstep _ k (by omega) h2
   rw[List.range_succ,List.foldl_append,List.foldl_cons,List.foldl_nil]
   exact⟨by rw[h1,B4 h3],h4⟩
 obtain⟨h1,h2⟩:=key n (Nat.le_refl n)
 exact⟨by rw[h1,Bt (hend _ h2)],h2⟩
theorem DP {ρ : Type} {step : Int → Option (Int ⊕ ρ)} (n : Nat) (c : Nat → Option ρ) (fin : ρ)
    (hstep : ∀ i, i < n → step (i : Int) = match c i with | some r => some (.inr r) | none => some (.inl ((i + 1 : Nat) : Int)))
    (hend : step (n : Int) = some (.inr fin)) : Ar step 0 = some (((List.range n).findSome? c).getD fin) := by
  have key : ∀ (k i : Nat), i + k = n → Ar step (i : Int) = some (((List.range' i k).findSome? c).getD fin) := by
    intro k
    induction k with
    | zero => intro i h; obtain rfl : i = n := by omega
              simpa using Bt hend
    | succ k ih =>
      intro i h
      have h1 := hstep i (by omega)
      rw [List.range'_succ, List.findSome?_cons]
      cases hc : c i with
      | some r => rw [hc] at h1; simpa using Bt h1
      | none => rw [hc] at h1; rw [B4 h1]; exact ih (i + 1) (by omega)
  have := key n 0 (by omega)
  simpa [List.range_eq_range'] using this
theorem C3 {β:Type}{step:Int→Option (Int ⊕ (Unit ⊕ β))}{k:Unit ⊕ β→Option Bool}(n:Nat)(c:Nat→Bool)(bad:β)
  (hstep:∀i,i<n→step (i:Int)=if c i then some (.inl ((i+1:Nat):Int)) else some (.inr (.inr bad)))
  (hend:step (n:Int)=some (.inr (.inl ()))) (hk1:k (.inl ())=some true) (hk2:k (.inr bad)=some false):
  (Ar step 0).bind k=some ((List.range n).all c):=by
 rw[DP n (λi=>if c i then none else some (.inr bad)) (.inl ()) (λi hi=>by rw[hstep i hi];cases c i<;>rfl) hend]
 simp only[bs]
 cases h:(List.range n).all c with
 |true=>
  rw[List.findSome?_eq_none_iff.2 (λx hx=>by rw[if_pos (List.all_eq_true.1 h x hx)])]
  exact hk1
 |false=>
  cases h2:(List.range n).findSome? (λi=>if c i then none else some (Sum.inr bad)) with
  |none=>
   rw[List.findSome?_eq_none_iff] at h2
   have:(List.range n).all c=true:=List.all_eq_true.2 λx hx=>by
    have:=h2 x hx
    cases hc:c x
    ·rw[hc] at this;cases this
    ·rfl
   rw[this] at h;cases h
  |some r=>
   obtain⟨x,_,hx⟩:=List.exists_of_findSome?_eq_some h2
   cases hc:c x
   ·rw[hc] at hx;simp at hx;subst hx;exact hk2
   ·rw[hc] at hx;simp at hx
theorem EM {ρ β:Type}{step:Int→Option (Int ⊕ ρ)}{k:ρ→Option β}(n:Nat)(c:Nat→Bool)(fine bad:ρ)
  (hstep:∀i,i<n→step (i:Int)=if c i then some (.inl ((i+1:Nat):Int)) else some (.inr bad))
  (hend:step (n:Int)=some (.inr fine)):(Ar step 0).bind k=cond ((List.range n).all c) (k fine) (k bad):=by
 rw[DP n (λi=>if c i then none else some bad) fine (λi hi=>by rw[hstep i hi];cases c i<;>rfl) hend]
 simp only[bs]
 cases h:(List.range n).all c with
 |true=>
  rw[List.findSome?_eq_none_iff.2 (λx hx=>by rw[if_pos (List.all_eq_true.1 h x hx)])]
  rfl
 |false=>
  cases h2:(List.range n).findSome? (λi=>if c i then none else some bad) with
  |none=>
   rw[List.findSome?_eq_none_iff] at h2
   have:(List.range n).all c=true:=List.all_eq_true.2 λx hx=>by
    have:=h2 x hx
    cases hc:c x
    ·rw[hc] at this;cases this
    ·rfl
   rw[this] at h;cases h
  |some r=>
   obtain⟨x,_,hx⟩:=List.exists_of_findSome?_eq_some h2
   cases hc:c x
   ·rw[hc] at hx;simp at hx;subst hx;rfl
   ·rw[hc] at hx;simp at hx
theorem loop_anyb {β:Type}{step:Int→Option (Int ⊕ (Unit ⊕ β))}{k:Unit ⊕ β→Option Bool}(n:Nat)(c:Nat→Bool)(good:β)
  (hstep:∀i,i<n→step (i:Int)=if c i then some (.inr (.inr good)) else some (.inl ((i+1:Nat):Int)))
  (hend:step (n:Int)=some (.inr (.inl ()))) (hk1:k (.inl ())=some false) (hk2:k (.inr good)=some true):
  (Ar step 0).bind k=some ((List.range n).any c):=by
 rw[DP n (λi=>if c i then some (.inr good) else none) (.inl ()) (λi hi=>by rw[hstep i hi];cases c i<;>rfl) hend]
 simp only[bs]
 cases h:(List.range n).any c with
 |false=>
  rw[List.findSome?_eq_none_iff.2 (λx hx=>by
   have:c x=false:=by
    cases hc:c x
    ·rfl
    ·rw[List.any_eq_true.2 ⟨x,hx,hc⟩] at h;cases h
   rw[this];rfl)]
  exact hk1
 |true=>
  obtain⟨x,hx,hc⟩:=List.any_eq_true.1 h
  cases h2:(List.range n).findSome? (λi=>if c i then some (Sum.inr good) else none) with
  |none=>
   rw[List.findSome?_eq_none_iff] at h2
   have:=h2 x hx
   rw[hc] at this;cases this
  |some r=>
   obtain⟨y,_,hy⟩:=List.exists_of_findSome?_eq_some h2
   cases hc:c y
   ·rw[hc] at hy;simp at hy
   ·rw[hc] at hy;simp at hy;subst hy;exact hk2
theorem D7 {α:Type}(xs:List α)(p:α→Bool)(c:Nat→Bool)(h:∀i (hi:i<xs.length),c i=p xs[i]):(List.range xs.length).all c=xs.all p:=by
 rw[Bool.eq_iff_iff,List.all_eq_true,List.all_eq_true]
 constructor
 ·intro hh x hx
  obtain⟨i,hi,rfl⟩:=List.getElem_of_mem hx
  rw[←h i hi];exact hh i (List.mem_range.2 hi)
 ·intro hh i hi
  have hi':=List.mem_range.1 hi
  rw[h i hi'];exact hh _ (List.getElem_mem _)
theorem D8 {α:Type}(xs:List α)(p:α→Bool)(c:Nat→Bool)(h:∀i (hi:i<xs.length),c i=p xs[i]):(List.range xs.length).any c=xs.any p:=by
 rw[Bool.eq_iff_iff,List.any_eq_true,List.any_eq_true]
 constructor
 ·rintro⟨i,hi,hc⟩
  have hi':=List.mem_range.1 hi
  exact⟨_,List.getElem_mem hi',by rw[←h i hi'];exact hc⟩
 ·rintro⟨x,hx,hc⟩
  obtain⟨i,hi,rfl⟩:=List.getElem_of_mem hx
  exact⟨i,List.mem_range.2 hi,by rw[h i hi];exact hc⟩
theorem C7 (n:Nat)(c:Nat→Bool):(List.range n).all c=true↔∀i,i<n→c i=true:=by
 rw[List.all_eq_true]
 exact⟨λh i hi=>h i (List.mem_range.2 hi),λh i hi=>h i (List.mem_range.1 hi)⟩
theorem Da (n:Int):IntKind.u32.wrap n=n%4294967296:=by simp[IntKind.wrap,IntKind.signed,IntKind.bits]
def VS (s:Int):Prop:=0≤s∧s<4294967296
def has (s:Int)(v:Nat):Bool:=s.toNat.testBit v
theorem VS.nat {s:Int}(h:VS s):∃n:Nat,s=n∧n<4294967296:=⟨s.toNat,by have:=h.1;omega,by have:=h.1;have:=h.2;omega⟩
theorem VS.zero :VS 0:=⟨by omega,by omega⟩
theorem VS.wrap (n:Int):VS (IntKind.u32.wrap n):=by rw[Da];exact⟨by omega,by omega⟩
theorem VS.ofNat {n:Nat}(h:n<4294967296):VS (n:Int):=⟨by omega,by omega⟩
theorem Bc (n v:Nat):has (n:Int) v=n.testBit v:=by simp[has]
theorem BE (v:Nat):has 0 v=false:=by simp[has]
theorem C2 (n:Nat)(h:n<4294967296):(BitVec.ofInt 32 (n:Int)).toNat=n:=by
 rw[BitVec.toNat_ofInt]
 omega
theorem ior_nat {a b:Nat}(ha:a<4294967296)(hb:b<4294967296):ior .u32 (a:Int) (b:Int)=((a|||b:Nat):Int):=by
 have hw:a|||b<4294967296:=Nat.or_lt_two_pow (n:=32) ha hb
 show IntKind.u32.wrap (((BitVec.ofInt 32 (a:Int)|||BitVec.ofInt 32 (b:Int)).toNat:Nat):Int)=_
 rw[BitVec.toNat_or,C2 a ha,C2 b hb,Da];omega
theorem CX {a b:Nat}(ha:a<4294967296)(hb:b<4294967296):iand .u32 (a:Int) (b:Int)=((a&&&b:Nat):Int):=by
 have hw:a&&&b<4294967296:=Nat.and_lt_two_pow (n:=32) _ hb
 show IntKind.u32.wrap (((BitVec.ofInt 32 (a:Int)&&&BitVec.ofInt 32 (b:Int)).toNat:Nat):Int)=_
 rw[BitVec.toNat_and,C2 a ha,C2 b hb,Da];omega
theorem VS.ior (a b:Int):VS (ior .u32 a b):=VS.wrap _
theorem VS.iand (a b:Int):VS (iand .u32 a b):=VS.wrap _
theorem VS.iandNot (a b:Int):VS (iandNot .u32 a b):=VS.wrap _
theorem VS.ishl (a b:Int):VS (ishl .u32 a b):=VS.wrap _
theorem B9 {a b:Int}(ha:VS a)(hb:VS b)(v:Nat):has (ior .u32 a b) v=(has a v||has b v):=by
 obtain⟨m,rfl,hm⟩:=ha.nat;obtain⟨n,rfl,hn⟩:=hb.nat
 rw[ior_nat hm hn];simp only[Bc,Nat.testBit_or]
theorem has_iand {a b:Int}(ha:VS a)(hb:VS b)(v:Nat):has (iand .u32 a b) v=(has a v&&has b v):=by
 obtain⟨m,rfl,hm⟩:=ha.nat;obtain⟨n,rfl,hn⟩:=hb.nat
 rw[CX hm hn];simp only[Bc,Nat.testBit_and]
theorem BJ {a b:Int}(ha:VS a)(hb:VS b)(v:Nat):has (iandNot .u32 a b) v=(has a v&& !has b v):=by
 obtain⟨m,rfl,hm⟩:=ha.nat;obtain⟨n,rfl,hn⟩:=hb.nat
 have e:iandNot .u32 (m:Int) (n:Int)=(((BitVec.ofInt 32 (m:Int)&&& ~~~(BitVec.ofInt 32 (n:Int))).toNat:Nat):Int):=by
  have hw:=(BitVec.ofInt 32 (m:Int)&&& ~~~(BitVec.ofInt 32 (n:Int))).isLt
  show IntKind.u32.wrap (((BitVec.ofInt 32 (m:Int)&&& ~~~(BitVec.ofInt 32 (n:Int))).toNat:Nat):Int)=_
  rw[Da];omega
 rw[e,Bc,Bc,Bc]
 have h1:∀i,(BitVec.ofInt 32 (m:Int)).getLsbD i=m.testBit i:=λi=>by rw[BitVec.getLsbD,C2 m hm]
 have h2:∀i,(BitVec.ofInt 32 (n:Int)).getLsbD i=n.testBit i:=λi=>by rw[BitVec.getLsbD,C2 n hn]
 rw[←BitVec.getLsbD,BitVec.getLsbD_and,BitVec.getLsbD_not,h1,h2]
 by_cases hv:v<32
 ·simp[hv]
 ·have:m.testBit v=false:=Nat.testBit_lt_two_pow (Nat.lt_of_lt_of_le hm (Nat.pow_le_pow_right (n:=2) (by omega) (show 32≤v by omega)))
  simp[this]
theorem EN {a:Int}(ha:VS a){v:Nat}(hv:32≤v):has a v=false:=by
 obtain⟨m,rfl,hm⟩:=ha.nat
 rw[Bc]
 exact Nat.testBit_lt_two_pow (Nat.lt_of_lt_of_le hm (Nat.pow_le_pow_right (n:=2) (by omega) hv))
theorem VS.ext {a b:Int}(ha:VS a)(hb:VS b)(h:∀v,v<32→has a v=has b v):a=b:=by
 have:∀v,has a v=has b v:=λv=>by
  by_cases hv:v<32
  ·exact h v hv
  ·rw[EN ha (by omega),EN hb (by omega)]
 obtain⟨m,rfl,hm⟩:=ha.nat;obtain⟨n,rfl,hn⟩:=hb.nat
 congr 1
 apply Nat.eq_of_testBit_eq
 intro v
 have:=this v
 rwa [Bc,Bc] at this
theorem VS.eq_zero {a:Int}(ha:VS a):a=0↔∀v,v<32→has a v=false:=
 ⟨λh v _=>by rw[h,BE],λh=>ha.ext VS.zero (λv hv=>by rw[h v hv,BE])⟩
theorem one_eq {v:Nat}(hv:v<32):ishl .u32 1 (v:Int)=((2^v:Nat):Int):=by
 have h:(2:Nat)^v<2^32:=Nat.pow_lt_pow_right (by omega) hv
 have h':(2:Nat)^32=4294967296:=by decide
 rw[h'] at h
 show IntKind.u32.wrap (1*2^(min ((v:Int)).toNat 32))=_
 rw[Da,show min ((v:Int)).toNat 32=v by simp;omega,Int.one_mul]
 have e:((2^v:Nat):Int)=(2:Int)^v:=by simp
 rw[←e]
 generalize 2^v=p at h ⊢
 omega
theorem Bx {v:Nat}(hv:v<32)(u:Nat):has (ishl .u32 1 (v:Int)) u=decide (u=v):=by
 rw[one_eq hv,Bc,Nat.testBit_two_pow]
 simp[eq_comm]
theorem shr_eq (s:Int)(v:Nat)(h:VS s)(hv:v<32):Bp .u32 s (v:Int)=((s.toNat>>>v:Nat):Int):=by
 obtain⟨m,rfl,hm⟩:=h.nat
 show Int.fdiv (m:Int) (2^(min ((v:Int)).toNat 32))=_
 rw[show min ((v:Int)).toNat 32=v by simp;omega]
 have e:((2^v:Nat):Int)=(2:Int)^v:=by simp
 rw[←e,Int.fdiv_eq_ediv_of_nonneg _ (Int.natCast_nonneg _),Nat.shiftRight_eq_div_pow]
 simp
theorem bitAt_eq {s:Int}{v:Nat}(h:VS s)(hv:v<32):(iand .u32 (Bp .u32 s (v:Int)) 1==1)=has s v:=by
 rw[shr_eq s v h hv]
 have hs:s.toNat>>>v<4294967296:=by
  obtain⟨m,rfl,hm⟩:=h.nat
  rw[Nat.shiftRight_eq_div_pow]
  exact Nat.lt_of_le_of_lt (Nat.div_le_self _ _) hm
 have:=CX hs (show (1:Nat)<4294967296 by omega)
 rw[show (1:Int)=((1:Nat):Int) from rfl,this,has,Nat.testBit]
 rw[Nat.and_comm]
 have h1:1&&&(s.toNat>>>v)=0∨1&&&(s.toNat>>>v)=1:=by
  rw[Nat.and_comm,Nat.and_one_is_mod];omega
 rcases h1 with e|e<;>rw[e]<;>rfl
def Aq (s:Int):LI:=((List.range 32).filter (has s)).map Int.ofNat
theorem mem_elems {s:Int}{x:Int}:x∈Aq s↔∃v:Nat,v<32∧has s v=true∧x=v:=by
 unfold Aq
 rw[List.mem_map]
 constructor
 ·rintro⟨v,hv,rfl⟩
  rw[List.mem_filter,List.mem_range] at hv
  exact⟨v,hv.1,hv.2,rfl⟩
 ·rintro⟨v,h1,h2,rfl⟩
  exact⟨v,List.mem_filter.2 ⟨List.mem_range.2 h1,h2⟩,rfl⟩
theorem AM {s:Int}(h:VS s){v:Nat}:(v:Int)∈Aq s↔has s v=true:=by
 rw[mem_elems]
 constructor
 ·rintro⟨u,_,h2,h3⟩;obtain rfl:v=u:=by omega
  exact h2
 ·intro h2
  refine⟨v,?_,h2,rfl⟩
  by_cases hv:v<32
  ·exact hv
  ·rw[EN h (by omega)] at h2;cases h2
theorem Cd (s:Int):(Aq s).length≤32:=by
 unfold Aq
 rw[List.length_map]
 exact Nat.le_trans (List.length_filter_le _ _) (by simp)
def Inc (l:LI):Prop:=l.Pairwise (·<·)
theorem BD (s:Int):Inc (Aq s):=by
 unfold Aq Inc
 rw[List.pairwise_map]
 refine List.Pairwise.filter _ ?_
 refine List.Pairwise.imp ?_ (List.pairwise_lt_range (n:=32))
 intro a b h
 show (a:Int)<(b:Int)
 omega
theorem Inc.ext :∀{l l':LI},Inc l→Inc l'→(∀x,x∈l↔x∈l')→l=l'
 |[],[],_,_,_=>rfl
 |[],y::l',_,_,h=>by have:=(h y).2 (by simp);simp at this
 |x::l,[],_,_,h=>by have:=(h x).1 (by simp);simp at this
 |x::l,y::l',h1,h2,h=>by
  have h1':=List.pairwise_cons.1 h1;have h2':=List.pairwise_cons.1 h2
  have e:x=y:=by
   rcases List.mem_cons.1 ((h x).1 (by simp)) with e|e
   ·exact e
   ·rcases List.mem_cons.1 ((h y).2 (by simp)) with e'|e'
    ·exact e'.symm
    ·have:=h2'.1 x e;have:=h1'.1 y e';omega
  subst e
  have:l=l':=by
   refine Inc.ext h1'.2 h2'.2 (λz=> ?_)
   constructor
   ·intro hz
    rcases List.mem_cons.1 ((h z).1 (List.mem_cons_of_mem _ hz)) with e|e
    ·have:=h1'.1 z hz;omega
    ·exact e
   ·intro hz
    rcases List.mem_cons.1 ((h z).2 (List.mem_cons_of_mem _ hz)) with e|e
    ·have:=h2'.1 z hz;omega
    ·exact e
  rw[this]
theorem least_spec {s:Int}(h:VS s)(h0:s≠0):∃k:Nat,k<32∧has s k=true∧(∀v,v<k→has s v=false)∧
  iand .u32 s (IntKind.u32.wrap (0-s))=((2^k:Nat):Int)∧(∀v,has (iand .u32 s (IntKind.u32.wrap (s-1))) v=(has s v&& !decide (v=k))):=by
 obtain⟨m,rfl,hm⟩:=h.nat
 have hm0:m≠0:=by omega
 obtain⟨q,hq,hk⟩:=Lib.ctzFrom_spec 32 m (by omega) hm
 have hc:Lib.ctz 32 m=Lib.ctzFrom 32 m:=by unfold Lib.ctz;rw[if_neg hm0]
 obtain⟨hl,_⟩:=Lib.lowest_bit 32 m hm0 hm
 rw[hc] at hl
 generalize Lib.ctzFrom 32 m=k at*
 have hpos:0<2^k:=Nat.pow_pos (by omega)
 have hb:∀v,m.testBit v=(decide (v≥k)&&(2*q+1).testBit (v-k)):=λv=>by rw[hq,Nat.mul_comm,Nat.testBit_mul_two_pow,Bool.and_comm]
 refine⟨k,hk,?_,λv hv=> ?_,?_,λv=> ?_⟩
 ·rw[Bc,hb];simp
 ·rw[Bc,hb];simp;intro hc;omega
 ·have e:IntKind.u32.wrap (0-(m:Int))=((4294967296-m:Nat):Int):=by rw[Da];omega
  rw[e,CX hm (by omega)]
  rw[←hl]
 ·have e:IntKind.u32.wrap ((m:Int)-1)=((m-1:Nat):Int):=by rw[Da];omega
  rw[e,CX hm (by omega),Bc,Bc,Nat.testBit_and]
  have hm1:m-1=2^k*(2*q)+(2^k-1):=by rw[hq,Nat.mul_add];omega
  have hb1:(m-1).testBit v=if v<k then true else(2*q).testBit (v-k):=by
   rw[hm1,Nat.testBit_two_pow_mul_add _ (by omega)]
   split
   ·rename_i hv;rw[Nat.testBit_two_pow_sub_one];simp[hv]
   ·rfl
  rw[hb1,hb]
  by_cases hv:v<k
  ·simp[hv];intro hc;omega
  ·rw[if_neg hv]
   by_cases hvk:v=k
   ·subst hvk;simp
   ·obtain⟨t,ht⟩:∃t,v-k=t+1:=⟨v-k-1,by omega⟩
    rw[ht,Nat.testBit_succ,Nat.testBit_succ]
    have e1:(2*q+1)/2=q:=by omega
    have e2:2*q/2=q:=by omega
    rw[e1,e2]
    simp[hvk]
theorem ET {s t:Int}{k:Nat}(hk:k<32)(h1:has s k=true)(h2:∀v,v<k→has s v=false)(h3:∀v,has t v=(has s v&& !decide (v=k))):
  Aq s=(k:Int)::Aq t:=by
 refine Inc.ext (BD s) ?_ (λx=> ?_)
 ·refine List.pairwise_cons.2 ⟨λx hx=> ?_,BD t⟩
  obtain⟨v,hv,h4,rfl⟩:=mem_elems.1 hx
  rw[h3] at h4
  simp at h4
  by_cases hc:v<k
  ·rw[h2 v hc] at h4;simp at h4
  ·omega
 ·rw[List.mem_cons,mem_elems,mem_elems]
  constructor
  ·rintro⟨v,hv,h4,rfl⟩
   by_cases e:v=k
   ·left;omega
   ·right;exact⟨v,hv,by rw[h3,h4];simp[e],rfl⟩
  ·rintro(rfl|⟨v,hv,h4,rfl⟩)
   ·exact⟨k,hk,h1,rfl⟩
   ·rw[h3] at h4;simp at h4
    exact⟨v,hv,h4.1,rfl⟩
theorem elems_zero :Aq 0=[]:=by
 unfold Aq
 rw[List.filter_eq_nil_iff.2 (λv _=>by simp[BE])];rfl
theorem tz_table :∀k:Nat,k<32→idx tab32 (Bp .u32 (IntKind.u32.wrap (((2^k:Nat):Int)*125613361)) 27)=some (k:Int):=by decide+kernel
abbrev ArM :=List ((Int×Int)×Int)
abbrev ArL :=List (Int×Int)
theorem EJ {n:Nat}(h:n<4294967296):IntKind.u32.wrap (n:Int)=(n:Int):=by
 rw[Da];omega
end Go.Sx

namespace Go.Sx
end Go.Sx

namespace Go.Sx
open Go
section
variable {P : Program} {ρ : Operand → Value} {w : World} {d : Option Tmp} {t : TypeId} {pos : String} {af : Array Edge} {gd : Option (Nat × Bool)}
end
end Go.Sx

namespace Go.Sx
end Go.Sx

namespace Go.Sx
end Go.Sx

namespace Go.Sx
open Go
def A16 :Rec (Nat→Int):=⟨16,λx=>(List.range 16).map (λi=> .int .i64 (x i)),λ_=>by simp,by decide,λx c h=>by
 obtain⟨i,_,rfl⟩:=List.mem_map.1 h;rfl⟩
theorem A16.get (x:Nat→Int){j:Nat}(h:j<16):(A16.enc x)[j]? =some (.int .i64 (x j)):=by
 show ((List.range 16).map (λi=>Value.int .i64 (x i)))[j]? =_
 simp[h]
def ai (x:Nat→Int)(j:Int):Option Int:=if 0≤j∧j<16 then some (x j.toNat) else none
theorem D9 {x:Nat→Int}{j y:Int}(h:ai x j=some y):0≤j∧j<16∧x j.toNat=y:=by
 unfold ai at h
 split at h
 ·rename_i hc;exact⟨hc.1,hc.2,Option.some.inj h⟩
 ·cases h
def Df (x:Nat→Int)(j:Nat)(y:Int):Nat→Int:=λk=>if k=j then y else x k
theorem A16.put (x:Nat→Int){j:Nat}(y:Int)(h:j<16):A16.enc (Df x j y)=(A16.enc x).take j++[.int .i64 y]++(A16.enc x).drop (j+1):=by
 have hl:(A16.enc x).length=16:=A16.len x
 apply List.ext_getElem?
 intro k
 rw[List.append_assoc,List.getElem?_append]
 have hlt:∀j,j<16→(List.take j (A16.enc x)).length=j:=λj hj=>by rw[List.length_take,hl];omega
 rw[hlt j h]
 by_cases hk:k<16
 ·rw[A16.get _ hk]
  by_cases h1:k<j
  ·rw[if_pos h1,List.getElem?_take,if_pos h1,A16.get _ hk]
   unfold Df
   rw[if_neg (by omega)]
  ·rw[if_neg h1]
   by_cases h2:k=j
   ·subst h2
    rw[show k-k=0 by omega]
    unfold Df
    rw[if_pos rfl];rfl
   ·rw[show k-j=(k-j-1)+1 by omega]
    simp only[List.singleton_append,List.getElem?_cons_succ,List.getElem?_drop]
    rw[show j+1+(k-j-1)=k by omega,A16.get _ hk]
    unfold Df
    rw[if_neg h2]
 ·rw[List.getElem?_eq_none (by rw[A16.len];exact Nat.le_of_not_lt hk),if_neg (by omega),List.getElem?_eq_none (by simp[hl];omega)]
theorem A16.at {x:Nat→Int}{j z:Int}(h:ai x j=some z):(A16.enc x)[j.toNat]? =some (.int .i64 z):=by
 obtain⟨h0,h1,rfl⟩:=D9 h
 exact A16.get x (by omega)
theorem A16.le {x:Nat→Int}{j z:Int}{v:Value}(h:ai x j=some z):j.toNat+[v].length≤A16.m:=by
 obtain⟨h0,h1,_⟩:=D9 h
 show j.toNat+1≤16
 omega
theorem A16.putAt {x:Nat→Int}{j z y:Int}(h:ai x j=some z):A16.enc (Df x j.toNat y)=(A16.enc x).take j.toNat++[.int .i64 y]++(A16.enc x).drop (j.toNat+[Value.int .i64 y].length):=by
 obtain⟨h0,h1,_⟩:=D9 h
 exact A16.put x y (by omega)
section
variable {P : Program} {ρ : Operand → Value} {w : World} {d : Option Tmp} {t : TypeId} {pos : String} {af : Array Edge} {gd : Option (Nat × Bool)}
theorem r_indexArr {u e:Nat}{xo io:Operand}{b o:Nat}{k:IntKind}{j:Int}(hx:ρ xo= .pointer (some ⟨b,o,none⟩))(hi:ρ io= .int k j)(hu:P.underlying u=some (.array 16 e))(hz:∀w,(sizeOf e).run P w= .ok 1 w)(h0:0≤j)(h1:j<16):
  (execOp ρ ⟨d,.indexAddr u xo io,t,pos,af,gd⟩).run P w= .ok (.value (.pointer (some ⟨b,o+j.toNat,none⟩))) w:=by
 simp[execOp,hx,hi,Instr.indexAt,asIntOf,run_underlying hu,Instr.sureAddr,h0,h1,hz w,BA]
end
section
variable {P : Program} {ops : Array Oper} {rest : List Oper} {n r : AP} {x : List (Nat × AP)} {a : Act} {w : World} {N : Nat} {L : AZ}
variable {d : Nat} {t : TypeId} {pos : String} {af : Array Edge}
theorem D1 {mm:Nat}{v p:Value}{i:Int}{u e:Nat}{xo io:Operand}{k:IntKind}{y:Nat→Int}{j z:Int}(hu:P.underlying u=some (.array 16 e))(hz:∀w,(sizeOf e).run P w= .ok 1 w)(f:Fr a N L)(hN:Nat.blt d N=true)
  (hx:AH L xo=some p) (hi:AH L io=some (.int k j)) (h:CO mm v p i 0) (hj:ai y j=some z)
  (q:∀p' a',CO mm v p' i j.toNat→Fr a' N ((d,p')::L)→wpList P ops (Qk n x r) rest a' w):
  wpList P ops (Qk n x r) (⟨some d,.indexAddr u xo io,t,pos,af,none⟩::rest) a w:=by
 obtain⟨b,kk,c,rfl,rfl⟩:=h
 obtain⟨h0,h1,_⟩:=D9 hj
 refine Bb f rfl rfl hN (r_indexArr (f.eval hx) (f.eval hi) hu hz h0 h1) λa' f'=> ?_
 exact q _ a' ⟨b,kk,c,rfl,by rw[Nat.add_zero]⟩ f'
end
section
variable {P : Program} {ops : Array Oper} {nn r : AP} {x : List (Nat × AP)} {T : Act → World → Prop} {W : World} {G : GH} {E H : List Itm} {N : Nat} {L : AZ} {a : Act} {fuel : Nat} {listed listed' : Array Bool}
variable {t : TypeId} {pos : String} {af : Array Edge} {gd : Option (Nat × Bool)} {d i : Nat}
theorem DV {mm:Nat}{v p:Value}{jx:Int}{u e:Nat}{xo io:Operand}{k0:IntKind}{y:Nat→Int}{j z:Int}(n:Nat)(hu:P.underlying u=some (.array 16 e))(hz:∀w,(sizeOf e).run P w= .ok 1 w)(h:CO mm v p jx 0)(hj:ai y j=some z)
  (hi:ops[i]? =some ⟨some d,.indexAddr u xo io,t,pos,af,gd⟩) (hck:Bw ops n fuel listed i=true) (hl:listed.setIfInBounds i true=listed') (f:Fr a N L)
  (hw:Region.wanted ⟨some d,.indexAddr u xo io,t,pos,af,gd⟩ (yielded ops a.tmps)=true) (hN:Nat.blt d N=true) (hx:AH L xo=some p) (hio:AH L io=some (.int k0 j))
  (k:∀p' a',CO mm v p' jx j.toNat→Fr a' N ((d,p')::L)→AnyB W P ops (Qk nn x r) T H fuel G E listed' a'):AnyB W P ops (Qk nn x r) T H (fuel+1) G E listed a:=by
 obtain⟨b,kk,c,rfl,rfl⟩:=h
 obtain⟨h0,h1,_⟩:=D9 hj
 exact CW n hi hck hl f hw rfl hN (λ_ _ _ _ _=>r_indexArr (f.eval hx) (f.eval hio) hu hz h0 h1) (λa' f'=>k _ a' ⟨b,kk,c,rfl,by rw[Nat.add_zero]⟩ f')
end
end Go.Sx

namespace Go.Sx
open IntKind
noncomputable section
def D.B0 (n:LI)(o p q:Int):Option (LL×LI×Int×Int):=
 (D.n n o p q).bind λb=>(D.n b.2.1 b.2.2.1 b.2.2.2 3).bind λc=>(Ar (σ:=LL×Int×LI×Int×Int) (ρ:=(LL×LI×Int×Int)) (fun(g,d,h,i,j)=>cond (decide (d<(i64.wrap (1+b.1)))) ((Ar (σ:=LL×Int×LI×Int×Int) (ρ:=(LL×LI×Int×Int)) (fun(f,e,k,l,m)=>cond (decide (e<d)) ((D.n k l m 4).bind λa=>cond (decide (a.1<(i64.wrap (1+c.1)))) ((AT f ([([e,d]:LI)]:LL)).bind λt=>some (.inl (t,(i64.wrap (e+1)),a.2.1,a.2.2.1,a.2.2.2))) (some (.inl (f,(i64.wrap (e+1)),a.2.1,a.2.2.1,a.2.2.2)))) (some (.inr (f,k,l,m)))) (g,0,h,i,j)).bind fun(u,v,w,x)=>some (.inl (u,(i64.wrap (d+1)),v,w,x))) (some (.inr (g,h,i,j)))) (([]:LL),1,c.2.1,c.2.2.1,c.2.2.2)).bind fun(y,z,aa,ab)=>(D.Y (i64.wrap (1+b.1)) y).bind λac=>some (ac.1,z,aa,ab)
def D.P (f:LI)(m:Int):Option LI:=
 (D.g f).bind λc=>(Cv (0:Int) (IntKind.u32.wrap (c+1)) (IntKind.u32.wrap (c+1))).bind λg=>(idx g c).bind λy=>(Ar (σ:=LI×Int) (ρ:=LI) (fun(h,a)=>cond (decide ((0:Int)<a)) ((D.d (IntKind.u32.wrap a)).bind λi=>(Ar (σ:=LI×Int) (ρ:=LI) (fun(b,d)=>cond (decide (d<(i.length:Int))) ((idx i d).bind λj=>(idx f j).bind λp=>(D.d (iandNot .u32 p (IntKind.u32.wrap a))).bind λk=>(Ar (σ:=Int) (ρ:=LI) (fun(e:Int)=>cond (decide (e<(k.length:Int))) ((idx k e).bind λl=>(D.b l).bind λq=>(idx b (ior .u32 (IntKind.u32.wrap a) q)).bind λr=>(D.k r l).bind λs=>cond s ((idx b a).bind λt=>(D.b j).bind λu=>(idx b a).bind λz=>some (.inr (b.set (Int.toNat a) (ior .u32 t u)))) (some (.inl (i64.wrap (e+1))))) (some (.inr b))) 0).bind λv=>some (.inl (v,(i64.wrap (d+1))))) (some (.inr b))) (h,0)).bind λw=>some (.inl (w,(i64.wrap (a-1))))) (some (.inr h))) ((g.set (Int.toNat c) m),(i64.wrap ((i64.wrap c)-1)))).bind λx=>some x
def D.A (f:LI)(a:Int)(g:LI):Option LI:=
 (D.b a).bind λh=>(idx g h).bind λm=>(D.k m a).bind λn=>cond (!n) (some ([]:LI)) ((Ar (σ:=Int×Int×LI) (ρ:=LI) (fun(i,b,j)=>(D.g f).bind λp=>cond (b !=p) ((idx f i).bind λq=>(D.d (iandNot .u32 q b)).bind λk=>(Ar (σ:=Int) (ρ:=(Int)) (fun(c:Int)=>cond (decide (c<(k.length:Int))) ((idx k c).bind λd=>(D.b d).bind λr=>(idx g (ior .u32 b r)).bind λs=>(D.k s d).bind λt=>cond t (some (.inr d)) (some (.inl (i64.wrap (c+1))))) (some (.inr i))) 0).bind λe=>(D.b e).bind λu=>(AT j ([e]:LI)).bind λv=>some (.inl (e,(ior .u32 b u),v))) (some (.inr j))) (a,h,([a]:LI))).bind λl=>(nonE l).bind λ_=>some l)
def D.j0 (a:LL):Option (LI×Bool):=
 (D.i a).bind λd=>cond ((!d)||(decide ((a.length:Int)<3))) (some (([]:LI),false)) ((D.p a).bind λb=>(idx b 0).bind λe=>(D.P b e).bind λf=>(D.A b 0 f).bind λc=>cond (c.isEmpty) (some (([]:LI),false)) ((D.t c).bind λg=>some (g,true)))
def D.l0 (c:LL):Option (LI×Bool):=
 (D.i c).bind λg=>cond (!g) (some (([]:LI),false)) ((D.p c).bind λa=>(D.g a).bind λh=>(D.P a h).bind λi=>(Ar (σ:=LI×LI×Int) (ρ:=(Unit) ⊕ (LI×Bool)) (fun(d,e,b)=>cond (decide (b<(a.length:Int))) ((D.A d b e).bind λf=>cond (!f.isEmpty) ((D.t f).bind λk=>some (.inr (.inr (k,true)))) (some (.inl (d,e,(i64.wrap (b+1)))))) (some (.inr (.inl ())))) (a,i,0)).bind λzz=>match zz with| .inl _=>(some (([]:LI),false))| .inr z=>(some z))
def D.z (a:Int)(b:LI):Option (Bool):=
 cond (a !=0) ((D.g b).bind λc=>(D.z0 b (iandNot .u32 c a)).bind λd=>(D.v0 a).bind λe=>some (decide (e<(d.length:Int)))) (some false)
end
end Go.Sx

namespace Go.Sx
open IntKind
noncomputable section
def D.T0 (F:LI)(c _s:Int):Option (Bool×Int):=(D.z c F).bind λb=>some (b,c)
def D.b1 (f:Int→Int→Option (Bool×Int))(n:Int)(s:Int×Int):Option ((Int×Int) ⊕ (Int×Bool)):=
 cond (decide (s.2≤n)) ((D.C f CA n 0 s.2 0 s.1).bind λr=>cond r.1 (some (.inr (r.2,true))) (some (.inl (r.2,i64.wrap (s.2+1))))) (some (.inr (0,false)))
def D.h (g:LL):Option (LI×Bool):=
 (D.i g).bind λb=>cond (!b) (some ([],false)) ((D.p g).bind λF=>(Ar (D.b1 (D.T0 F) (F.length:Int)) (0,0)).bind λr=>cond (!r.2) (some ([],false)) ((D.S r.1).bind λl=>some (l,true)))
end
end Go.Sx

namespace Go.Sx
open IntKind
noncomputable section
def D.b0 (k:LL):Option (Int):=
 (D.i k).bind λu=>cond (!u) (some (-1)) ((D.p k).bind λb=>cond (decide ((b.length:Int)<3)) (some 0) ((D.g b).bind λl=>(Cv (λ_=>0:Nat→Int) (IntKind.u32.wrap (l+1)) (IntKind.u32.wrap (l+1))).bind λm=>(idx m 1).bind λn=>(ai n 0).bind λar=>(Ar (σ:=(List (Nat→Int))×Int) (ρ:=((List (Nat→Int)))) (fun(v:(List (Nat→Int))×Int)=>match v with|(o,a)=>(D.g b).bind λw=>cond (decide (a<w)) ((D.d a).bind λp=>(Ar (σ:=(List (Nat→Int))×Int) (ρ:=((List (Nat→Int)))) (fun(x:(List (Nat→Int))×Int)=>match x with|(d,e)=>cond (decide (e<(p.length:Int))) ((idx p e).bind λg=>(idx d a).bind λy=>(ai y g).bind λz=>cond (z==0) (some (.inl (d,(i64.wrap (e+1))))) ((idx b g).bind λaa=>(D.d (iandNot .u32 aa a)).bind λq=>(Ar (σ:=(List (Nat→Int))×Int) (ρ:=((List (Nat→Int)))) (fun(ab:(List (Nat→Int))×Int)=>match ab with|(c,h)=>cond (decide (h<(q.length:Int))) ((idx q h).bind λf=>(D.b f).bind λi=>(idx c (ior .u32 a i)).bind λac=>(ai ac f).bind λad=>(idx c a).bind λae=>(ai ae g).bind λaf=>(idx c (ior .u32 a i)).bind λr=>(ai r f).bind λau=>some (.inl ((c.set (Int.toNat (ior .u32 a i)) (Df r (Int.toNat f) (i64.wrap (ad+af)))),(i64.wrap (h+1))))) (some (.inr c))) (d,0)).bind λag=>some (.inl (ag,(i64.wrap (e+1)))))) (some (.inr d))) (o,0)).bind λah=>some (.inl (ah,(IntKind.u32.wrap (a+2))))) (some (.inr o))) ((m.set (Int.toNat 1) (Df n (Int.toNat 0) 1)),1)).bind λaj=>(idx b 0).bind λak=>(D.d ak).bind λs=>(Ar (σ:=Int×Int) (ρ:=(Int)) (fun(t,j)=>cond (decide (j<(s.length:Int))) ((idx s j).bind λam=>(D.g b).bind λan=>(idx aj an).bind λao=>(ai ao am).bind λap=>some (.inl ((i64.wrap (t+ap)),(i64.wrap (j+1))))) (some (.inr t))) (0,0)).bind λaq=>some (i64.wrap (Int.tdiv aq 2))))
def D.E (b:Int):Option (Int):=
 (Ar (σ:=Int) (ρ:=(Int)) (fun(a:Int)=>cond (decide ((IntKind.u64.wrap a)<0)) none (cond ((iand .i64 (Bp .i64 b (IntKind.u64.wrap a)) 1)==0) (some (.inl (i64.wrap (a+1)))) (some (.inr a)))) 0).bind λc=>some c
def D.E0 (b:LI)(h:Bool):Option LL:=
 cond (decide ((IntKind.u64.wrap (b.length:Int))<0)) none ((Cv (([]:LI):LI) (ishl .i64 1 (IntKind.u64.wrap (b.length:Int))) (ishl .i64 1 (IntKind.u64.wrap (b.length:Int)))).bind λi=>(Ar (σ:=LL×Int) (ρ:=LL) (fun(d,c)=>cond (decide (c<(d.length:Int))) ((Cv (0:Int) (b.length:Int) (b.length:Int)).bind λk=>(Ar (σ:=LI×Int) (ρ:=LI) (fun(e,a)=>cond (decide (a<(b.length:Int))) (cond (decide ((IntKind.u64.wrap a)<0)) none (cond ((iand .i64 (Bp .i64 c (IntKind.u64.wrap a)) 1)==0) (some (.inl (e,(i64.wrap (a+1))))) (cond (decide ((IntKind.u64.wrap a)<0)) none (cond ((iandNot .i64 c (ishl .i64 1 (IntKind.u64.wrap a)))==0) ((cond (!h) (some true) ((idx b a).bind λm=>some ((iand .i64 m 1)==1))).bind λn=>(D.d0 n).bind λo=>(idx e a).bind λy=>some (.inl ((e.set (Int.toNat a) o),(i64.wrap (a+1))))) ((idx b a).bind λp=>(Ar (σ:=LI×Int) (ρ:=LI) (fun(f,g)=>cond (decide ((0:Int)<g)) ((idx f a).bind λr=>(idx d (iandNot .i64 c (ishl .i64 1 (IntKind.u64.wrap a)))).bind λs=>(D.E g).bind λt=>(idx s t).bind λu=>(idx f a).bind λz=>some (.inl ((f.set (Int.toNat a) (i64.wrap (r+u))),(iand .i64 g (i64.wrap (g-1)))))) (some (.inr f))) (e,(iand .i64 p (iandNot .i64 c (ishl .i64 1 (IntKind.u64.wrap a)))))).bind λv=>some (.inl (v,(i64.wrap (a+1))))))))) (some (.inr e))) (k,0)).bind λw=>(idx d c).bind λaa=>some (.inl ((d.set (Int.toNat c) w),(i64.wrap (c+1))))) (some (.inr d))) (i,1)).bind λx=>some x)
def D.g0 (a:LL):Option (Int):=
 (D.j a).bind λb=>cond (!b) (some (-1)) ((D.c a).bind λc=>cond (decide (c<3)) (some 0) ((D.D0 a).bind λd=>(D.E0 d true).bind λe=>(D.m0 a).bind λf=>(idx e f).bind λg=>(idx g 0).bind λh=>some (i64.wrap (Int.tdiv h 2))))
def D.a0 (b:LL)(a:LI):Option (Bool):=
 (D.y b a).bind λc=>(cond c ((idx a 0).bind λd=>some (d==0)) (some false)).bind λe=>(cond e ((D.K0 b a).bind λf=>some f) (some false)).bind λg=>some g
def D.T (b:LL)(a:LI):Option (Bool):=
 (D.L b a).bind λc=>(cond c ((idx a 0).bind λd=>some (d==0)) (some false)).bind λe=>(cond e ((D.H0 b a).bind λf=>some f) (some false)).bind λg=>some g
def D.r0 (b:LI)(c:Int):Option (Bool):=
 (Ar (σ:=Int) (ρ:=(Unit) ⊕ (Bool)) (fun(a:Int)=>cond (decide (a<(b.length:Int))) ((idx b a).bind λd=>cond (d==c) (some (.inr (.inr true))) (some (.inl (i64.wrap (a+1))))) (some (.inr (.inl ())))) 0).bind λzz=>match zz with| .inl _=>(some false)| .inr z=>(some z)
def D.I (c:LL)(d:LI):Option LI:=
 (Ar (σ:=LI×Int) (ρ:=LI) (fun(b,a)=>cond (decide (a<(c.length:Int))) ((D.r0 d a).bind λf=>cond (!f) ((AT b ([a]:LI)).bind λg=>some (.inl (g,(i64.wrap (a+1))))) (some (.inl (b,(i64.wrap (a+1)))))) (some (.inr b))) (([]:LI),0)).bind λh=>some h
def D.x0 (b:LL)(a:LI):Option (LL×Bool):=
 (D.I0 b a).bind λc=>cond ((!c)||((a.length:Int)==0)) (some (([]:LL),false)) ((D.y0 b a).bind λd=>some (d,true))
def D.C0 (i:LL)(d:Int)(j:LI):Option LI:=
 (Ar (σ:=LI×Int) (ρ:=LI) (fun(k,l)=>(D.c i).bind λp=>cond (decide (l<p)) ((AT k ([(-1)]:LI)).bind λq=>some (.inl (q,(i64.wrap (l+1))))) (some (.inr k))) (([]:LI),0)).bind λg=>(D.f j d).bind λr=>cond (!r) (some g) ((idx g d).bind λah=>(Ar (σ:=LI×LI×Int) (ρ:=LI) (fun(m,h,e)=>cond (decide (e<(h.length:Int))) ((idx h e).bind λt=>(idx i t).bind λc=>(Ar (σ:=LI×LI×Int) (ρ:=(LI×LI)) (fun(b,f,a)=>cond (decide (a<(c.length:Int))) ((idx c a).bind λv=>(idx b v).bind λw=>(cond (decide (w<0)) ((idx c a).bind λx=>(D.f j x).bind λy=>some y) (some false)).bind λz=>cond z ((idx c a).bind λn=>(idx f e).bind λaa=>(idx b aa).bind λab=>(idx b n).bind λai=>(idx c a).bind λac=>(AT f ([ac]:LI)).bind λad=>some (.inl ((b.set (Int.toNat n) (i64.wrap (ab+1))),ad,(i64.wrap (a+1))))) (some (.inl (b,f,(i64.wrap (a+1)))))) (some (.inr (b,f)))) (m,h,0)).bind fun(ae,af)=>some (.inl (ae,af,(i64.wrap (e+1))))) (some (.inr m))) ((g.set (Int.toNat d) 0),([d]:LI),0)).bind λag=>some ag)
def D.m (d:LL)(e:Int)(f:LI):Option LI:=
 (D.C0 d e f).bind λc=>(Ar (σ:=LI×Int) (ρ:=LI) (fun(b,a)=>cond (decide (a<(c.length:Int))) ((idx c a).bind λh=>cond (decide ((0:Int)≤h)) ((AT b ([a]:LI)).bind λi=>some (.inl (i,(i64.wrap (a+1))))) (some (.inl (b,(i64.wrap (a+1)))))) (some (.inr b))) (([]:LI),0)).bind λj=>some j
def D.p0 (f:LL)(b:LI):Option LL:=
 (Ar (σ:=LL×LI×Int) (ρ:=LL) (fun(c,d,a)=>cond (decide (a<(b.length:Int))) ((idx b a).bind λh=>(D.f d h).bind λi=>cond (!i) ((idx b a).bind λj=>(D.m f j b).bind λe=>(AT c ([e]:LL)).bind λk=>(AT d e).bind λl=>some (.inl (k,l,(i64.wrap (a+1))))) (some (.inl (c,d,(i64.wrap (a+1)))))) (some (.inr c))) (([]:LL),([]:LI),0)).bind λm=>some m
def D.X (a:LL):Option LL:=
 (D.j a).bind λb=>cond (!b) (some ([]:LL)) ((D.c a).bind λc=>(D.L0 c).bind λd=>(D.p0 a d).bind λe=>some e)
def D.N0 (g:LI):Option (Bool):=
 (D.X0 g).bind λj=>cond j (some true) ((D.f0 g 810).bind λf=>(D.B0 f.1 f.2.1 f.2.2 7).bind λa=>(D.j0 a.1).bind λb=>(D.l0 a.1).bind λc=>(D.h a.1).bind λd=>(D.b0 a.1).bind λh=>(cond (b.2 !=(decide ((0:Int)<h))) (some true) ((D.g0 a.1).bind λk=>some (h !=k))).bind λl=>(cond l (some true) ((cond b.2 ((D.a0 a.1 b.1).bind λm=>(cond (!m) (some true) ((D.T a.1 b.1).bind λn=>some (!n))).bind λo=>some o) (some false)).bind λp=>some p)).bind λq=>cond ((q||(b.2&&d.2))||(b.2&&(!c.2))) (some false) ((cond c.2 ((D.y a.1 c.1).bind λr=>some (!r)) (some false)).bind λs=>cond s (some false) ((Ar (σ:=Int) (ρ:=(Unit) ⊕ (Bool)) (fun(e:Int)=>cond (decide (e<(c.1.length:Int))) ((idx c.1 (i64.wrap (e-1))).bind λt=>(idx c.1 e).bind λu=>(D.c0 a.1 t u).bind λv=>cond (!v) (some (.inr (.inr false))) (some (.inl (i64.wrap (e+1))))) (some (.inr (.inl ())))) 1).bind λzz=>match zz with| .inl _=>(cond (!d.2) (some ((d.1.length:Int)==0)) ((D.I a.1 d.1).bind λi=>cond (((d.1.length:Int)==0)||((i.length:Int)==0)) (some false) ((D.x0 a.1 i).bind λw=>(D.X w.1).bind λx=>some (decide ((d.1.length:Int)<(x.length:Int))))))| .inr z=>(some z))))
end
end Go.Sx

namespace Go.Sx
end Go.Sx

namespace Go.Sx
end Go.Sx

namespace Go.Sx
end Go.Sx

namespace Go.Sx
end Go.Sx

namespace Go.Sx
end Go.Sx

namespace Go.Sx
end Go.Sx

namespace Go.Proofs
open Go.Shelf
def Tryd.lays125_ren :Go.Shelf.Ren:=⟨fun|125=>153|128=>170|129=>171|n=>n,fun|46=>118|3=>3|51=>70|53=>39|4=>4|5=>5|9=>9|n=>n,fun|n=>n⟩
theorem Tryd.lays125 :Go.Proofs.Lays.n125 Tryd.prog Tryd.lays125_ren:={
 mixed:=by kernel_rfl
 f125:=Tryd.func153.trans (congrArg some (by kernel_rfl))
 f128:=Tryd.func170.trans (congrArg some (by kernel_rfl))
 f129:=Tryd.func171.trans (congrArg some (by kernel_rfl))
 t3:=Tryd.underlying3
 a3:=Tryd.isAgg3
 z3:=Tryd.sizeOf3
 v3:=Tryd.zeroValue3
 t4:=Tryd.underlying4
 a4:=Tryd.isAgg4
 z4:=Tryd.sizeOf4
 v4:=Tryd.zeroValue4
 t5:=Tryd.underlying5
 a5:=Tryd.isAgg5
 z5:=Tryd.sizeOf5
 v5:=Tryd.zeroValue5
 t9:=Tryd.underlying9
 a9:=Tryd.isAgg9
 z9:=Tryd.sizeOf9
 v9:=Tryd.zeroValue9
 t46:=Tryd.underlying118
 a46:=Tryd.isAgg118
 z46:=Tryd.sizeOf118
 v46:=Tryd.zeroValue118
 t51:=Tryd.underlying70
 a51:=Tryd.isAgg70
 z51:=Tryd.sizeOf70
 v51:=Tryd.zeroValue70
 t53:=Tryd.underlying39
 a53:=Tryd.isAgg39
 z53:=Tryd.sizeOf39
 v53:=Tryd.zeroValue39}
theorem Tryd.bits_Len (x:Int)(w:World)(h0:0≤x)(h1:x≤18446744073709551615):
  Calls Tryd.prog 153 #[.int .u64 x] w λe w'=>e= .returned (.int .i64 (Lib.bitLen x.toNat))∧w'=w:=Any.bits_Len Tryd.lays125 x w h0 h1
end Go.Proofs
namespace Go.Proofs.YtfmaahgchbfbiaaDoor
open Go Go.Sx
theorem Wk.N {W w:World}{G:GH}{H:List Itm}{x0:Int}(m:Mem W G w H){y:Int}(hd:D.N x0=some y):
  Calls Tryd.prog 153 #[(.int .u64 x0)] w (Res W G H (λ_ Ho v=>Ho=[]∧v=(.int .i64 y))):=by
 unfold D.N at hd
 split at hd
 ·rename_i h
  obtain rfl:=Option.some.inj hd
  exact(Tryd.bits_Len x0 w h.1 h.2).mono (λe w' ⟨he,hw⟩=>by subst hw;exact⟨_,he,G,[],GLe.refl G,m,rfl,rfl⟩)
 ·cases hd
end Go.Proofs.YtfmaahgchbfbiaaDoor

namespace Go.Proofs
open Go.RowKit Go.Shelf
attribute [local go_sem] Oper.semAt_some
namespace YtfmaahgchbfbiaaDoor
def CZ {α:Type}(f:Nat→α)(k:Nat):List α:=(List.range k).map f
theorem upto_succ {α:Type}(f:Nat→α)(k:Nat):CZ f (k+1)=CZ f k++[f k]:=by simp[CZ,List.range_succ]
theorem upto_length {α:Type}(f:Nat→α)(k:Nat):(CZ f k).length=k:=by simp[CZ]
theorem upto_all (zs:List Int):CZ (λj=>zs[j]?.getD 0) zs.length=zs:=by
 apply List.ext_getElem
 ·simp[CZ]
 ·intro i h1 h2
  simp[CZ,h2]
theorem upto_take (zs:List Int){k:Nat}(hk:k≤zs.length):CZ (λj=>zs[j]?.getD 0) k=zs.take k:=by
 apply List.ext_getElem
 ·simp[CZ,hk]
 ·intro i h1 h2
  have:i<zs.length:=by simp[CZ] at h1;omega
  simp[CZ,this]
set_option maxRecDepth 100000 in
set_option maxHeartbeats 2000000 in
theorem values1_in (F:Fence)(n:Nat)(h7:F.fn 160)(hro:F.round=none)(hn:1≤n)(l Bs n₀ b off len cap:Nat)(zs:List Int)(hreach:len*8≤140737488351232)(hb:len=0∨b<n₀)(J Jx:List Int→World→Prop)
  (hY:∀pre x W,J pre W→pre.length<len→YieldAt F (n-1) Tryd.prog l #[.int .i64 x] W λe W'=>
   (e= .returned (.bool true)∧J (pre++[x]) W'∧Below n₀ W W')∨(e= .returned (.bool false)∧Jx (pre++[x]) W'))
  (W:World) (hBs:W.cell? ⟨Bs,0,none⟩=some (.slice (some ⟨b,off,none⟩) len cap)) (hc:∀j,j<len→W.cell? ⟨b,off+j,none⟩=some (.int .i64 (zs[j]?.getD 0))) (h0:J [] W):
  CallsIn F n Tryd.prog 160 #[.func (.yield l) #[] #[],.pointer (some ⟨Bs,0,none⟩)] W λe W'=>(∃v,e= .returned v)∧
   ((∃ys,ys=CZ (λj=>zs[j]?.getD 0) len∧J ys W')∨(∃pre,(∃k,k≤len∧pre=CZ (λj=>zs[j]?.getD 0) k)∧Jx pre W')):=by
 refine callsIn_of_wp Tryd.func160 rfl h7 ?_ hro
 simp only[Tryd.ntmps160,List.size_toArray,List.length_cons,List.length_nil,Nat.reduceAdd,Nat.reduceSub,Array.replicate_succ,Array.replicate_zero,List.push_toArray,List.append_toArray,List.nil_append,List.cons_append]
 gi_wp2
 gi_loopw [7] (λi wr=>∃k:Nat,k≤len∧i= .int .i64 k∧J (CZ (λj=>zs[j]?.getD 0) k) wr∧Below n₀ W wr)
  (λi _=>len-(intOf i).toNat)
 case atStart=>exact⟨0,Nat.zero_le _,rfl,h0,Below.refl _ _⟩
 case round=>
  obtain⟨k,hk,rfl,hJs,hnx⟩:=hrel
  have hcx:k<len→wr.cell? ⟨b,off+k,none⟩=some (.int .i64 (zs[k]?.getD 0)):=λh=>(hnx.cell (p:=⟨b,off+k,none⟩) (hb.resolve_left (by omega))).trans (hc k h)
  by_cases hlt:k<len
  ·obtain⟨fn,tmps,assign,body,hy,hR⟩:=hY _ (zs[k]?.getD 0) wr hJs (by rw[upto_length];exact hlt)
   have hcx':=hcx hlt
   gi_wp2
   refine hR.mono ?_
   rintro e W3 (⟨rfl,hJ3,hk3⟩|⟨rfl,hJx3⟩)
   ·gi_wp2
    go_roundw
    case rel=>exact⟨k+1,by omega,by simp,by rw[upto_succ];exact hJ3,hnx.trans hk3⟩
    case measure=>simp[intOf];omega
   ·gi_wp2
    refine bodyPost_ret (results_none rfl _ _ _) rfl ?_
    exact⟨⟨_,rfl⟩,.inr ⟨_,⟨k+1,by omega,(upto_succ _ _).symm⟩,hJx3⟩⟩
  ·obtain rfl:k=len:=by omega
   gi_wp2
   go_end0
   exact⟨⟨_,rfl⟩,.inl ⟨_,rfl,hJs⟩⟩
def Ints (n₀:Nat)(W:World)(sv:Value)(zs:List Int):Prop:=
 ((∃a c,sv= .slice a 0 c)∧zs=[])∨∃b off cap,sv= .slice (some ⟨b,off,none⟩) zs.length cap∧(zs.length=0∨b<n₀)∧∀j,j<zs.length→W.cell? ⟨b,off+j,none⟩=some (.int .i64 (zs[j]?.getD 0))
theorem Ints.below {n₀:Nat}{A B:World}(h:Below n₀ A B){sv:Value}{zs:List Int}:Ints n₀ A sv zs→Ints n₀ B sv zs
 | .inl e=> .inl e
 | .inr ⟨b,off,cap,e,hb,hc⟩=> .inr ⟨b,off,cap,e,hb,λj hj=>(h.cell (p:=⟨b,off+j,none⟩) (hb.resolve_left (by omega))).trans (hc j hj)⟩
set_option maxRecDepth 100000 in
set_option maxHeartbeats 1000000 in
theorem values1_nil_in (F:Fence)(n:Nat)(h7:F.fn 160)(hro:F.round=none)(l Bs:Nat)(J:List Int→World→Prop)(W:World)(a:Option Addr)(c:Nat)(hBs:W.cell? ⟨Bs,0,none⟩=some (.slice a 0 c))(h0:J [] W):
  CallsIn F n Tryd.prog 160 #[.func (.yield l) #[] #[],.pointer (some ⟨Bs,0,none⟩)] W λe W'=>(∃v,e= .returned v)∧J [] W':=by
 refine callsIn_of_wp Tryd.func160 rfl h7 ?_ hro
 simp only[Tryd.ntmps160,List.size_toArray,List.length_cons,List.length_nil,Nat.reduceAdd,Nat.reduceSub,Array.replicate_succ,Array.replicate_zero,List.push_toArray,List.append_toArray,List.nil_append,List.cons_append]
 gi_wp2
 gi_loopw [7] (λi wr=>i= .int .i64 0∧J [] wr) (λ_ _=>0)
 case atStart=>exact⟨rfl,h0⟩
 case round=>
  obtain⟨rfl,hJs⟩:=hrel
  gi_wp2
  go_end0
  exact⟨⟨_,rfl⟩,hJs⟩
theorem values_stops (F:Fence)(n:Nat)(h7:F.fn 160)(hro:F.round=none)(hn:1≤n)(Bs n₀:Nat)(sv:Value)(zs:List Int)(hreach:zs.length*8≤140737488351232)(w:World)(hBs:Bs<w.heap.size)(hn₀:n₀≤w.heap.size)
  (hc:w.cell? ⟨Bs,0,none⟩=some sv) (hI:Ints n₀ w sv zs):
  SeqStopsK F n Tryd.prog 160 #[.pointer (some ⟨Bs,0,none⟩)] (λx:Int=> #[Value.int .i64 x]) (Below n₀) (λys=>ys=zs) (λpre=>pre<+:zs) zs.length w:=λl J Jx W hW _ _ hY h0=>by
 have hc':=(hW.cell (p:=⟨Bs,0,none⟩) hBs).trans hc
 rcases hI.below (hW.mono hn₀) with⟨⟨a,c,rfl⟩,rfl⟩|⟨b,off,cap,rfl,hb,hcs⟩
 ·exact(values1_nil_in F n h7 hro l Bs J W a c hc' h0).mono λe W' ⟨he,hj⟩=>⟨he,.inl ⟨_,rfl,hj⟩⟩
 ·refine(values1_in F n h7 hro hn l Bs n₀ b off zs.length cap zs hreach hb J Jx hY W hc' hcs h0).mono ?_
  rintro e W' ⟨he,⟨ys,rfl,hj⟩|⟨pre,⟨k,hk,rfl⟩,hj⟩⟩
  ·exact⟨he,.inl ⟨_,upto_all zs,hj⟩⟩
  ·exact⟨he,.inr ⟨_,by rw[upto_take zs hk];exact List.take_prefix _ _,hj⟩⟩
theorem info2 :(Tryd.prog.info? 2).map (λi=>(i.zero,i.size,i.bytes))=some (some (.int .i64 0),1,8):=by kernel_rfl
set_option maxRecDepth 100000 in
set_option maxHeartbeats 4000000 in
theorem AppendSeq_in (F:Fence)(n:Nat)(h3:F.fn 176)(h5:F.fn 160)(hro:F.round=none)(hn:3≤n)(Bs:Nat)(sv:Value)(xs:List Int)(hlen:xs.length≤maxLen)(hbytes:xs.length*8≤140737488351232)(w:World)(hBs:Bs<w.heap.size)(hc:w.cell? ⟨Bs,0,none⟩=some sv)(hL:Ints w.heap.size w sv xs):
  CallsIn F n Tryd.prog 176 #[.slice none 0 0,.func (.func 160) #[] #[.pointer (some ⟨Bs,0,none⟩)]] w λe W'=>∃v,e= .returned v∧W'.ownsRow w.heap.size 2 1 v xs.length (xs.map (Value.int .i64))∧Below w.heap.size w W':=by
 have h1:1≤n:=by omega
 obtain⟨i0,hi,hz0,hz1,hz2⟩:=info_parts info2
 refine callsIn_of_wp_marks Tryd.func176 rfl h3 ?_ hro
 simp only[Tryd.ntmps176,List.size_toArray,List.length_cons,List.length_nil,Nat.reduceAdd,Nat.reduceSub,Array.replicate_succ,Array.replicate_zero,List.push_toArray,List.append_toArray,List.nil_append,List.cons_append]
 gi_wp2
 have bO:=Boxed.new w 43 (.slice none 0 0)
 have hB0:Below w.heap.size w (w.alloc (.cells #[.slice none 0 0] 43)):=(Below.refl _ w).alloc (Nat.le_refl _) _
 refine wpIn_rangeFunc_ownG hro h1 (gf:=160) (lb:= #[.pointer (some ⟨Bs,0,none⟩)]) rfl h5 (enters_of Tryd.func160 (by kernel_rfl) rfl)
  (values_stops F (n-1) h5 hro (by omega) Bs w.heap.size sv xs hbytes _ (by simp;omega) (by simp) ((hB0.cell (p:=⟨Bs,0,none⟩) hBs).trans hc) (hL.below hB0)) belowK_t (belowK_b (by simp)) (Below.refl _ _) (λ_=>rfl)
  (λpre W=>(∃v,Boxed W w.heap.size 43 v∧W.ownsRow w.heap.size 2 1 v pre.length (pre.map (Value.int .i64))∧(v= .slice none 0 0↔pre=[]))∧Below w.heap.size w W)
  (λ_ _ _=>False)
  (OwnFrom.and (Own.from (holdsRow_own w.heap.size w.heap.size 43 2 1 (λpre=>pre.length) (λpre=>pre.map (Value.int .i64)) (λpre v=>v= .slice none 0 0↔pre=[])) _) (ownFrom_below (Nat.le_refl _) (by simp)))
  (λ_ _ _ _ _ hs _ _=>hs)
  ⟨⟨_,bO,World.ownsRow_nil _ _ _ _,by simp⟩,hB0⟩
  (λx=>{tmps:= #[.slice none 0 0,.func (.func 160) #[] #[.pointer (some ⟨Bs,0,none⟩)],.pointer (some ⟨w.heap.size,0,none⟩),undef,.slice none 0 0,.int .i64 x,.func (.func 160) #[] #[.pointer (some ⟨Bs,0,none⟩)],.int .i64 x,undef,undef,undef,undef,undef],defers:=[]}) ?assign ?body ?done ?stop
 case assign=>
  intro l x W K hK
  gi_wp2
  exact hK
 case body=>
  rintro l pre x W ⟨⟨v,hv,hrow,hnil⟩,hB⟩ hlt
  have hc:=hv.cell
  gi_wp2_with (gi_at_builtin;refine wpListIn_append_own _ rfl _ _ 43 rfl w.heap.size 2 i0 (.int .i64 0) 1 8 Tryd.underlying43 hi hz0 hz1 hz2 rfl (by decide) _ _ _ rfl (hrow.alloc _) ⟨W.heap.size,0,none⟩ 1 1 [.int .i64 x] rfl rfl (cell_one_new _ _ _) (by simp[Value.oneCell']) (by omega) (by omega) (by have:=hB.size;simp;omega) ?_;intro v' w1 hown' hgrow _;obtain⟨g',cap',rfl⟩:=ownsRow_succ hown';obtain⟨hv1,hv2,hr2,hk2,hb2⟩:=hv.appended (by decide) hrow hB.size (Nat.le_refl _) hown' hgrow;have hc1:=hv1.cell;have hf1:=hv1.frozen)
  exact⟨hk2.from _,hb2,⟨_,hv2,by simpa using hr2,by simp⟩,hB.trans hb2⟩
 case done=>
  rintro D ys W hD rfl ⟨⟨v,hv,hrow,hnil⟩,hB⟩ hK
  have hc:=hv.cell
  gi_wp2
  refine⟨by simp,.inl ⟨_,_,rfl,run_takeDeferred hK,?_⟩⟩
  exact⟨_,results_tmp rfl _ _ _,v,rfl,ownsRow_putObj hrow _ hK rfl,hB.trans (belowK_b (w:=w) (Nat.le_refl _) W D _ _ (by simp at hD;omega) hK rfl rfl)⟩
 case stop=>
  rintro D c pre W _ _ h _
  exact h.elim
set_option maxHeartbeats 1000000 in
theorem values_in (F:Fence)(n:Nat)(h5:F.fn 145)(hro:F.round=none)(a:Option Addr)(len cap:Nat)(w:World):
  CallsIn F n Tryd.prog 145 #[.slice a len cap] w λe w'=>e= .returned (.func (.func 160) #[] #[.pointer (some ⟨w.heap.size,0,none⟩)])∧w'=w.alloc (.cells #[.slice a len cap] 43):=by
 refine callsIn_of_wp Tryd.func145 rfl h5 ?_ hro
 simp only[Tryd.ntmps145,List.size_toArray,List.length_cons,List.length_nil,Nat.reduceAdd,Nat.reduceSub,Array.replicate_succ,Array.replicate_zero,List.push_toArray,List.append_toArray,List.nil_append,List.cons_append]
 gi_wp2
 go_ret
 exact⟨rfl,rfl⟩
open Go.Sx in
theorem Wk.q1 {W w:World}{G:GH}{H:List Itm}{v:Value}{x:List Int}(m:Mem W G w H)(h:RSl (RI .i64) G v x):
  Calls Tryd.prog 145 #[v] w (Res W G H (λ_ Ho r=>∃b,Ho=[Itm.box b 43 [v]]∧ .func (.func 160) #[] #[.pointer (some ⟨b,0,none⟩)]=r)):=by
 obtain⟨a,c,rfl,_,_⟩:=h.len
 refine(callsIn_wide (n:=3)).1 ((values_in Fence.wide 3 trivial rfl a x.length c w).mono ?_)
 rintro e w' ⟨rfl,rfl⟩
 exact⟨_,rfl,G,[.box w.heap.size 43 [.slice a x.length c]],GLe.refl G,m.alloc 43 [.slice a x.length c],_,rfl,rfl⟩
open Go.Sx in
theorem Wk.V0 {W w:World}{G:GH}{H:List Itm}{b0:Nat}{v:Value}{x y:List Int}(m:Mem W G w (Itm.box b0 43 [v]::H))(h:RSl (RI .i64) G v x)(hy:D.V0 x=some y):
  Calls Tryd.prog 176 #[.slice none 0 0,.func (.func 160) #[] #[.pointer (some ⟨b0,0,none⟩)]] w (Res W G H (λG' Ho r=>∃r' it,Ho=[it]∧r'=r∧Go.Sx.Ow (RI .i64) 2 G' it r' y)):=by
 unfold D.V0 at hy
 split at hy
 ·rename_i hx
  obtain rfl:=Option.some.inj hy
  have hb0:w.heap[b0]? =some (.cells #[v] 43 (0,0)):=m.items 0 (.box b0 43 [v]) rfl
  have hc:w.cell? ⟨b0,0,none⟩=some v:=by simp[World.cell?,hb0]
  have hl:b0<w.heap.size:=(Array.getElem?_eq_some_iff.1 hb0).1
  have hI:Ints w.heap.size w v x:=by
   obtain⟨vs,hA,h⟩:=h
   rcases h with⟨rfl,rfl⟩|⟨⟨b,off,sp⟩,cap,rfl,h1,h2,h3⟩
   ·exact .inl ⟨⟨_,_,rfl⟩,rfl⟩
   ·rcases Nat.eq_zero_or_pos x.length with h0|h0
    ·refine .inl ⟨⟨_,_,by rw[h0]⟩,List.eq_nil_of_length_eq_zero h0⟩
    ·obtain⟨c,hc,_⟩:=hA.get (i:=0) (x:=x[0]) (by simp[h0])
     obtain⟨rfl,cs,t,f,k1,_⟩:=h3 0 c hc
     refine .inr ⟨b,off,cap,rfl,.inr (m.glt k1),λj hj=> ?_⟩
     obtain⟨c,hc,hR⟩:=hA.get (i:=j) (x:=x[j]) (by simp[hj])
     have:=(h3 j c hc).2.get m
     rw[this,show c= .int .i64 x[j] from hR]
     simp[hj]
  refine(callsIn_wide (n:=3)).1 ((AppendSeq_in Fence.wide 3 trivial trivial rfl (by omega) b0 v x (by unfold maxLen;omega) (by omega) w hl hc hI).mono ?_)
  rintro e w' ⟨r,rfl,hrow,hB⟩
  refine⟨_,rfl,G,[.row r 2 1 x.length (x.map (Value.int .i64))],GLe.refl G,?_,r,_,rfl,rfl,x.map (Value.int .i64),rfl,by simp,λi c z h1 h2=> ?_⟩
  ·refine m.tail.add hB.os hB.tape hB.output (λz hz=>hB.block z hz) ?_ ?_
   ·refine⟨hrow.1,?_⟩
    rcases hrow.2 with hn|⟨g,cap,cur,e1,_,e3⟩
    ·exact .inl hn
    ·exact .inr ⟨g,cap,cur,e1,Nat.zero_le _,e3⟩
   ·intro z hz
    rcases hrow.2 with⟨rfl,_⟩|⟨g,cap,cur,rfl,e2,e3⟩
    ·simp[Itm.foot,Value.ownBlock] at hz
    ·simp[Itm.foot,Value.ownBlock] at hz;omega
  ·rw[List.getElem?_map,h2] at h1
   exact(Option.some.inj h1).symm
 ·cases hy
end YtfmaahgchbfbiaaDoor
end Go.Proofs



namespace Go.Sx
end Go.Sx

namespace Go.Sx.Gs
class Srtd (α:Type) where
 dflt:α
 key:α→Int
 good:α→Prop
 cmp:α→α→Option Int
 law:∀x y,good x→good y→∃v,cmp x y=some v∧decide (v<0)=decide (key x<key y)
variable {α : Type} [Srtd α]
def el (l:List α)(i:Int):α:=l.getD i.toNat Srtd.dflt
def at' (l:List α)(i:Int):Int:=Srtd.key (el l i)
theorem el_set {l:List α}{i k:Int}{x:α}(h0:0≤i)(h1:i<l.length)(hk:0≤k):el (l.set i.toNat x) k=if k=i then x else el l k:=by
 unfold el
 by_cases h:k=i
 ·subst h
  have:k.toNat<l.length:=by omega
  simp[this]
 ·rw[if_neg h]
  have:i.toNat≠k.toNat:=by omega
  simp[List.getD_eq_getElem?_getD,List.getElem?_set_ne this]
def sw (l:List α)(i j:Int):List α:=(l.set i.toNat (el l j)).set j.toNat (el l i)
theorem sw_len (l:List α)(i j:Int):(sw l i j).length=l.length:=by simp[sw]
theorem BN {l:List α}{i j k:Int}(hi:0≤i)(hi':i<l.length)(hj:0≤j)(hj':j<l.length)(hk:0≤k):
  at' (sw l i j) k=if k=j then at' l i else if k=i then at' l j else at' l k:=by
 unfold sw at'
 rw[el_set hj (by simpa using hj') hk]
 split
 ·rfl
 ·rw[el_set hi hi' hk]
  split<;>rfl
omit [Srtd α] in
theorem BG (z:α):∀(l:List α) (j:Nat),j<l.length→List.Perm (l.set j z) (z::l.eraseIdx j)
 |[],j,h=>by simp at h
 |x::l,0,_=>by simp
 |x::l,j+1,h=>by
  simp only[List.set_cons_succ,List.eraseIdx_cons_succ]
  exact((BG z l j (by simpa using h)).cons x).trans (List.Perm.swap _ _ _)
omit [Srtd α] in
theorem C9 (l:List α)(j:Nat)(h:j<l.length):List.Perm l (l[j]::l.eraseIdx j):=by
 have:=BG l[j] l j h
 rwa [List.set_getElem_self] at this
omit [Srtd α] in
theorem DG :∀(l:List α) (i j:Nat) (x y:α),l[i]? =some x→l[j]? =some y→List.Perm ((l.set i y).set j x) l
 |[],i,j,x,y,h,_=>by simp at h
 |z::l,0,0,x,y,h,h'=>by simp at h h';subst h;simp
 |z::l,0,j+1,x,y,h,h'=>by
  simp at h h'
  subst h
  simp only[List.set_cons_zero,List.set_cons_succ]
  obtain⟨hj,rfl⟩:=List.getElem?_eq_some_iff.1 h'
  have h1:=BG z l j hj
  have h2:=C9 l j hj
  exact((h1.cons _).trans (List.Perm.swap _ _ _)).trans (h2.symm.cons z)
 |z::l,i+1,0,x,y,h,h'=>by
  simp at h h'
  subst h'
  simp only[List.set_cons_zero,List.set_cons_succ]
  obtain⟨hj,rfl⟩:=List.getElem?_eq_some_iff.1 h
  have h1:=BG z l i hj
  have h2:=C9 l i hj
  exact((h1.cons _).trans (List.Perm.swap _ _ _)).trans (h2.symm.cons z)
 |z::l,i+1,j+1,x,y,h,h'=>by
  simp at h h'
  simp only[List.set_cons_succ]
  exact(DG l i j x y h h').cons z
theorem sw_perm {l:List α}{i j:Int}(hi:0≤i)(hi':i<l.length)(hj:0≤j)(hj':j<l.length):List.Perm (sw l i j) l:=by
 have h1:i.toNat<l.length:=by omega
 have h2:j.toNat<l.length:=by omega
 exact DG l i.toNat j.toNat _ _ (by simp[el,h1]) (by simp[el,h2])
structure Rg (a b:Int)(l l':List α):Prop where
 len:l'.length=l.length
 perm:List.Perm l' l
 out:∀k,0≤k→(k<a∨b≤k)→at' l' k=at' l k
 all:∀Q:Int→Prop,(∀k,a≤k→k<b→Q (at' l k))→∀k,a≤k→k<b→Q (at' l' k)
theorem Rg.refl (a b:Int)(l:List α):Rg a b l l:=⟨rfl,List.Perm.refl _,λ_ _ _=>rfl,λ_ h=>h⟩
theorem Rg.trans {a b:Int}{l l' l'':List α}(h:Rg a b l l')(h':Rg a b l' l''):Rg a b l l'':=
 ⟨h'.len.trans h.len,h'.perm.trans h.perm,λk h0 hk=>(h'.out k h0 hk).trans (h.out k h0 hk),λQ hQ=>h'.all Q (h.all Q hQ)⟩
theorem Rg.swap {a b i j:Int}{l:List α}(ha:0≤a)(hb:b≤l.length)(hi:a≤i)(hi':i<b)(hj:a≤j)(hj':j<b):Rg a b l (sw l i j):=by
 refine⟨sw_len _ _ _,sw_perm (by omega) (by omega) (by omega) (by omega),λk h0 hk=> ?_,λQ hQ k h1 h2=> ?_⟩
 ·rw[BN (by omega) (by omega) (by omega) (by omega) h0,if_neg (by omega),if_neg (by omega)]
 ·rw[BN (by omega) (by omega) (by omega) (by omega) (by omega)]
  split
  ·exact hQ i hi hi'
  ·split
   ·exact hQ j hj hj'
   ·exact hQ k h1 h2
def Good (l:List α):Prop:=∀x∈l,Srtd.good x
theorem Rg.good {a b:Int}{l l':List α}(h:Rg a b l l')(hg:Good l):Good l':=λx hx=>hg x (h.perm.mem_iff.1 hx)
end Go.Sx.Gs

namespace Go.Sx.Gs
variable {α : Type} [Srtd α]
end Go.Sx.Gs

namespace Go.Sx.Gs
variable {α : Type} [Srtd α]
structure Parted (l0 l':List α)(a b mid:Int):Prop where
 rg:Rg a b l0 l'
 lo:a≤mid
 hi:mid<b
 left:∀k,a≤k→k<mid→at' l' k≤at' l' mid
 right:∀k,mid<k→k<b→at' l' mid≤at' l' k
end Go.Sx.Gs

namespace Go.Sx.Gs
variable {α : Type} [Srtd α]
end Go.Sx.Gs

namespace Go.Sx
def at' (l:LI)(i:Int):Int:=l.getD i.toNat 0
theorem Bl {l:LI}{i:Int}(h0:0≤i)(h1:i<l.length):idx l i=some (at' l i):=by
 unfold idx at'
 rw[if_pos h0]
 have:i.toNat<l.length:=by omega
 simp[this]
theorem at_set {l:LI}{i k x:Int}(h0:0≤i)(h1:i<l.length)(hk:0≤k):at' (l.set i.toNat x) k=if k=i then x else at' l k:=by
 unfold at'
 by_cases h:k=i
 ·subst h
  have:k.toNat<l.length:=by omega
  simp[this]
 ·rw[if_neg h]
  have:i.toNat≠k.toNat:=by omega
  simp[List.getD_eq_getElem?_getD,List.getElem?_set_ne this]
def sw (l:LI)(i j:Int):LI:=(l.set i.toNat (at' l j)).set j.toNat (at' l i)
theorem sw_len (l:LI)(i j:Int):(sw l i j).length=l.length:=by simp[sw]
theorem BN {l:LI}{i j k:Int}(hi:0≤i)(hi':i<l.length)(hj:0≤j)(hj':j<l.length)(hk:0≤k):
  at' (sw l i j) k=if k=j then at' l i else if k=i then at' l j else at' l k:=by
 unfold sw
 rw[at_set hj (by simpa using hj') hk]
 split
 ·rfl
 ·rw[at_set hi hi' hk]
theorem BG (z:Int):∀(l:LI) (j:Nat),j<l.length→List.Perm (l.set j z) (z::l.eraseIdx j)
 |[],j,h=>by simp at h
 |x::l,0,_=>by simp
 |x::l,j+1,h=>by
  simp only[List.set_cons_succ,List.eraseIdx_cons_succ]
  exact((BG z l j (by simpa using h)).cons x).trans (List.Perm.swap _ _ _)
theorem C9 (l:LI)(j:Nat)(h:j<l.length):List.Perm l (l[j]::l.eraseIdx j):=by
 have:=BG l[j] l j h
 rwa [List.set_getElem_self] at this
theorem DG :∀(l:LI) (i j:Nat) (x y:Int),l[i]? =some x→l[j]? =some y→List.Perm ((l.set i y).set j x) l
 |[],i,j,x,y,h,_=>by simp at h
 |z::l,0,0,x,y,h,h'=>by simp at h h';subst h;simp
 |z::l,0,j+1,x,y,h,h'=>by
  simp at h h'
  subst h
  simp only[List.set_cons_zero,List.set_cons_succ]
  obtain⟨hj,rfl⟩:=List.getElem?_eq_some_iff.1 h'
  have h1:=BG z l j hj
  have h2:=C9 l j hj
  exact((h1.cons _).trans (List.Perm.swap _ _ _)).trans (h2.symm.cons z)
 |z::l,i+1,0,x,y,h,h'=>by
  simp at h h'
  subst h'
  simp only[List.set_cons_zero,List.set_cons_succ]
  obtain⟨hj,rfl⟩:=List.getElem?_eq_some_iff.1 h
  have h1:=BG z l i hj
  have h2:=C9 l i hj
  exact((h1.cons _).trans (List.Perm.swap _ _ _)).trans (h2.symm.cons z)
 |z::l,i+1,j+1,x,y,h,h'=>by
  simp at h h'
  simp only[List.set_cons_succ]
  exact(DG l i j x y h h').cons z
theorem sw_perm {l:LI}{i j:Int}(hi:0≤i)(hi':i<l.length)(hj:0≤j)(hj':j<l.length):List.Perm (sw l i j) l:=by
 have h1:i.toNat<l.length:=by omega
 have h2:j.toNat<l.length:=by omega
 exact DG l i.toNat j.toNat _ _ (by simp[at',h1]) (by simp[at',h2])
structure Rg (a b:Int)(l l':LI):Prop where
 len:l'.length=l.length
 perm:List.Perm l' l
 out:∀k,0≤k→(k<a∨b≤k)→at' l' k=at' l k
 all:∀Q:Int→Prop,(∀k,a≤k→k<b→Q (at' l k))→∀k,a≤k→k<b→Q (at' l' k)
theorem Rg.refl (a b:Int)(l:LI):Rg a b l l:=⟨rfl,List.Perm.refl _,λ_ _ _=>rfl,λ_ h=>h⟩
theorem Rg.trans {a b:Int}{l l' l'':LI}(h:Rg a b l l')(h':Rg a b l' l''):Rg a b l l'':=
 ⟨h'.len.trans h.len,h'.perm.trans h.perm,λk h0 hk=>(h'.out k h0 hk).trans (h.out k h0 hk),λQ hQ=>h'.all Q (h.all Q hQ)⟩
theorem Rg.swap {a b i j:Int}{l:LI}(ha:0≤a)(hb:b≤l.length)(hi:a≤i)(hi':i<b)(hj:a≤j)(hj':j<b):Rg a b l (sw l i j):=by
 refine⟨sw_len _ _ _,sw_perm (by omega) (by omega) (by omega) (by omega),λk h0 hk=> ?_,λQ hQ k h1 h2=> ?_⟩
 ·rw[BN (by omega) (by omega) (by omega) (by omega) h0,if_neg (by omega),if_neg (by omega)]
 ·rw[BN (by omega) (by omega) (by omega) (by omega) (by omega)]
  split
  ·exact hQ i hi hi'
  ·split
   ·exact hQ j hj hj'
   ·exact hQ k h1 h2
theorem Rg.widen {a b a' b':Int}{l l':LI}(h:Rg a b l l')(ha:a'≤a)(hb:b≤b')(h0:0≤a'):Rg a' b' l l':=by
 refine⟨h.len,h.perm,λk h0 hk=>h.out k h0 (by omega),λQ hQ k h1 h2=> ?_⟩
 by_cases hk:a≤k∧k<b
 ·exact h.all Q (λk h3 h4=>hQ k (by omega) (by omega)) k hk.1 hk.2
 ·rw[h.out k (by omega) (by omega)];exact hQ k h1 h2
def Srt (l:LI)(a b:Int):Prop:=∀i j,a≤i→i<j→j<b→at' l i≤at' l j
theorem B8 (x y:Int):D.a x y=some (decide (x<y)):=by
 simp[D.a,D.U]
theorem B6 {l:LI}{i j x:Int}(h0:0≤i)(h1:i<l.length):idx (l.set j.toNat x) i=some (at' (l.set j.toNat x) i):=Bl h0 (by simpa using h1)
theorem ED (l0:LI)(a b:Int)(ha:0≤a)(hab:a≤b)(hb:b≤l0.length)(hlen:l0.length≤1000000):
  ∃l',D.q0 l0 a b=some l'∧Rg a b l0 l'∧Srt l' a b:=by
 unfold D.q0
 rw[w64 (show-9223372036854775808≤a+1 by omega) (by omega)]
 refine AS (λs=>Rg a b l0 s.1∧Srt s.1 a s.2∧a+1≤s.2∧s.2≤b+1) (λs=>(b-s.2).toNat) (λr=>Rg a b l0 r∧Srt r a b) ?_ ?_ ?_
 ·rintro⟨l,i⟩ ⟨hR,hS,h1,h2⟩
  dsimp only at hR hS h1 h2 ⊢
  have hll:=hR.len
  by_cases hi:i<b
  ·simp only[hi,decide_true,cond_true]
   rw[w64 (show-9223372036854775808≤i+1 by omega) (by omega)]
   refine AS (λs=>Rg a b l0 s.1∧a≤s.2∧s.2≤i∧∀p q,a≤p→p<q→q≤i→q≠s.2→at' s.1 p≤at' s.1 q) (λs=>(s.2-a).toNat) (λr=>Rg a b l0 r∧Srt r a (i+1)) ?_ ?_ ?_
   ·rintro⟨m,j⟩ ⟨hR',g1,g2,hS'⟩
    dsimp only at hR' g1 g2 hS' ⊢
    have hml:=hR'.len
    rw[w64 (show-9223372036854775808≤j-1 by omega) (by omega)]
    by_cases hj:a<j
    ·have r1:idx m j=some (at' m j):=Bl (by omega) (by omega)
     have r2:idx m (j-1)=some (at' m (j-1)):=Bl (by omega) (by omega)
     have r3:∀x,idx (m.set j.toNat x) (j-1)=some (at' (m.set j.toNat x) (j-1)):=λx=>B6 (by omega) (by omega)
     by_cases hlt:at' m j<at' m (j-1)
     ·refine⟨.inl (sw m j (j-1),j-1),?_,⟨hR'.trans (Rg.swap ha (by omega) (by omega) (by omega) (by omega) (by omega)),by dsimp only;omega,by dsimp only;omega,?_⟩,by dsimp only;omega⟩
      ·simp only[r1,r2,r3,hj,B8,hlt,decide_true,cond_true,bs]
       rfl
      ·intro p q k1 k2 k3 k4
       dsimp only at k4 ⊢
       rw[BN (by omega) (by omega) (by omega) (by omega) (by omega),BN (by omega) (by omega) (by omega) (by omega) (by omega)]
       by_cases c1:q=j
       ·subst c1
        rw[if_neg (show¬q=q-1 by omega),if_pos rfl]
        by_cases c2:p=q-1
        ·rw[if_pos c2];omega
        ·rw[if_neg c2,if_neg (by omega)]
         exact hS' p (q-1) k1 (by omega) (by omega) (by omega)
       ·rw[if_neg (show¬q=j-1 by omega),if_neg c1]
        by_cases c2:p=j-1
        ·rw[if_pos c2]
         exact hS' j q (by omega) (by omega) k3 c1
        ·rw[if_neg c2]
         by_cases c3:p=j
         ·rw[if_pos c3]
          exact hS' (j-1) q (by omega) (by omega) k3 c1
         ·rw[if_neg c3]
          exact hS' p q k1 k2 k3 c1
     ·refine⟨.inr m,?_,hR',?_⟩
      ·simp only[r1,r2,hj,B8,hlt,decide_true,decide_false,cond_true,cond_false,bs]
      ·intro p q k1 k2 k3
       by_cases c1:q=j
       ·subst c1
        by_cases c2:p=q-1
        ·subst c2;omega
        ·have:=hS' p (q-1) k1 (by omega) (by omega) (by omega)
         omega
       ·exact hS' p q k1 k2 (by omega) c1
    ·refine⟨.inr m,?_,hR',?_⟩
     ·simp only[hj,decide_false,cond_false,bs]
     ·intro p q k1 k2 k3
      exact hS' p q k1 k2 (by omega) (by omega)
   ·exact⟨hR,by dsimp only;omega,Int.le_refl _,λp q k1 k2 k3 k4=>hS p q k1 k2 (by dsimp only at k4 ⊢;omega)⟩
   ·rintro r ⟨hR',hS'⟩
    exact⟨.inl (r,i+1),rfl,⟨hR',hS',by dsimp only;omega,by dsimp only;omega⟩,by dsimp only;omega⟩
  ·refine⟨.inr l,by simp only[hi,decide_false,cond_false],hR,?_⟩
   intro p q k1 k2 k3
   exact hS p q k1 k2 (by omega)
 ·exact⟨Rg.refl _ _ _,λp q k1 k2 k3=>by dsimp only at k3;omega,by dsimp only;omega,by dsimp only;omega⟩
 ·rintro r hr
  exact⟨r,rfl,hr⟩
theorem ER (l0:LI)(a b:Int)(ha:0≤a)(hab:a≤b)(hb:b≤l0.length)(hlen:l0.length≤1000000):
  ∃l',D.t0 l0 a b=some l'∧Rg a b l0 l':=by
 unfold D.t0
 rw[w64 (show-9223372036854775808≤b-1 by omega) (by omega)]
 refine AS (λs=>Rg a b l0 s.1∧a≤s.2.1∧s.2.1≤b∧s.2.2<b∧a-1≤s.2.2) (λs=>(s.2.2-s.2.1).toNat) (λr=>Rg a b l0 r) ?_ ?_ ?_
 ·rintro⟨l,i,j⟩ ⟨hR,h1,h2,h3,h4⟩
  dsimp only at hR h1 h2 h3 h4 ⊢
  have hll:=hR.len
  by_cases hi:i<j
  ·have r1:idx l i=some (at' l i):=Bl (by omega) (by omega)
   have r2:idx l j=some (at' l j):=Bl (by omega) (by omega)
   have r3:∀x,idx (l.set i.toNat x) j=some (at' (l.set i.toNat x) j):=λx=>B6 (by omega) (by omega)
   rw[w64 (show-9223372036854775808≤i+1 by omega) (by omega),w64 (show-9223372036854775808≤j-1 by omega) (by omega)]
   refine⟨.inl (sw l i j,i+1,j-1),?_,⟨hR.trans (Rg.swap ha (by omega) (by omega) (by omega) (by omega) (by omega)),by dsimp only;omega,by dsimp only;omega,by dsimp only;omega,by dsimp only;omega⟩,by dsimp only;omega⟩
   simp only[r1,r2,r3,hi,decide_true,cond_true,bs]
   rfl
  ·exact⟨.inr l,by simp only[hi,decide_false,cond_false],hR⟩
 ·exact⟨Rg.refl _ _ _,by dsimp only;omega,by dsimp only;omega,by dsimp only;omega,by dsimp only;omega⟩
 ·rintro r hr
  exact⟨r,rfl,hr⟩
theorem scanUp {β:Type}{k:Int→Option β}{Q:β→Prop}(l:LI)(a hi i0:Int)(ha:0≤a)(ha':a<l.length)(h0:0≤i0)(h1:i0≤hi+1)(h2:hi<l.length)(hlen:l.length≤1000000)
  (hk:∀i,i0≤i→i≤hi+1→(∀q,i0≤q→q<i→at' l q<at' l a)→(i≤hi→¬at' l i<at' l a)→∃y,k i=some y∧Q y):
  ∃y,(Ar (σ:=Int) (ρ:=(Int)) (fun(x:Int)=>(cond (decide (x≤hi)) ((idx l x).bind λe=>(idx l a).bind λe'=>(D.a e e').bind λy=>some y) (some false)).bind λb=>cond b (some (.inl (IntKind.i64.wrap (x+1)))) (some (.inr x))) i0).bind k=some y∧Q y:=by
 refine AS (λi=>i0≤i∧i≤hi+1∧∀q,i0≤q→q<i→at' l q<at' l a) (λi=>(hi+1-i).toNat) (λi=>i0≤i∧i≤hi+1∧(∀q,i0≤q→q<i→at' l q<at' l a)∧(i≤hi→¬at' l i<at' l a)) ?_ ?_ ?_
 ·rintro i ⟨g1,g2,g3⟩
  by_cases hi':i≤hi
  ·have r1:idx l i=some (at' l i):=Bl (by omega) (by omega)
   have r2:idx l a=some (at' l a):=Bl (by omega) (by omega)
   by_cases hlt:at' l i<at' l a
   ·refine⟨.inl (i+1),?_,⟨by omega,by omega,λq q1 q2=> ?_⟩,by dsimp only;omega⟩
    ·simp only[r1,r2,hi',B8,hlt,decide_true,cond_true,bs]
     rw[w64 (by omega) (by omega)]
    ·by_cases e:q=i
     ·rw[e];exact hlt
     ·exact g3 q q1 (by omega)
   ·exact⟨.inr i,by simp only[r1,r2,hi',B8,hlt,decide_true,decide_false,cond_true,cond_false,bs],g1,g2,g3,λ_=>hlt⟩
  ·exact⟨.inr i,by simp only[hi',decide_false,cond_false,bs],g1,g2,g3,λh=>absurd h hi'⟩
 ·exact⟨Int.le_refl _,h1,λq q1 q2=>by omega⟩
 ·rintro i ⟨g1,g2,g3,g4⟩
  exact hk i g1 g2 g3 g4
theorem scanDown {β:Type}{k:Int→Option β}{Q:β→Prop}(l:LI)(a lo j0:Int)(ha:0≤a)(ha':a<l.length)(h0:0≤lo)(h1:lo≤j0+1)(h2:j0<l.length)(hlen:l.length≤1000000)
  (hk:∀j,lo≤j+1→j≤j0→(∀q,j<q→q≤j0→¬at' l q<at' l a)→(lo≤j→at' l j<at' l a)→∃y,k j=some y∧Q y):
  ∃y,(Ar (σ:=Int) (ρ:=(Int)) (fun(x:Int)=>(cond (decide (lo≤x)) ((idx l x).bind λe=>(idx l a).bind λe'=>(D.a e e').bind λy=>some (!y)) (some false)).bind λb=>cond b (some (.inl (IntKind.i64.wrap (x-1)))) (some (.inr x))) j0).bind k=some y∧Q y:=by
 refine AS (λj=>lo≤j+1∧j≤j0∧∀q,j<q→q≤j0→¬at' l q<at' l a) (λj=>(j+1-lo).toNat) (λj=>lo≤j+1∧j≤j0∧(∀q,j<q→q≤j0→¬at' l q<at' l a)∧(lo≤j→at' l j<at' l a)) ?_ ?_ ?_
 ·rintro j ⟨g1,g2,g3⟩
  by_cases hi':lo≤j
  ·have r1:idx l j=some (at' l j):=Bl (by omega) (by omega)
   have r2:idx l a=some (at' l a):=Bl (by omega) (by omega)
   by_cases hlt:at' l j<at' l a
   ·exact⟨.inr j,by simp only[r1,r2,hi',B8,hlt,decide_true,Bool.not_true,cond_true,cond_false,bs],g1,g2,g3,λ_=>hlt⟩
   ·refine⟨.inl (j-1),?_,⟨by omega,by omega,λq q1 q2=> ?_⟩,by dsimp only;omega⟩
    ·simp only[r1,r2,hi',B8,hlt,decide_true,decide_false,Bool.not_false,cond_true,bs]
     rw[w64 (by omega) (by omega)]
    ·by_cases e:q=j
     ·rw[e];exact hlt
     ·exact g3 q (by omega) q2
  ·exact⟨.inr j,by simp only[hi',decide_false,cond_false,bs],g1,g2,g3,λh=>absurd h hi'⟩
 ·exact⟨h1,Int.le_refl _,λq q1 q2=>by omega⟩
 ·rintro j ⟨g1,g2,g3,g4⟩
  exact hk j g1 g2 g3 g4
structure Parted (l0 l':LI)(a b mid:Int):Prop where
 rg:Rg a b l0 l'
 lo:a≤mid
 hi:mid<b
 left:∀k,a≤k→k<mid→at' l' k≤at' l' mid
 right:∀k,mid<k→k<b→at' l' mid≤at' l' k
theorem partition_spec (l0:LI)(a b p:Int)(ha:0≤a)(hb:b≤l0.length)(hlen:l0.length≤1000000)(hp:a≤p)(hp':p<b):
  ∃y,D.s0 l0 a b p=some y∧Parted l0 y.2.2 a b y.1:=by
 unfold D.s0
 have r1:idx l0 p=some (at' l0 p):=Bl (by omega) (by omega)
 have r2:idx l0 a=some (at' l0 a):=Bl (by omega) (by omega)
 have r3:∀x,idx (l0.set a.toNat x) p=some (at' (l0.set a.toNat x) p):=λx=>B6 (by omega) (by omega)
 simp only[r1,r2,r3,bs]
 rw[show (l0.set a.toNat (at' l0 p)).set p.toNat (at' l0 a)=sw l0 a p from rfl]
 have hR0:Rg a b l0 (sw l0 a p):=Rg.swap ha hb (by omega) (by omega) hp hp'
 generalize sw l0 a p=m0 at hR0 ⊢
 have hm0:=hR0.len
 rw[w64 (show-9223372036854775808≤b-1 by omega) (by omega),w64 (show-9223372036854775808≤a+1 by omega) (by omega)]
 refine scanUp m0 a (b-1) (a+1) ha (by omega) (by omega) (by omega) (by omega) (by omega) (λi i1 i2 i3 i4=> ?_)
 refine scanDown m0 a i (b-1) ha (by omega) (by omega) (by omega) (by omega) (by omega) (λj j1 j2 j3 j4=> ?_)
 have q1:idx m0 a=some (at' m0 a):=Bl (by omega) (by omega)
 have q2:idx m0 j=some (at' m0 j):=Bl (by omega) (by omega)
 by_cases hij:j<i
 ·have q3:∀x,idx (m0.set j.toNat x) a=some (at' (m0.set j.toNat x) a):=λx=>B6 (by omega) (by omega)
  refine⟨(j,true,sw m0 j a),?_,⟨hR0.trans (Rg.swap ha (by omega) (by omega) (by omega) (by omega) (by omega)),by dsimp only;omega,by dsimp only;omega,λk k1 k2=> ?_,λk k1 k2=> ?_⟩⟩
  ·simp only[q1,q2,q3,hij,decide_true,cond_true,bs]
   rfl
  ·dsimp only at k1 k2 ⊢
   rw[BN (by omega) (by omega) (by omega) (by omega) (by omega),BN (by omega) (by omega) (by omega) (by omega) (by omega)]
   rw[if_neg (show¬j=a by omega),if_pos rfl]
   by_cases e:k=a
   ·rw[if_pos e]
    have:=i3 j (by omega) (by omega);omega
   ·rw[if_neg e,if_neg (by omega)]
    have:=i3 k (by omega) (by omega);omega
  ·dsimp only at k1 k2 ⊢
   rw[BN (by omega) (by omega) (by omega) (by omega) (by omega),BN (by omega) (by omega) (by omega) (by omega) (by omega)]
   rw[if_neg (show¬k=a by omega),if_neg (show¬k=j by omega)]
   have hk:=j3 k (by omega) (by omega)
   by_cases e:j=a
   ·rw[if_pos e];subst e;omega
   ·rw[if_neg e,if_pos rfl];omega
 ·have q4:idx m0 i=some (at' m0 i):=Bl (by omega) (by omega)
  have q5:∀x,idx (m0.set i.toNat x) j=some (at' (m0.set i.toNat x) j):=λx=>B6 (by omega) (by omega)
  simp only[q1,q2,q4,q5,hij,decide_false,cond_false,bs]
  rw[show (m0.set i.toNat (at' m0 j)).set j.toNat (at' m0 i)=sw m0 i j from rfl]
  have hia:=i4 (by omega)
  have hja:=j4 (by omega)
  have hne:i<j:=by
   rcases Int.lt_or_eq_of_le (show i≤j by omega) with h|h
   ·exact h
   ·subst h;exact absurd hja hia
  have hR1:Rg a b l0 (sw m0 i j):=hR0.trans (Rg.swap ha (by omega) (by omega) (by omega) (by omega) (by omega))
  have ea:at' (sw m0 i j) a=at' m0 a:=by rw[BN (by omega) (by omega) (by omega) (by omega) (by omega),if_neg (by omega),if_neg (by omega)]
  have hlo:∀q,a+1≤q→q<i+1→at' (sw m0 i j) q<at' (sw m0 i j) a:=λq h1 h2=>by
   rw[ea,BN (by omega) (by omega) (by omega) (by omega) (by omega),if_neg (by omega)]
   by_cases e:q=i
   ·rw[if_pos e];exact hja
   ·rw[if_neg e];exact i3 q h1 (by omega)
  have hhi:∀q,j-1<q→q<b→¬at' (sw m0 i j) q<at' (sw m0 i j) a:=λq h1 h2=>by
   rw[ea,BN (by omega) (by omega) (by omega) (by omega) (by omega)]
   by_cases e:q=j
   ·rw[if_pos e];exact hia
   ·rw[if_neg e,if_neg (by omega)];exact j3 q (by omega) (by omega)
  rw[w64 (show-9223372036854775808≤i+1 by omega) (by omega),w64 (show-9223372036854775808≤j-1 by omega) (by omega)]
  generalize sw m0 i j=m1 at hR1 hlo hhi ⊢
  refine AS (λs=>Rg a b l0 s.1∧a+1≤s.2.1∧s.2.1≤s.2.2+1∧s.2.2<b∧(∀q,a+1≤q→q<s.2.1→at' s.1 q<at' s.1 a)∧(∀q,s.2.2<q→q<b→¬at' s.1 q<at' s.1 a)) (λs=>(s.2.2+1-s.2.1).toNat)
   (λs=>Rg a b l0 s.1∧a≤s.2∧s.2<b∧(∀q,a+1≤q→q≤s.2→at' s.1 q<at' s.1 a)∧(∀q,s.2<q→q<b→¬at' s.1 q<at' s.1 a)) ?_ ?_ ?_
  ·rintro⟨m,u,v⟩ ⟨hR,g1,g2,g3,g4,g5⟩
   dsimp only at hR g1 g2 g3 g4 g5 ⊢
   have hml:=hR.len
   refine scanUp m a v u ha (by omega) (by omega) (by omega) (by omega) (by omega) (λi i1 i2 i3 i4=> ?_)
   refine scanDown m a i v ha (by omega) (by omega) (by omega) (by omega) (by omega) (λj j1 j2 j3 j4=> ?_)
   have f1:∀q,a+1≤q→q<i→at' m q<at' m a:=λq h1 h2=>by
    by_cases h:q<u
    ·exact g4 q h1 h
    ·exact i3 q (by omega) h2
   have f2:∀q,j<q→q<b→¬at' m q<at' m a:=λq h1 h2=>by
    by_cases h:q≤v
    ·exact j3 q h1 h
    ·exact g5 q (by omega) h2
   by_cases hij:j<i
   ·exact⟨.inr (m,j),by simp only[hij,decide_true,cond_true],hR,by dsimp only;omega,by dsimp only;omega,λq h1 h2=>f1 q h1 (by dsimp only at h2;omega),f2⟩
   ·have t1:idx m i=some (at' m i):=Bl (by omega) (by omega)
    have t2:idx m j=some (at' m j):=Bl (by omega) (by omega)
    have t3:∀x,idx (m.set i.toNat x) j=some (at' (m.set i.toNat x) j):=λx=>B6 (by omega) (by omega)
    have hia:=i4 (by omega)
    have hja:=j4 (by omega)
    have hne:i<j:=by
     rcases Int.lt_or_eq_of_le (show i≤j by omega) with h|h
     ·exact h
     ·subst h;exact absurd hja hia
    have ea:at' (sw m i j) a=at' m a:=by rw[BN (by omega) (by omega) (by omega) (by omega) (by omega),if_neg (by omega),if_neg (by omega)]
    rw[w64 (show-9223372036854775808≤i+1 by omega) (by omega),w64 (show-9223372036854775808≤j-1 by omega) (by omega)]
    refine⟨.inl (sw m i j,i+1,j-1),?_,⟨hR.trans (Rg.swap ha (by omega) (by omega) (by omega) (by omega) (by omega)),by dsimp only;omega,by dsimp only;omega,by dsimp only;omega,λq h1 h2=> ?_,λq h1 h2=> ?_⟩,by dsimp only;omega⟩
    ·simp only[t1,t2,t3,hij,decide_false,cond_false,bs]
     rfl
    ·dsimp only at h2 ⊢
     rw[ea,BN (by omega) (by omega) (by omega) (by omega) (by omega),if_neg (by omega)]
     by_cases e:q=i
     ·rw[if_pos e];exact hja
     ·rw[if_neg e];exact f1 q h1 (by omega)
    ·dsimp only at h1 ⊢
     rw[ea,BN (by omega) (by omega) (by omega) (by omega) (by omega)]
     by_cases e:q=j
     ·rw[if_pos e];exact hia
     ·rw[if_neg e,if_neg (by omega)];exact f2 q (by omega) h2
  ·exact⟨hR1,by dsimp only;omega,by dsimp only;omega,by dsimp only;omega,hlo,hhi⟩
  ·rintro⟨m,v⟩ ⟨hR,g1,g2,g3,g4⟩
   dsimp only at hR g1 g2 g3 g4 ⊢
   have hml:=hR.len
   have t1:idx m a=some (at' m a):=Bl (by omega) (by omega)
   have t2:idx m v=some (at' m v):=Bl (by omega) (by omega)
   have t3:∀x,idx (m.set v.toNat x) a=some (at' (m.set v.toNat x) a):=λx=>B6 (by omega) (by omega)
   refine⟨(v,false,sw m v a),?_,⟨hR.trans (Rg.swap ha (by omega) (by omega) (by omega) (by omega) (by omega)),g1,g2,λk k1 k2=> ?_,λk k1 k2=> ?_⟩⟩
   ·simp only[t1,t2,t3,bs]
    rfl
   ·dsimp only at k1 k2 ⊢
    rw[BN (by omega) (by omega) (by omega) (by omega) (by omega),BN (by omega) (by omega) (by omega) (by omega) (by omega)]
    rw[if_neg (show¬v=a by omega),if_pos rfl]
    by_cases e:k=a
    ·rw[if_pos e]
     have:=g3 v (by omega) (by omega);omega
    ·rw[if_neg e,if_neg (by omega)]
     have:=g3 k (by omega) (by omega);omega
   ·dsimp only at k1 k2 ⊢
    rw[BN (by omega) (by omega) (by omega) (by omega) (by omega),BN (by omega) (by omega) (by omega) (by omega) (by omega)]
    rw[if_neg (show¬k=a by omega),if_neg (show¬k=v by omega)]
    have hk:=g4 k (by omega) (by omega)
    by_cases e:v=a
    ·rw[if_pos e];subst e;omega
    ·rw[if_neg e,if_pos rfl];omega
theorem scanUp2 {β:Type}{k:Int→Option β}{Q:β→Prop}(l:LI)(a hi i0:Int)(ha:0≤a)(ha':a<l.length)(h0:0≤i0)(h1:i0≤hi+1)(h2:hi<l.length)(hlen:l.length≤1000000)
  (hk:∀i,i0≤i→i≤hi+1→(∀q,i0≤q→q<i→¬at' l a<at' l q)→(i≤hi→at' l a<at' l i)→∃y,k i=some y∧Q y):
  ∃y,(Ar (σ:=Int) (ρ:=(Int)) (fun(x:Int)=>(cond (decide (x≤hi)) ((idx l a).bind λe=>(idx l x).bind λe'=>(D.a e e').bind λy=>some (!y)) (some false)).bind λb=>cond b (some (.inl (IntKind.i64.wrap (x+1)))) (some (.inr x))) i0).bind k=some y∧Q y:=by
 refine AS (λi=>i0≤i∧i≤hi+1∧∀q,i0≤q→q<i→¬at' l a<at' l q) (λi=>(hi+1-i).toNat) (λi=>i0≤i∧i≤hi+1∧(∀q,i0≤q→q<i→¬at' l a<at' l q)∧(i≤hi→at' l a<at' l i)) ?_ ?_ ?_
 ·rintro i ⟨g1,g2,g3⟩
  by_cases hi':i≤hi
  ·have r1:idx l i=some (at' l i):=Bl (by omega) (by omega)
   have r2:idx l a=some (at' l a):=Bl (by omega) (by omega)
   by_cases hlt:at' l a<at' l i
   ·exact⟨.inr i,by simp only[r1,r2,hi',B8,hlt,decide_true,Bool.not_true,cond_true,cond_false,bs],g1,g2,g3,λ_=>hlt⟩
   ·refine⟨.inl (i+1),?_,⟨by omega,by omega,λq q1 q2=> ?_⟩,by dsimp only;omega⟩
    ·simp only[r1,r2,hi',B8,hlt,decide_true,decide_false,Bool.not_false,cond_true,bs]
     rw[w64 (by omega) (by omega)]
    ·by_cases e:q=i
     ·rw[e];exact hlt
     ·exact g3 q q1 (by omega)
  ·exact⟨.inr i,by simp only[hi',decide_false,cond_false,bs],g1,g2,g3,λh=>absurd h hi'⟩
 ·exact⟨Int.le_refl _,h1,λq q1 q2=>by omega⟩
 ·rintro i ⟨g1,g2,g3,g4⟩
  exact hk i g1 g2 g3 g4
theorem scanDown2 {β:Type}{k:Int→Option β}{Q:β→Prop}(l:LI)(a lo j0:Int)(ha:0≤a)(ha':a<l.length)(h0:0≤lo)(h1:lo≤j0+1)(h2:j0<l.length)(hlen:l.length≤1000000)
  (hk:∀j,lo≤j+1→j≤j0→(∀q,j<q→q≤j0→at' l a<at' l q)→(lo≤j→¬at' l a<at' l j)→∃y,k j=some y∧Q y):
  ∃y,(Ar (σ:=Int) (ρ:=(Int)) (fun(x:Int)=>(cond (decide (lo≤x)) ((idx l a).bind λe=>(idx l x).bind λe'=>(D.a e e').bind λy=>some y) (some false)).bind λb=>cond b (some (.inl (IntKind.i64.wrap (x-1)))) (some (.inr x))) j0).bind k=some y∧Q y:=by
 refine AS (λj=>lo≤j+1∧j≤j0∧∀q,j<q→q≤j0→at' l a<at' l q) (λj=>(j+1-lo).toNat) (λj=>lo≤j+1∧j≤j0∧(∀q,j<q→q≤j0→at' l a<at' l q)∧(lo≤j→¬at' l a<at' l j)) ?_ ?_ ?_
 ·rintro j ⟨g1,g2,g3⟩
  by_cases hi':lo≤j
  ·have r1:idx l j=some (at' l j):=Bl (by omega) (by omega)
   have r2:idx l a=some (at' l a):=Bl (by omega) (by omega)
   by_cases hlt:at' l a<at' l j
   ·refine⟨.inl (j-1),?_,⟨by omega,by omega,λq q1 q2=> ?_⟩,by dsimp only;omega⟩
    ·simp only[r1,r2,hi',B8,hlt,decide_true,cond_true,bs]
     rw[w64 (by omega) (by omega)]
    ·by_cases e:q=j
     ·rw[e];exact hlt
     ·exact g3 q (by omega) q2
   ·exact⟨.inr j,by simp only[r1,r2,hi',B8,hlt,decide_true,decide_false,cond_true,cond_false,bs],g1,g2,g3,λ_=>hlt⟩
  ·exact⟨.inr j,by simp only[hi',decide_false,cond_false,bs],g1,g2,g3,λh=>absurd h hi'⟩
 ·exact⟨h1,Int.le_refl _,λq q1 q2=>by omega⟩
 ·rintro j ⟨g1,g2,g3,g4⟩
  exact hk j g1 g2 g3 g4
theorem Eu (l0:LI)(a b p:Int)(ha:0≤a)(hb:b≤l0.length)(hlen:l0.length≤1000000)(hp:a≤p)(hp':p<b):
  ∃y,D.e0 l0 a b p=some y∧Rg a b l0 y.2∧a<y.1∧y.1≤b∧(∀k,a≤k→k<y.1→at' y.2 k≤at' l0 p)∧(∀k,y.1≤k→k<b→at' l0 p<at' y.2 k):=by
 unfold D.e0
 have r1:idx l0 p=some (at' l0 p):=Bl (by omega) (by omega)
 have r2:idx l0 a=some (at' l0 a):=Bl (by omega) (by omega)
 have r3:∀x,idx (l0.set a.toNat x) p=some (at' (l0.set a.toNat x) p):=λx=>B6 (by omega) (by omega)
 simp only[r1,r2,r3,bs]
 rw[show (l0.set a.toNat (at' l0 p)).set p.toNat (at' l0 a)=sw l0 a p from rfl]
 have hR0:Rg a b l0 (sw l0 a p):=Rg.swap ha hb (by omega) (by omega) hp hp'
 have ep:at' (sw l0 a p) a=at' l0 p:=by
  rw[BN (by omega) (by omega) (by omega) (by omega) (by omega)]
  by_cases e:a=p
  ·rw[if_pos e,e]
  ·rw[if_neg e,if_pos rfl]
 generalize sw l0 a p=m0 at hR0 ep ⊢
 rw[w64 (show-9223372036854775808≤b-1 by omega) (by omega),w64 (show-9223372036854775808≤a+1 by omega) (by omega)]
 refine AS (λs=>Rg a b l0 s.1∧a+1≤s.2.1∧s.2.1≤s.2.2+1∧s.2.2<b∧at' s.1 a=at' l0 p∧(∀q,a+1≤q→q<s.2.1→¬at' s.1 a<at' s.1 q)∧(∀q,s.2.2<q→q<b→at' s.1 a<at' s.1 q)) (λs=>(s.2.2+1-s.2.1).toNat)
  (λs=>Rg a b l0 s.1∧a+1≤s.2∧s.2≤b∧at' s.1 a=at' l0 p∧(∀q,a+1≤q→q<s.2→¬at' s.1 a<at' s.1 q)∧(∀q,s.2≤q→q<b→at' s.1 a<at' s.1 q)) ?_ ?_ ?_
 ·rintro⟨m,u,v⟩ ⟨hR,g1,g2,g3,g6,g4,g5⟩
  dsimp only at hR g1 g2 g3 g4 g5 g6 ⊢
  have hml:=hR.len
  refine scanUp2 m a v u ha (by omega) (by omega) (by omega) (by omega) (by omega) (λi i1 i2 i3 i4=> ?_)
  refine scanDown2 m a i v ha (by omega) (by omega) (by omega) (by omega) (by omega) (λj j1 j2 j3 j4=> ?_)
  have f1:∀q,a+1≤q→q<i→¬at' m a<at' m q:=λq h1 h2=>by
   by_cases h:q<u
   ·exact g4 q h1 h
   ·exact i3 q (by omega) h2
  have f2:∀q,j<q→q<b→at' m a<at' m q:=λq h1 h2=>by
   by_cases h:q≤v
   ·exact j3 q h1 h
   ·exact g5 q (by omega) h2
  by_cases hij:j<i
  ·exact⟨.inr (m,i),by simp only[hij,decide_true,cond_true],hR,by dsimp only;omega,by dsimp only;omega,g6,f1,λq h1 h2=>f2 q (by dsimp only at h1;omega) h2⟩
  ·have t1:idx m i=some (at' m i):=Bl (by omega) (by omega)
   have t2:idx m j=some (at' m j):=Bl (by omega) (by omega)
   have t3:∀x,idx (m.set i.toNat x) j=some (at' (m.set i.toNat x) j):=λx=>B6 (by omega) (by omega)
   have hia:=i4 (by omega)
   have hja:=j4 (by omega)
   have hne:i<j:=by
    rcases Int.lt_or_eq_of_le (show i≤j by omega) with h|h
    ·exact h
    ·subst h;exact absurd hia hja
   have ea:at' (sw m i j) a=at' m a:=by rw[BN (by omega) (by omega) (by omega) (by omega) (by omega),if_neg (by omega),if_neg (by omega)]
   rw[w64 (show-9223372036854775808≤i+1 by omega) (by omega),w64 (show-9223372036854775808≤j-1 by omega) (by omega)]
   refine⟨.inl (sw m i j,i+1,j-1),?_,⟨hR.trans (Rg.swap ha (by omega) (by omega) (by omega) (by omega) (by omega)),by dsimp only;omega,by dsimp only;omega,by dsimp only;omega,by dsimp only;rw[ea];exact g6,λq h1 h2=> ?_,λq h1 h2=> ?_⟩,by dsimp only;omega⟩
   ·simp only[t1,t2,t3,hij,decide_false,cond_false,bs]
    rfl
   ·dsimp only at h2 ⊢
    rw[ea,BN (by omega) (by omega) (by omega) (by omega) (by omega),if_neg (by omega)]
    by_cases e:q=i
    ·rw[if_pos e];exact hja
    ·rw[if_neg e];exact f1 q h1 (by omega)
   ·dsimp only at h1 ⊢
    rw[ea,BN (by omega) (by omega) (by omega) (by omega) (by omega)]
    by_cases e:q=j
    ·rw[if_pos e];exact hia
    ·rw[if_neg e,if_neg (by omega)];exact f2 q (by omega) h2
 ·exact⟨hR0,by dsimp only;omega,by dsimp only;omega,by dsimp only;omega,ep,λq h1 h2=>by dsimp only at h2;omega,λq h1 h2=>by dsimp only at h1;omega⟩
 ·rintro⟨m,v⟩ ⟨hR,g1,g2,g3,g4,g5⟩
  refine⟨(v,m),rfl,hR,by dsimp only at*;omega,g2,λk k1 k2=> ?_,λk k1 k2=> ?_⟩
  ·dsimp only at*
   by_cases e:k=a
   ·rw[e,g3];exact Int.le_refl _
   ·have:=g4 k (by omega) k2;omega
  ·dsimp only at*
   have:=g5 k k1 k2;omega
theorem DY (l:LI)(a b s:Int)(ha:0≤a)(ha':a<l.length)(hb:0≤b)(hb':b<l.length):
  ∃y,D.v l a b s=some y∧y.2.2.1=l∧((y.1=a∧y.2.1=b)∨(y.1=b∧y.2.1=a)):=by
 have r1:idx l a=some (at' l a):=Bl ha ha'
 have r2:idx l b=some (at' l b):=Bl hb hb'
 unfold D.v
 simp only[r1,r2,B8,bs]
 by_cases h:at' l b<at' l a
 ·simp only[h,decide_true,cond_true];exact⟨_,rfl,rfl,.inr ⟨rfl,rfl⟩⟩
 ·simp only[h,decide_false,cond_false];exact⟨_,rfl,rfl,.inl ⟨rfl,rfl⟩⟩
theorem median_spec (l:LI)(a b c s:Int)(ha:0≤a)(ha':a<l.length)(hb:0≤b)(hb':b<l.length)(hc:0≤c)(hc':c<l.length):
  ∃y,D.Q l a b c s=some y∧y.2.1=l∧(y.1=a∨y.1=b∨y.1=c):=by
 unfold D.Q
 obtain⟨y1,h1,e1,c1⟩:=DY l a b s ha ha' hb hb'
 rw[h1,bs,e1]
 have b1:0≤y1.2.1∧y1.2.1<l.length∧0≤y1.1∧y1.1<l.length:=by rcases c1 with⟨c,d⟩|⟨c,d⟩<;>rw[c,d]<;>exact⟨by assumption,by assumption,by assumption,by assumption⟩
 obtain⟨y2,h2,e2,c2⟩:=DY l y1.2.1 c y1.2.2.2 b1.1 b1.2.1 hc hc'
 rw[h2,bs,e2]
 have b2:0≤y2.1∧y2.1<l.length:=by rcases c2 with⟨c,d⟩|⟨c,d⟩<;>rw[c]<;>exact⟨by omega,by omega⟩
 obtain⟨y3,h3,e3,c3⟩:=DY l y1.1 y2.1 y2.2.2.2 b1.2.2.1 b1.2.2.2 b2.1 b2.2
 rw[h3,bs]
 refine⟨_,rfl,e3,?_⟩
 dsimp only
 omega
theorem E1 (l:LI)(a b:Int)(ha:0≤a)(hb:b≤l.length)(h8:8≤b-a)(h50:b-a<50)(hlen:l.length≤1000000):
  ∃y,D.A0 l a b=some y∧y.2.2=l∧a≤y.1∧y.1<b:=by
 unfold D.A0
 rw[w64 (show-9223372036854775808≤b-a by omega) (by omega)]
 have e4:(b-a).tdiv 4=(b-a)/4:=Int.tdiv_eq_ediv_of_nonneg (by omega)
 rw[e4,w64 (show-9223372036854775808≤(b-a)/4 by omega) (by omega)]
 rw[w64 (show-9223372036854775808≤(b-a)/4*1 by omega) (by omega),w64 (show-9223372036854775808≤(b-a)/4*2 by omega) (by omega),w64 (show-9223372036854775808≤(b-a)/4*3 by omega) (by omega)]
 rw[w64 (show-9223372036854775808≤a+(b-a)/4*1 by omega) (by omega),w64 (show-9223372036854775808≤a+(b-a)/4*2 by omega) (by omega),w64 (show-9223372036854775808≤a+(b-a)/4*3 by omega) (by omega)]
 simp only[h8,show¬(50≤b-a) by omega,decide_true,decide_false,cond_true,cond_false,bs]
 obtain⟨y,h1,e1,c1⟩:=median_spec l (a+(b-a)/4*1) (a+(b-a)/4*2) (a+(b-a)/4*3) 0 (by omega) (by omega) (by omega) (by omega) (by omega) (by omega)
 rw[h1,bs,e1]
 have hy:a≤y.1∧y.1<b:=by omega
 cases (y.2.2==0)
 ·cases (y.2.2==12)
  ·exact⟨_,rfl,rfl,hy⟩
  ·exact⟨_,rfl,rfl,hy⟩
 ·exact⟨_,rfl,rfl,hy⟩
theorem D2 (l:LI)(a b:Int)(ha:0≤a)(hab:a<b)(hb:b≤l.length)(h50:b-a<50)(hlen:l.length≤1000000):
  ∃y,D.J0 l a b=some y∧y.2=l∧(y.1=true→Srt l a b):=by
 unfold D.J0
 rw[w64 (show-9223372036854775808≤a+1 by omega) (by omega)]
 refine AS (λs=>s=(l,a+1,0)) (λ_=>0) (λr=>∃y:Bool×LI,r= .inr y∧y.2=l∧(y.1=true→Srt l a b)) ?_ rfl ?_
 ·rintro s rfl
  dsimp only
  simp only[show ((0:Int)<5) from by decide,decide_true,cond_true]
  refine AS (λi=>a+1≤i∧i≤b∧Srt l a i) (λi=>(b-i).toNat) (λi=>a+1≤i∧i≤b∧Srt l a i) ?_ ?_ ?_
  ·rintro i ⟨g1,g2,g3⟩
   by_cases hi:i<b
   ·have r1:idx l i=some (at' l i):=Bl (by omega) (by omega)
    have r2:idx l (i-1)=some (at' l (i-1)):=Bl (by omega) (by omega)
    have e1:IntKind.i64.wrap (i-1)=i-1:=w64 (by omega) (by omega)
    by_cases hlt:at' l i<at' l (i-1)
    ·exact⟨.inr i,by simp only[r1,r2,e1,hi,B8,hlt,decide_true,Bool.not_true,cond_true,cond_false,bs],g1,g2,g3⟩
    ·refine⟨.inl (i+1),?_,⟨by omega,by omega,λp q k1 k2 k3=> ?_⟩,by dsimp only;omega⟩
     ·simp only[r1,r2,e1,hi,B8,hlt,decide_true,decide_false,Bool.not_false,cond_true,bs]
      rw[w64 (by omega) (by omega)]
     ·by_cases e:q=i
      ·subst e
       by_cases e2:p=q-1
       ·subst e2;omega
       ·have:=g3 p (q-1) k1 (by omega) (by omega);omega
      ·exact g3 p q k1 k2 (by omega)
   ·exact⟨.inr i,by simp only[hi,decide_false,cond_false,bs],g1,g2,g3⟩
  ·exact⟨Int.le_refl _,by omega,λp q k1 k2 k3=>by omega⟩
  ·rintro i ⟨g1,g2,g3⟩
   rw[w64 (show-9223372036854775808≤b-a by omega) (by omega)]
   by_cases he:i=b
   ·refine⟨.inr (.inr (true,l)),?_,_,rfl,rfl,λ_=>by rw[←he];exact g3⟩
    have:(i==b)=true:=by simp[he]
    simp only[this,cond_true]
   ·refine⟨.inr (.inr (false,l)),?_,_,rfl,rfl,λh=>by cases h⟩
    have:(i==b)=false:=by simp[he]
    simp only[this,h50,decide_true,cond_true,cond_false]
 ·rintro r ⟨y,rfl,h1,h2⟩
  exact⟨y,rfl,h1,h2⟩
theorem iand_small (y m:Int)(h0:0≤m)(h1:m<4294967296):0≤iand .u64 y m∧iand .u64 y m≤m:=by
 unfold iand
 have e:(BitVec.ofInt IntKind.u64.bits y&&&BitVec.ofInt IntKind.u64.bits m).toNat≤(BitVec.ofInt IntKind.u64.bits m).toNat:=by
  rw[BitVec.toNat_and];exact Nat.and_le_right
 have e2:(BitVec.ofInt IntKind.u64.bits m).toNat=m.toNat:=by
  rw[BitVec.toNat_ofInt]
  show (m%(2^64:Nat)).toNat=m.toNat
  congr 1
  omega
 rw[e2] at e
 generalize (BitVec.ofInt IntKind.u64.bits y&&&BitVec.ofInt IntKind.u64.bits m).toNat=t at e
 have:IntKind.u64.wrap (t:Int)=t:=by
  simp only[IntKind.wrap,IntKind.bits,IntKind.signed]
  simp
  omega
 rw[this]
 omega
theorem wu64 {x:Int}(h1:0≤x)(h2:x<18446744073709551616):IntKind.u64.wrap x=x:=by
 simp only[IntKind.wrap,IntKind.bits,IntKind.signed]
 simp
 omega
theorem pow2_spec (n:Int)(h1:8≤n)(h2:n≤16):∃y,D.k0 n=some y∧n<y∧y≤2*n:=by
 unfold D.k0
 rw[wu64 (by omega) (by omega)]
 have key:∀k:Int,k=8∨k=9∨k=10∨k=11∨k=12∨k=13∨k=14∨k=15∨k=16→k<ishl .u64 1 (Lib.bitLen k.toNat:Nat)∧ishl .u64 1 (Lib.bitLen k.toNat:Nat)≤2*k:=by
  rintro k (rfl|rfl|rfl|rfl|rfl|rfl|rfl|rfl|rfl)<;>decide
 obtain⟨k1,k2⟩:=key n (by omega)
 refine⟨_,?_,k1,k2⟩
 unfold D.N
 rw[if_pos (by omega),bs]
 have:decide (((Lib.bitLen n.toNat:Nat):Int)<0)=false:=by simp
 rw[this]
 rfl
theorem EC (l0:LI)(a b:Int)(ha:0≤a)(hb:b≤l0.length)(h8:8≤b-a)(h16:b-a≤16)(hlen:l0.length≤1000000):
  ∃l',D.F0 l0 a b=some l'∧Rg a b l0 l':=by
 unfold D.F0
 rw[w64 (show-9223372036854775808≤b-a by omega) (by omega)]
 have e4:(b-a).tdiv 4=(b-a)/4:=Int.tdiv_eq_ediv_of_nonneg (by omega)
 rw[e4,w64 (show-9223372036854775808≤(b-a)/4 by omega) (by omega)]
 rw[w64 (show-9223372036854775808≤(b-a)/4*2 by omega) (by omega)]
 rw[w64 (show-9223372036854775808≤a+(b-a)/4*2 by omega) (by omega)]
 rw[w64 (show-9223372036854775808≤a+(b-a)/4*2+1 by omega) (by omega),w64 (show-9223372036854775808≤a+(b-a)/4*2-1 by omega) (by omega)]
 simp only[h8,decide_true,cond_true]
 obtain⟨y,hy,g1,g2⟩:=pow2_spec (b-a) h8 h16
 rw[hy,bs,wu64 (show 0≤y-1 by omega) (by omega)]
 refine AS (λs=>Rg a b l0 s.1∧a+(b-a)/4*2-1≤s.2.1∧s.2.1≤a+(b-a)/4*2+2) (λs=>(a+(b-a)/4*2+2-s.2.1).toNat) (λr=>Rg a b l0 r) ?_ ?_ ?_
 ·rintro⟨l,i,z⟩ ⟨hR,k1,k2⟩
  dsimp only at hR k1 k2 ⊢
  have hll:=hR.len
  by_cases hi:i≤a+(b-a)/4*2+1
  ·simp only[hi,decide_true,cond_true,D.S0,bs]
   obtain⟨t1,t2⟩:=iand_small (Ba .u64 (Ba .u64 (Ba .u64 z (ishl .u64 z 13)) (Bp .u64 (Ba .u64 z (ishl .u64 z 13)) 7)) (ishl .u64 (Ba .u64 (Ba .u64 z (ishl .u64 z 13)) (Bp .u64 (Ba .u64 z (ishl .u64 z 13)) 7)) 17)) (y-1) (by omega) (by omega)
   revert t1 t2
   generalize iand .u64 (Ba .u64 (Ba .u64 (Ba .u64 z (ishl .u64 z 13)) (Bp .u64 (Ba .u64 z (ishl .u64 z 13)) 7)) (ishl .u64 (Ba .u64 (Ba .u64 z (ishl .u64 z 13)) (Bp .u64 (Ba .u64 z (ishl .u64 z 13)) 7)) 17)) (y-1)=t
   generalize (Ba .u64 (Ba .u64 (Ba .u64 z (ishl .u64 z 13)) (Bp .u64 (Ba .u64 z (ishl .u64 z 13)) 7)) (ishl .u64 (Ba .u64 (Ba .u64 z (ishl .u64 z 13)) (Bp .u64 (Ba .u64 z (ishl .u64 z 13)) 7)) 17))=z'
   intro t1 t2
   rw[w64 (show-9223372036854775808≤t by omega) (by omega),w64 (show-9223372036854775808≤t-(b-a) by omega) (by omega)]
   have hc:∃o,(bif decide (b-a≤t) then some (t-(b-a)) else some t)=some o∧0≤o∧o<b-a:=by
    by_cases h:b-a≤t
    ·exact⟨t-(b-a),by simp[h],by omega,by omega⟩
    ·exact⟨t,by simp[h],by omega,by omega⟩
   obtain⟨o,ho,o1,o2⟩:=hc
   rw[ho,bs,w64 (show-9223372036854775808≤a+o by omega) (by omega),w64 (show-9223372036854775808≤i+1 by omega) (by omega)]
   have r1:idx l i=some (at' l i):=Bl (by omega) (by omega)
   have r2:idx l (a+o)=some (at' l (a+o)):=Bl (by omega) (by omega)
   have r3:∀x,idx (l.set i.toNat x) (a+o)=some (at' (l.set i.toNat x) (a+o)):=λx=>B6 (by omega) (by omega)
   refine⟨.inl (sw l i (a+o),i+1,z'),?_,⟨hR.trans (Rg.swap ha (by omega) (by omega) (by omega) (by omega) (by omega)),by dsimp only;omega,by dsimp only;omega⟩,by dsimp only;omega⟩
   simp only[r1,r2,r3,bs]
   rfl
  ·exact⟨.inr l,by simp only[hi,decide_false,cond_false],hR⟩
 ·exact⟨Rg.refl _ _ _,by dsimp only;omega,by dsimp only;omega⟩
 ·rintro r hr
  exact⟨r,rfl,hr⟩
end Go.Sx

namespace Go.Sx.Gs
variable {α : Type} [Srtd α]
end Go.Sx.Gs

namespace Go.Sx.Gs
variable {α : Type} [Srtd α]
end Go.Sx.Gs

namespace Go.Sx.Gs
variable {α : Type} [Srtd α]
def Out (l:List α)(a0 b0 a b:Int):Prop:=∀i j,a0≤i→i<j→j<b0→¬(a≤i∧j<b)→at' l i≤at' l j
theorem Out.keep {a0 a b b0:Int}{l l':List α}(h:Rg a b l l')(h0:0≤a0)(ha:a0≤a)(hb:b≤b0)(c:Out l a0 b0 a b):Out l' a0 b0 a b:=by
 intro i j h1 h2 h3 h4
 by_cases hi:a≤i∧i<b
 ·rw[h.out j (by omega) (by omega)]
  exact h.all (λx=>x≤at' l j) (λk k1 k2=>c k j (by omega) (by omega) h3 (by omega)) i hi.1 hi.2
 ·rw[h.out i (by omega) (by omega)]
  by_cases hj:a≤j∧j<b
  ·exact h.all (λx=>at' l i≤x) (λk k1 k2=>c i k (by omega) (by omega) (by omega) (by omega)) j hj.1 hj.2
  ·rw[h.out j (by omega) (by omega)];exact c i j h1 h2 h3 h4
end Go.Sx.Gs

namespace Go.Sx
theorem list2 {l:LI}(h:l.length=2):∃a b,l=[a,b]:=by
 match l,h with
 |[a,b],_=>exact⟨a,b,rfl⟩
theorem row_inj {x y:LI}(hx:rowGood x)(hy:rowGood y)(h:D6 x=D6 y):x=y:=by
 obtain⟨h1,h2,h3,h4,h5⟩:=hx
 obtain⟨k1,k2,k3,k4,k5⟩:=hy
 obtain⟨a,b,rfl⟩:=list2 h1
 obtain⟨c,d,rfl⟩:=list2 k1
 unfold D6 at h
 simp only[List.getD_cons_zero,List.getD_cons_succ] at*
 have:a=c:=by omega
 subst this
 have:b=d:=by omega
 subst this
 rfl
theorem CP (xs:LL):(xs.mergeSort DQ).Perm xs:=List.mergeSort_perm _ _
end Go.Sx

set_option maxRecDepth 100000
namespace Go.Proofs.YtfmaahgchbfbiaaDoor
open Go Go.Sx
open Go.Proofs.Tryd Go.Proofs.YtfmaahgchbfbiaaDoor.Tryd IntKind
variable {W w : World} {G : GH} {H : List Itm}
theorem AI :prog.follows .mixedOrders=true:=by kernel_rfl
theorem Pl2 :BO prog 2:=isAgg2
theorem T43 :SlT prog 43 2 1 8 (iv 0):=⟨underlying43,Tryd.t2,by kernel_rfl,by kernel_rfl,by kernel_rfl,by kernel_rfl⟩
theorem Pl5 :BO prog 5:=isAgg5
theorem Pl164 :BO prog 164:=isAgg164
theorem Pl3 :BO prog 3:=isAgg3
theorem Wk.Y0 {v0:Value}{x0:LI}{x1:Int}(m:Mem W G w (H))(h0:R1 G v0 x0){y:Int}(hd:D.Y0 x0 x1=some y):
  Calls prog 150 #[v0,(iv x1)] w (Res W G H (λ_ Ho v=>Ho=[]∧v=(iv y))):=by
 refine Au (args:=[v0,(iv x1)]) (N:=19) [.tmp 4] func150 Z Z (lb Z) Z λa f=> ?_
 unfold D.Y0 at hd
 refine Af ?_
 refine Ac f Z λa f=>Aa (Ag (Af ?_))
 refine Ab f Z λa f=>Bd underlying43 f Z Z h0 λa f=>Ab f Z λa f=>Aa ?_
 have⟨aa,ab,hd⟩:=bind_some hd
 refine AJ (λa w=>∃q_19':Unit,aa= .inl q_19'∧∃(ac:GH),GLe G ac∧Fr a 19 []∧Mem W ac w (H)) ?_ ?_
 ·refine Al ?_
  refine AE (λad a w=>∃ae:Int,ae=ad∧∃(af:GH),GLe G af∧Fr a 19 [(0,v0),(1,(iv x1)),(7,(iv (x0.length:Int))),(8,(iv ae))]∧Mem W af w (H)) ab ⟨_,Z,_,gr,f.k Z,m⟩ ?_
  clear ab f m
  rintro ad ag ah ai a w ⟨ae,rfl,af,aj,f,m⟩
  have h0:=rd1 aj h0
  refine Af ?_
  refine Ah f Z Z AQ λa f=>Aa (Ag ?_)
  rcases Ae ah with⟨ak,ah⟩|⟨ak,ah⟩
  ·refine Am f Z ak ?_
   refine An ?_
   refine Ag (Al (Af ?_))
   refine Ab f Z λa f=>Ac f Z λa f=>Ay ?_
   refine Ab f Z λa f=>Ab f Z λa f=>Ab f Z λa f=> ?_
   have⟨al,am,ah⟩:=bind_some ah
   refine By T43 f Z Z Z h0 am λan ao a ap aq f=> ?_
   subst aq
   refine AU m Pl2 f Z Z ap λa f=>Ah f Z Z BF λa f=>Aa ?_
   rcases Ae ah with⟨ar,ah⟩|⟨ar,ah⟩
   ·refine Am f Z ar ?_
    refine Af ?_
    refine Ab f Z λa f=>Ac f Z λa f=>Aa ?_
    refine Ap ?_
    obtain rfl:=sj ah
    obtain rfl:=ai _ rfl
    obtain rfl:=sj hd
    exact⟨[(iv ae)],f.g Z,f.d,_,[],aj,m,Z,Z⟩
   ·refine Aj f Z ar ?_
    refine An ?_
    refine Ak ?_
    refine Ah f Z Z Ax λa f=>Ab f Z λa f=>Aa ?_
    obtain rfl:=sj ah
    exact⟨_,Z,_,Z,_,aj,f.k Z,m⟩
  ·refine Aj f Z ak ?_
   refine AB Z ?_
   obtain rfl:=sj ah
   obtain rfl:=ai _ rfl
   exact⟨_,Z,_,aj,f.weak trivial,m⟩
 ·rintro a w ⟨_,rfl,ac,au,f,m⟩
  refine Af ?_
  refine Ac f Z λa f=>Aa ?_
  refine Ap ?_
  obtain rfl:=sj hd
  exact⟨[(iv (-1))],f.g Z,f.d,_,[],au,m,Z,Z⟩
theorem Wk.q {v0:Value}{x0:LI}{x1:Int}(m:Mem W G w (H))(h0:R1 G v0 x0){y:Bool}(hd:D.q x0 x1=some y):
  Calls prog 119 #[v0,(iv x1)] w (Res W G H (λ_ Ho v=>Ho=[]∧v=(.bool y))):=by
 refine Au (args:=[v0,(iv x1)]) (N:=9) [.tmp 4] func119 Z Z (lb Z) Z λa f=> ?_
 unfold D.q at hd
 refine Af ?_
 refine Ac f Z λa f=>Ay ?_
 refine Ab f Z λa f=>Ab f Z λa f=> ?_
 have⟨aa,ab,hd⟩:=bind_some hd
 refine A3 f Z call150 (Wk.Y0 m h0 ab) λac w ad m a f=>Ah f Z Z Cj λa f=>Ac f Z λa f=>Aa ?_
 refine Ap ?_
 obtain rfl:=sj hd
 exact⟨[(.bool (decide ((0:Int)≤aa)))],f.g Z,f.d,_,[],ad,m,Z,Z⟩
theorem Wk.Q0 {x0:Int}(hW:Ct W)(m:Mem W G w (H)){y:Int}(hd:D.Q0 x0=some y):
  Calls prog 151 #[(.int .u32 x0)] w (Res W G H (λ_ Ho v=>Ho=[]∧v=(iv y))):=by
 refine Au (args:=[(.int .u32 x0)]) (N:=14) [.tmp 2] func151 Z Z (lb Z) Z λa f=> ?_
 unfold D.Q0 at hd
 refine Af ?_
 refine Ac f Z λa f=>Aa (Ag (Af ?_))
 refine Ab f Z λa f=>Ah f Z Z BF λa f=>Aa ?_
 rcases Ae hd with⟨aa,hd⟩|⟨aa,hd⟩
 ·refine Am f Z aa ?_
  refine Af ?_
  refine Ac f Z λa f=>Aa ?_
  refine Ap ?_
  obtain rfl:=sj hd
  exact⟨[(iv 32)],f.g Z,f.d,_,[],gr,m,Z,Z⟩
 ·refine Aj f Z aa ?_
  refine An ?_
  refine Af ?_
  refine Ab f Z λa f=>Ab f Z λa f=>l_o f (r_neg (f.e Z)) λa f=>Ah f Z Z CB λa f=>Ah f Z Z Dj λa f=>l_o f (Dv (f.e Z) (f.e Z) (by decide)) λa f=> ?_
  have⟨ab,ac,hd⟩:=bind_some hd
  refine l_tab hW m underlying149 sizeOf5 f Z Z ac λad a ae f=>AU m Pl5 f Z Z ae λa f=>l_o f (BP (f.e Z) ⟨_,underlying5⟩ underlying3) λa f=>Ac f Z λa f=>Aa ?_
  refine Ap ?_
  obtain rfl:=sj hd
  exact⟨[(iv (i64.wrap ab))],f.g Z,f.d,_,[],gr,m,Z,Z⟩
theorem Wk.n0 {x0:Int}(m:Mem W G w (H)){y:Int}(hd:D.n0 x0=some y):
  Calls prog 140 #[(.int .u32 x0)] w (Res W G H (λ_ Ho v=>Ho=[]∧v=(iv y))):=by
 refine Au (args:=[(.int .u32 x0)]) (N:=21) [.tmp 2] func140 Z Z (lb Z) Z λa f=> ?_
 unfold D.n0 at hd
 refine Af ?_
 refine Ac f Z λa f=>Aa (Ag ?_)
 refine A7 19 AI (by kernel_rfl) m ?_
 refine Ai 0 19 Z f Z λa f=>q_p 1 19 Z f (λ_=>Dv (f.e Z) (f.e Z) (by decide)) λa f=> ?_
 have⟨aa,ab,hd⟩:=bind_some hd
 refine q_p 2 19 Z f (λ_=>EO (f.e Z) (f.e Z) underlying9 ab) λa f=>Ai 3 19 Z f Z λa f=>q_p 4 19 Z f (λ_=>Dv (f.e Z) (f.e Z) (by decide)) λa f=>q_p 5 19 Z f (λ_=>AK (f.e Z) (f.e Z) CB) λa f=> ?_
 have⟨ac,ad,hd⟩:=bind_some hd
 refine q_p 6 19 Z f (λ_=>EO (f.e Z) (f.e Z) underlying9 ad) λa f=>q_p 7 19 Z f (λ_=>AK (f.e Z) (f.e Z) Ax) λa f=>Ai 8 19 Z f Z λa f=>q_p 9 19 Z f (λ_=>Dv (f.e Z) (f.e Z) (by decide)) λa f=>q_p 10 19 Z f (λ_=>AK (f.e Z) (f.e Z) CB) λa f=> ?_
 have⟨ae,af,hd⟩:=bind_some hd
 refine q_p 11 19 Z f (λ_=>EO (f.e Z) (f.e Z) underlying9 af) λa f=>q_p 12 19 Z f (λ_=>AK (f.e Z) (f.e Z) Ax) λa f=>Ai 13 19 Z f Z λa f=>q_p 14 19 Z f (λ_=>AK (f.e Z) (f.e Z) CB) λa f=> ?_
 have⟨ag,ah,hd⟩:=bind_some hd
 refine q_p 15 19 Z f (λ_=>EO (f.e Z) (f.e Z) underlying9 ah) λa f=>q_p 16 19 Z f (λ_=>AK (f.e Z) (f.e Z) Ax) λa f=>q_p 17 19 Z f (λ_=>BP (f.e Z) ⟨_,underlying5⟩ underlying3) λa f=>q_p 18 19 Z f (λ_=>A9 (f.e Z)) λa f=>AW λai w aj m=>Aa ?_
 refine Ap ?_
 obtain rfl:=sj hd
 exact⟨[(iv (i64.wrap (IntKind.u8.wrap ((IntKind.u8.wrap ((IntKind.u8.wrap (aa+ac))+ae))+ag))))],f.g Z,f.d,_,[],aj,m,Z,Z⟩
theorem Wk.U0 {v0:Value}{b0:Nat}{x0:LI}(m:Mem W G w (ib b0 43 [v0]::H))(h0:R1 G v0 x0){y:(LI)}(hd:D.U0 x0=some y):
  Calls prog 158 #[(.func (.func 160) #[] #[(pb b0)])] w (Res W G H (λG' Ho v=>∃r0:Value,∃i0:Itm,Ho=[i0]∧r0=v∧Ow R0 2 G' i0 r0 y)):=by
 refine Au (args:=[(.func (.func 160) #[] #[(pb b0)])]) (N:=5) [.tmp 2] func158 Z Z (lb Z) Z λa f=> ?_
 unfold D.U0 at hd
 refine Af ?_
 refine Ac f Z λa f=>Ay ?_
 refine Ab f Z λa f=> ?_
 have⟨aa,ab,hd⟩:=bind_some hd
 refine AO f Z call176 (Wk.V0 m h0 ab) λac ad ae w af m ag a f=> ?_
 obtain⟨ah,ai,rfl,rfl,aj⟩:=ag
 refine Ac f Z λa f=>Aa ?_
 refine Ap ?_
 obtain rfl:=sj hd
 exact⟨[ah],f.g Z,f.d,_,[ai],af,m,_,_,Z,Z,aj⟩
theorem Wk.U {x0:Int}(m:Mem W G w (H)){y:Bool}(hd:D.U x0=some y):
  Calls prog 207 #[(iv x0)] w (Res W G H (λ_ Ho v=>Ho=[]∧v=(.bool y))):=by
 refine Au (args:=[(iv x0)]) (N:=6) [.tmp 2] func207 Z Z (lb Z) Z λa f=> ?_
 unfold D.U at hd
 refine Af ?_
 refine Ac f Z λa f=>Ay ?_
 refine Ab f Z λa f=>Ab f Z λa f=>Ah f Z Z Dz λa f=>Ac f Z λa f=>Aa ?_
 refine Ap ?_
 obtain rfl:=sj hd
 exact⟨[(.bool (x0 !=x0))],f.g Z,f.d,_,[],gr,m,Z,Z⟩
theorem Wk.a {x0 x1:Int}(m:Mem W G w (H)){y:Bool}(hd:D.a x0 x1=some y):
  Calls prog 191 #[(iv x0),(iv x1)] w (Res W G H (λ_ Ho v=>Ho=[]∧v=(.bool y))):=by
 refine Au (args:=[(iv x0),(iv x1)]) (N:=17) [.tmp 4] func191 Z Z (lb Z) Z λa f=> ?_
 unfold D.a at hd
 refine Af ?_
 refine Ac f Z λa f=>Ay ?_
 refine Ab f Z λa f=> ?_
 have⟨aa,ab,hd⟩:=bind_some hd
 refine A3 f Z call207 (Wk.U m ab) λac w ad m a f=>Ab f Z λa f=> ?_
 have⟨ae,af,hd⟩:=bind_some hd
 refine Bj 4 (λa w=>∃ag,GLe ac ag∧Mem W ag w (H)∧Fr a 17 [(0,(iv x0)),(1,(iv x1)),(5,(iv x0)),(6,(.bool aa)),(7,(.bool aa)),(11,(.bool ae))]) ?_ ?_
 ·rcases Ae af with⟨ah,af⟩|⟨ah,af⟩
  ·refine As f ah ?_
   refine Ab f Z λa f=>As f ah ?_
   have⟨ai,aj,af⟩:=bind_some af
   refine A3 f Z call207 (Wk.U m aj) λak w al m a f=>As f ah ?_
   refine l_o f (Bg (f.e Z)) λa f=>l_o f (AD (f.e Z) ah (f.e Z)) λa f=> ?_
   obtain rfl:=sj af
   exact⟨_,al,m,f.k Z⟩
  ·refine Aw f ah λa f=> ?_
   refine Aw f ah λa f=>Aw f ah λa f=>l_o f (AC (f.e Z) ah (f.e Z)) λa f=> ?_
   obtain rfl:=sj af
   exact⟨_,gr,m,f.k Z⟩
 ·rintro a w ⟨ag,am,m,f⟩
  refine Ab f Z λa f=> ?_
  refine Bj 4 (λa w=>∃an,GLe ag an∧Mem W an w (H)∧Fr a 17 [(0,(iv x0)),(1,(iv x1)),(5,(iv x0)),(6,(.bool aa)),(7,(.bool aa)),(11,(.bool ae)),(12,(.bool ae)),(16,(.bool (ae||(decide (x0<x1)))))]) ?_ ?_
  ·rcases Bool.eq_false_or_eq_true ae with ao|ao
   ·refine Aw f ao λa f=> ?_
    refine Aw f ao λa f=>Aw f ao λa f=>l_o f (AD (f.e Z) ao (f.e Z)) λa f=> ?_
    exact⟨_,gr,m,f.weak ⟨Z,Z,Z,Z,Z,Z,Z,by rw[ao];rfl,trivial⟩⟩
   ·refine As f ao ?_
    refine Ab f Z λa f=>As f ao ?_
    refine Ab f Z λa f=>As f ao ?_
    refine Ah f Z Z AQ λa f=>l_o f (AC (f.e Z) ao (f.e Z)) λa f=> ?_
    exact⟨_,gr,m,f.weak ⟨Z,Z,Z,Z,Z,Z,Z,by rw[ao];rfl,trivial⟩⟩
  ·rintro a w ⟨an,ap,m,f⟩
   refine Ac f Z λa f=>Aa ?_
   refine Ap ?_
   obtain rfl:=sj hd
   exact⟨[(.bool (ae||(decide (x0<x1))))],f.g Z,f.d,_,[],(gt ad (gt am ap)),m,Z,Z⟩
theorem Wk.q0 {v0:Value}{it0:Itm}{x0:LI}{x1 x2:Int}(m:Mem W G w (it0::H))(o0:Ow R0 2 G it0 v0 x0){y:(LI)}(hd:D.q0 x0 x1 x2=some y):
  Calls prog 185 #[v0,(iv x1),(iv x2)] w (Res W G H (λG' Ho _=>∃i0:Itm,Ho=[i0]∧Ow R0 2 G' i0 v0 y)):=by
 refine Au (args:=[v0,(iv x1),(iv x2)]) (N:=49) [] func185 Z Z (lb Z) Z λa f=> ?_
 unfold D.q0 at hd
 refine Af ?_
 refine Ab f Z λa f=>Ah f Z Z Ax λa f=>Ac f Z λa f=>Aa ?_
 have⟨aa,ab,hd⟩:=bind_some hd
 refine AJ (λa w=>∃ac:LI,ac=aa∧∃(ad:GH) (ae:Itm),GLe G ad∧Fr a 49 []∧Mem W ad w (ae::H)∧Ow R0 2 ad ae v0 ac) ?_ ?_
 ·refine Al ?_
  refine AE (λaf a w=>∃ag:LI,∃ah:Int,(ag,ah)=af∧∃(ai:GH) (aj:Itm),GLe G ai∧Fr a 49 [(0,v0),(1,(iv x1)),(2,(iv x2)),(6,(iv ah))]∧Mem W ai w (aj::H)∧Ow R0 2 ai aj v0 ag) ab ⟨_,_,Z,_,it0,gr,f.k Z,m,o0⟩ ?_
  clear ab f m
  rintro af ak al am a w ⟨ag,ah,rfl,ai,aj,an,f,m,ao⟩
  refine Ag (Af ?_)
  refine Ab f Z λa f=>Ab f Z λa f=>Ah f Z Z AQ λa f=>Aa ?_
  rcases Ae al with⟨ap,al⟩|⟨ap,al⟩
  ·refine Am f Z ap ?_
   refine An ?_
   refine Ag (Al (Af ?_))
   refine Ab f Z λa f=>Ac f Z λa f=>Aa ?_
   have⟨aq,ar,al⟩:=bind_some al
   refine AJ (λa w=>∃au:LI,au=aq∧∃(av:GH) (aw:Itm),GLe ai av∧Fr a 49 [(0,v0),(1,(iv x1)),(2,(iv x2)),(6,(iv ah))]∧Mem W av w (aw::H)∧Ow R0 2 av aw v0 au) ?_ ?_
   ·refine Al ?_
    refine AE (λax a w=>∃ay:LI,∃az:Int,(ay,az)=ax∧∃(aA:GH) (aB:Itm),GLe ai aA∧Fr a 49 [(0,v0),(1,(iv x1)),(2,(iv x2)),(6,(iv ah)),(7,(iv az))]∧Mem W aA w (aB::H)∧Ow R0 2 aA aB v0 ay) ar ⟨_,_,Z,_,aj,gr,f.k Z,m,ao⟩ ?_
    clear ar f m
    rintro ax aC aD aE a w ⟨ay,az,rfl,aA,aB,aF,f,m,aG⟩
    refine Ag (Ag ?_)
    refine A7 15 AI (by kernel_rfl) m ?_
    refine Ai 0 15 Z f Z λa f=>Ai 1 15 Z f Z λa f=>q_p 2 15 Z f (λ_=>AK (f.e Z) (f.e Z) Cc) λa f=>Ai 3 15 Z f Z λa f=> ?_
    have⟨aH,aI,aD⟩:=bind_some aD
    refine B1 (fuel':=0) (listed':= #[true,true,true,true,true,true,true,true,true,true,true,true,true,true,true]) (λa=>Fr a 49 [(0,v0),(1,(iv x1)),(2,(iv x2)),(6,(iv ah)),(7,(iv az)),(16,(iv az)),(17,(iv x1)),(18,(.bool (decide (x1<az)))),(19,(.bool (decide (x1<az)))),(30,(.bool aH))]) ?_ ?_
    ·intro a f
     refine AW λaJ w aK m=> ?_
     have aG:=od1 aK aG
     refine Aa ?_
     rcases Ae aD with⟨aL,aD⟩|⟨aL,aD⟩
     ·refine Am f Z aL ?_
      refine An ?_
      refine Ag (Al ?_)
      refine B3 AI m ?_
      refine p_p 2 Z f (λ_=>A2 (f.e Z)) λa f=>p_p 3 Z f (λ_=>A2 (f.e Z)) λa f=>p_p 4 Z f (λ_=>AK (f.e Z) (f.e Z) AR) λa f=>B2 28015 12 (by kernel_rfl) Z ?_
      refine Ai 0 28015 Z f Z λa f=>Ai 1 28015 Z f Z λa f=>Ai 5 28015 Z f Z λa f=>Ai 6 28015 Z f Z λa f=>q_p 7 28015 Z f (λ_=>AK (f.e Z) (f.e Z) AR) λa f=> ?_
      have⟨aM,aN,aD⟩:=bind_some aD
      refine AL 8 28015 0 m aG T43 aN Z f Z Z λaO a aP f=>A4 9 28015 0 aG Pl2 aP aN Z f Z λaQ a aR f=> ?_
      subst aR
      refine Ai 10 28015 Z f Z λa f=>Ai 11 28015 Z f Z λa f=> ?_
      have⟨aS,aT,aD⟩:=bind_some aD
      refine AL 12 28015 0 m aG T43 aT Z f Z Z λaU a aV f=>A4 13 28015 0 aG Pl2 aV aT Z f Z λaW a aX f=> ?_
      subst aX
      have⟨aY,aZ,aD⟩:=bind_some aD
      refine AL 14 28015 0 m aG T43 aZ Z f Z Z λa0 a a1 f=>AW λa2 w a3 m=> ?_
      have aG:=od1 a3 aG
      refine AF 0 m aG Z sizeOf2 f Z Z a1 aZ Z Z Z λa4 w m a5=> ?_
      have⟨a6,a7,aD⟩:=bind_some aD
      refine A6 0 m a5 Z T43 f Z Z Z a7 λa8 a a9 f=>AF 0 m a5 Z sizeOf2 f Z Z a9 a7 Z Z Z λba w m bb=>Aa (Ak ?_)
      refine Ab f Z λa f=>Ah f Z Z AR λa f=>Ac f Z λa f=>Aa ?_
      obtain rfl:=sj aD
      exact⟨_,Z,_,_,Z,_,ba,(gt aF (gt aK a3)),f.k Z,m,bb⟩
     ·refine Aj f Z aL ?_
      refine AB Z ?_
      obtain rfl:=sj aD
      obtain rfl:=aE _ rfl
      exact⟨_,Z,_,aB,(gt aF aK),f.k Z,m,aG⟩
    ·intro bc
     rcases Ae aI with⟨bd,aI⟩|⟨bd,aI⟩
     ·refine Ai (hw:=wo f bd) 4 15 Z f Z λa f=> ?_
      refine Ai (hw:=wo f bd) 5 15 Z f Z λa f=> ?_
      have⟨be,bf,aI⟩:=bind_some aI
      refine AL (hw:=wo f bd) 6 15 0 m aG T43 bf Z f Z Z λbg a bh f=>A4 (hw:=wo f bd) 7 15 0 aG Pl2 bh bf Z f Z λbi a bj f=> ?_
      subst bj
      refine Ai (hw:=wo f bd) 8 15 Z f Z λa f=>Ai (hw:=wo f bd) 9 15 Z f Z λa f=>q_p (hw:=wo f bd) 10 15 Z f (λ_=>AK (f.e Z) (f.e Z) AR) λa f=> ?_
      have⟨bk,bl,aI⟩:=bind_some aI
      refine AL (hw:=wo f bd) 11 15 0 m aG T43 bl Z f Z Z λbm a bn f=>A4 (hw:=wo f bd) 12 15 0 aG Pl2 bn bl Z f Z λbo a bp f=> ?_
      subst bp
      have⟨bq,br,aI⟩:=bind_some aI
      refine Bi (i:=13) 15 Z (by kernel_rfl) Z f (Bh f Z Z Z bd) Z Z call191 (λ_ _ w bs m=>Wk.a m br) λa f=>q_p 14 15 Z f (λ_=>AD (f.e Z) bd (f.e Z)) λa f=> ?_
      obtain rfl:=sj aI
      exact bc _ (f.k Z)
     ·refine Ao 4 15 Z f bd λa f=> ?_
      refine Ao 5 15 Z f bd λa f=>Ao 6 15 Z f bd λa f=>Ao 7 15 Z f bd λa f=>Ao 8 15 Z f bd λa f=>Ao 9 15 Z f bd λa f=>Ao 10 15 Z f bd λa f=>Ao 11 15 Z f bd λa f=>Ao 12 15 Z f bd λa f=>Ao 13 15 Z f bd λa f=>q_p 14 15 Z f (λ_=>AC (f.e Z) bd (f.e Z)) λa f=> ?_
      obtain rfl:=sj aI
      exact bc _ (f.k Z)
   ·rintro a w ⟨au,rfl,av,aw,bt,f,m,bu⟩
    refine Ak ?_
    refine Ab f Z λa f=>Ah f Z Z Ax λa f=>Ac f Z λa f=>Aa ?_
    obtain rfl:=sj al
    exact⟨_,Z,_,_,Z,_,aw,(gt an bt),f.k Z,m,bu⟩
  ·refine Aj f Z ap ?_
   refine AB Z ?_
   obtain rfl:=sj al
   obtain rfl:=am _ rfl
   exact⟨_,Z,_,aj,an,f.weak trivial,m,ao⟩
 ·rintro a w ⟨ac,rfl,ad,ae,bv,f,m,bw⟩
  obtain rfl:=sj hd
  exact⟨[],trivial,f.d,_,[ae],bv,m,_,Z,bw⟩
theorem Wk.w0 {v0:Value}{it0:Itm}{x0:LI}{x1 x2 x3:Int}(m:Mem W G w (it0::H))(o0:Ow R0 2 G it0 v0 x0){y:(LI)}(hd:D.w0 x0 x1 x2 x3=some y):
  Calls prog 204 #[v0,(iv x1),(iv x2),(iv x3)] w (Res W G H (λG' Ho _=>∃i0:Itm,Ho=[i0]∧Ow R0 2 G' i0 v0 y)):=by
 refine Au (args:=[v0,(iv x1),(iv x2),(iv x3)]) (N:=76) [] func204 Z Z (lb Z) Z λa f=> ?_
 unfold D.w0 at hd
 refine Af ?_
 refine Ab f Z λa f=>Ac f Z λa f=>Aa ?_
 have⟨aa,ab,hd⟩:=bind_some hd
 refine AJ (λa w=>∃q_182':LI,aa= .inl q_182'∧∃ac:LI,ac=q_182'∧∃(ad:GH) (ae:Itm),GLe G ad∧Fr a 76 []∧Mem W ad w (ae::H)∧Ow R0 2 ad ae v0 ac) ?_ ?_
 ·refine Al ?_
  refine AE (λaf a w=>∃ag:LI,∃ah:Int,(ag,ah)=af∧∃(ai:GH) (aj:Itm),GLe G ai∧Fr a 76 [(0,v0),(2,(iv x2)),(3,(iv x3)),(8,(iv ah))]∧Mem W ai w (aj::H)∧Ow R0 2 ai aj v0 ag) ab ⟨_,_,Z,_,it0,gr,f.k Z,m,o0⟩ ?_
  clear ab f m
  rintro af ak al am a w ⟨ag,ah,rfl,ai,aj,an,f,m,ao⟩
  refine Al (Af ?_)
  refine Ab f Z λa f=>Ah f Z Z Dj λa f=>Ah f Z Z Ax λa f=>Ac f Z λa f=>Aa (Ag (Af ?_))
  refine Ab f Z λa f=>Ab f Z λa f=>Ah f Z Z Cj λa f=>Aa ?_
  rcases Ae al with⟨ap,al⟩|⟨ap,al⟩
  ·refine Am f Z ap ?_
   refine AB Z ?_
   obtain rfl:=sj al
   obtain rfl:=am _ rfl
   exact⟨_,Z,_,Z,_,aj,an,f.weak trivial,m,ao⟩
  ·refine Aj f Z ap ?_
   refine An ?_
   refine Ag (Ag ?_)
   refine A7 20 AI (by kernel_rfl) m ?_
   refine Ai 0 20 Z f Z λa f=>q_p 1 20 Z f (λ_=>AK (f.e Z) (f.e Z) Ax) λa f=>Ai 2 20 Z f Z λa f=>q_p 3 20 Z f (λ_=>AK (f.e Z) (f.e Z) AQ) λa f=>Ai 4 20 Z f Z λa f=> ?_
   have⟨aq,ar,al⟩:=bind_some al
   refine B1 (fuel':=0) (listed':= #[true,true,true,true,true,true,true,true,true,true,true,true,true,true,true,true,true,true,true,true]) (λa=>Fr a 76 [(0,v0),(2,(iv x2)),(3,(iv x3)),(8,(iv ah)),(9,(iv (i64.wrap ((i64.wrap (2*ah))+1)))),(16,(.bool (decide (x2≤(i64.wrap ((i64.wrap (2*ah))+1)))))),(17,(iv (i64.wrap ((i64.wrap (2*ah))+1)))),(18,(iv (i64.wrap ((i64.wrap ((i64.wrap (2*ah))+1))+1)))),(19,(iv x2)),(20,(.bool (decide ((i64.wrap ((i64.wrap ((i64.wrap (2*ah))+1))+1))<x2)))),(21,(.bool (decide ((i64.wrap ((i64.wrap ((i64.wrap (2*ah))+1))+1))<x2)))),(36,(.bool aq))]) ?_ ?_
   ·intro a f
    refine AW λau w av m=> ?_
    have ao:=od1 av ao
    refine Aa ?_
    have⟨aw,ax,al⟩:=bind_some al
    refine AJ (λa w=>∃ay:Int,ay=aw∧∃(az:GH),GLe au az∧Fr a 76 [(0,v0),(2,(iv x2)),(3,(iv x3)),(8,(iv ah)),(9,(iv ay))]∧Mem W az w (aj::H)) ?_ ?_
    ·rcases Ae ax with⟨aA,ax⟩|⟨aA,ax⟩
     ·refine Am f Z aA ?_
      refine Ak ?_
      refine Ab f Z λa f=>Ah f Z Z Ax λa f=>Ac f Z λa f=>Aa ?_
      obtain rfl:=sj ax
      exact⟨_,Z,_,gr,f.k Z,m⟩
     ·refine Aj f Z aA ?_
      refine An ?_
      obtain rfl:=sj ax
      exact⟨_,Z,_,gr,f.k Z,m⟩
    ·rintro a w ⟨ay,rfl,az,aB,f,m⟩
     have ao:=od1 aB ao
     refine Ag (Ag ?_)
     refine A7 14 AI (by kernel_rfl) m ?_
     refine Ai 0 14 Z f Z λa f=>Ai 1 14 Z f Z λa f=>Ai 2 14 Z f Z λa f=>q_p 3 14 Z f (λ_=>AK (f.e Z) (f.e Z) Ax) λa f=> ?_
     have⟨aC,aD,al⟩:=bind_some al
     refine AL 4 14 0 m ao T43 aD Z f Z Z λaE a aF f=>A4 5 14 0 ao Pl2 aF aD Z f Z λaG a aH f=> ?_
     subst aH
     refine Ai 6 14 Z f Z λa f=>Ai 7 14 Z f Z λa f=>Ai 8 14 Z f Z λa f=>q_p 9 14 Z f (λ_=>AK (f.e Z) (f.e Z) Ax) λa f=> ?_
     have⟨aI,aJ,al⟩:=bind_some al
     refine AL 10 14 0 m ao T43 aJ Z f Z Z λaK a aL f=>A4 11 14 0 ao Pl2 aL aJ Z f Z λaM a aN f=> ?_
     subst aN
     have⟨aO,aP,al⟩:=bind_some al
     refine Bi (i:=12) 14 Z (by kernel_rfl) Z f Z Z Z call191 (λ_ _ w aQ m=>Wk.a m aP) λa f=>q_p 13 14 Z f (λ_=>Bg (f.e Z)) λa f=>AW λaR w aS m=> ?_
     have ao:=od1 aS ao
     refine Aa ?_
     rcases Ae al with⟨aT,al⟩|⟨aT,al⟩
     ·refine Am f Z aT ?_
      refine Ap ?_
      obtain rfl:=sj al
      obtain rfl:=am _ rfl
      obtain rfl:=sj hd
      exact⟨[],trivial,f.d,_,[aj],(gt an (gt av (gt aB aS))),m,_,Z,ao⟩
     ·refine Aj f Z aT ?_
      refine An ?_
      refine Ag ?_
      refine B3 AI m ?_
      refine p_p 4 Z f (λ_=>A2 (f.e Z)) λa f=>p_p 5 Z f (λ_=>A2 (f.e Z)) λa f=>p_p 6 Z f (λ_=>A2 (f.e Z)) λa f=>p_p 7 Z f (λ_=>AK (f.e Z) (f.e Z) Ax) λa f=>B2 240021 17 (by kernel_rfl) Z ?_
      refine Ai 0 240021 Z f Z λa f=>Ai 1 240021 Z f Z λa f=>Ai 2 240021 Z f Z λa f=>q_p 3 240021 Z f (λ_=>AK (f.e Z) (f.e Z) Ax) λa f=>Ai 8 240021 Z f Z λa f=>Ai 9 240021 Z f Z λa f=>Ai 10 240021 Z f Z λa f=>q_p 11 240021 Z f (λ_=>AK (f.e Z) (f.e Z) Ax) λa f=> ?_
      have⟨aU,aV,al⟩:=bind_some al
      refine AL 12 240021 0 m ao T43 aV Z f Z Z λaW a aX f=>A4 13 240021 0 ao Pl2 aX aV Z f Z λaY a aZ f=> ?_
      subst aZ
      refine Ai 14 240021 Z f Z λa f=>Ai 15 240021 Z f Z λa f=>Ai 16 240021 Z f Z λa f=>q_p 17 240021 Z f (λ_=>AK (f.e Z) (f.e Z) Ax) λa f=> ?_
      have⟨a0,a1,al⟩:=bind_some al
      refine AL 18 240021 0 m ao T43 a1 Z f Z Z λa2 a a3 f=>A4 19 240021 0 ao Pl2 a3 a1 Z f Z λa4 a a5 f=> ?_
      subst a5
      have⟨a6,a7,al⟩:=bind_some al
      refine AL 20 240021 0 m ao T43 a7 Z f Z Z λa8 a a9 f=>AW λba w bb m=> ?_
      have ao:=od1 bb ao
      refine AF 0 m ao Z sizeOf2 f Z Z a9 a7 Z Z Z λbc w m bd=> ?_
      have⟨be,bf,al⟩:=bind_some al
      refine A6 0 m bd Z T43 f Z Z Z bf λbg a bh f=>AF 0 m bd Z sizeOf2 f Z Z bh bf Z Z Z λbi w m bj=>Aa (Ak ?_)
      refine Ab f Z λa f=>Ac f Z λa f=>Aa ?_
      obtain rfl:=sj al
      exact⟨_,Z,_,_,Z,_,bi,(gt an (gt av (gt aB (gt aS bb)))),f.k Z,m,bj⟩
   ·intro bk
    rcases Ae ar with⟨bl,ar⟩|⟨bl,ar⟩
    ·refine Ai (hw:=wo f bl) 5 20 Z f Z λa f=> ?_
     refine Ai (hw:=wo f bl) 6 20 Z f Z λa f=>Ai (hw:=wo f bl) 7 20 Z f Z λa f=>q_p (hw:=wo f bl) 8 20 Z f (λ_=>AK (f.e Z) (f.e Z) Ax) λa f=> ?_
     have⟨bm,bn,ar⟩:=bind_some ar
     refine AL (hw:=wo f bl) 9 20 0 m ao T43 bn Z f Z Z λbo a bp f=>A4 (hw:=wo f bl) 10 20 0 ao Pl2 bp bn Z f Z λbq a br f=> ?_
     subst br
     refine Ai (hw:=wo f bl) 11 20 Z f Z λa f=>Ai (hw:=wo f bl) 12 20 Z f Z λa f=>Ai (hw:=wo f bl) 13 20 Z f Z λa f=>q_p (hw:=wo f bl) 14 20 Z f (λ_=>AK (f.e Z) (f.e Z) Ax) λa f=>q_p (hw:=wo f bl) 15 20 Z f (λ_=>AK (f.e Z) (f.e Z) Ax) λa f=> ?_
     have⟨bs,bt,ar⟩:=bind_some ar
     refine AL (hw:=wo f bl) 16 20 0 m ao T43 bt Z f Z Z λbu a bv f=>A4 (hw:=wo f bl) 17 20 0 ao Pl2 bv bt Z f Z λbw a bx f=> ?_
     subst bx
     have⟨bz,bA,ar⟩:=bind_some ar
     refine Bi (i:=18) 20 Z (by kernel_rfl) Z f (Bh f Z Z Z bl) Z Z call191 (λ_ _ w bB m=>Wk.a m bA) λa f=>q_p 19 20 Z f (λ_=>AD (f.e Z) bl (f.e Z)) λa f=> ?_
     obtain rfl:=sj ar
     exact bk _ (f.k Z)
    ·refine Ao 5 20 Z f bl λa f=> ?_
     refine Ao 6 20 Z f bl λa f=>Ao 7 20 Z f bl λa f=>Ao 8 20 Z f bl λa f=>Ao 9 20 Z f bl λa f=>Ao 10 20 Z f bl λa f=>Ao 11 20 Z f bl λa f=>Ao 12 20 Z f bl λa f=>Ao 13 20 Z f bl λa f=>Ao 14 20 Z f bl λa f=>Ao 15 20 Z f bl λa f=>Ao 16 20 Z f bl λa f=>Ao 17 20 Z f bl λa f=>Ao 18 20 Z f bl λa f=>q_p 19 20 Z f (λ_=>AC (f.e Z) bl (f.e Z)) λa f=> ?_
     obtain rfl:=sj ar
     exact bk _ (f.k Z)
 ·rintro a w ⟨_,rfl,ac,rfl,ad,ae,bC,f,m,bD⟩
  obtain rfl:=sj hd
  exact⟨[],trivial,f.d,_,[ae],bC,m,_,Z,bD⟩
theorem Wk.Z0 {v0:Value}{it0:Itm}{x0:LI}{x1 x2:Int}(m:Mem W G w (it0::H))(o0:Ow R0 2 G it0 v0 x0){y:(LI)}(hd:D.Z0 x0 x1 x2=some y):
  Calls prog 186 #[v0,(iv x1),(iv x2)] w (Res W G H (λG' Ho _=>∃i0:Itm,Ho=[i0]∧Ow R0 2 G' i0 v0 y)):=by
 refine Au (args:=[v0,(iv x1),(iv x2)]) (N:=56) [] func186 Z Z (lb Z) Z λa f=> ?_
 unfold D.Z0 at hd
 refine Af ?_
 refine Ab f Z λa f=>Ac f Z λa f=>Ay ?_
 refine Ac f Z λa f=>Ay ?_
 refine Ab f Z λa f=>Ab f Z λa f=>Ah f Z Z AR λa f=>Ac f Z λa f=>Aa (Ag (Af ?_))
 refine Ab f Z λa f=>Ah f Z Z AR λa f=>Ah f Z Z (DA Z) λa f=>Ac f Z λa f=>Aa ?_
 have⟨aa,ab,hd⟩:=bind_some hd
 refine AJ (λa w=>∃ac:LI,ac=aa∧∃(ad:GH) (ae:Itm),GLe G ad∧Fr a 56 [(0,v0),(6,(iv x1)),(7,(iv 0)),(8,(iv (i64.wrap (x2-x1))))]∧Mem W ad w (ae::H)∧Ow R0 2 ad ae v0 ac) ?_ ?_
 ·refine Al ?_
  refine AE (λaf a w=>∃ag:LI,∃ah:Int,(ag,ah)=af∧∃(ai:GH) (aj:Itm),GLe G ai∧Fr a 56 [(0,v0),(6,(iv x1)),(7,(iv 0)),(8,(iv (i64.wrap (x2-x1)))),(9,(iv ah))]∧Mem W ai w (aj::H)∧Ow R0 2 ai aj v0 ag) ab ⟨_,_,Z,_,it0,gr,f.k Z,m,o0⟩ ?_
  clear ab f m
  rintro af ak al am a w ⟨ag,ah,rfl,ai,aj,an,f,m,ao⟩
  refine Ag (Af ?_)
  refine Ab f Z λa f=>Ah f Z Z Cj λa f=>Aa ?_
  rcases Ae al with⟨ap,al⟩|⟨ap,al⟩
  ·refine Am f Z ap ?_
   refine An ?_
   refine Ag (Al (Ak ?_))
   refine Ab f Z λa f=>Ab f Z λa f=>Ab f Z λa f=>Ab f Z λa f=> ?_
   have⟨aq,ar,al⟩:=bind_some al
   refine AO f Z call204 (Wk.w0 m ao ar) λau av aw w ax m ay a f=> ?_
   obtain⟨az,rfl,aA⟩:=ay
   refine Aa (Ak ?_)
   refine Ab f Z λa f=>Ah f Z Z AR λa f=>Ac f Z λa f=>Aa ?_
   obtain rfl:=sj al
   exact⟨_,Z,_,_,Z,_,az,(gt an ax),f.k Z,m,aA⟩
  ·refine Aj f Z ap ?_
   refine AB Z ?_
   obtain rfl:=sj al
   obtain rfl:=am _ rfl
   exact⟨_,Z,_,aj,an,f.k Z,m,ao⟩
 ·rintro a w ⟨ac,rfl,ad,ae,aB,f,m,aC⟩
  refine Af ?_
  refine Ab f Z λa f=>Ah f Z Z AR λa f=>Ac f Z λa f=>Aa ?_
  have⟨aD,aE,hd⟩:=bind_some hd
  refine AJ (λa w=>∃aF:LI,aF=aD∧∃(aG:GH) (aH:Itm),GLe ad aG∧Fr a 56 []∧Mem W aG w (aH::H)∧Ow R0 2 aG aH v0 aF) ?_ ?_
  ·refine Al ?_
   refine AE (λaI a w=>∃aJ:LI,∃aK:Int,(aJ,aK)=aI∧∃(aL:GH) (aM:Itm),GLe ad aL∧Fr a 56 [(0,v0),(6,(iv x1)),(7,(iv 0)),(10,(iv aK))]∧Mem W aL w (aM::H)∧Ow R0 2 aL aM v0 aJ) aE ⟨_,_,Z,_,ae,gr,f.k Z,m,aC⟩ ?_
   clear aE f m
   rintro aI aN aO aP a w ⟨aJ,aK,rfl,aL,aM,aQ,f,m,aR⟩
   refine Ag (Af ?_)
   refine Ab f Z λa f=>Ah f Z Z Cj λa f=>Aa ?_
   rcases Ae aO with⟨aS,aO⟩|⟨aS,aO⟩
   ·refine Am f Z aS ?_
    refine An ?_
    refine Ag (Al (Ag ?_))
    refine B3 AI m ?_
    refine p_p 2 Z f (λ_=>A2 (f.e Z)) λa f=>p_p 3 Z f (λ_=>A2 (f.e Z)) λa f=>p_p 4 Z f (λ_=>A2 (f.e Z)) λa f=>p_p 5 Z f (λ_=>AK (f.e Z) (f.e Z) Ax) λa f=>B2 60017 13 (by kernel_rfl) Z ?_
    refine Ai 0 60017 Z f Z λa f=>Ai 1 60017 Z f Z λa f=>Ai 6 60017 Z f Z λa f=>Ai 7 60017 Z f Z λa f=>Ai 8 60017 Z f Z λa f=>q_p 9 60017 Z f (λ_=>AK (f.e Z) (f.e Z) Ax) λa f=> ?_
    have⟨aT,aU,aO⟩:=bind_some aO
    refine AL 10 60017 0 m aR T43 aU Z f Z Z λaV a aW f=>A4 11 60017 0 aR Pl2 aW aU Z f Z λaX a aY f=> ?_
    subst aY
    refine Ai 12 60017 Z f Z λa f=>Ai 13 60017 Z f Z λa f=> ?_
    have⟨aZ,a0,aO⟩:=bind_some aO
    refine AL 14 60017 0 m aR T43 a0 Z f Z Z λa1 a a2 f=>A4 15 60017 0 aR Pl2 a2 a0 Z f Z λa3 a a4 f=> ?_
    subst a4
    have⟨a5,a6,aO⟩:=bind_some aO
    refine AL 16 60017 0 m aR T43 a6 Z f Z Z λa7 a a8 f=>AW λa9 w ba m=> ?_
    have aR:=od1 ba aR
    refine AF 0 m aR Z sizeOf2 f Z Z a8 a6 Z Z Z λbb w m bc=> ?_
    have⟨bd,be,aO⟩:=bind_some aO
    refine A6 0 m bc Z T43 f Z Z Z be λbf a bg f=>AF 0 m bc Z sizeOf2 f Z Z bg be Z Z Z λbh w m bi=>Aa (Ak ?_)
    refine Ab f Z λa f=>Ab f Z λa f=>Ab f Z λa f=>Ab f Z λa f=> ?_
    have⟨bj,bk,aO⟩:=bind_some aO
    refine AO f Z call204 (Wk.w0 m bi bk) λbl bm bn w bo m bp a f=> ?_
    obtain⟨bq,rfl,br⟩:=bp
    refine Aa (Ak ?_)
    refine Ab f Z λa f=>Ah f Z Z AR λa f=>Ac f Z λa f=>Aa ?_
    obtain rfl:=sj aO
    exact⟨_,Z,_,_,Z,_,bq,(gt aQ (gt ba bo)),f.k Z,m,br⟩
   ·refine Aj f Z aS ?_
    refine AB Z ?_
    obtain rfl:=sj aO
    obtain rfl:=aP _ rfl
    exact⟨_,Z,_,aM,aQ,f.weak trivial,m,aR⟩
  ·rintro a w ⟨aF,rfl,aG,aH,bs,f,m,bt⟩
   obtain rfl:=sj hd
   exact⟨[],trivial,f.d,_,[aH],(gt aB bs),m,_,Z,bt⟩
theorem Wk.k0 {x0:Int}(m:Mem W G w (H)){y:Int}(hd:D.k0 x0=some y):
  Calls prog 179 #[(iv x0)] w (Res W G H (λ_ Ho v=>Ho=[]∧v=(.int .u64 y))):=by
 refine Au (args:=[(iv x0)]) (N:=7) [.tmp 2] func179 Z Z (lb Z) Z λa f=> ?_
 unfold D.k0 at hd
 refine Af ?_
 refine Ac f Z λa f=>Ay ?_
 refine Ab f Z λa f=>l_o f (BP (f.e Z) ⟨_,underlying3⟩ underlying118) λa f=> ?_
 have⟨aa,ab,hd⟩:=bind_some hd
 refine AO f Z call153 (Wk.N m ab) λac ad ae w af m ag a f=> ?_
 obtain⟨rfl,rfl⟩:=ag
 obtain⟨ah,hd⟩:=BZ hd
 refine l_o f (Dy (f.e Z) (f.e Z) ah) λa f=>Ac f Z λa f=>Aa ?_
 refine Ap ?_
 obtain rfl:=sj hd
 exact⟨[(.int .u64 (ishl .u64 1 aa))],f.g Z,f.d,_,[],af,m,Z,Z⟩
theorem Wk.S0 {b0:Nat}{aa:Int}(m:Mem W G w (ib b0 164 [(.int .u64 aa)]::H)){y:Int×Int}(hd:D.S0 aa=some y):
  Calls prog 180 #[(pb b0)] w (Res W G H (λ_ Ho v=>Ho=[ib b0 164 [(.int .u64 y.2)]]∧v=(.int .u64 y.1))):=by
 refine Au (args:=[(pb b0)]) (N:=33) [.tmp 2] func180 Z Z (lb Z) Z λa f=> ?_
 unfold D.S0 at hd
 refine Af ?_
 refine Ac f Z λa f=>Aa (Ag ?_)
 refine A7 9 AI (by kernel_rfl) m ?_
 refine Ai 0 9 Z f Z λa f=>q_p 1 9 Z f (λ_=>Be (f.e Z)) λa f=>Ci 2 9 0 Pl164 Z Z Z f Z λa f=>Ai 3 9 Z f Z λa f=>q_p 4 9 Z f (λ_=>Be (f.e Z)) λa f=>Ci 5 9 0 Pl164 Z Z Z f Z λa f=>q_p 6 9 Z f (λ_=>Dy (f.e Z) (f.e Z) (by decide)) λa f=>q_p 7 9 Z f (λ_=>AK (f.e Z) (f.e Z) b_xor) λa f=>q_p 8 9 Z f (λ_=>Be (f.e Z)) λa f=>AW λab w ac m=>AV 0 0 (ds:=[(.int .u64 (Ba .u64 aa (ishl .u64 aa 13)))]) m sizeOf164 f Z Z Z (A1 Z A8) Z (lb Z) Z λw m=>Aa (Ag ?_)
 refine A7 9 AI (by kernel_rfl) m ?_
 refine Ai 0 9 Z f Z λa f=>q_p 1 9 Z f (λ_=>Be (f.e Z)) λa f=>Ci 2 9 0 Pl164 Z Z Z f Z λa f=>Ai 3 9 Z f Z λa f=>q_p 4 9 Z f (λ_=>Be (f.e Z)) λa f=>Ci 5 9 0 Pl164 Z Z Z f Z λa f=>q_p 6 9 Z f (λ_=>Dv (f.e Z) (f.e Z) (by decide)) λa f=>q_p 7 9 Z f (λ_=>AK (f.e Z) (f.e Z) b_xor) λa f=>q_p 8 9 Z f (λ_=>Be (f.e Z)) λa f=>AW λad w ae m=>AV 0 0 (ds:=[(.int .u64 (Ba .u64 (Ba .u64 aa (ishl .u64 aa 13)) (Bp .u64 (Ba .u64 aa (ishl .u64 aa 13)) 7)))]) m sizeOf164 f Z Z Z (A1 Z A8) Z (lb Z) Z λw m=>Aa (Ag ?_)
 refine A7 9 AI (by kernel_rfl) m ?_
 refine Ai 0 9 Z f Z λa f=>q_p 1 9 Z f (λ_=>Be (f.e Z)) λa f=>Ci 2 9 0 Pl164 Z Z Z f Z λa f=>Ai 3 9 Z f Z λa f=>q_p 4 9 Z f (λ_=>Be (f.e Z)) λa f=>Ci 5 9 0 Pl164 Z Z Z f Z λa f=>q_p 6 9 Z f (λ_=>Dy (f.e Z) (f.e Z) (by decide)) λa f=>q_p 7 9 Z f (λ_=>AK (f.e Z) (f.e Z) b_xor) λa f=>q_p 8 9 Z f (λ_=>Be (f.e Z)) λa f=>AW λaf w ag m=>AV 0 0 (ds:=[(.int .u64 (Ba .u64 (Ba .u64 (Ba .u64 aa (ishl .u64 aa 13)) (Bp .u64 (Ba .u64 aa (ishl .u64 aa 13)) 7)) (ishl .u64 (Ba .u64 (Ba .u64 aa (ishl .u64 aa 13)) (Bp .u64 (Ba .u64 aa (ishl .u64 aa 13)) 7)) 17)))]) m sizeOf164 f Z Z Z (A1 Z A8) Z (lb Z) Z λw m=>Ay ?_
 refine Ab f Z λa f=>l_o f (Be (f.e Z)) λa f=>A5 0 0 m Pl164 f Z Z Z Z λa f=>Ac f Z λa f=>Aa ?_
 refine Ap ?_
 obtain rfl:=sj hd
 exact⟨[(.int .u64 (Ba .u64 (Ba .u64 (Ba .u64 aa (ishl .u64 aa 13)) (Bp .u64 (Ba .u64 aa (ishl .u64 aa 13)) 7)) (ishl .u64 (Ba .u64 (Ba .u64 aa (ishl .u64 aa 13)) (Bp .u64 (Ba .u64 aa (ishl .u64 aa 13)) 7)) 17)))],f.g Z,f.d,_,[ib b0 164 [(.int .u64 (Ba .u64 (Ba .u64 (Ba .u64 aa (ishl .u64 aa 13)) (Bp .u64 (Ba .u64 aa (ishl .u64 aa 13)) 7)) (ishl .u64 (Ba .u64 (Ba .u64 aa (ishl .u64 aa 13)) (Bp .u64 (Ba .u64 aa (ishl .u64 aa 13)) 7)) 17)))]],(gt ac (gt ae ag)),m,Z,Z⟩
theorem Wk.F0 {v0:Value}{it0:Itm}{x0:LI}{x1 x2:Int}(m:Mem W G w (it0::H))(o0:Ow R0 2 G it0 v0 x0){y:(LI)}(hd:D.F0 x0 x1 x2=some y):
  Calls prog 187 #[v0,(iv x1),(iv x2)] w (Res W G H (λG' Ho _=>∃i0:Itm,Ho=[i0]∧Ow R0 2 G' i0 v0 y)):=by
 refine Au (args:=[v0,(iv x1),(iv x2)]) (N:=65) [] func187 Z Z (lb Z) Z λa f=> ?_
 unfold D.F0 at hd
 refine Af ?_
 refine Ab f Z λa f=>Ab f Z λa f=>Ah f Z Z AR λa f=>Ac f Z λa f=>Ay ?_
 refine Ab f Z λa f=>Ah f Z Z Cj λa f=>Aa ?_
 rcases Ae hd with⟨aa,hd⟩|⟨aa,hd⟩
 ·refine Am f Z aa ?_
  refine Af ?_
  refine Ab f Z λa f=>l_o f (BP (f.e Z) ⟨_,underlying3⟩ underlying164) λa f=>BX (cs:=[(.int .u64 0)]) zeroValue164 m f Z Z λab w a m f=>AV 0 0 (ds:=[(.int .u64 (IntKind.u64.wrap (i64.wrap (x2-x1))))]) m sizeOf164 f Z Z Z (A1 Z A8) Z (lb Z) Z λw m=>Ay ?_
  refine Ab f Z λa f=> ?_
  have⟨ac,ad,hd⟩:=bind_some hd
  refine A3 f Z call179 (Wk.k0 m ad) λae w af m a f=> ?_
  have o0:=od1 af o0
  refine Ac f Z λa f=>Ay ?_
  refine Ab f Z λa f=>Ab f Z λa f=>Ah f Z Z (DA Z) λa f=>Ah f Z Z Dj λa f=>Ah f Z Z Ax λa f=>Ah f Z Z AR λa f=>Ac f Z λa f=>Aa ?_
  have⟨ag,ah,hd⟩:=bind_some hd
  refine AJ (λa w=>∃ai:LI,ai=ag∧∃(aj:GH) (ak:Itm),GLe ae aj∧Fr a 65 []∧Mem W aj w (ak::H)∧Ow R0 2 aj ak v0 ai) ?_ ?_
  ·refine Al ?_
   refine AE (λal a w=>∃am:LI,∃an:Int,∃ao:Int,(am,an,ao)=al∧∃(ap:GH) (aq:Itm),GLe ae ap∧Fr a 65 [(0,v0),(1,(iv x1)),(6,(iv (i64.wrap (x2-x1)))),(7,(pb ab)),(8,(.int .u64 ac)),(9,(iv an))]∧Mem W ap w (ib ab 164 [(.int .u64 ao)]::aq::H)∧Ow R0 2 ap aq v0 am) ah ⟨_,_,_,Z,_,it0,gr,f.k Z,m,o0⟩ ?_
   clear ah f m
   rintro al ar au av a w ⟨am,an,ao,rfl,ap,aq,aw,f,m,ax⟩
   refine Ag (Af ?_)
   refine Ab f Z λa f=>Ab f Z λa f=>Ab f Z λa f=>Ah f Z Z (DA Z) λa f=>Ah f Z Z Dj λa f=>Ah f Z Z Ax λa f=>Ah f Z Z Ax λa f=>Ah f Z Z CC λa f=>Aa ?_
   rcases Ae au with⟨ay,au⟩|⟨ay,au⟩
   ·refine Am f Z ay ?_
    refine An ?_
    refine Ag (Al (Af ?_))
    have⟨az,aA,au⟩:=bind_some au
    refine AO f Z call180 (Wk.S0 m aA) λaB aC aD w aE m aF a f=> ?_
    obtain⟨rfl,rfl⟩:=aF
    have ax:=od1 aE ax
    refine Ab f Z λa f=>Ah f Z Z AR λa f=>Ah f Z Z CB λa f=>l_o f (BP (f.e Z) ⟨_,underlying118⟩ underlying3) λa f=>Ac f Z λa f=>Aa (Ag (Af ?_))
    refine Ab f Z λa f=>Ab f Z λa f=>Ah f Z Z Cj λa f=>Aa ?_
    have⟨aG,aH,au⟩:=bind_some au
    refine AJ (λa w=>∃aI:Int,aI=aG∧∃(aJ:GH),GLe aC aJ∧Fr a 65 [(0,v0),(1,(iv x1)),(6,(iv (i64.wrap (x2-x1)))),(7,(pb ab)),(8,(.int .u64 ac)),(9,(iv an)),(10,(iv aI))]∧Mem W aJ w (ib ab 164 [(.int .u64 az.2)]::aq::H)) ?_ ?_
    ·rcases Ae aH with⟨aK,aH⟩|⟨aK,aH⟩
     ·refine Am f Z aK ?_
      refine Ak ?_
      refine Ab f Z λa f=>Ab f Z λa f=>Ah f Z Z AR λa f=>Ac f Z λa f=>Aa ?_
      obtain rfl:=sj aH
      exact⟨_,Z,_,gr,f.k Z,m⟩
     ·refine Aj f Z aK ?_
      refine An ?_
      obtain rfl:=sj aH
      exact⟨_,Z,_,gr,f.k Z,m⟩
    ·rintro a w ⟨aI,rfl,aJ,aL,f,m⟩
     have ax:=od1 aL ax
     refine B3 AI m ?_
     refine p_p 2 Z f (λ_=>A2 (f.e Z)) λa f=>p_p 3 Z f (λ_=>A2 (f.e Z)) λa f=>p_p 4 Z f (λ_=>A2 (f.e Z)) λa f=>p_p 5 Z f (λ_=>AK (f.e Z) (f.e Z) Ax) λa f=>B2 60017 13 (by kernel_rfl) Z ?_
     refine Ai 0 60017 Z f Z λa f=>Ai 1 60017 Z f Z λa f=>Ai 6 60017 Z f Z λa f=>Ai 7 60017 Z f Z λa f=>Ai 8 60017 Z f Z λa f=>q_p 9 60017 Z f (λ_=>AK (f.e Z) (f.e Z) Ax) λa f=> ?_
     have⟨aM,aN,au⟩:=bind_some au
     refine AL 10 60017 1 m ax T43 aN Z f Z Z λaO a aP f=>A4 11 60017 1 ax Pl2 aP aN Z f Z λaQ a aR f=> ?_
     subst aR
     refine Ai 12 60017 Z f Z λa f=>Ai 13 60017 Z f Z λa f=> ?_
     have⟨aS,aT,au⟩:=bind_some au
     refine AL 14 60017 1 m ax T43 aT Z f Z Z λaU a aV f=>A4 15 60017 1 ax Pl2 aV aT Z f Z λaW a aX f=> ?_
     subst aX
     have⟨aY,aZ,au⟩:=bind_some au
     refine AL 16 60017 1 m ax T43 aZ Z f Z Z λa0 a a1 f=>AW λa2 w a3 m=> ?_
     have ax:=od1 a3 ax
     refine AF 1 m ax Z sizeOf2 f Z Z a1 aZ Z Z Z λa4 w m a5=> ?_
     have⟨a6,a7,au⟩:=bind_some au
     refine A6 1 m a5 Z T43 f Z Z Z a7 λa8 a a9 f=>AF 1 m a5 Z sizeOf2 f Z Z a9 a7 Z Z Z λba w m bb=>Aa (Ak ?_)
     refine Ab f Z λa f=>Ah f Z Z Ax λa f=>Ac f Z λa f=>Aa ?_
     obtain rfl:=sj au
     exact⟨_,Z,_,_,_,Z,_,ba,(gt aw (gt aE (gt aL a3))),f.k Z,m,bb⟩
   ·refine Aj f Z ay ?_
    refine AB Z ?_
    have m:=m.fr 1
    have m:=m.eraseAt 1
    obtain rfl:=sj au
    obtain rfl:=av _ rfl
    exact⟨_,Z,_,aq,aw,f.weak trivial,m,ax⟩
  ·rintro a w ⟨ai,rfl,aj,ak,bc,f,m,bd⟩
   obtain rfl:=sj hd
   exact⟨[],trivial,f.d,_,[ak],(gt af bc),m,_,Z,bd⟩
 ·refine Aj f Z aa ?_
  refine An ?_
  obtain rfl:=sj hd
  exact⟨[],trivial,f.d,_,[it0],gr,m,_,Z,o0⟩
theorem Wk.v {v0:Value}{it0:Itm}{b3:Nat}{x0:LI}{x1 x2 aa:Int}(m:Mem W G w (it0::ib b3 3 [(iv aa)]::H))(o0:Ow R0 2 G it0 v0 x0){y:Int×Int×(LI)×Int}(hd:D.v x0 x1 x2 aa=some y):
  Calls prog 212 #[v0,(iv x1),(iv x2),(pb b3)] w (Res W G H (λG' Ho v=>∃i0:Itm,Ho=[i0,ib b3 3 [(iv y.2.2.2)]]∧v= .tuple #[(iv y.1),(iv y.2.1)]∧Ow R0 2 G' i0 v0 y.2.2.1)):=by
 refine Au (args:=[v0,(iv x1),(iv x2),(pb b3)]) (N:=28) [.tmp 8,.tmp 9] func212 Z Z (lb Z) Z λa f=> ?_
 unfold D.v at hd
 refine Af ?_
 refine Ac f Z λa f=>Ac f Z λa f=>Aa (Ag (Ag ?_))
 refine A7 9 AI (by kernel_rfl) m ?_
 refine Ai 0 9 Z f Z λa f=>Ai 1 9 Z f Z λa f=> ?_
 have⟨ab,ac,hd⟩:=bind_some hd
 refine AL 2 9 0 m o0 T43 ac Z f Z Z λad a ae f=>A4 3 9 0 o0 Pl2 ae ac Z f Z λaf a ag f=> ?_
 subst ag
 refine Ai 4 9 Z f Z λa f=>Ai 5 9 Z f Z λa f=> ?_
 have⟨ah,ai,hd⟩:=bind_some hd
 refine AL 6 9 0 m o0 T43 ai Z f Z Z λaj a ak f=>A4 7 9 0 o0 Pl2 ak ai Z f Z λal a am f=> ?_
 subst am
 have⟨an,ao,hd⟩:=bind_some hd
 refine Bi (i:=8) 9 Z (by kernel_rfl) Z f Z Z Z call191 (λ_ _ w ap m=>Wk.a m ao) λa f=>AW λaq w ar m=> ?_
 have o0:=od1 ar o0
 refine Aa ?_
 rcases Ae hd with⟨au,hd⟩|⟨au,hd⟩
 ·refine Am f Z au ?_
  refine Af ?_
  refine Ab f Z λa f=>l_o f (Be (f.e Z)) λa f=>A5 1 0 m Pl3 f Z Z Z Z λa f=>Ah f Z Z Ax λa f=>l_o f (Be (f.e Z)) λa f=>AV 1 0 (ds:=[(iv (i64.wrap (aa+1)))]) m sizeOf3 f Z Z Z (A1 Z A8) Z (lb Z) Z λw m=>Ay ?_
  refine Ab f Z λa f=>Ab f Z λa f=>Ac f Z λa f=>Ac f Z λa f=>Aa ?_
  refine Ap ?_
  obtain rfl:=sj hd
  exact⟨[(iv x2),(iv x1)],⟨f.get _ _ Z,f.get _ _ Z,trivial⟩,f.d,_,[it0,ib b3 3 [(iv (i64.wrap (aa+1)))]],ar,m,_,Z,Z,o0⟩
 ·refine Aj f Z au ?_
  refine An ?_
  refine Af ?_
  refine Ab f Z λa f=>Ab f Z λa f=>Ac f Z λa f=>Ac f Z λa f=>Aa ?_
  refine Ap ?_
  obtain rfl:=sj hd
  exact⟨[(iv x1),(iv x2)],⟨f.get _ _ Z,f.get _ _ Z,trivial⟩,f.d,_,[it0,ib b3 3 [(iv aa)]],ar,m,_,Z,Z,o0⟩
theorem Wk.Q {v0:Value}{it0:Itm}{b4:Nat}{x0:LI}{x1 x2 x3 aa:Int}(m:Mem W G w (it0::ib b4 3 [(iv aa)]::H))(o0:Ow R0 2 G it0 v0 x0){y:Int×(LI)×Int}(hd:D.Q x0 x1 x2 x3 aa=some y):
  Calls prog 206 #[v0,(iv x1),(iv x2),(iv x3),(pb b4)] w (Res W G H (λG' Ho v=>∃i0:Itm,Ho=[i0,ib b4 3 [(iv y.2.2)]]∧v=(iv y.1)∧Ow R0 2 G' i0 v0 y.2.1)):=by
 refine Au (args:=[v0,(iv x1),(iv x2),(iv x3),(pb b4)]) (N:=36) [.tmp 10] func206 Z Z (lb Z) Z λa f=> ?_
 unfold D.Q at hd
 refine Af ?_
 refine Ac f Z λa f=>Ay ?_
 refine Ab f Z λa f=>Ab f Z λa f=>Ab f Z λa f=>Ab f Z λa f=> ?_
 have⟨ab,ac,hd⟩:=bind_some hd
 refine AO f Z call212 (Wk.v m o0 ac) λad ae af w ag m ah a f=> ?_
 obtain⟨ai,rfl,rfl,aj⟩:=ah
 refine Ab f Z λa f=>l_o f (Bn (f.e Z) Z) λa f=>l_o f (Bn (f.e Z) Z) λa f=>Ac f Z λa f=>Ac f Z λa f=>Ay ?_
 refine Ab f Z λa f=>Ab f Z λa f=>Ab f Z λa f=>Ab f Z λa f=> ?_
 have⟨ak,al,hd⟩:=bind_some hd
 refine AO f Z call212 (Wk.v m aj al) λam an ao w ap m aq a f=> ?_
 obtain⟨ar,rfl,rfl,au⟩:=aq
 refine Ab f Z λa f=>l_o f (Bn (f.e Z) Z) λa f=>l_o f (Bn (f.e Z) Z) λa f=>Ac f Z λa f=>Ac f Z λa f=>Ay ?_
 refine Ab f Z λa f=>Ab f Z λa f=>Ab f Z λa f=>Ab f Z λa f=> ?_
 have⟨av,aw,hd⟩:=bind_some hd
 refine AO f Z call212 (Wk.v m au aw) λax ay az w aA m aB a f=> ?_
 obtain⟨aC,rfl,rfl,aD⟩:=aB
 refine Ab f Z λa f=>l_o f (Bn (f.e Z) Z) λa f=>l_o f (Bn (f.e Z) Z) λa f=>Ac f Z λa f=>Ac f Z λa f=>Ay ?_
 refine Ab f Z λa f=>Ac f Z λa f=>Aa ?_
 refine Ap ?_
 obtain rfl:=sj hd
 exact⟨[(iv av.2.1)],f.g Z,f.d,_,[aC,ib b4 3 [(iv av.2.2.2)]],(gt ag (gt ap aA)),m,_,Z,Z,aD⟩
theorem Wk.J {v0:Value}{it0:Itm}{b2:Nat}{x0:LI}{x1 aa:Int}(m:Mem W G w (it0::ib b2 3 [(iv aa)]::H))(o0:Ow R0 2 G it0 v0 x0){y:Int×(LI)×Int}(hd:D.J x0 x1 aa=some y):
  Calls prog 205 #[v0,(iv x1),(pb b2)] w (Res W G H (λG' Ho v=>∃i0:Itm,Ho=[i0,ib b2 3 [(iv y.2.2)]]∧v=(iv y.1)∧Ow R0 2 G' i0 v0 y.2.1)):=by
 refine Au (args:=[v0,(iv x1),(pb b2)]) (N:=15) [.tmp 6] func205 Z Z (lb Z) Z λa f=> ?_
 unfold D.J at hd
 refine Af ?_
 refine Ac f Z λa f=>Ay ?_
 refine Ab f Z λa f=>Ab f Z λa f=>Ah f Z Z AR λa f=>Ab f Z λa f=>Ab f Z λa f=>Ah f Z Z Ax λa f=>Ab f Z λa f=> ?_
 have⟨ab,ac,hd⟩:=bind_some hd
 refine AO f Z call206 (Wk.Q m o0 ac) λad ae af w ag m ah a f=> ?_
 obtain⟨ai,rfl,rfl,aj⟩:=ah
 refine Ac f Z λa f=>Aa ?_
 refine Ap ?_
 obtain rfl:=sj hd
 exact⟨[(iv ab.1)],f.g Z,f.d,_,[ai,ib b2 3 [(iv ab.2.2)]],ag,m,_,Z,Z,aj⟩
theorem Wk.A0 {v0:Value}{it0:Itm}{x0:LI}{x1 x2:Int}(m:Mem W G w (it0::H))(o0:Ow R0 2 G it0 v0 x0){y:Int×Int×(LI)}(hd:D.A0 x0 x1 x2=some y):
  Calls prog 188 #[v0,(iv x1),(iv x2)] w (Res W G H (λG' Ho v=>∃i0:Itm,Ho=[i0]∧v= .tuple #[(iv y.1),(iv y.2.1)]∧Ow R0 2 G' i0 v0 y.2.2)):=by
 refine Au (args:=[v0,(iv x1),(iv x2)]) (N:=57) [.tmp 6,.tmp 7] func188 Z Z (lb Z) Z λa f=> ?_
 unfold D.A0 at hd
 refine Af ?_
 refine Ac f Z λa f=>Ac f Z λa f=>Ay ?_
 refine Ab f Z λa f=>Ab f Z λa f=>Ah f Z Z AR λa f=>Ac f Z λa f=>Ay ?_
 refine BX (cs:=[(iv 0)]) zeroValue3 m f Z Z λaa w a m f=>Ay ?_
 refine Ab f Z λa f=>Ab f Z λa f=>Ah f Z Z (DA Z) λa f=>Ah f Z Z Dj λa f=>Ah f Z Z Ax λa f=>Ac f Z λa f=>Ay ?_
 refine Ab f Z λa f=>Ab f Z λa f=>Ah f Z Z (DA Z) λa f=>Ah f Z Z Dj λa f=>Ah f Z Z Ax λa f=>Ac f Z λa f=>Ay ?_
 refine Ab f Z λa f=>Ab f Z λa f=>Ah f Z Z (DA Z) λa f=>Ah f Z Z Dj λa f=>Ah f Z Z Ax λa f=>Ac f Z λa f=>Aa (Ag (Af ?_))
 refine Ab f Z λa f=>Ah f Z Z Cj λa f=>Aa ?_
 rcases Ae hd with⟨ab,hd⟩|⟨ab,hd⟩
 ·refine Am f Z ab ?_
  refine Ag (Af ?_)
  refine Ab f Z λa f=>Ah f Z Z Cj λa f=>Aa ?_
  have⟨ac,ad,hd⟩:=bind_some hd
  refine AJ (λa w=>∃ae:LI,∃af:Int,∃ag:Int,∃ah:Int,∃ai:Int,(ae,af,ag,ah,ai)=ac∧∃(aj:GH) (ak:Itm),GLe G aj∧Fr a 57 [(0,v0),(9,(pb aa)),(10,(iv af)),(11,(iv ag)),(12,(iv ah))]∧Mem W aj w (ib aa 3 [(iv ai)]::ak::H)∧Ow R0 2 aj ak v0 ae) ?_ ?_
  ·rcases Ae ad with⟨al,ad⟩|⟨al,ad⟩
   ·refine Am f Z al ?_
    refine Af ?_
    refine Ab f Z λa f=>Ab f Z λa f=> ?_
    have m:=m.fr 1
    have⟨am,an,ad⟩:=bind_some ad
    refine AO f Z call205 (Wk.J m o0 an) λao ap aq w ar m au a f=> ?_
    obtain⟨av,rfl,rfl,aw⟩:=au
    refine Ac f Z λa f=>Ay ?_
    refine Ab f Z λa f=>Ab f Z λa f=> ?_
    have⟨ax,ay,ad⟩:=bind_some ad
    refine AO f Z call205 (Wk.J m aw ay) λaz aA aB w aC m aD a f=> ?_
    obtain⟨aE,rfl,rfl,aF⟩:=aD
    refine Ac f Z λa f=>Aa (Ak ?_)
    refine Ab f Z λa f=>Ab f Z λa f=> ?_
    have⟨aG,aH,ad⟩:=bind_some ad
    refine AO f Z call205 (Wk.J m aF aH) λaI aJ aK w aL m aM a f=> ?_
    obtain⟨aN,rfl,rfl,aO⟩:=aM
    refine Ac f Z λa f=>Aa ?_
    have m:=m.fr 1
    obtain rfl:=sj ad
    exact⟨_,_,_,_,_,Z,_,aN,(gt ar (gt aC aL)),f.k Z,m,aO⟩
   ·refine Aj f Z al ?_
    refine An ?_
    obtain rfl:=sj ad
    exact⟨_,_,_,_,_,Z,_,it0,gr,f.k Z,m,o0⟩
  ·rintro a w ⟨ae,af,ag,ah,ai,rfl,aj,ak,aP,f,m,aQ⟩
   refine Ak ?_
   refine Ab f Z λa f=>Ab f Z λa f=>Ab f Z λa f=>Ab f Z λa f=> ?_
   have m:=m.fr 1
   have⟨aR,aS,hd⟩:=bind_some hd
   refine AO f Z call206 (Wk.Q m aQ aS) λaT aU aV w aW m aX a f=> ?_
   obtain⟨aY,rfl,rfl,aZ⟩:=aX
   refine Ac f Z λa f=>Ay ?_
   refine A5 1 0 m Pl3 f Z Z Z Z λa f=>Aa (Al (Af ?_))
   refine Ah f Z Z BF λa f=>Ac f Z λa f=>Aa ?_
   rcases Ae hd with⟨a0,hd⟩|⟨a0,hd⟩
   ·refine Am f Z a0 ?_
    refine Af ?_
    refine Ab f Z λa f=>Ac f Z λa f=>Ac f Z λa f=>Aa ?_
    refine Ap ?_
    have m:=m.eraseAt 1
    obtain rfl:=sj hd
    exact⟨[(iv aR.1),(iv 1)],⟨f.get _ _ Z,f.get _ _ Z,trivial⟩,f.d,_,[aY],(gt aP aW),m,_,Z,Z,aZ⟩
   ·refine Aj f Z a0 ?_
    refine Af ?_
    refine Ah f Z Z BF λa f=>Ac f Z λa f=>Aa ?_
    rcases Ae hd with⟨a1,hd⟩|⟨a1,hd⟩
    ·refine Am f Z a1 ?_
     refine Af ?_
     refine Ab f Z λa f=>Ac f Z λa f=>Ac f Z λa f=>Aa ?_
     refine Ap ?_
     have m:=m.eraseAt 1
     obtain rfl:=sj hd
     exact⟨[(iv aR.1),(iv 2)],⟨f.get _ _ Z,f.get _ _ Z,trivial⟩,f.d,_,[aY],(gt aP aW),m,_,Z,Z,aZ⟩
    ·refine Aj f Z a1 ?_
     refine Af ?_
     refine Ab f Z λa f=>Ac f Z λa f=>Ac f Z λa f=>Aa ?_
     refine Ap ?_
     have m:=m.eraseAt 1
     obtain rfl:=sj hd
     exact⟨[(iv aR.1),(iv 0)],⟨f.get _ _ Z,f.get _ _ Z,trivial⟩,f.d,_,[aY],(gt aP aW),m,_,Z,Z,aZ⟩
 ·refine Aj f Z ab ?_
  refine An ?_
  refine Af ?_
  refine A5 0 0 m Pl3 f Z Z Z Z λa f=>Aa (Al (Af ?_))
  refine Ah f Z Z BF λa f=>Ac f Z λa f=>Aa ?_
  rcases Ae hd with⟨a2,hd⟩|⟨a2,hd⟩
  ·refine Am f Z a2 ?_
   refine Af ?_
   refine Ab f Z λa f=>Ac f Z λa f=>Ac f Z λa f=>Aa ?_
   refine Ap ?_
   have m:=m.fr 1
   have m:=m.eraseAt 1
   obtain rfl:=sj hd
   exact⟨[(iv (i64.wrap (x1+(i64.wrap ((i64.wrap (Int.tdiv (i64.wrap (x2-x1)) 4))*2))))),(iv 1)],⟨f.get _ _ Z,f.get _ _ Z,trivial⟩,f.d,_,[it0],gr,m,_,Z,Z,o0⟩
  ·refine Aj f Z a2 ?_
   refine Af ?_
   refine Ah f Z Z BF λa f=>Ac f Z λa f=>Aa ?_
   rcases Ae hd with⟨a3,hd⟩|⟨a3,hd⟩
   ·refine Am f Z a3 ?_
    refine Af ?_
    refine Ab f Z λa f=>Ac f Z λa f=>Ac f Z λa f=>Aa ?_
    refine Ap ?_
    have m:=m.fr 1
    have m:=m.eraseAt 1
    obtain rfl:=sj hd
    exact⟨[(iv (i64.wrap (x1+(i64.wrap ((i64.wrap (Int.tdiv (i64.wrap (x2-x1)) 4))*2))))),(iv 2)],⟨f.get _ _ Z,f.get _ _ Z,trivial⟩,f.d,_,[it0],gr,m,_,Z,Z,o0⟩
   ·refine Aj f Z a3 ?_
    refine Af ?_
    refine Ab f Z λa f=>Ac f Z λa f=>Ac f Z λa f=>Aa ?_
    refine Ap ?_
    have m:=m.fr 1
    have m:=m.eraseAt 1
    obtain rfl:=sj hd
    exact⟨[(iv (i64.wrap (x1+(i64.wrap ((i64.wrap (Int.tdiv (i64.wrap (x2-x1)) 4))*2))))),(iv 0)],⟨f.get _ _ Z,f.get _ _ Z,trivial⟩,f.d,_,[it0],gr,m,_,Z,Z,o0⟩
theorem Wk.t0 {v0:Value}{it0:Itm}{x0:LI}{x1 x2:Int}(m:Mem W G w (it0::H))(o0:Ow R0 2 G it0 v0 x0){y:(LI)}(hd:D.t0 x0 x1 x2=some y):
  Calls prog 189 #[v0,(iv x1),(iv x2)] w (Res W G H (λG' Ho _=>∃i0:Itm,Ho=[i0]∧Ow R0 2 G' i0 v0 y)):=by
 refine Au (args:=[v0,(iv x1),(iv x2)]) (N:=32) [] func189 Z Z (lb Z) Z λa f=> ?_
 unfold D.t0 at hd
 refine Af ?_
 refine Ab f Z λa f=>Ac f Z λa f=>Ay ?_
 refine Ab f Z λa f=>Ah f Z Z AR λa f=>Ac f Z λa f=>Aa ?_
 have⟨aa,ab,hd⟩:=bind_some hd
 refine AJ (λa w=>∃ac:LI,ac=aa∧∃(ad:GH) (ae:Itm),GLe G ad∧Fr a 32 []∧Mem W ad w (ae::H)∧Ow R0 2 ad ae v0 ac) ?_ ?_
 ·refine Al ?_
  refine AE (λaf a w=>∃ag:LI,∃ah:Int,∃ai:Int,(ag,ah,ai)=af∧∃(aj:GH) (ak:Itm),GLe G aj∧Fr a 32 [(0,v0),(6,(iv ah)),(7,(iv ai))]∧Mem W aj w (ak::H)∧Ow R0 2 aj ak v0 ag) ab ⟨_,_,_,Z,_,it0,gr,f.k Z,m,o0⟩ ?_
  clear ab f m
  rintro af al am an a w ⟨ag,ah,ai,rfl,aj,ak,ao,f,m,ap⟩
  refine Ag (Af ?_)
  refine Ab f Z λa f=>Ab f Z λa f=>Ah f Z Z AQ λa f=>Aa ?_
  rcases Ae am with⟨aq,am⟩|⟨aq,am⟩
  ·refine Am f Z aq ?_
   refine An ?_
   refine Al (Ag ?_)
   refine B3 AI m ?_
   refine p_p 2 Z f (λ_=>A2 (f.e Z)) λa f=>p_p 3 Z f (λ_=>A2 (f.e Z)) λa f=>B2 12013 11 (by kernel_rfl) Z ?_
   refine Ai 0 12013 Z f Z λa f=>Ai 1 12013 Z f Z λa f=>Ai 4 12013 Z f Z λa f=>Ai 5 12013 Z f Z λa f=> ?_
   have⟨ar,au,am⟩:=bind_some am
   refine AL 6 12013 0 m ap T43 au Z f Z Z λav a aw f=>A4 7 12013 0 ap Pl2 aw au Z f Z λax a ay f=> ?_
   subst ay
   refine Ai 8 12013 Z f Z λa f=>Ai 9 12013 Z f Z λa f=> ?_
   have⟨az,aA,am⟩:=bind_some am
   refine AL 10 12013 0 m ap T43 aA Z f Z Z λaB a aC f=>A4 11 12013 0 ap Pl2 aC aA Z f Z λaD a aE f=> ?_
   subst aE
   have⟨aF,aG,am⟩:=bind_some am
   refine AL 12 12013 0 m ap T43 aG Z f Z Z λaH a aI f=>AW λaJ w aK m=> ?_
   have ap:=od1 aK ap
   refine AF 0 m ap Z sizeOf2 f Z Z aI aG Z Z Z λaL w m aM=> ?_
   have⟨aN,aO,am⟩:=bind_some am
   refine A6 0 m aM Z T43 f Z Z Z aO λaP a aQ f=>AF 0 m aM Z sizeOf2 f Z Z aQ aO Z Z Z λaR w m aS=>Ay ?_
   refine Ab f Z λa f=>Ah f Z Z Ax λa f=>Ac f Z λa f=>Aa (Ak ?_)
   refine Ab f Z λa f=>Ah f Z Z AR λa f=>Ac f Z λa f=>Aa ?_
   obtain rfl:=sj am
   exact⟨_,Z,_,_,_,Z,_,aR,(gt ao aK),f.k Z,m,aS⟩
  ·refine Aj f Z aq ?_
   refine AB Z ?_
   obtain rfl:=sj am
   obtain rfl:=an _ rfl
   exact⟨_,Z,_,ak,ao,f.weak trivial,m,ap⟩
 ·rintro a w ⟨ac,rfl,ad,ae,aT,f,m,aU⟩
  obtain rfl:=sj hd
  exact⟨[],trivial,f.d,_,[ae],aT,m,_,Z,aU⟩
theorem Wk.J0 {v0:Value}{it0:Itm}{x0:LI}{x1 x2:Int}(m:Mem W G w (it0::H))(o0:Ow R0 2 G it0 v0 x0){y:Bool×(LI)}(hd:D.J0 x0 x1 x2=some y):
  Calls prog 190 #[v0,(iv x1),(iv x2)] w (Res W G H (λG' Ho v=>∃i0:Itm,Ho=[i0]∧v=(.bool y.1)∧Ow R0 2 G' i0 v0 y.2)):=by
 refine Au (args:=[v0,(iv x1),(iv x2)]) (N:=133) [.tmp 6] func190 Z Z (lb Z) Z λa f=> ?_
 unfold D.J0 at hd
 refine Af ?_
 refine Ac f Z λa f=>Ay ?_
 refine Ab f Z λa f=>Ah f Z Z Ax λa f=>Ac f Z λa f=>Aa (Ag (Af ?_))
 refine Ac f Z λa f=>Aa ?_
 have⟨aa,ab,hd⟩:=bind_some hd
 refine AJ (λa w=>∃q_1621':LI,aa= .inl q_1621'∧∃ac:LI,ac=q_1621'∧∃(ad:GH) (ae:Itm),GLe G ad∧Fr a 133 []∧Mem W ad w (ae::H)∧Ow R0 2 ad ae v0 ac) ?_ ?_
 ·refine Al ?_
  refine AE (λaf a w=>∃ag:LI,∃ah:Int,∃ai:Int,(ag,ah,ai)=af∧∃(aj:GH) (ak:Itm),GLe G aj∧Fr a 133 [(0,v0),(1,(iv x1)),(2,(iv x2)),(7,(iv ah)),(8,(iv ai))]∧Mem W aj w (ak::H)∧Ow R0 2 aj ak v0 ag) ab ⟨_,_,_,Z,_,it0,gr,f.k Z,m,o0⟩ ?_
  clear ab f m
  rintro af al am an a w ⟨ag,ah,ai,rfl,aj,ak,ao,f,m,ap⟩
  refine Ag (Af ?_)
  refine Ab f Z λa f=>Ah f Z Z AQ λa f=>Aa ?_
  rcases Ae am with⟨aq,am⟩|⟨aq,am⟩
  ·refine Am f Z aq ?_
   refine An ?_
   refine Ag (Al (Ag ?_))
   have⟨ar,au,am⟩:=bind_some am
   refine AJ (λa w=>∃av:Int,av=ar∧∃(aw:GH),GLe aj aw∧Fr a 133 [(0,v0),(1,(iv x1)),(2,(iv x2)),(7,(iv av)),(8,(iv ai))]∧Mem W aw w (ak::H)) ?_ ?_
   ·refine Al ?_
    refine AE (λax a w=>∃ay:Int,ay=ax∧∃(az:GH),GLe aj az∧Fr a 133 [(0,v0),(1,(iv x1)),(2,(iv x2)),(7,(iv ay)),(8,(iv ai))]∧Mem W az w (ak::H)) au ⟨_,Z,_,gr,f.k Z,m⟩ ?_
    clear au f m
    rintro ax aA aB aC a w ⟨ay,rfl,az,aD,f,m⟩
    have ap:=od1 aD ap
    refine Ag (Ag ?_)
    refine A7 16 AI (by kernel_rfl) m ?_
    refine Ai 0 16 Z f Z λa f=>Ai 1 16 Z f Z λa f=>q_p 2 16 Z f (λ_=>AK (f.e Z) (f.e Z) AQ) λa f=>Ai 3 16 Z f Z λa f=> ?_
    have⟨aE,aF,aB⟩:=bind_some aB
    refine B1 (fuel':=0) (listed':= #[true,true,true,true,true,true,true,true,true,true,true,true,true,true,true,true]) (λa=>Fr a 133 [(0,v0),(1,(iv x1)),(2,(iv x2)),(7,(iv ay)),(8,(iv ai)),(17,(iv ay)),(18,(iv x2)),(19,(.bool (decide (ay<x2)))),(20,(.bool (decide (ay<x2)))),(32,(.bool aE))]) ?_ ?_
    ·intro a f
     refine AW λaG w aH m=>Aa ?_
     rcases Ae aB with⟨aI,aB⟩|⟨aI,aB⟩
     ·refine Am f Z aI ?_
      refine An ?_
      refine Al (Ak ?_)
      refine Ab f Z λa f=>Ah f Z Z Ax λa f=>Ac f Z λa f=>Aa ?_
      obtain rfl:=sj aB
      exact⟨_,Z,_,Z,_,(gt aD aH),f.k Z,m⟩
     ·refine Aj f Z aI ?_
      refine AB Z ?_
      obtain rfl:=sj aB
      obtain rfl:=aC _ rfl
      exact⟨_,Z,_,(gt aD aH),f.k Z,m⟩
    ·intro aJ
     rcases Ae aF with⟨aK,aF⟩|⟨aK,aF⟩
     ·refine Ai (hw:=wo f aK) 4 16 Z f Z λa f=> ?_
      refine Ai (hw:=wo f aK) 5 16 Z f Z λa f=> ?_
      have⟨aL,aM,aF⟩:=bind_some aF
      refine AL (hw:=wo f aK) 6 16 0 m ap T43 aM Z f Z Z λaN a aO f=>A4 (hw:=wo f aK) 7 16 0 ap Pl2 aO aM Z f Z λaP a aQ f=> ?_
      subst aQ
      refine Ai (hw:=wo f aK) 8 16 Z f Z λa f=>Ai (hw:=wo f aK) 9 16 Z f Z λa f=>q_p (hw:=wo f aK) 10 16 Z f (λ_=>AK (f.e Z) (f.e Z) AR) λa f=> ?_
      have⟨aR,aS,aF⟩:=bind_some aF
      refine AL (hw:=wo f aK) 11 16 0 m ap T43 aS Z f Z Z λaT a aU f=>A4 (hw:=wo f aK) 12 16 0 ap Pl2 aU aS Z f Z λaV a aW f=> ?_
      subst aW
      have⟨aX,aY,aF⟩:=bind_some aF
      refine Bi (i:=13) 16 Z (by kernel_rfl) Z f (Bh f Z Z Z aK) Z Z call191 (λ_ _ w aZ m=>Wk.a m aY) λa f=>q_p (hw:=wo f aK) 14 16 Z f (λ_=>Bg (f.e Z)) λa f=>q_p 15 16 Z f (λ_=>AD (f.e Z) aK (f.e Z)) λa f=> ?_
      obtain rfl:=sj aF
      exact aJ _ (f.k Z)
     ·refine Ao 4 16 Z f aK λa f=> ?_
      refine Ao 5 16 Z f aK λa f=>Ao 6 16 Z f aK λa f=>Ao 7 16 Z f aK λa f=>Ao 8 16 Z f aK λa f=>Ao 9 16 Z f aK λa f=>Ao 10 16 Z f aK λa f=>Ao 11 16 Z f aK λa f=>Ao 12 16 Z f aK λa f=>Ao 13 16 Z f aK λa f=>Ao 14 16 Z f aK λa f=>q_p 15 16 Z f (λ_=>AC (f.e Z) aK (f.e Z)) λa f=> ?_
      obtain rfl:=sj aF
      exact aJ _ (f.k Z)
   ·rintro a w ⟨av,rfl,aw,a0,f,m⟩
    have ap:=od1 a0 ap
    refine Ag (Af ?_)
    refine Ab f Z λa f=>Ab f Z λa f=>Ah f Z Z BF λa f=>Aa ?_
    rcases Ae am with⟨a1,am⟩|⟨a1,am⟩
    ·refine Am f Z a1 ?_
     refine Af ?_
     refine Ac f Z λa f=>Aa ?_
     refine Ap ?_
     obtain rfl:=sj am
     obtain rfl:=an _ rfl
     obtain rfl:=sj hd
     exact⟨[(.bool true)],f.g Z,f.d,_,[ak],(gt ao a0),m,_,Z,Z,ap⟩
    ·refine Aj f Z a1 ?_
     refine An ?_
     refine Ag (Af ?_)
     refine Ab f Z λa f=>Ab f Z λa f=>Ah f Z Z AR λa f=>Ah f Z Z AQ λa f=>Aa ?_
     rcases Ae am with⟨a2,am⟩|⟨a2,am⟩
     ·refine Am f Z a2 ?_
      refine Af ?_
      refine Ac f Z λa f=>Aa ?_
      refine Ap ?_
      obtain rfl:=sj am
      obtain rfl:=an _ rfl
      obtain rfl:=sj hd
      exact⟨[(.bool false)],f.g Z,f.d,_,[ak],(gt ao a0),m,_,Z,Z,ap⟩
     ·refine Aj f Z a2 ?_
      refine An ?_
      refine Ag ?_
      refine B3 AI m ?_
      refine p_p 2 Z f (λ_=>A2 (f.e Z)) λa f=>p_p 3 Z f (λ_=>A2 (f.e Z)) λa f=>p_p 4 Z f (λ_=>AK (f.e Z) (f.e Z) AR) λa f=>B2 28015 12 (by kernel_rfl) Z ?_
      refine Ai 0 28015 Z f Z λa f=>Ai 1 28015 Z f Z λa f=>Ai 5 28015 Z f Z λa f=>Ai 6 28015 Z f Z λa f=>q_p 7 28015 Z f (λ_=>AK (f.e Z) (f.e Z) AR) λa f=> ?_
      have⟨a3,a4,am⟩:=bind_some am
      refine AL 8 28015 0 m ap T43 a4 Z f Z Z λa5 a a6 f=>A4 9 28015 0 ap Pl2 a6 a4 Z f Z λa7 a a8 f=> ?_
      subst a8
      refine Ai 10 28015 Z f Z λa f=>Ai 11 28015 Z f Z λa f=> ?_
      have⟨a9,ba,am⟩:=bind_some am
      refine AL 12 28015 0 m ap T43 ba Z f Z Z λbb a bc f=>A4 13 28015 0 ap Pl2 bc ba Z f Z λbd a be f=> ?_
      subst be
      have⟨bf,bg,am⟩:=bind_some am
      refine AL 14 28015 0 m ap T43 bg Z f Z Z λbh a bi f=>AW λbj w bk m=> ?_
      have ap:=od1 bk ap
      refine AF 0 m ap Z sizeOf2 f Z Z bi bg Z Z Z λbl w m bm=> ?_
      have⟨bn,bo,am⟩:=bind_some am
      refine A6 0 m bm Z T43 f Z Z Z bo λbp a bq f=>AF 0 m bm Z sizeOf2 f Z Z bq bo Z Z Z λbr w m bs=>Aa (Ag (Af ?_))
      refine Ab f Z λa f=>Ab f Z λa f=>Ah f Z Z AR λa f=>Ah f Z Z Cj λa f=>Aa ?_
      have⟨bt,bu,am⟩:=bind_some am
      refine AJ (λa w=>∃bv:LI,bv=bt∧∃(bw:GH) (bx:Itm),GLe bj bw∧Fr a 133 [(0,v0),(1,(iv x1)),(2,(iv x2)),(7,(iv av)),(8,(iv ai))]∧Mem W bw w (bx::H)∧Ow R0 2 bw bx v0 bv) ?_ ?_
      ·rcases Ae bu with⟨bz,bu⟩|⟨bz,bu⟩
       ·refine Am f Z bz ?_
        refine Af ?_
        refine Ab f Z λa f=>Ah f Z Z AR λa f=>Ac f Z λa f=>Aa ?_
        have⟨bA,bB,bu⟩:=bind_some bu
        refine AJ (λa w=>∃bC:LI,bC=bA∧∃(bD:GH) (bE:Itm),GLe bj bD∧Fr a 133 [(0,v0),(1,(iv x1)),(2,(iv x2)),(7,(iv av)),(8,(iv ai))]∧Mem W bD w (bE::H)∧Ow R0 2 bD bE v0 bC) ?_ ?_
        ·refine Al ?_
         refine AE (λbF a w=>∃bG:LI,∃bH:Int,(bG,bH)=bF∧∃(bI:GH) (bJ:Itm),GLe bj bI∧Fr a 133 [(0,v0),(1,(iv x1)),(2,(iv x2)),(7,(iv av)),(8,(iv ai)),(9,(iv bH))]∧Mem W bI w (bJ::H)∧Ow R0 2 bI bJ v0 bG) bB ⟨_,_,Z,_,br,gr,f.k Z,m,bs⟩ ?_
         clear bB f m
         rintro bF bK bL bM a w ⟨bG,bH,rfl,bI,bJ,bN,f,m,bO⟩
         refine Ag (Af ?_)
         refine Ab f Z λa f=>Ah f Z Z Cj λa f=>Aa ?_
         rcases Ae bL with⟨bP,bL⟩|⟨bP,bL⟩
         ·refine Am f Z bP ?_
          refine An ?_
          refine Ag (Al (Ag (Ag ?_)))
          refine A7 11 AI (by kernel_rfl) m ?_
          refine Ai 0 11 Z f Z λa f=>Ai 1 11 Z f Z λa f=> ?_
          have⟨bQ,bR,bL⟩:=bind_some bL
          refine AL 2 11 0 m bO T43 bR Z f Z Z λbS a bT f=>A4 3 11 0 bO Pl2 bT bR Z f Z λbU a bV f=> ?_
          subst bV
          refine Ai 4 11 Z f Z λa f=>Ai 5 11 Z f Z λa f=>q_p 6 11 Z f (λ_=>AK (f.e Z) (f.e Z) AR) λa f=> ?_
          have⟨bW,bX,bL⟩:=bind_some bL
          refine AL 7 11 0 m bO T43 bX Z f Z Z λbY a bZ f=>A4 8 11 0 bO Pl2 bZ bX Z f Z λb0 a b1 f=> ?_
          subst b1
          have⟨b2,b3,bL⟩:=bind_some bL
          refine Bi (i:=9) 11 Z (by kernel_rfl) Z f Z Z Z call191 (λ_ _ w b4 m=>Wk.a m b3) λa f=>q_p 10 11 Z f (λ_=>Bg (f.e Z)) λa f=>AW λb5 w b6 m=> ?_
          have bO:=od1 b6 bO
          refine Aa ?_
          rcases Ae bL with⟨b7,bL⟩|⟨b7,bL⟩
          ·refine Am f Z b7 ?_
           refine AB Z ?_
           obtain rfl:=sj bL
           obtain rfl:=bM _ rfl
           exact⟨_,Z,_,bJ,(gt bN b6),f.k Z,m,bO⟩
          ·refine Aj f Z b7 ?_
           refine An ?_
           refine B3 AI m ?_
           refine p_p 2 Z f (λ_=>A2 (f.e Z)) λa f=>p_p 3 Z f (λ_=>A2 (f.e Z)) λa f=>p_p 4 Z f (λ_=>AK (f.e Z) (f.e Z) AR) λa f=>B2 28015 12 (by kernel_rfl) Z ?_
           refine Ai 0 28015 Z f Z λa f=>Ai 1 28015 Z f Z λa f=>Ai 5 28015 Z f Z λa f=>Ai 6 28015 Z f Z λa f=>q_p 7 28015 Z f (λ_=>AK (f.e Z) (f.e Z) AR) λa f=> ?_
           have⟨b8,b9,bL⟩:=bind_some bL
           refine AL 8 28015 0 m bO T43 b9 Z f Z Z λca a cb f=>A4 9 28015 0 bO Pl2 cb b9 Z f Z λcc a cd f=> ?_
           subst cd
           refine Ai 10 28015 Z f Z λa f=>Ai 11 28015 Z f Z λa f=> ?_
           have⟨ce,cf,bL⟩:=bind_some bL
           refine AL 12 28015 0 m bO T43 cf Z f Z Z λcg a ch f=>A4 13 28015 0 bO Pl2 ch cf Z f Z λci a cj f=> ?_
           subst cj
           have⟨ck,cl,bL⟩:=bind_some bL
           refine AL 14 28015 0 m bO T43 cl Z f Z Z λcm a cn f=>AW λco w cp m=> ?_
           have bO:=od1 cp bO
           refine AF 0 m bO Z sizeOf2 f Z Z cn cl Z Z Z λcq w m cr=> ?_
           have⟨cs,ct,bL⟩:=bind_some bL
           refine A6 0 m cr Z T43 f Z Z Z ct λcu a cv f=>AF 0 m cr Z sizeOf2 f Z Z cv ct Z Z Z λcw w m cx=>Aa (Ak ?_)
           refine Ab f Z λa f=>Ah f Z Z AR λa f=>Ac f Z λa f=>Aa ?_
           obtain rfl:=sj bL
           exact⟨_,Z,_,_,Z,_,cw,(gt bN (gt b6 cp)),f.k Z,m,cx⟩
         ·refine Aj f Z bP ?_
          refine AB Z ?_
          obtain rfl:=sj bL
          obtain rfl:=bM _ rfl
          exact⟨_,Z,_,bJ,bN,f.k Z,m,bO⟩
        ·rintro a w ⟨bC,rfl,bD,bE,cy,f,m,cz⟩
         obtain rfl:=sj bu
         exact⟨_,Z,_,bE,cy,f.k Z,m,cz⟩
       ·refine Aj f Z bz ?_
        refine An ?_
        obtain rfl:=sj bu
        exact⟨_,Z,_,br,gr,f.k Z,m,bs⟩
      ·rintro a w ⟨bv,rfl,bw,bx,cA,f,m,cB⟩
       refine Af ?_
       refine Ab f Z λa f=>Ab f Z λa f=>Ah f Z Z AR λa f=>Ah f Z Z Cj λa f=>Aa ?_
       rcases Ae am with⟨cC,am⟩|⟨cC,am⟩
       ·refine Am f Z cC ?_
        refine Af ?_
        refine Ab f Z λa f=>Ah f Z Z Ax λa f=>Ac f Z λa f=>Aa ?_
        have⟨cD,cE,am⟩:=bind_some am
        refine AJ (λa w=>∃cF:LI,cF=cD∧∃(cG:GH) (cH:Itm),GLe bw cG∧Fr a 133 [(0,v0),(1,(iv x1)),(2,(iv x2)),(7,(iv av)),(8,(iv ai))]∧Mem W cG w (cH::H)∧Ow R0 2 cG cH v0 cF) ?_ ?_
        ·refine Al ?_
         refine AE (λcI a w=>∃cJ:LI,∃cK:Int,(cJ,cK)=cI∧∃(cL:GH) (cM:Itm),GLe bw cL∧Fr a 133 [(0,v0),(1,(iv x1)),(2,(iv x2)),(7,(iv av)),(8,(iv ai)),(10,(iv cK))]∧Mem W cL w (cM::H)∧Ow R0 2 cL cM v0 cJ) cE ⟨_,_,Z,_,bx,gr,f.k Z,m,cB⟩ ?_
         clear cE f m
         rintro cI cN cO cP a w ⟨cJ,cK,rfl,cL,cM,cQ,f,m,cR⟩
         refine Ag (Af ?_)
         refine Ab f Z λa f=>Ab f Z λa f=>Ah f Z Z AQ λa f=>Aa ?_
         rcases Ae cO with⟨cS,cO⟩|⟨cS,cO⟩
         ·refine Am f Z cS ?_
          refine An ?_
          refine Ag (Al (Ag (Ag ?_)))
          refine A7 11 AI (by kernel_rfl) m ?_
          refine Ai 0 11 Z f Z λa f=>Ai 1 11 Z f Z λa f=> ?_
          have⟨cT,cU,cO⟩:=bind_some cO
          refine AL 2 11 0 m cR T43 cU Z f Z Z λcV a cW f=>A4 3 11 0 cR Pl2 cW cU Z f Z λcX a cY f=> ?_
          subst cY
          refine Ai 4 11 Z f Z λa f=>Ai 5 11 Z f Z λa f=>q_p 6 11 Z f (λ_=>AK (f.e Z) (f.e Z) AR) λa f=> ?_
          have⟨cZ,c0,cO⟩:=bind_some cO
          refine AL 7 11 0 m cR T43 c0 Z f Z Z λc1 a c2 f=>A4 8 11 0 cR Pl2 c2 c0 Z f Z λc3 a c4 f=> ?_
          subst c4
          have⟨c5,c6,cO⟩:=bind_some cO
          refine Bi (i:=9) 11 Z (by kernel_rfl) Z f Z Z Z call191 (λ_ _ w c7 m=>Wk.a m c6) λa f=>q_p 10 11 Z f (λ_=>Bg (f.e Z)) λa f=>AW λc8 w c9 m=> ?_
          have cR:=od1 c9 cR
          refine Aa ?_
          rcases Ae cO with⟨da,cO⟩|⟨da,cO⟩
          ·refine Am f Z da ?_
           refine AB Z ?_
           obtain rfl:=sj cO
           obtain rfl:=cP _ rfl
           exact⟨_,Z,_,cM,(gt cQ c9),f.k Z,m,cR⟩
          ·refine Aj f Z da ?_
           refine An ?_
           refine B3 AI m ?_
           refine p_p 2 Z f (λ_=>A2 (f.e Z)) λa f=>p_p 3 Z f (λ_=>A2 (f.e Z)) λa f=>p_p 4 Z f (λ_=>AK (f.e Z) (f.e Z) AR) λa f=>B2 28015 12 (by kernel_rfl) Z ?_
           refine Ai 0 28015 Z f Z λa f=>Ai 1 28015 Z f Z λa f=>Ai 5 28015 Z f Z λa f=>Ai 6 28015 Z f Z λa f=>q_p 7 28015 Z f (λ_=>AK (f.e Z) (f.e Z) AR) λa f=> ?_
           have⟨db,dc,cO⟩:=bind_some cO
           refine AL 8 28015 0 m cR T43 dc Z f Z Z λdd a de f=>A4 9 28015 0 cR Pl2 de dc Z f Z λdf a dg f=> ?_
           subst dg
           refine Ai 10 28015 Z f Z λa f=>Ai 11 28015 Z f Z λa f=> ?_
           have⟨dh,di,cO⟩:=bind_some cO
           refine AL 12 28015 0 m cR T43 di Z f Z Z λdj a dk f=>A4 13 28015 0 cR Pl2 dk di Z f Z λdl a dm f=> ?_
           subst dm
           have⟨dn,dp,cO⟩:=bind_some cO
           refine AL 14 28015 0 m cR T43 dp Z f Z Z λdq a dr f=>AW λds w dt m=> ?_
           have cR:=od1 dt cR
           refine AF 0 m cR Z sizeOf2 f Z Z dr dp Z Z Z λdu w m dv=> ?_
           have⟨dw,dx,cO⟩:=bind_some cO
           refine A6 0 m dv Z T43 f Z Z Z dx λdy a dz f=>AF 0 m dv Z sizeOf2 f Z Z dz dx Z Z Z λdA w m dB=>Aa (Ak ?_)
           refine Ab f Z λa f=>Ah f Z Z Ax λa f=>Ac f Z λa f=>Aa ?_
           obtain rfl:=sj cO
           exact⟨_,Z,_,_,Z,_,dA,(gt cQ (gt c9 dt)),f.k Z,m,dB⟩
         ·refine Aj f Z cS ?_
          refine AB Z ?_
          obtain rfl:=sj cO
          obtain rfl:=cP _ rfl
          exact⟨_,Z,_,cM,cQ,f.k Z,m,cR⟩
        ·rintro a w ⟨cF,rfl,cG,cH,dC,f,m,dD⟩
         refine Ak ?_
         refine Ab f Z λa f=>Ah f Z Z Ax λa f=>Ac f Z λa f=>Aa ?_
         obtain rfl:=sj am
         exact⟨_,Z,_,_,_,Z,_,cH,(gt ao (gt a0 (gt bk (gt cA dC)))),f.k Z,m,dD⟩
       ·refine Aj f Z cC ?_
        refine An ?_
        refine Ak ?_
        refine Ab f Z λa f=>Ah f Z Z Ax λa f=>Ac f Z λa f=>Aa ?_
        obtain rfl:=sj am
        exact⟨_,Z,_,_,_,Z,_,bx,(gt ao (gt a0 (gt bk cA))),f.k Z,m,cB⟩
  ·refine Aj f Z aq ?_
   refine AB Z ?_
   obtain rfl:=sj am
   obtain rfl:=an _ rfl
   exact⟨_,Z,_,Z,_,ak,ao,f.weak trivial,m,ap⟩
 ·rintro a w ⟨_,rfl,ac,rfl,ad,ae,dE,f,m,dF⟩
  refine Af ?_
  refine Ac f Z λa f=>Aa ?_
  refine Ap ?_
  obtain rfl:=sj hd
  exact⟨[(.bool false)],f.g Z,f.d,_,[ae],dE,m,_,Z,Z,dF⟩
theorem Wk.e0 {v0:Value}{it0:Itm}{x0:LI}{x1 x2 x3:Int}(m:Mem W G w (it0::H))(o0:Ow R0 2 G it0 v0 x0){y:Int×(LI)}(hd:D.e0 x0 x1 x2 x3=some y):
  Calls prog 192 #[v0,(iv x1),(iv x2),(iv x3)] w (Res W G H (λG' Ho v=>∃i0:Itm,Ho=[i0]∧v=(iv y.1)∧Ow R0 2 G' i0 v0 y.2)):=by
 refine Au (args:=[v0,(iv x1),(iv x2),(iv x3)]) (N:=84) [.tmp 8] func192 Z Z (lb Z) Z λa f=> ?_
 unfold D.e0 at hd
 refine Af ?_
 refine Ac f Z λa f=>Aa (Ag ?_)
 refine B3 AI m ?_
 refine p_p 2 Z f (λ_=>A2 (f.e Z)) λa f=>p_p 3 Z f (λ_=>A2 (f.e Z)) λa f=>B2 12013 11 (by kernel_rfl) Z ?_
 refine Ai 0 12013 Z f Z λa f=>Ai 1 12013 Z f Z λa f=>Ai 4 12013 Z f Z λa f=>Ai 5 12013 Z f Z λa f=> ?_
 have⟨aa,ab,hd⟩:=bind_some hd
 refine AL 6 12013 0 m o0 T43 ab Z f Z Z λac a ad f=>A4 7 12013 0 o0 Pl2 ad ab Z f Z λae a af f=> ?_
 subst af
 refine Ai 8 12013 Z f Z λa f=>Ai 9 12013 Z f Z λa f=> ?_
 have⟨ag,ah,hd⟩:=bind_some hd
 refine AL 10 12013 0 m o0 T43 ah Z f Z Z λai a aj f=>A4 11 12013 0 o0 Pl2 aj ah Z f Z λak a al f=> ?_
 subst al
 have⟨am,an,hd⟩:=bind_some hd
 refine AL 12 12013 0 m o0 T43 an Z f Z Z λao a ap f=>AW λaq w ar m=> ?_
 have o0:=od1 ar o0
 refine AF 0 m o0 Z sizeOf2 f Z Z ap an Z Z Z λau w m av=> ?_
 have⟨aw,ax,hd⟩:=bind_some hd
 refine A6 0 m av Z T43 f Z Z Z ax λay a az f=>AF 0 m av Z sizeOf2 f Z Z az ax Z Z Z λaA w m aB=>Ay ?_
 refine Ab f Z λa f=>Ah f Z Z Ax λa f=>Ab f Z λa f=>Ah f Z Z AR λa f=>Ac f Z λa f=>Ac f Z λa f=>Aa (Ag ?_)
 have⟨aC,aD,hd⟩:=bind_some hd
 refine AJ (λa w=>∃aE:LI,∃aF:Int,(aE,aF)=aC∧∃(aG:GH) (aH:Itm),GLe aq aG∧Fr a 84 [(9,(iv aF))]∧Mem W aG w (aH::H)∧Ow R0 2 aG aH v0 aE) ?_ ?_
 ·refine Al ?_
  refine AE (λaI a w=>∃aJ:LI,∃aK:Int,∃aL:Int,(aJ,aK,aL)=aI∧∃(aM:GH) (aN:Itm),GLe aq aM∧Fr a 84 [(0,v0),(1,(iv x1)),(9,(iv aK)),(10,(iv aL))]∧Mem W aM w (aN::H)∧Ow R0 2 aM aN v0 aJ) aD ⟨_,_,_,Z,_,aA,gr,f.k Z,m,aB⟩ ?_
  clear aD f m
  rintro aI aO aP aQ a w ⟨aJ,aK,aL,rfl,aM,aN,aR,f,m,aS⟩
  refine Al (Ag ?_)
  have⟨aT,aU,aP⟩:=bind_some aP
  refine AJ (λa w=>∃aV:Int,aV=aT∧∃(aW:GH),GLe aM aW∧Fr a 84 [(0,v0),(1,(iv x1)),(9,(iv aV)),(10,(iv aL))]∧Mem W aW w (aN::H)) ?_ ?_
  ·refine Al ?_
   refine AE (λaX a w=>∃aY:Int,aY=aX∧∃(aZ:GH),GLe aM aZ∧Fr a 84 [(0,v0),(1,(iv x1)),(9,(iv aY)),(10,(iv aL))]∧Mem W aZ w (aN::H)) aU ⟨_,Z,_,gr,f.k Z,m⟩ ?_
   clear aU f m
   rintro aX a0 a1 a2 a w ⟨aY,rfl,aZ,a3,f,m⟩
   have aS:=od1 a3 aS
   refine Ag (Ag ?_)
   refine A7 15 AI (by kernel_rfl) m ?_
   refine Ai 0 15 Z f Z λa f=>Ai 1 15 Z f Z λa f=>q_p 2 15 Z f (λ_=>AK (f.e Z) (f.e Z) CC) λa f=>Ai 3 15 Z f Z λa f=> ?_
   have⟨a4,a5,a1⟩:=bind_some a1
   refine B1 (fuel':=0) (listed':= #[true,true,true,true,true,true,true,true,true,true,true,true,true,true,true]) (λa=>Fr a 84 [(0,v0),(1,(iv x1)),(9,(iv aY)),(10,(iv aL)),(29,(iv aY)),(30,(iv aL)),(31,(.bool (decide (aY≤aL)))),(32,(.bool (decide (aY≤aL)))),(43,(.bool a4))]) ?_ ?_
   ·intro a f
    refine AW λa6 w a7 m=>Aa ?_
    rcases Ae a1 with⟨a8,a1⟩|⟨a8,a1⟩
    ·refine Am f Z a8 ?_
     refine An ?_
     refine Al (Ak ?_)
     refine Ab f Z λa f=>Ah f Z Z Ax λa f=>Ac f Z λa f=>Aa ?_
     obtain rfl:=sj a1
     exact⟨_,Z,_,Z,_,(gt a3 a7),f.k Z,m⟩
    ·refine Aj f Z a8 ?_
     refine AB Z ?_
     obtain rfl:=sj a1
     obtain rfl:=a2 _ rfl
     exact⟨_,Z,_,(gt a3 a7),f.k Z,m⟩
   ·intro a9
    rcases Ae a5 with⟨ba,a5⟩|⟨ba,a5⟩
    ·refine Ai (hw:=wo f ba) 4 15 Z f Z λa f=> ?_
     refine Ai (hw:=wo f ba) 5 15 Z f Z λa f=> ?_
     have⟨bb,bc,a5⟩:=bind_some a5
     refine AL (hw:=wo f ba) 6 15 0 m aS T43 bc Z f Z Z λbd a be f=>A4 (hw:=wo f ba) 7 15 0 aS Pl2 be bc Z f Z λbf a bg f=> ?_
     subst bg
     refine Ai (hw:=wo f ba) 8 15 Z f Z λa f=>Ai (hw:=wo f ba) 9 15 Z f Z λa f=> ?_
     have⟨bh,bi,a5⟩:=bind_some a5
     refine AL (hw:=wo f ba) 10 15 0 m aS T43 bi Z f Z Z λbj a bk f=>A4 (hw:=wo f ba) 11 15 0 aS Pl2 bk bi Z f Z λbl a bm f=> ?_
     subst bm
     have⟨bn,bo,a5⟩:=bind_some a5
     refine Bi (i:=12) 15 Z (by kernel_rfl) Z f (Bh f Z Z Z ba) Z Z call191 (λ_ _ w bp m=>Wk.a m bo) λa f=>q_p (hw:=wo f ba) 13 15 Z f (λ_=>Bg (f.e Z)) λa f=>q_p 14 15 Z f (λ_=>AD (f.e Z) ba (f.e Z)) λa f=> ?_
     obtain rfl:=sj a5
     exact a9 _ (f.k Z)
    ·refine Ao 4 15 Z f ba λa f=> ?_
     refine Ao 5 15 Z f ba λa f=>Ao 6 15 Z f ba λa f=>Ao 7 15 Z f ba λa f=>Ao 8 15 Z f ba λa f=>Ao 9 15 Z f ba λa f=>Ao 10 15 Z f ba λa f=>Ao 11 15 Z f ba λa f=>Ao 12 15 Z f ba λa f=>Ao 13 15 Z f ba λa f=>q_p 14 15 Z f (λ_=>AC (f.e Z) ba (f.e Z)) λa f=> ?_
     obtain rfl:=sj a5
     exact a9 _ (f.k Z)
  ·rintro a w ⟨aV,rfl,aW,bq,f,m⟩
   have aS:=od1 bq aS
   refine Ag ?_
   have⟨br,bs,aP⟩:=bind_some aP
   refine AJ (λa w=>∃bt:Int,bt=br∧∃(bu:GH),GLe aW bu∧Fr a 84 [(0,v0),(1,(iv x1)),(9,(iv aV)),(10,(iv bt))]∧Mem W bu w (aN::H)) ?_ ?_
   ·refine Al ?_
    refine AE (λbv a w=>∃bw:Int,bw=bv∧∃(bx:GH),GLe aW bx∧Fr a 84 [(0,v0),(1,(iv x1)),(9,(iv aV)),(10,(iv bw))]∧Mem W bx w (aN::H)) bs ⟨_,Z,_,gr,f.k Z,m⟩ ?_
    clear bs f m
    rintro bv bz bA bB a w ⟨bw,rfl,bx,bC,f,m⟩
    have aS:=od1 bC aS
    refine Ag (Ag ?_)
    refine A7 14 AI (by kernel_rfl) m ?_
    refine Ai 0 14 Z f Z λa f=>Ai 1 14 Z f Z λa f=>q_p 2 14 Z f (λ_=>AK (f.e Z) (f.e Z) CC) λa f=>Ai 3 14 Z f Z λa f=> ?_
    have⟨bD,bE,bA⟩:=bind_some bA
    refine B1 (fuel':=0) (listed':= #[true,true,true,true,true,true,true,true,true,true,true,true,true,true]) (λa=>Fr a 84 [(0,v0),(1,(iv x1)),(9,(iv aV)),(10,(iv bw)),(46,(iv aV)),(47,(iv bw)),(48,(.bool (decide (aV≤bw)))),(49,(.bool (decide (aV≤bw)))),(59,(.bool bD))]) ?_ ?_
    ·intro a f
     refine AW λbF w bG m=>Aa ?_
     rcases Ae bA with⟨bH,bA⟩|⟨bH,bA⟩
     ·refine Am f Z bH ?_
      refine An ?_
      refine Al (Ak ?_)
      refine Ab f Z λa f=>Ah f Z Z AR λa f=>Ac f Z λa f=>Aa ?_
      obtain rfl:=sj bA
      exact⟨_,Z,_,Z,_,(gt bC bG),f.k Z,m⟩
     ·refine Aj f Z bH ?_
      refine AB Z ?_
      obtain rfl:=sj bA
      obtain rfl:=bB _ rfl
      exact⟨_,Z,_,(gt bC bG),f.k Z,m⟩
    ·intro bI
     rcases Ae bE with⟨bJ,bE⟩|⟨bJ,bE⟩
     ·refine Ai (hw:=wo f bJ) 4 14 Z f Z λa f=> ?_
      refine Ai (hw:=wo f bJ) 5 14 Z f Z λa f=> ?_
      have⟨bK,bL,bE⟩:=bind_some bE
      refine AL (hw:=wo f bJ) 6 14 0 m aS T43 bL Z f Z Z λbM a bN f=>A4 (hw:=wo f bJ) 7 14 0 aS Pl2 bN bL Z f Z λbO a bP f=> ?_
      subst bP
      refine Ai (hw:=wo f bJ) 8 14 Z f Z λa f=>Ai (hw:=wo f bJ) 9 14 Z f Z λa f=> ?_
      have⟨bQ,bR,bE⟩:=bind_some bE
      refine AL (hw:=wo f bJ) 10 14 0 m aS T43 bR Z f Z Z λbS a bT f=>A4 (hw:=wo f bJ) 11 14 0 aS Pl2 bT bR Z f Z λbU a bV f=> ?_
      subst bV
      have⟨bW,bX,bE⟩:=bind_some bE
      refine Bi (i:=12) 14 Z (by kernel_rfl) Z f (Bh f Z Z Z bJ) Z Z call191 (λ_ _ w bY m=>Wk.a m bX) λa f=>q_p 13 14 Z f (λ_=>AD (f.e Z) bJ (f.e Z)) λa f=> ?_
      obtain rfl:=sj bE
      exact bI _ (f.k Z)
     ·refine Ao 4 14 Z f bJ λa f=> ?_
      refine Ao 5 14 Z f bJ λa f=>Ao 6 14 Z f bJ λa f=>Ao 7 14 Z f bJ λa f=>Ao 8 14 Z f bJ λa f=>Ao 9 14 Z f bJ λa f=>Ao 10 14 Z f bJ λa f=>Ao 11 14 Z f bJ λa f=>Ao 12 14 Z f bJ λa f=>q_p 13 14 Z f (λ_=>AC (f.e Z) bJ (f.e Z)) λa f=> ?_
      obtain rfl:=sj bE
      exact bI _ (f.k Z)
   ·rintro a w ⟨bt,rfl,bu,bZ,f,m⟩
    have aS:=od1 bZ aS
    refine Ag (Af ?_)
    refine Ab f Z λa f=>Ab f Z λa f=>Ah f Z Z Cc λa f=>Aa ?_
    rcases Ae aP with⟨b0,aP⟩|⟨b0,aP⟩
    ·refine Am f Z b0 ?_
     refine AB Z ?_
     obtain rfl:=sj aP
     obtain rfl:=aQ _ rfl
     exact⟨_,_,Z,_,aN,(gt aR (gt bq bZ)),f.k Z,m,aS⟩
    ·refine Aj f Z b0 ?_
     refine An ?_
     refine Ag ?_
     refine B3 AI m ?_
     refine p_p 2 Z f (λ_=>A2 (f.e Z)) λa f=>p_p 3 Z f (λ_=>A2 (f.e Z)) λa f=>B2 12013 11 (by kernel_rfl) Z ?_
     refine Ai 0 12013 Z f Z λa f=>Ai 1 12013 Z f Z λa f=>Ai 4 12013 Z f Z λa f=>Ai 5 12013 Z f Z λa f=> ?_
     have⟨b1,b2,aP⟩:=bind_some aP
     refine AL 6 12013 0 m aS T43 b2 Z f Z Z λb3 a b4 f=>A4 7 12013 0 aS Pl2 b4 b2 Z f Z λb5 a b6 f=> ?_
     subst b6
     refine Ai 8 12013 Z f Z λa f=>Ai 9 12013 Z f Z λa f=> ?_
     have⟨b7,b8,aP⟩:=bind_some aP
     refine AL 10 12013 0 m aS T43 b8 Z f Z Z λb9 a ca f=>A4 11 12013 0 aS Pl2 ca b8 Z f Z λcb a cc f=> ?_
     subst cc
     have⟨cd,ce,aP⟩:=bind_some aP
     refine AL 12 12013 0 m aS T43 ce Z f Z Z λcf a cg f=>AW λch w ci m=> ?_
     have aS:=od1 ci aS
     refine AF 0 m aS Z sizeOf2 f Z Z cg ce Z Z Z λcj w m ck=> ?_
     have⟨cl,cm,aP⟩:=bind_some aP
     refine A6 0 m ck Z T43 f Z Z Z cm λcn a co f=>AF 0 m ck Z sizeOf2 f Z Z co cm Z Z Z λcp w m cq=>Ay ?_
     refine Ab f Z λa f=>Ah f Z Z Ax λa f=>Ac f Z λa f=>Aa (Ak ?_)
     refine Ab f Z λa f=>Ah f Z Z AR λa f=>Ac f Z λa f=>Aa ?_
     obtain rfl:=sj aP
     exact⟨_,Z,_,_,_,Z,_,cp,(gt aR (gt bq (gt bZ ci))),f.k Z,m,cq⟩
 ·rintro a w ⟨aE,aF,rfl,aG,aH,cr,f,m,cs⟩
  refine Af ?_
  refine Ab f Z λa f=>Ac f Z λa f=>Aa ?_
  refine Ap ?_
  obtain rfl:=sj hd
  exact⟨[(iv aF)],f.g Z,f.d,_,[aH],(gt ar cr),m,_,Z,Z,cs⟩
theorem Wk.s0 {v0:Value}{it0:Itm}{x0:LI}{x1 x2 x3:Int}(m:Mem W G w (it0::H))(o0:Ow R0 2 G it0 v0 x0){y:Int×Bool×(LI)}(hd:D.s0 x0 x1 x2 x3=some y):
  Calls prog 193 #[v0,(iv x1),(iv x2),(iv x3)] w (Res W G H (λG' Ho v=>∃i0:Itm,Ho=[i0]∧v= .tuple #[(iv y.1),(.bool y.2.1)]∧Ow R0 2 G' i0 v0 y.2.2)):=by
 refine Au (args:=[v0,(iv x1),(iv x2),(iv x3)]) (N:=168) [.tmp 8,.tmp 9] func193 Z Z (lb Z) Z λa f=> ?_
 unfold D.s0 at hd
 refine Af ?_
 refine Ac f Z λa f=>Ac f Z λa f=>Aa (Ag ?_)
 refine B3 AI m ?_
 refine p_p 2 Z f (λ_=>A2 (f.e Z)) λa f=>p_p 3 Z f (λ_=>A2 (f.e Z)) λa f=>B2 12013 11 (by kernel_rfl) Z ?_
 refine Ai 0 12013 Z f Z λa f=>Ai 1 12013 Z f Z λa f=>Ai 4 12013 Z f Z λa f=>Ai 5 12013 Z f Z λa f=> ?_
 have⟨aa,ab,hd⟩:=bind_some hd
 refine AL 6 12013 0 m o0 T43 ab Z f Z Z λac a ad f=>A4 7 12013 0 o0 Pl2 ad ab Z f Z λae a af f=> ?_
 subst af
 refine Ai 8 12013 Z f Z λa f=>Ai 9 12013 Z f Z λa f=> ?_
 have⟨ag,ah,hd⟩:=bind_some hd
 refine AL 10 12013 0 m o0 T43 ah Z f Z Z λai a aj f=>A4 11 12013 0 o0 Pl2 aj ah Z f Z λak a al f=> ?_
 subst al
 have⟨am,an,hd⟩:=bind_some hd
 refine AL 12 12013 0 m o0 T43 an Z f Z Z λao a ap f=>AW λaq w ar m=> ?_
 have o0:=od1 ar o0
 refine AF 0 m o0 Z sizeOf2 f Z Z ap an Z Z Z λau w m av=> ?_
 have⟨aw,ax,hd⟩:=bind_some hd
 refine A6 0 m av Z T43 f Z Z Z ax λay a az f=>AF 0 m av Z sizeOf2 f Z Z az ax Z Z Z λaA w m aB=>Ay ?_
 refine Ab f Z λa f=>Ah f Z Z Ax λa f=>Ab f Z λa f=>Ah f Z Z AR λa f=>Ac f Z λa f=>Ac f Z λa f=>Aa (Ag ?_)
 have⟨aC,aD,hd⟩:=bind_some hd
 refine AJ (λa w=>∃aE:Int,aE=aC∧∃(aF:GH),GLe aq aF∧Fr a 168 [(0,v0),(1,(iv x1)),(10,(iv aE)),(11,(iv (i64.wrap (x2-1))))]∧Mem W aF w (aA::H)) ?_ ?_
 ·refine Al ?_
  refine AE (λaG a w=>∃aH:Int,aH=aG∧∃(aI:GH),GLe aq aI∧Fr a 168 [(0,v0),(1,(iv x1)),(10,(iv aH)),(11,(iv (i64.wrap (x2-1))))]∧Mem W aI w (aA::H)) aD ⟨_,Z,_,gr,f.k Z,m⟩ ?_
  clear aD f m
  rintro aG aJ aK aL a w ⟨aH,rfl,aI,aM,f,m⟩
  have aB:=od1 aM aB
  refine Ag (Ag ?_)
  refine A7 14 AI (by kernel_rfl) m ?_
  refine Ai 0 14 Z f Z λa f=>Ai 1 14 Z f Z λa f=>q_p 2 14 Z f (λ_=>AK (f.e Z) (f.e Z) CC) λa f=>Ai 3 14 Z f Z λa f=> ?_
  have⟨aN,aO,aK⟩:=bind_some aK
  refine B1 (fuel':=0) (listed':= #[true,true,true,true,true,true,true,true,true,true,true,true,true,true]) (λa=>Fr a 168 [(0,v0),(1,(iv x1)),(10,(iv aH)),(11,(iv (i64.wrap (x2-1)))),(30,(iv aH)),(31,(iv (i64.wrap (x2-1)))),(32,(.bool (decide (aH≤(i64.wrap (x2-1)))))),(33,(.bool (decide (aH≤(i64.wrap (x2-1)))))),(43,(.bool aN))]) ?_ ?_
  ·intro a f
   refine AW λaP w aQ m=>Aa ?_
   rcases Ae aK with⟨aR,aK⟩|⟨aR,aK⟩
   ·refine Am f Z aR ?_
    refine An ?_
    refine Al (Ak ?_)
    refine Ab f Z λa f=>Ah f Z Z Ax λa f=>Ac f Z λa f=>Aa ?_
    obtain rfl:=sj aK
    exact⟨_,Z,_,Z,_,(gt aM aQ),f.k Z,m⟩
   ·refine Aj f Z aR ?_
    refine AB Z ?_
    obtain rfl:=sj aK
    obtain rfl:=aL _ rfl
    exact⟨_,Z,_,(gt aM aQ),f.k Z,m⟩
  ·intro aS
   rcases Ae aO with⟨aT,aO⟩|⟨aT,aO⟩
   ·refine Ai (hw:=wo f aT) 4 14 Z f Z λa f=> ?_
    refine Ai (hw:=wo f aT) 5 14 Z f Z λa f=> ?_
    have⟨aU,aV,aO⟩:=bind_some aO
    refine AL (hw:=wo f aT) 6 14 0 m aB T43 aV Z f Z Z λaW a aX f=>A4 (hw:=wo f aT) 7 14 0 aB Pl2 aX aV Z f Z λaY a aZ f=> ?_
    subst aZ
    refine Ai (hw:=wo f aT) 8 14 Z f Z λa f=>Ai (hw:=wo f aT) 9 14 Z f Z λa f=> ?_
    have⟨a0,a1,aO⟩:=bind_some aO
    refine AL (hw:=wo f aT) 10 14 0 m aB T43 a1 Z f Z Z λa2 a a3 f=>A4 (hw:=wo f aT) 11 14 0 aB Pl2 a3 a1 Z f Z λa4 a a5 f=> ?_
    subst a5
    have⟨a6,a7,aO⟩:=bind_some aO
    refine Bi (i:=12) 14 Z (by kernel_rfl) Z f (Bh f Z Z Z aT) Z Z call191 (λ_ _ w a8 m=>Wk.a m a7) λa f=>q_p 13 14 Z f (λ_=>AD (f.e Z) aT (f.e Z)) λa f=> ?_
    obtain rfl:=sj aO
    exact aS _ (f.k Z)
   ·refine Ao 4 14 Z f aT λa f=> ?_
    refine Ao 5 14 Z f aT λa f=>Ao 6 14 Z f aT λa f=>Ao 7 14 Z f aT λa f=>Ao 8 14 Z f aT λa f=>Ao 9 14 Z f aT λa f=>Ao 10 14 Z f aT λa f=>Ao 11 14 Z f aT λa f=>Ao 12 14 Z f aT λa f=>q_p 13 14 Z f (λ_=>AC (f.e Z) aT (f.e Z)) λa f=> ?_
    obtain rfl:=sj aO
    exact aS _ (f.k Z)
 ·rintro a w ⟨aE,rfl,aF,a9,f,m⟩
  have aB:=od1 a9 aB
  refine Ag ?_
  have⟨ba,bb,hd⟩:=bind_some hd
  refine AJ (λa w=>∃bc:Int,bc=ba∧∃(bd:GH),GLe aF bd∧Fr a 168 [(0,v0),(1,(iv x1)),(10,(iv aE)),(11,(iv bc))]∧Mem W bd w (aA::H)) ?_ ?_
  ·refine Al ?_
   refine AE (λbe a w=>∃bf:Int,bf=be∧∃(bg:GH),GLe aF bg∧Fr a 168 [(0,v0),(1,(iv x1)),(10,(iv aE)),(11,(iv bf))]∧Mem W bg w (aA::H)) bb ⟨_,Z,_,gr,f.k Z,m⟩ ?_
   clear bb f m
   rintro be bh bi bj a w ⟨bf,rfl,bg,bk,f,m⟩
   have aB:=od1 bk aB
   refine Ag (Ag ?_)
   refine A7 15 AI (by kernel_rfl) m ?_
   refine Ai 0 15 Z f Z λa f=>Ai 1 15 Z f Z λa f=>q_p 2 15 Z f (λ_=>AK (f.e Z) (f.e Z) CC) λa f=>Ai 3 15 Z f Z λa f=> ?_
   have⟨bl,bm,bi⟩:=bind_some bi
   refine B1 (fuel':=0) (listed':= #[true,true,true,true,true,true,true,true,true,true,true,true,true,true,true]) (λa=>Fr a 168 [(0,v0),(1,(iv x1)),(10,(iv aE)),(11,(iv bf)),(46,(iv aE)),(47,(iv bf)),(48,(.bool (decide (aE≤bf)))),(49,(.bool (decide (aE≤bf)))),(60,(.bool bl))]) ?_ ?_
   ·intro a f
    refine AW λbn w bo m=>Aa ?_
    rcases Ae bi with⟨bp,bi⟩|⟨bp,bi⟩
    ·refine Am f Z bp ?_
     refine An ?_
     refine Al (Ak ?_)
     refine Ab f Z λa f=>Ah f Z Z AR λa f=>Ac f Z λa f=>Aa ?_
     obtain rfl:=sj bi
     exact⟨_,Z,_,Z,_,(gt bk bo),f.k Z,m⟩
    ·refine Aj f Z bp ?_
     refine AB Z ?_
     obtain rfl:=sj bi
     obtain rfl:=bj _ rfl
     exact⟨_,Z,_,(gt bk bo),f.k Z,m⟩
   ·intro bq
    rcases Ae bm with⟨br,bm⟩|⟨br,bm⟩
    ·refine Ai (hw:=wo f br) 4 15 Z f Z λa f=> ?_
     refine Ai (hw:=wo f br) 5 15 Z f Z λa f=> ?_
     have⟨bs,bt,bm⟩:=bind_some bm
     refine AL (hw:=wo f br) 6 15 0 m aB T43 bt Z f Z Z λbu a bv f=>A4 (hw:=wo f br) 7 15 0 aB Pl2 bv bt Z f Z λbw a bx f=> ?_
     subst bx
     refine Ai (hw:=wo f br) 8 15 Z f Z λa f=>Ai (hw:=wo f br) 9 15 Z f Z λa f=> ?_
     have⟨bz,bA,bm⟩:=bind_some bm
     refine AL (hw:=wo f br) 10 15 0 m aB T43 bA Z f Z Z λbB a bC f=>A4 (hw:=wo f br) 11 15 0 aB Pl2 bC bA Z f Z λbD a bE f=> ?_
     subst bE
     have⟨bF,bG,bm⟩:=bind_some bm
     refine Bi (i:=12) 15 Z (by kernel_rfl) Z f (Bh f Z Z Z br) Z Z call191 (λ_ _ w bH m=>Wk.a m bG) λa f=>q_p (hw:=wo f br) 13 15 Z f (λ_=>Bg (f.e Z)) λa f=>q_p 14 15 Z f (λ_=>AD (f.e Z) br (f.e Z)) λa f=> ?_
     obtain rfl:=sj bm
     exact bq _ (f.k Z)
    ·refine Ao 4 15 Z f br λa f=> ?_
     refine Ao 5 15 Z f br λa f=>Ao 6 15 Z f br λa f=>Ao 7 15 Z f br λa f=>Ao 8 15 Z f br λa f=>Ao 9 15 Z f br λa f=>Ao 10 15 Z f br λa f=>Ao 11 15 Z f br λa f=>Ao 12 15 Z f br λa f=>Ao 13 15 Z f br λa f=>q_p 14 15 Z f (λ_=>AC (f.e Z) br (f.e Z)) λa f=> ?_
     obtain rfl:=sj bm
     exact bq _ (f.k Z)
  ·rintro a w ⟨bc,rfl,bd,bI,f,m⟩
   have aB:=od1 bI aB
   refine Ag (Af ?_)
   refine Ab f Z λa f=>Ab f Z λa f=>Ah f Z Z Cc λa f=>Aa ?_
   rcases Ae hd with⟨bJ,hd⟩|⟨bJ,hd⟩
   ·refine Am f Z bJ ?_
    refine Ag ?_
    refine B3 AI m ?_
    refine p_p 2 Z f (λ_=>A2 (f.e Z)) λa f=>p_p 3 Z f (λ_=>A2 (f.e Z)) λa f=>B2 12013 11 (by kernel_rfl) Z ?_
    refine Ai 0 12013 Z f Z λa f=>Ai 1 12013 Z f Z λa f=>Ai 4 12013 Z f Z λa f=>Ai 5 12013 Z f Z λa f=> ?_
    have⟨bK,bL,hd⟩:=bind_some hd
    refine AL 6 12013 0 m aB T43 bL Z f Z Z λbM a bN f=>A4 7 12013 0 aB Pl2 bN bL Z f Z λbO a bP f=> ?_
    subst bP
    refine Ai 8 12013 Z f Z λa f=>Ai 9 12013 Z f Z λa f=> ?_
    have⟨bQ,bR,hd⟩:=bind_some hd
    refine AL 10 12013 0 m aB T43 bR Z f Z Z λbS a bT f=>A4 11 12013 0 aB Pl2 bT bR Z f Z λbU a bV f=> ?_
    subst bV
    have⟨bW,bX,hd⟩:=bind_some hd
    refine AL 12 12013 0 m aB T43 bX Z f Z Z λbY a bZ f=>AW λb0 w b1 m=> ?_
    have aB:=od1 b1 aB
    refine AF 0 m aB Z sizeOf2 f Z Z bZ bX Z Z Z λb2 w m b3=> ?_
    have⟨b4,b5,hd⟩:=bind_some hd
    refine A6 0 m b3 Z T43 f Z Z Z b5 λb6 a b7 f=>AF 0 m b3 Z sizeOf2 f Z Z b7 b5 Z Z Z λb8 w m b9=>Ay ?_
    refine Ab f Z λa f=>Ac f Z λa f=>Ac f Z λa f=>Aa ?_
    refine Ap ?_
    obtain rfl:=sj hd
    exact⟨[(iv bc),(.bool true)],⟨f.get _ _ Z,f.get _ _ Z,trivial⟩,f.d,_,[b8],(gt ar (gt a9 (gt bI b1))),m,_,Z,Z,b9⟩
   ·refine Aj f Z bJ ?_
    refine An ?_
    refine Ag ?_
    refine B3 AI m ?_
    refine p_p 2 Z f (λ_=>A2 (f.e Z)) λa f=>p_p 3 Z f (λ_=>A2 (f.e Z)) λa f=>B2 12013 11 (by kernel_rfl) Z ?_
    refine Ai 0 12013 Z f Z λa f=>Ai 1 12013 Z f Z λa f=>Ai 4 12013 Z f Z λa f=>Ai 5 12013 Z f Z λa f=> ?_
    have⟨ca,cb,hd⟩:=bind_some hd
    refine AL 6 12013 0 m aB T43 cb Z f Z Z λcc a cd f=>A4 7 12013 0 aB Pl2 cd cb Z f Z λce a cf f=> ?_
    subst cf
    refine Ai 8 12013 Z f Z λa f=>Ai 9 12013 Z f Z λa f=> ?_
    have⟨cg,ch,hd⟩:=bind_some hd
    refine AL 10 12013 0 m aB T43 ch Z f Z Z λci a cj f=>A4 11 12013 0 aB Pl2 cj ch Z f Z λck a cl f=> ?_
    subst cl
    have⟨cm,cn,hd⟩:=bind_some hd
    refine AL 12 12013 0 m aB T43 cn Z f Z Z λco a cp f=>AW λcq w cr m=> ?_
    have aB:=od1 cr aB
    refine AF 0 m aB Z sizeOf2 f Z Z cp cn Z Z Z λcs w m ct=> ?_
    have⟨cu,cv,hd⟩:=bind_some hd
    refine A6 0 m ct Z T43 f Z Z Z cv λcw a cx f=>AF 0 m ct Z sizeOf2 f Z Z cx cv Z Z Z λcy w m cz=>Ay ?_
    refine Ab f Z λa f=>Ah f Z Z Ax λa f=>Ac f Z λa f=>Ay ?_
    refine Ab f Z λa f=>Ah f Z Z AR λa f=>Ac f Z λa f=>Aa (Ag ?_)
    have⟨cA,cB,hd⟩:=bind_some hd
    refine AJ (λa w=>∃cC:LI,∃cD:Int,(cC,cD)=cA∧∃(cE:GH) (cF:Itm),GLe cq cE∧Fr a 168 [(0,v0),(1,(iv x1)),(11,(iv cD))]∧Mem W cE w (cF::H)∧Ow R0 2 cE cF v0 cC) ?_ ?_
    ·refine Al ?_
     refine AE (λcG a w=>∃cH:LI,∃cI:Int,∃cJ:Int,(cH,cI,cJ)=cG∧∃(cK:GH) (cL:Itm),GLe cq cK∧Fr a 168 [(0,v0),(1,(iv x1)),(10,(iv cI)),(11,(iv cJ))]∧Mem W cK w (cL::H)∧Ow R0 2 cK cL v0 cH) cB ⟨_,_,_,Z,_,cy,gr,f.k Z,m,cz⟩ ?_
     clear cB f m
     rintro cG cM cN cO a w ⟨cH,cI,cJ,rfl,cK,cL,cP,f,m,cQ⟩
     refine Al (Ag ?_)
     have⟨cR,cS,cN⟩:=bind_some cN
     refine AJ (λa w=>∃cT:Int,cT=cR∧∃(cU:GH),GLe cK cU∧Fr a 168 [(0,v0),(1,(iv x1)),(10,(iv cT)),(11,(iv cJ))]∧Mem W cU w (cL::H)) ?_ ?_
     ·refine Al ?_
      refine AE (λcV a w=>∃cW:Int,cW=cV∧∃(cX:GH),GLe cK cX∧Fr a 168 [(0,v0),(1,(iv x1)),(10,(iv cW)),(11,(iv cJ))]∧Mem W cX w (cL::H)) cS ⟨_,Z,_,gr,f.k Z,m⟩ ?_
      clear cS f m
      rintro cV cY cZ c0 a w ⟨cW,rfl,cX,c1,f,m⟩
      have cQ:=od1 c1 cQ
      refine Ag (Ag ?_)
      refine A7 14 AI (by kernel_rfl) m ?_
      refine Ai 0 14 Z f Z λa f=>Ai 1 14 Z f Z λa f=>q_p 2 14 Z f (λ_=>AK (f.e Z) (f.e Z) CC) λa f=>Ai 3 14 Z f Z λa f=> ?_
      have⟨c2,c3,cZ⟩:=bind_some cZ
      refine B1 (fuel':=0) (listed':= #[true,true,true,true,true,true,true,true,true,true,true,true,true,true]) (λa=>Fr a 168 [(0,v0),(1,(iv x1)),(10,(iv cW)),(11,(iv cJ)),(99,(iv cW)),(100,(iv cJ)),(101,(.bool (decide (cW≤cJ)))),(102,(.bool (decide (cW≤cJ)))),(112,(.bool c2))]) ?_ ?_
      ·intro a f
       refine AW λc4 w c5 m=>Aa ?_
       rcases Ae cZ with⟨c6,cZ⟩|⟨c6,cZ⟩
       ·refine Am f Z c6 ?_
        refine An ?_
        refine Al (Ak ?_)
        refine Ab f Z λa f=>Ah f Z Z Ax λa f=>Ac f Z λa f=>Aa ?_
        obtain rfl:=sj cZ
        exact⟨_,Z,_,Z,_,(gt c1 c5),f.k Z,m⟩
       ·refine Aj f Z c6 ?_
        refine AB Z ?_
        obtain rfl:=sj cZ
        obtain rfl:=c0 _ rfl
        exact⟨_,Z,_,(gt c1 c5),f.k Z,m⟩
      ·intro c7
       rcases Ae c3 with⟨c8,c3⟩|⟨c8,c3⟩
       ·refine Ai (hw:=wo f c8) 4 14 Z f Z λa f=> ?_
        refine Ai (hw:=wo f c8) 5 14 Z f Z λa f=> ?_
        have⟨c9,da,c3⟩:=bind_some c3
        refine AL (hw:=wo f c8) 6 14 0 m cQ T43 da Z f Z Z λdb a dc f=>A4 (hw:=wo f c8) 7 14 0 cQ Pl2 dc da Z f Z λdd a de f=> ?_
        subst de
        refine Ai (hw:=wo f c8) 8 14 Z f Z λa f=>Ai (hw:=wo f c8) 9 14 Z f Z λa f=> ?_
        have⟨df,dg,c3⟩:=bind_some c3
        refine AL (hw:=wo f c8) 10 14 0 m cQ T43 dg Z f Z Z λdh a di f=>A4 (hw:=wo f c8) 11 14 0 cQ Pl2 di dg Z f Z λdj a dk f=> ?_
        subst dk
        have⟨dl,dm,c3⟩:=bind_some c3
        refine Bi (i:=12) 14 Z (by kernel_rfl) Z f (Bh f Z Z Z c8) Z Z call191 (λ_ _ w dn m=>Wk.a m dm) λa f=>q_p 13 14 Z f (λ_=>AD (f.e Z) c8 (f.e Z)) λa f=> ?_
        obtain rfl:=sj c3
        exact c7 _ (f.k Z)
       ·refine Ao 4 14 Z f c8 λa f=> ?_
        refine Ao 5 14 Z f c8 λa f=>Ao 6 14 Z f c8 λa f=>Ao 7 14 Z f c8 λa f=>Ao 8 14 Z f c8 λa f=>Ao 9 14 Z f c8 λa f=>Ao 10 14 Z f c8 λa f=>Ao 11 14 Z f c8 λa f=>Ao 12 14 Z f c8 λa f=>q_p 13 14 Z f (λ_=>AC (f.e Z) c8 (f.e Z)) λa f=> ?_
        obtain rfl:=sj c3
        exact c7 _ (f.k Z)
     ·rintro a w ⟨cT,rfl,cU,dp,f,m⟩
      have cQ:=od1 dp cQ
      refine Ag ?_
      have⟨dq,dr,cN⟩:=bind_some cN
      refine AJ (λa w=>∃ds:Int,ds=dq∧∃(dt:GH),GLe cU dt∧Fr a 168 [(0,v0),(1,(iv x1)),(10,(iv cT)),(11,(iv ds))]∧Mem W dt w (cL::H)) ?_ ?_
      ·refine Al ?_
       refine AE (λdu a w=>∃dv:Int,dv=du∧∃(dw:GH),GLe cU dw∧Fr a 168 [(0,v0),(1,(iv x1)),(10,(iv cT)),(11,(iv dv))]∧Mem W dw w (cL::H)) dr ⟨_,Z,_,gr,f.k Z,m⟩ ?_
       clear dr f m
       rintro du dx dy dz a w ⟨dv,rfl,dw,dA,f,m⟩
       have cQ:=od1 dA cQ
       refine Ag (Ag ?_)
       refine A7 15 AI (by kernel_rfl) m ?_
       refine Ai 0 15 Z f Z λa f=>Ai 1 15 Z f Z λa f=>q_p 2 15 Z f (λ_=>AK (f.e Z) (f.e Z) CC) λa f=>Ai 3 15 Z f Z λa f=> ?_
       have⟨dB,dC,dy⟩:=bind_some dy
       refine B1 (fuel':=0) (listed':= #[true,true,true,true,true,true,true,true,true,true,true,true,true,true,true]) (λa=>Fr a 168 [(0,v0),(1,(iv x1)),(10,(iv cT)),(11,(iv dv)),(115,(iv cT)),(116,(iv dv)),(117,(.bool (decide (cT≤dv)))),(118,(.bool (decide (cT≤dv)))),(129,(.bool dB))]) ?_ ?_
       ·intro a f
        refine AW λdD w dE m=>Aa ?_
        rcases Ae dy with⟨dF,dy⟩|⟨dF,dy⟩
        ·refine Am f Z dF ?_
         refine An ?_
         refine Al (Ak ?_)
         refine Ab f Z λa f=>Ah f Z Z AR λa f=>Ac f Z λa f=>Aa ?_
         obtain rfl:=sj dy
         exact⟨_,Z,_,Z,_,(gt dA dE),f.k Z,m⟩
        ·refine Aj f Z dF ?_
         refine AB Z ?_
         obtain rfl:=sj dy
         obtain rfl:=dz _ rfl
         exact⟨_,Z,_,(gt dA dE),f.k Z,m⟩
       ·intro dG
        rcases Ae dC with⟨dH,dC⟩|⟨dH,dC⟩
        ·refine Ai (hw:=wo f dH) 4 15 Z f Z λa f=> ?_
         refine Ai (hw:=wo f dH) 5 15 Z f Z λa f=> ?_
         have⟨dI,dJ,dC⟩:=bind_some dC
         refine AL (hw:=wo f dH) 6 15 0 m cQ T43 dJ Z f Z Z λdK a dL f=>A4 (hw:=wo f dH) 7 15 0 cQ Pl2 dL dJ Z f Z λdM a dN f=> ?_
         subst dN
         refine Ai (hw:=wo f dH) 8 15 Z f Z λa f=>Ai (hw:=wo f dH) 9 15 Z f Z λa f=> ?_
         have⟨dO,dP,dC⟩:=bind_some dC
         refine AL (hw:=wo f dH) 10 15 0 m cQ T43 dP Z f Z Z λdQ a dR f=>A4 (hw:=wo f dH) 11 15 0 cQ Pl2 dR dP Z f Z λdS a dT f=> ?_
         subst dT
         have⟨dU,dV,dC⟩:=bind_some dC
         refine Bi (i:=12) 15 Z (by kernel_rfl) Z f (Bh f Z Z Z dH) Z Z call191 (λ_ _ w dW m=>Wk.a m dV) λa f=>q_p (hw:=wo f dH) 13 15 Z f (λ_=>Bg (f.e Z)) λa f=>q_p 14 15 Z f (λ_=>AD (f.e Z) dH (f.e Z)) λa f=> ?_
         obtain rfl:=sj dC
         exact dG _ (f.k Z)
        ·refine Ao 4 15 Z f dH λa f=> ?_
         refine Ao 5 15 Z f dH λa f=>Ao 6 15 Z f dH λa f=>Ao 7 15 Z f dH λa f=>Ao 8 15 Z f dH λa f=>Ao 9 15 Z f dH λa f=>Ao 10 15 Z f dH λa f=>Ao 11 15 Z f dH λa f=>Ao 12 15 Z f dH λa f=>Ao 13 15 Z f dH λa f=>q_p 14 15 Z f (λ_=>AC (f.e Z) dH (f.e Z)) λa f=> ?_
         obtain rfl:=sj dC
         exact dG _ (f.k Z)
      ·rintro a w ⟨ds,rfl,dt,dX,f,m⟩
       have cQ:=od1 dX cQ
       refine Ag (Af ?_)
       refine Ab f Z λa f=>Ab f Z λa f=>Ah f Z Z Cc λa f=>Aa ?_
       rcases Ae cN with⟨dY,cN⟩|⟨dY,cN⟩
       ·refine Am f Z dY ?_
        refine AB Z ?_
        obtain rfl:=sj cN
        obtain rfl:=cO _ rfl
        exact⟨_,_,Z,_,cL,(gt cP (gt dp dX)),f.k Z,m,cQ⟩
       ·refine Aj f Z dY ?_
        refine An ?_
        refine Ag ?_
        refine B3 AI m ?_
        refine p_p 2 Z f (λ_=>A2 (f.e Z)) λa f=>p_p 3 Z f (λ_=>A2 (f.e Z)) λa f=>B2 12013 11 (by kernel_rfl) Z ?_
        refine Ai 0 12013 Z f Z λa f=>Ai 1 12013 Z f Z λa f=>Ai 4 12013 Z f Z λa f=>Ai 5 12013 Z f Z λa f=> ?_
        have⟨dZ,d0,cN⟩:=bind_some cN
        refine AL 6 12013 0 m cQ T43 d0 Z f Z Z λd1 a d2 f=>A4 7 12013 0 cQ Pl2 d2 d0 Z f Z λd3 a d4 f=> ?_
        subst d4
        refine Ai 8 12013 Z f Z λa f=>Ai 9 12013 Z f Z λa f=> ?_
        have⟨d5,d6,cN⟩:=bind_some cN
        refine AL 10 12013 0 m cQ T43 d6 Z f Z Z λd7 a d8 f=>A4 11 12013 0 cQ Pl2 d8 d6 Z f Z λd9 a ea f=> ?_
        subst ea
        have⟨eb,ec,cN⟩:=bind_some cN
        refine AL 12 12013 0 m cQ T43 ec Z f Z Z λed a ee f=>AW λef w eg m=> ?_
        have cQ:=od1 eg cQ
        refine AF 0 m cQ Z sizeOf2 f Z Z ee ec Z Z Z λeh w m ei=> ?_
        have⟨ej,ek,cN⟩:=bind_some cN
        refine A6 0 m ei Z T43 f Z Z Z ek λel a em f=>AF 0 m ei Z sizeOf2 f Z Z em ek Z Z Z λen w m eo=>Ay ?_
        refine Ab f Z λa f=>Ah f Z Z Ax λa f=>Ac f Z λa f=>Aa (Ak ?_)
        refine Ab f Z λa f=>Ah f Z Z AR λa f=>Ac f Z λa f=>Aa ?_
        obtain rfl:=sj cN
        exact⟨_,Z,_,_,_,Z,_,en,(gt cP (gt dp (gt dX eg))),f.k Z,m,eo⟩
    ·rintro a w ⟨cC,cD,rfl,cE,cF,ep,f,m,eq⟩
     refine Ag ?_
     refine B3 AI m ?_
     refine p_p 2 Z f (λ_=>A2 (f.e Z)) λa f=>p_p 3 Z f (λ_=>A2 (f.e Z)) λa f=>B2 12013 11 (by kernel_rfl) Z ?_
     refine Ai 0 12013 Z f Z λa f=>Ai 1 12013 Z f Z λa f=>Ai 4 12013 Z f Z λa f=>Ai 5 12013 Z f Z λa f=> ?_
     have⟨er,es,hd⟩:=bind_some hd
     refine AL 6 12013 0 m eq T43 es Z f Z Z λet a eu f=>A4 7 12013 0 eq Pl2 eu es Z f Z λev a ew f=> ?_
     subst ew
     refine Ai 8 12013 Z f Z λa f=>Ai 9 12013 Z f Z λa f=> ?_
     have⟨ex,ey,hd⟩:=bind_some hd
     refine AL 10 12013 0 m eq T43 ey Z f Z Z λez a eA f=>A4 11 12013 0 eq Pl2 eA ey Z f Z λeB a eC f=> ?_
     subst eC
     have⟨eD,eE,hd⟩:=bind_some hd
     refine AL 12 12013 0 m eq T43 eE Z f Z Z λeF a eG f=>AW λeH w eI m=> ?_
     have eq:=od1 eI eq
     refine AF 0 m eq Z sizeOf2 f Z Z eG eE Z Z Z λeJ w m eK=> ?_
     have⟨eL,eM,hd⟩:=bind_some hd
     refine A6 0 m eK Z T43 f Z Z Z eM λeN a eO f=>AF 0 m eK Z sizeOf2 f Z Z eO eM Z Z Z λeP w m eQ=>Ay ?_
     refine Ab f Z λa f=>Ac f Z λa f=>Ac f Z λa f=>Aa ?_
     refine Ap ?_
     obtain rfl:=sj hd
     exact⟨[(iv cD),(.bool false)],⟨f.get _ _ Z,f.get _ _ Z,trivial⟩,f.d,_,[eP],(gt ar (gt a9 (gt bI (gt cr (gt ep eI))))),m,_,Z,Z,eQ⟩
theorem Wk.x {W:World}(n:Nat):∀{w:World} {G:GH} {H:List Itm} {v0:Value} {it0:Itm} {x0:LI} {x1 x2 x3:Int} (m:Mem W G w (it0::H)) (o0:Ow R0 2 G it0 v0 x0) {y:(LI)} (hd:D.x n x0 x1 x2 x3=some y),
  Calls prog 177 #[v0,(iv x1),(iv x2),(iv x3)] w (Res W G H (λG' Ho _=>∃i0:Itm,Ho=[i0]∧Ow R0 2 G' i0 v0 y)):=by
 induction n with
 |zero=>intros;rename_i hd;simp[D.x] at hd
 |succ fuel ih=>
  intro w G H v0 it0 x0 x1 x2 x3 m o0 y hd
  refine Au (args:=[v0,(iv x1),(iv x2),(iv x3)]) (N:=134) [] func177 Z Z (lb Z) Z λa f=> ?_
  unfold D.x at hd
  refine Af ?_
  refine Ac f Z λa f=>Ay ?_
  refine Ac f Z λa f=>Aa ?_
  have⟨aa,ab,hd⟩:=bind_some hd
  refine Al ?_
  refine AE (λac a w=>∃ad:LI,∃ae:Int,∃af:Int,∃ag:Int,∃ah:Bool,∃ai:Bool,(ad,ae,af,ag,ah,ai)=ac∧∃(aj:GH) (ak:Itm),GLe G aj∧Fr a 134 [(0,v0),(1,(iv ae)),(2,(iv af)),(3,(iv ag)),(8,(.bool ah)),(9,(.bool ai))]∧Mem W aj w (ak::H)∧Ow R0 2 aj ak v0 ad) ab ⟨_,_,_,_,_,_,Z,_,it0,gr,f.k Z,m,o0⟩ ?_
  clear ab f m
  rintro ac al am an a w ⟨ad,ae,af,ag,ah,ai,rfl,aj,ak,ao,f,m,ap⟩
  refine Al (Af ?_)
  refine Ab f Z λa f=>Ab f Z λa f=>Ah f Z Z AR λa f=>Ac f Z λa f=>Aa (Ag (Af ?_))
  refine Ab f Z λa f=>Ah f Z Z CC λa f=>Aa ?_
  rcases Ae am with⟨aq,am⟩|⟨aq,am⟩
  ·refine Am f Z aq ?_
   refine Af ?_
   refine Ab f Z λa f=>Ab f Z λa f=>Ab f Z λa f=> ?_
   have⟨ar,au,am⟩:=bind_some am
   refine AO f Z call185 (Wk.q0 m ap au) λav aw ax w ay m az a f=> ?_
   obtain⟨aA,rfl,aB⟩:=az
   refine Aa ?_
   refine Ap ?_
   obtain rfl:=sj am
   obtain rfl:=an _ rfl
   obtain rfl:=sj hd
   exact⟨[],trivial,f.d,_,[aA],(gt ao ay),m,_,Z,aB⟩
  ·refine Aj f Z aq ?_
   refine An ?_
   refine Ag (Af ?_)
   refine Ab f Z λa f=>Ah f Z Z BF λa f=>Aa ?_
   rcases Ae am with⟨aC,am⟩|⟨aC,am⟩
   ·refine Am f Z aC ?_
    refine Af ?_
    refine Ab f Z λa f=>Ab f Z λa f=>Ab f Z λa f=> ?_
    have⟨aD,aE,am⟩:=bind_some am
    refine AO f Z call186 (Wk.Z0 m ap aE) λaF aG aH w aI m aJ a f=> ?_
    obtain⟨aK,rfl,aL⟩:=aJ
    refine Aa ?_
    refine Ap ?_
    obtain rfl:=sj am
    obtain rfl:=an _ rfl
    obtain rfl:=sj hd
    exact⟨[],trivial,f.d,_,[aK],(gt ao aI),m,_,Z,aL⟩
   ·refine Aj f Z aC ?_
    refine An ?_
    refine Ag (Af ?_)
    refine Ab f Z λa f=>l_o f (Bg (f.e Z)) λa f=>Aa ?_
    have⟨aM,aN,am⟩:=bind_some am
    refine AJ (λa w=>∃aO:LI,∃aP:Int,(aO,aP)=aM∧∃(aQ:GH) (aR:Itm),GLe aj aQ∧Fr a 134 [(0,v0),(1,(iv ae)),(2,(iv af)),(3,(iv aP)),(8,(.bool ah)),(9,(.bool ai)),(10,(iv (i64.wrap (af-ae))))]∧Mem W aQ w (aR::H)∧Ow R0 2 aQ aR v0 aO) ?_ ?_
    ·rcases Ae aN with⟨aS,aN⟩|⟨aS,aN⟩
     ·refine Am f Z aS ?_
      refine Af ?_
      refine Ab f Z λa f=>Ab f Z λa f=>Ab f Z λa f=> ?_
      have⟨aT,aU,aN⟩:=bind_some aN
      refine AO f Z call187 (Wk.F0 m ap aU) λaV aW aX w aY m aZ a f=> ?_
      obtain⟨a0,rfl,a1⟩:=aZ
      refine Aa (Ak ?_)
      refine Ab f Z λa f=>Ah f Z Z AR λa f=>Ac f Z λa f=>Aa ?_
      obtain rfl:=sj aN
      exact⟨_,_,Z,_,a0,aY,f.k Z,m,a1⟩
     ·refine Aj f Z aS ?_
      refine An ?_
      obtain rfl:=sj aN
      exact⟨_,_,Z,_,ak,gr,f.k Z,m,ap⟩
    ·rintro a w ⟨aO,aP,rfl,aQ,aR,a2,f,m,a3⟩
     refine Af ?_
     refine Ab f Z λa f=>Ab f Z λa f=>Ab f Z λa f=> ?_
     have⟨a4,a5,am⟩:=bind_some am
     refine AO f Z call188 (Wk.A0 m a3 a5) λa6 a7 a8 w a9 m ba a f=> ?_
     obtain⟨bb,rfl,rfl,bc⟩:=ba
     refine Ab f Z λa f=>l_o f (Bn (f.e Z) Z) λa f=>l_o f (Bn (f.e Z) Z) λa f=>Ac f Z λa f=>Ac f Z λa f=>Aa (Ag (Af ?_))
     refine Ab f Z λa f=>Ah f Z Z BF λa f=>Aa ?_
     have⟨bd,be,am⟩:=bind_some am
     refine AJ (λa w=>∃bf:LI,∃bg:Int,∃bh:Int,(bf,bg,bh)=bd∧∃(bi:GH) (bj:Itm),GLe a7 bi∧Fr a 134 [(0,v0),(1,(iv ae)),(2,(iv af)),(3,(iv aP)),(8,(.bool ah)),(9,(.bool ai)),(10,(iv (i64.wrap (af-ae)))),(11,(iv bg)),(12,(iv bh))]∧Mem W bi w (bj::H)∧Ow R0 2 bi bj v0 bf) ?_ ?_
     ·rcases Ae be with⟨bk,be⟩|⟨bk,be⟩
      ·refine Am f Z bk ?_
       refine Af ?_
       refine Ab f Z λa f=>Ab f Z λa f=>Ab f Z λa f=> ?_
       have⟨bl,bm,be⟩:=bind_some be
       refine AO f Z call189 (Wk.t0 m bc bm) λbn bo bp w bq m br a f=> ?_
       obtain⟨bs,rfl,bt⟩:=br
       refine Ay ?_
       refine Ab f Z λa f=>Ah f Z Z AR λa f=>Ab f Z λa f=>Ab f Z λa f=>Ah f Z Z AR λa f=>Ah f Z Z AR λa f=>Ac f Z λa f=>Aa (Ak ?_)
       refine Ac f Z λa f=>Aa ?_
       obtain rfl:=sj be
       exact⟨_,_,_,Z,_,bs,bq,f.k Z,m,bt⟩
      ·refine Aj f Z bk ?_
       refine An ?_
       obtain rfl:=sj be
       exact⟨_,_,_,Z,_,bb,gr,f.k Z,m,bc⟩
     ·rintro a w ⟨bf,bg,bh,rfl,bi,bj,bu,f,m,bv⟩
      refine Ag (Af ?_)
      refine Ab f Z λa f=>Ab f Z λa f=> ?_
      refine Bj 2 (λa w=>∃bw,GLe bi bw∧Mem W bw w (bj::H)∧Fr a 134 [(0,v0),(1,(iv ae)),(2,(iv af)),(3,(iv aP)),(8,(.bool ah)),(9,(.bool ai)),(10,(iv (i64.wrap (af-ae)))),(11,(iv bg)),(12,(iv bh)),(61,(.bool ah)),(62,(.bool ah)),(64,(.bool (ah&&ai)))]) ?_ ?_
      ·rcases Bool.eq_false_or_eq_true ah with bx|bx
       ·refine As f bx ?_
        refine Ab f Z λa f=>l_o f (AD (f.e Z) bx (f.e Z)) λa f=> ?_
        exact⟨_,gr,m,f.weak ⟨Z,Z,Z,Z,Z,Z,Z,Z,Z,Z,Z,by rw[bx];rfl,trivial⟩⟩
       ·refine Aw f bx λa f=> ?_
        refine l_o f (AC (f.e Z) bx (f.e Z)) λa f=> ?_
        exact⟨_,gr,m,f.weak ⟨Z,Z,Z,Z,Z,Z,Z,Z,Z,Z,Z,by rw[bx];rfl,trivial⟩⟩
      ·rintro a w ⟨bw,bz,m,f⟩
       have bv:=od1 bz bv
       refine Ab f Z λa f=> ?_
       refine Bj 3 (λa w=>∃bA,GLe bw bA∧Mem W bA w (bj::H)∧Fr a 134 [(0,v0),(1,(iv ae)),(2,(iv af)),(3,(iv aP)),(8,(.bool ah)),(9,(.bool ai)),(10,(iv (i64.wrap (af-ae)))),(11,(iv bg)),(12,(iv bh)),(61,(.bool ah)),(62,(.bool ah)),(64,(.bool (ah&&ai))),(65,(.bool (ah&&ai))),(68,(.bool ((ah&&ai)&&(bh==1))))]) ?_ ?_
       ·rcases Bool.eq_false_or_eq_true (ah&&ai) with bB|bB
        ·refine As f bB ?_
         refine Ab f Z λa f=>As f bB ?_
         refine Ah f Z Z BF λa f=>l_o f (AD (f.e Z) bB (f.e Z)) λa f=> ?_
         exact⟨_,gr,m,f.weak ⟨Z,Z,Z,Z,Z,Z,Z,Z,Z,Z,Z,Z,Z,by rw[bB];rfl,trivial⟩⟩
        ·refine Aw f bB λa f=> ?_
         refine Aw f bB λa f=>l_o f (AC (f.e Z) bB (f.e Z)) λa f=> ?_
         exact⟨_,gr,m,f.weak ⟨Z,Z,Z,Z,Z,Z,Z,Z,Z,Z,Z,Z,Z,by rw[bB];rfl,trivial⟩⟩
       ·rintro a w ⟨bA,bC,m,f⟩
        have bv:=od1 bC bv
        refine Aa ?_
        have⟨bD,bE,am⟩:=bind_some am
        refine AJ (λa w=>∃j_513':LI,bD= .inl j_513'∧∃bF:LI,bF=j_513'∧∃(bG:GH) (bH:Itm),GLe bA bG∧Fr a 134 [(0,v0),(1,(iv ae)),(2,(iv af)),(3,(iv aP)),(8,(.bool ah)),(9,(.bool ai)),(10,(iv (i64.wrap (af-ae)))),(11,(iv bg))]∧Mem W bG w (bH::H)∧Ow R0 2 bG bH v0 bF) ?_ ?_
        ·rcases Ae bE with⟨bI,bE⟩|⟨bI,bE⟩
         ·refine Am f Z bI ?_
          refine Af ?_
          refine Ab f Z λa f=>Ab f Z λa f=>Ab f Z λa f=> ?_
          have⟨bJ,bK,bE⟩:=bind_some bE
          refine AO f Z call190 (Wk.J0 m bv bK) λbL bM bN w bO m bP a f=> ?_
          obtain⟨bQ,rfl,rfl,bR⟩:=bP
          refine Aa ?_
          rcases Ae bE with⟨bS,bE⟩|⟨bS,bE⟩
          ·refine Am f Z bS ?_
           refine Ap ?_
           obtain rfl:=sj bE
           obtain rfl:=sj am
           obtain rfl:=an _ rfl
           obtain rfl:=sj hd
           exact⟨[],trivial,f.d,_,[bQ],(gt ao (gt a2 (gt a9 (gt bu (gt bz (gt bC bO)))))),m,_,Z,bR⟩
          ·refine Aj f Z bS ?_
           refine An ?_
           obtain rfl:=sj bE
           exact⟨_,Z,_,Z,_,bQ,bO,f.k Z,m,bR⟩
         ·refine Aj f Z bI ?_
          refine An ?_
          obtain rfl:=sj bE
          exact⟨_,Z,_,Z,_,bj,gr,f.k Z,m,bv⟩
        ·rintro a w ⟨_,rfl,bF,rfl,bG,bH,bT,f,m,bU⟩
         refine Ag (Ag ?_)
         refine A7 15 AI (by kernel_rfl) m ?_
         refine Ai 0 15 Z f Z λa f=>q_p 1 15 Z f (λ_=>AK (f.e Z) (f.e Z) Cc) λa f=>Ai 2 15 Z f Z λa f=> ?_
         have⟨bV,bW,am⟩:=bind_some am
         refine B1 (fuel':=0) (listed':= #[true,true,true,true,true,true,true,true,true,true,true,true,true,true,true]) (λa=>Fr a 134 [(0,v0),(1,(iv ae)),(2,(iv af)),(3,(iv aP)),(8,(.bool ah)),(9,(.bool ai)),(10,(iv (i64.wrap (af-ae)))),(11,(iv bg)),(73,(iv ae)),(74,(.bool (decide ((0:Int)<ae)))),(75,(.bool (decide ((0:Int)<ae)))),(87,(.bool bV))]) ?_ ?_
         ·intro a f
          refine AW λbX w bY m=> ?_
          have bU:=od1 bY bU
          refine Aa ?_
          rcases Ae am with⟨bZ,am⟩|⟨bZ,am⟩
          ·refine Am f Z bZ ?_
           refine Af ?_
           refine Ab f Z λa f=>Ab f Z λa f=>Ab f Z λa f=>Ab f Z λa f=> ?_
           have⟨b0,b1,am⟩:=bind_some am
           refine AO f Z call192 (Wk.e0 m bU b1) λb2 b3 b4 w b5 m b6 a f=> ?_
           obtain⟨b7,rfl,rfl,b8⟩:=b6
           refine Ac f Z λa f=>Ay ?_
           refine Ab f Z λa f=>Ac f Z λa f=>Aa ?_
           refine AB Z ?_
           obtain rfl:=sj am
           exact⟨_,Z,_,_,_,_,_,_,Z,_,b7,(gt ao (gt a2 (gt a9 (gt bu (gt bz (gt bC (gt bT (gt bY b5)))))))),f.k Z,m,b8⟩
          ·refine Aj f Z bZ ?_
           refine An ?_
           refine Af ?_
           refine Ab f Z λa f=>Ab f Z λa f=>Ab f Z λa f=>Ab f Z λa f=> ?_
           have⟨b9,ca,am⟩:=bind_some am
           refine AO f Z call193 (Wk.s0 m bU ca) λcb cc cd w ce m cf a f=> ?_
           obtain⟨cg,rfl,rfl,ch⟩:=cf
           refine Ab f Z λa f=>l_o f (Bn (f.e Z) Z) λa f=>l_o f (Bn (f.e Z) Z) λa f=>Ac f Z λa f=>Ac f Z λa f=>Ay ?_
           refine Ab f Z λa f=>Ac f Z λa f=>Ay ?_
           refine Ab f Z λa f=>Ab f Z λa f=>Ah f Z Z AR λa f=>Ab f Z λa f=>Ab f Z λa f=>Ah f Z Z AR λa f=>Ac f Z λa f=>Ac f Z λa f=>Ay ?_
           refine Ab f Z λa f=>Ah f Z Z (DA Z) λa f=>Ac f Z λa f=>Ay ?_
           refine Ab f Z λa f=>Ab f Z λa f=>Ah f Z Z AQ λa f=>Aa ?_
           rcases Ae am with⟨ci,am⟩|⟨ci,am⟩
           ·refine Am f Z ci ?_
            refine Af ?_
            refine Ab f Z λa f=>Ab f Z λa f=>Ah f Z Z Cj λa f=>Ac f Z λa f=>Ay ?_
            refine Ab f Z λa f=>Ab f Z λa f=>Ab f Z λa f=>Ab f Z λa f=> ?_
            have⟨cj,ck,am⟩:=bind_some am
            refine AO f Z call177 (ih m ch ck) λcl cm cn w co m cp a f=> ?_
            obtain⟨cq,rfl,cr⟩:=cp
            refine Aa (Ak ?_)
            refine Ab f Z λa f=>Ah f Z Z Ax λa f=>Ac f Z λa f=>Aa ?_
            obtain rfl:=sj am
            exact⟨_,Z,_,_,_,_,_,_,Z,_,cq,(gt ao (gt a2 (gt a9 (gt bu (gt bz (gt bC (gt bT (gt bY (gt ce co))))))))),f.k Z,m,cr⟩
           ·refine Aj f Z ci ?_
            refine Af ?_
            refine Ab f Z λa f=>Ab f Z λa f=>Ah f Z Z Cj λa f=>Ac f Z λa f=>Ay ?_
            refine Ab f Z λa f=>Ab f Z λa f=>Ah f Z Z Ax λa f=>Ab f Z λa f=>Ab f Z λa f=> ?_
            have⟨cs,ct,am⟩:=bind_some am
            refine AO f Z call177 (ih m ch ct) λcu cv cw w cx m cy a f=> ?_
            obtain⟨cz,rfl,cA⟩:=cy
            refine Aa (Ak ?_)
            refine Ab f Z λa f=>Ac f Z λa f=>Aa ?_
            obtain rfl:=sj am
            exact⟨_,Z,_,_,_,_,_,_,Z,_,cz,(gt ao (gt a2 (gt a9 (gt bu (gt bz (gt bC (gt bT (gt bY (gt ce cx))))))))),f.k Z,m,cA⟩
         ·intro cB
          rcases Ae bW with⟨cC,bW⟩|⟨cC,bW⟩
          ·refine Ai (hw:=wo f cC) 3 15 Z f Z λa f=> ?_
           refine Ai (hw:=wo f cC) 4 15 Z f Z λa f=>q_p (hw:=wo f cC) 5 15 Z f (λ_=>AK (f.e Z) (f.e Z) AR) λa f=> ?_
           have⟨cD,cE,bW⟩:=bind_some bW
           refine AL (hw:=wo f cC) 6 15 0 m bU T43 cE Z f Z Z λcF a cG f=>A4 (hw:=wo f cC) 7 15 0 bU Pl2 cG cE Z f Z λcH a cI f=> ?_
           subst cI
           refine Ai (hw:=wo f cC) 8 15 Z f Z λa f=>Ai (hw:=wo f cC) 9 15 Z f Z λa f=> ?_
           have⟨cJ,cK,bW⟩:=bind_some bW
           refine AL (hw:=wo f cC) 10 15 0 m bU T43 cK Z f Z Z λcL a cM f=>A4 (hw:=wo f cC) 11 15 0 bU Pl2 cM cK Z f Z λcN a cO f=> ?_
           subst cO
           have⟨cP,cQ,bW⟩:=bind_some bW
           refine Bi (i:=12) 15 Z (by kernel_rfl) Z f (Bh f Z Z Z cC) Z Z call191 (λ_ _ w cR m=>Wk.a m cQ) λa f=>q_p (hw:=wo f cC) 13 15 Z f (λ_=>Bg (f.e Z)) λa f=>q_p 14 15 Z f (λ_=>AD (f.e Z) cC (f.e Z)) λa f=> ?_
           obtain rfl:=sj bW
           exact cB _ (f.k Z)
          ·refine Ao 3 15 Z f cC λa f=> ?_
           refine Ao 4 15 Z f cC λa f=>Ao 5 15 Z f cC λa f=>Ao 6 15 Z f cC λa f=>Ao 7 15 Z f cC λa f=>Ao 8 15 Z f cC λa f=>Ao 9 15 Z f cC λa f=>Ao 10 15 Z f cC λa f=>Ao 11 15 Z f cC λa f=>Ao 12 15 Z f cC λa f=>Ao 13 15 Z f cC λa f=>q_p 14 15 Z f (λ_=>AC (f.e Z) cC (f.e Z)) λa f=> ?_
           obtain rfl:=sj bW
           exact cB _ (f.k Z)
theorem Wk.l {v0:Value}{it0:Itm}{x0:LI}{x1 x2 x3:Int}(m:Mem W G w (it0::H))(o0:Ow R0 2 G it0 v0 x0){y:(LI)}(hd:D.l x0 x1 x2 x3=some y):
  Calls prog 177 #[v0,(iv x1),(iv x2),(iv x3)] w (Res W G H (λG' Ho _=>∃i0:Itm,Ho=[i0]∧Ow R0 2 G' i0 v0 y)):=by
 exact Wk.x CA m o0 hd
theorem Wk.O0 {v0:Value}{it0:Itm}{x0:LI}(m:Mem W G w (it0::H))(o0:Ow R0 2 G it0 v0 x0){y:(LI)}(hd:D.O0 x0=some y):
  Calls prog 159 #[v0] w (Res W G H (λG' Ho _=>∃i0:Itm,Ho=[i0]∧Ow R0 2 G' i0 v0 y)):=by
 refine Au (args:=[v0]) (N:=11) [] func159 Z Z (lb Z) Z λa f=> ?_
 unfold D.O0 at hd
 refine Af ?_
 refine Ab f Z λa f=>Br 0 m o0 Z underlying43 f Z Z λa f=>Ac f Z λa f=>Aa (Ak ?_)
 refine Ab f Z λa f=>Ab f Z λa f=>Ab f Z λa f=>l_o f (BP (f.e Z) ⟨_,underlying3⟩ underlying118) λa f=> ?_
 have⟨aa,ab,hd⟩:=bind_some hd
 refine AO f Z call153 (Wk.N m ab) λac ad ae w af m ag a f=> ?_
 obtain⟨rfl,rfl⟩:=ag
 have o0:=od1 af o0
 have⟨ah,ai,hd⟩:=bind_some hd
 refine AO f Z call177 (Wk.l m o0 ai) λaj ak al w am m an a f=> ?_
 obtain⟨ao,rfl,ap⟩:=an
 refine Aa ?_
 obtain rfl:=sj hd
 exact⟨[],trivial,f.d,_,[ao],(gt af am),m,_,Z,ap⟩
theorem Wk.u0 {v0:Value}{b0:Nat}{x0:LI}(m:Mem W G w (ib b0 43 [v0]::H))(h0:R1 G v0 x0){y:(LI)}(hd:D.u0 x0=some y):
  Calls prog 144 #[(.func (.func 160) #[] #[(pb b0)])] w (Res W G H (λG' Ho v=>∃r0:Value,∃i0:Itm,Ho=[i0]∧r0=v∧Ow R0 2 G' i0 r0 y)):=by
 refine Au (args:=[(.func (.func 160) #[] #[(pb b0)])]) (N:=9) [.tmp 2] func144 Z Z (lb Z) Z λa f=> ?_
 unfold D.u0 at hd
 refine Af ?_
 refine Ac f Z λa f=>Ay ?_
 refine Ab f Z λa f=> ?_
 have⟨aa,ab,hd⟩:=bind_some hd
 refine AO f Z call158 (Wk.U0 m h0 ab) λac ad ae w af m ag a f=> ?_
 obtain⟨ah,ai,rfl,rfl,aj⟩:=ag
 refine Ac f Z λa f=>Ay ?_
 refine Ab f Z λa f=> ?_
 have⟨ak,al,hd⟩:=bind_some hd
 refine AO f Z call159 (Wk.O0 m aj al) λam an ao w ap m aq a f=> ?_
 obtain⟨ar,rfl,au⟩:=aq
 refine Ay ?_
 refine Ab f Z λa f=>Ac f Z λa f=>Aa ?_
 refine Ap ?_
 obtain rfl:=sj hd
 exact⟨[ah],f.g Z,f.d,_,[ar],(gt af ap),m,_,_,Z,Z,au⟩
end Go.Proofs.YtfmaahgchbfbiaaDoor
