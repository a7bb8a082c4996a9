/- Parts. -/
import Derived.Test.YtjhajfcggfhbmaaDoorIv1
import Derived.Shelf.Small.Bits
import Derived.Test.YtjhajfcggfhbmaaDoorProg
import Derived.KernelRfl
set_option linter.unusedVariables false
set_option linter.unusedSimpArgs false
namespace Go.Sx
open IntKind
noncomputable section
def D.y0 (a b:Int):Option (Bool):=
 some (((decide ((0:Int)≤a))&&(decide (a≤b)))&&(decide (b≤100)))
def D.F0 (a b:Int):Option (Bool):=
 (D.y0 a b).bind λc=>some (!c)
def D.T (b:(List (Int×Int))):Option (Int):=
 (Ao (σ:=Int) (ρ:=(Unit) ⊕ (Int)) (fun(a:Int)=>cond (decide (a<(b.length:Int))) ((idx b a).bind λc=>(D.F0 c.1 c.2).bind λd=>cond d (some (.inr (.inr a))) (some (.inl (i64.wrap (a+1))))) (some (.inr (.inl ())))) 0).bind λzz=>match zz with| .inl _=>(some (-1))| .inr z=>(some z)
def D.m0 (a:(List (Int×Int))):Option (Bool):=
 (D.T a).bind λb=>some (decide ((0:Int)≤b))
def D.h (a:(List (Int×Int))):Option (LL×Bool):=
 (cond ((decide ((a.length:Int)<1))||(decide ((16:Int)<(a.length:Int)))) (some true) ((D.m0 a).bind λi=>some i)).bind λj=>cond j (some (([]:LL),false)) ((C9 (0:Int) (a.length:Int) (a.length:Int)).bind λk=>(Ao (σ:=LI×Int) (ρ:=LI) (fun(e,b)=>cond (decide (b<(a.length:Int))) ((idx a b).bind λf=>(B4 a 0 b).bind λg=>(Ao (σ:=LI×Int) (ρ:=LI) (fun(d,c)=>cond (decide (c<(g.length:Int))) ((idx g c).bind λh=>cond ((decide (f.1≤h.2))&&(decide (h.1≤f.2))) ((D.I d b c).bind λn=>some (.inl (n,(i64.wrap (c+1))))) (some (.inl (d,(i64.wrap (c+1)))))) (some (.inr d))) (e,0)).bind λo=>some (.inl (o,(i64.wrap (b+1))))) (some (.inr e))) (k,0)).bind λp=>(D.V p).bind λq=>some (q,true))
def D.C0 (a b:Int):Option (Bool):=
 (D.j a 0 100).bind λc=>(cond c ((D.j b a 100).bind λd=>some d) (some false)).bind λe=>some e
def D.j0 (a:(List (Int×Int))):Option (Bool):=
 (D.j (a.length:Int) 1 16).bind λd=>cond (!d) (some false) ((Ao (σ:=Int) (ρ:=(Unit) ⊕ (Bool)) (fun(b:Int)=>cond (decide (b<(a.length:Int))) ((idx a b).bind λc=>(D.C0 c.1 c.2).bind λe=>cond (!e) (some (.inr (.inr false))) (some (.inl (i64.wrap (b+1))))) (some (.inr (.inl ())))) 0).bind λzz=>match zz with| .inl _=>(some true)| .inr z=>(some z))
def D.e0 (a b:Int)(c d:Int):Option (Bool):=
 some ((decide (a≤d))&&(decide (c≤b)))
def D.u0 (b:(List (Int×Int))):Option LL:=
 (Ao (σ:=Int×LL) (ρ:=LL) (fun(c,e)=>cond (decide (c<(b.length:Int))) ((Ao (σ:=LI×Int) (ρ:=LI) (fun(d,a)=>cond (decide (a<(b.length:Int))) ((cond (a !=c) ((idx b a).bind λf=>(idx b c).bind λg=>(D.e0 f.1 f.2 g.1 g.2).bind λj=>some j) (some false)).bind λk=>cond k ((AH d ([a]:LI)).bind λl=>some (.inl (l,(i64.wrap (a+1))))) (some (.inl (d,(i64.wrap (a+1)))))) (some (.inr d))) (([]:LI),0)).bind λm=>(AH e ([m]:LL)).bind λn=>some (.inl ((i64.wrap (c+1)),n))) (some (.inr e))) (0,([]:LL))).bind λo=>some o
def D.O (a:LL)(b:(List (Int×Int))):Option (Bool):=
 (D.o a).bind λc=>(cond c ((D.j0 b).bind λd=>some d) (some false)).bind λe=>cond e ((D.u0 b).bind λf=>(D.s0 a f).bind λg=>some g) (some false)
def D.Y (d:LL):Option (((List (Int×Int)))×Bool):=
 (D.f d).bind λh=>cond (!h) (some (([]:List (Int×Int)),false)) ((D.n d).bind λi=>(D.F i).bind λb=>cond (b.1.isEmpty) (some (([]:List (Int×Int)),false)) ((Ao (σ:=(List (Int×Int))×Int) (ρ:=((List (Int×Int)))) (fun(j:(List (Int×Int))×Int)=>match j with|(f,e)=>cond (decide (e<(d.length:Int))) ((Ao (σ:=Int×Int×Int) (ρ:=(Int×Int)) (fun(a,c,g)=>cond (decide (a<(b.1.length:Int))) ((idx b.1 a).bind λl=>(idx b.2 l).bind λm=>(D.v m e).bind λn=>cond (!n) (some (.inl ((i64.wrap (a+1)),c,g))) (cond (decide (c<0)) (some (.inl ((i64.wrap (a+1)),a,a))) (some (.inl ((i64.wrap (a+1)),c,a))))) (some (.inr (c,g)))) (0,(-1),0)).bind fun(o,p)=>(AH f ([(o,p)]:List (Int×Int))).bind λq=>some (.inl (q,(i64.wrap (e+1))))) (some (.inr f))) (([]:List (Int×Int)),0)).bind λr=>some (r,true)))
def D.r0 (b:LL)(c:(List (Int×Int))):Option (Bool):=
 (D.h c).bind λa=>(cond a.2 ((D.p0 b a.1).bind λd=>some d) (some false)).bind λe=>some e
def D.T0 (j:LI):Option (Bool):=
 (D.B0 j).bind λl=>cond l (some true) ((D.i0 j 1007).bind λf=>(D.k f.1 f.2.1 f.2.2 2).bind λd=>(D.k d.2.1 d.2.2.1 d.2.2.2 6).bind λe=>(Ao (σ:=(List (Int×Int))×Int×LI×Int×Int) (ρ:=((List (Int×Int)))) (fun(m:(List (Int×Int))×Int×LI×Int×Int)=>match m with|(g,h,n,o,p)=>cond (decide ((0:Int)<h)) ((D.k n o p 9).bind λa=>(D.k a.2.1 a.2.2.1 a.2.2.2 5).bind λb=>cond (d.1==0) ((AH g ([(a.1,(i64.wrap (a.1+2)))]:List (Int×Int))).bind λq=>some (.inl (q,(i64.wrap (h-1)),b.2.1,b.2.2.1,b.2.2.2))) ((AH g ([(a.1,(i64.wrap (a.1+b.1)))]:List (Int×Int))).bind λr=>some (.inl (r,(i64.wrap (h-1)),b.2.1,b.2.2.1,b.2.2.2)))) (some (.inr g))) (([]:List (Int×Int)),(i64.wrap (1+e.1)),e.2.1,e.2.2.1,e.2.2.2)).bind λk=>(D.h k).bind λc=>(cond (!c.2) (some true) ((D.O c.1 k).bind λs=>some (!s))).bind λt=>(cond t (some true) ((D.M c.1).bind λu=>some (!u))).bind λv=>cond v (some false) ((D.Y c.1).bind λi=>(cond i.2 ((D.O c.1 i.1).bind λw=>some w) (some false)).bind λx=>(cond x ((D.r0 c.1 i.1).bind λy=>some y) (some false)).bind λz=>(cond z ((cond (!(d.1==0)) (some true) ((D.n0 c.1).bind λaa=>some aa)).bind λab=>some ab) (some false)).bind λac=>some ac))
end
end Go.Sx

namespace Go.Sx
end Go.Sx

namespace Go.Sx
end Go.Sx

namespace Go.Sx
end Go.Sx

namespace Go.Sx
end Go.Sx

namespace Go.Sx
end Go.Sx

namespace Go.Proofs
open Go.Shelf
def Tryd.lays125_ren :Go.Shelf.Ren:=⟨fun|125=>97|128=>118|129=>119|n=>n,fun|46=>62|3=>3|51=>74|53=>38|4=>4|5=>5|9=>9|n=>n,fun|n=>n⟩
theorem Tryd.lays125 :Go.Proofs.Lays.n125 Tryd.prog Tryd.lays125_ren:={
 mixed:=by kernel_rfl
 f125:=Tryd.func97.trans (congrArg some (by kernel_rfl))
 f128:=Tryd.func118.trans (congrArg some (by kernel_rfl))
 f129:=Tryd.func119.trans (congrArg some (by kernel_rfl))
 t3:=Tryd.underlying3
 a3:=Tryd.isAgg3
 z3:=Tryd.sizeOf3
 v3:=Tryd.zeroValue3
 t4:=Tryd.underlying4
 a4:=Tryd.isAgg4
 z4:=Tryd.sizeOf4
 v4:=Tryd.zeroValue4
 t5:=Tryd.underlying5
 a5:=Tryd.isAgg5
 z5:=Tryd.sizeOf5
 v5:=Tryd.zeroValue5
 t9:=Tryd.underlying9
 a9:=Tryd.isAgg9
 z9:=Tryd.sizeOf9
 v9:=Tryd.zeroValue9
 t46:=Tryd.underlying62
 a46:=Tryd.isAgg62
 z46:=Tryd.sizeOf62
 v46:=Tryd.zeroValue62
 t51:=Tryd.underlying74
 a51:=Tryd.isAgg74
 z51:=Tryd.sizeOf74
 v51:=Tryd.zeroValue74
 t53:=Tryd.underlying38
 a53:=Tryd.isAgg38
 z53:=Tryd.sizeOf38
 v53:=Tryd.zeroValue38}
theorem Tryd.bits_Len (x:Int)(w:World)(h0:0≤x)(h1:x≤18446744073709551615):
  Calls Tryd.prog 97 #[.int .u64 x] w λe w'=>e= .returned (.int .i64 (Lib.bitLen x.toNat))∧w'=w:=Any.bits_Len Tryd.lays125 x w h0 h1
end Go.Proofs
namespace Go.Proofs.YtjhajfcggfhbmaaDoor
open Go Go.Sx
theorem Wk.y {W w:World}{G:GH}{H:List Itm}{x0:Int}(m:Mem W G w H){y:Int}(hd:D.y x0=some y):
  Calls Tryd.prog 97 #[(.int .u64 x0)] w (Res W G H (λ_ Ho v=>Ho=[]∧v=(.int .i64 y))):=by
 unfold D.y at hd
 split at hd
 ·rename_i h
  obtain rfl:=Option.some.inj hd
  exact(Tryd.bits_Len x0 w h.1 h.2).mono (λe w' ⟨he,hw⟩=>by subst hw;exact⟨_,he,G,[],GLe.refl G,m,rfl,rfl⟩)
 ·cases hd
end Go.Proofs.YtjhajfcggfhbmaaDoor

namespace Go.Sx
theorem w64 {x:Int}(h1: -9223372036854775808≤x)(h2:x<9223372036854775808):IntKind.i64.wrap x=x:=by
 simp only[IntKind.wrap,IntKind.bits,IntKind.signed]
 have e:(2:Int)^64=18446744073709551616:=by decide
 have e':(2:Int)^(64-1)=9223372036854775808:=by decide
 simp
 omega
theorem dlt {i n:Nat}(h:i<n):decide ((i:Int)<(n:Int))=true:=by simp;omega
theorem Bg {n:Nat}:decide ((n:Int)<(n:Int))=false:=by simp
theorem AB {α:Type}{xs:List α}{i:Nat}(h:i<xs.length):idx xs (i:Int)=some xs[i]:=by
 unfold idx;rw[if_pos (by omega)];simp[h]
theorem idx_int {α:Type}{xs:List α}{i:Int}(h0:0≤i)(h:i<xs.length):idx xs i=some (xs[i.toNat]'(by omega)):=by
 unfold idx;rw[if_pos h0];simp
theorem wi {i:Nat}(h:i<4611686018427387904):IntKind.i64.wrap ((i:Int)+1)=((i+1:Nat):Int):=by
 rw[w64 (by omega) (by omega)];rfl
theorem wi' {i n:Nat}(h:i<n)(hn:n≤4611686018427387904):IntKind.i64.wrap ((i:Int)+1)=((i+1:Nat):Int):=wi (by omega)
theorem Au {α:Type}{xs:List α}{i:Nat}(h:i<xs.length)(d:α):xs.getD i d=xs[i]:=by simp[h]
theorem Be {α:Type}{xs ys:List α}(h:xs.length+ys.length≤4294967296):AH xs ys=some (xs++ys):=by
 unfold AH;rw[if_pos h]
theorem sliceD_pre {α:Type}{xs:List α}{i:Nat}(h:i≤xs.length):B4 xs 0 (i:Int)=some (xs.take i):=by
 unfold B4;rw[if_pos ⟨by omega,by omega,by omega⟩];simp
theorem sliceD_post {α:Type}{xs:List α}{i:Nat}(h:i≤xs.length):B4 xs (i:Int) (xs.length:Int)=some (xs.drop i):=by
 unfold B4;rw[if_pos ⟨by omega,by omega,by omega⟩];simp
theorem makeD_ok {α:Type}{z:α}{n:Nat}{c:Int}(h:(n:Int)≤c)(h2:c≤4294967296):C9 z (n:Int) c=some (List.replicate n z):=by
 unfold C9;rw[if_pos ⟨by omega,h,h2⟩];simp
theorem makeD_zero {α:Type}{z:α}{c:Int}(h:0≤c)(h2:c≤4294967296):C9 z 0 c=some []:=by
 unfold C9;rw[if_pos ⟨by omega,h,h2⟩];simp
def Stp {σ ρ:Type}(I:σ→Prop)(μ:σ→Nat)(Post:ρ→Prop)(s:σ):σ ⊕ ρ→Prop
 | .inl s'=>I s'∧μ s'<μ s
 | .inr r=>Post r
theorem AW {σ ρ β:Type}{step:σ→Option (σ ⊕ ρ)}{s:σ}{k:ρ→Option β}{Q:β→Prop}(I:σ→Prop)(μ:σ→Nat)(Post:ρ→Prop)
  (hstep:∀s,I s→∃y,step s=some y∧Stp I μ Post s y) (h0:I s) (hk:∀r,Post r→∃y,k r=some y∧Q y):∃y,(Ao step s).bind k=some y∧Q y:=by
 obtain⟨r,hr,hp⟩:=loopF_inv (step:=step) I μ Post (λs hs=>by
  obtain⟨y,hy,hq⟩:=hstep s hs
  cases y with
  |inl s'=>exact .inl ⟨s',hy,hq.1,hq.2⟩
  |inr r=>exact .inr ⟨r,hy,hq⟩) s h0
 rw[hr]
 exact hk r hp
theorem BR {α β:Type}{e:Option α}{k:α→Option β}{Q:β→Prop}(R:α→Prop)(h:∃x,e=some x∧R x)(hk:∀x,R x→∃y,k x=some y∧Q y):∃y,e.bind k=some y∧Q y:=by
 obtain⟨x,rfl,hx⟩:=h
 exact hk x hx
theorem bind_eq {α β:Type}{e:Option α}{k:α→Option β}{Q:β→Prop}{x:α}(h:e=some x)(hk:∃y,k x=some y∧Q y):∃y,e.bind k=some y∧Q y:=by
 subst h;exact hk
theorem loop_steps {S ρ:Type}{step:S→Option (S ⊕ ρ)}(st:Nat→S)(n:Nat)(h:∀i,i<n→step (st i)=some (.inl (st (i+1)))):Ao step (st 0)=Ao step (st n):=by
 have key:∀k,k≤n→Ao step (st 0)=Ao step (st k):=by
  intro k
  induction k with
  |zero=>intro _;rfl
  |succ k ih=>intro hk;rw[ih (by omega),Bi (h k (by omega))]
 exact key n (Nat.le_refl n)
theorem C4 {S ρ β:Type}{step:S→Option (S ⊕ ρ)}{k:ρ→Option β}{s0:S}(st:Nat→S)(n:Nat)(r:ρ)(h0:st 0=s0)(h:∀i,i<n→step (st i)=some (.inl (st (i+1))))(he:step (st n)=some (.inr r)):
  (Ao step s0).bind k=k r:=by
 rw[←h0,loop_steps st n h,AV he];rfl
theorem loop_list {α σ S ρ:Type}{step:S→Option (S ⊕ ρ)}(xs:List α)(enc:σ→Int→S)(f:σ→α→σ)(fin:σ→ρ)(I:σ→Prop)(s0:σ)
  (h0:I s0) (hstep:∀s (i:Nat) (h:i<xs.length),I s→step (enc s i)=some (.inl (enc (f s xs[i]) ((i+1:Nat):Int)))∧I (f s xs[i]))
  (hend:∀s,I s→step (enc s xs.length)=some (.inr (fin s))):Ao step (enc s0 0)=some (fin (xs.foldl f s0))∧I (xs.foldl f s0):=by
 have key:∀(k i:Nat) (s:σ),i+k=xs.length→I s→Ao step (enc s i)=some (fin ((xs.drop i).foldl f s))∧I ((xs.drop i).foldl f s):=by
  intro k
  induction k with
  |zero=>
   intro i s hk hs
   obtain rfl:i=xs.length:=by omega
   simp only[List.drop_length,List.foldl_nil]
   exact⟨AV (hend s hs),hs⟩
  |succ k ih=>
   intro i s hk hs
   have hi:i<xs.length:=by omega
   obtain⟨h1,h2⟩:=hstep s i hi hs
   rw[Bi h1,List.drop_eq_getElem_cons hi,List.foldl_cons]
   exact ih (i+1) _ (by omega) h2
 have:=key xs.length 0 s0 (by omega) h0
 simpa using this
theorem loop_listb {α σ S ρ β:Type}{step:S→Option (S ⊕ ρ)}{k:ρ→Option β}(xs:List α)(enc:σ→Int→S)(f:σ→α→σ)(fin:σ→ρ)(I:σ→Prop)(s0:σ)
  (h0:I s0) (hstep:∀s (i:Nat) (h:i<xs.length),I s→step (enc s i)=some (.inl (enc (f s xs[i]) ((i+1:Nat):Int)))∧I (f s xs[i]))
  (hend:∀s,I s→step (enc s xs.length)=some (.inr (fin s))):(Ao step (enc s0 0)).bind k=k (fin (xs.foldl f s0)):=by
 rw[(loop_list xs enc f fin I s0 h0 hstep hend).1];rfl
theorem Dr {α β γ S:Type}{step:S→Option (S ⊕ List β)}{k:List β→Option γ}(xs:List α)(enc:List β→Int→S)(f:α→β)(hx:xs.length≤4294967296)
  (hstep:∀s (i:Nat) (h:i<xs.length),s.length=i→step (enc s i)=(AH s [f xs[i]]).bind λl=>some (.inl (enc l ((i+1:Nat):Int))))
  (hend:∀s,step (enc s xs.length)=some (.inr s)):(Ao step (enc [] 0)).bind k=k (xs.map f):=by
 have key:∀i,i≤xs.length→Ao step (enc [] 0)=Ao step (enc ((xs.take i).map f) i):=by
  intro i
  induction i with
  |zero=>intro _;simp
  |succ i ih=>
   intro hi
   rw[ih (by omega)]
   have h1:=hstep ((xs.take i).map f) i (by omega) (by simp;omega)
   have h2:AH ((xs.take i).map f) [f xs[i]]=some ((xs.take (i+1)).map f):=by
    unfold AH
    rw[if_pos (by simp;omega)]
    rw[List.take_succ_eq_append_getElem (show i<xs.length by omega),List.map_append];rfl
   rw[h2] at h1
   rw[Bi h1]
 rw[key xs.length (Nat.le_refl _),List.take_length,AV (hend _)];rfl
theorem loop_nat {σ S ρ:Type}{step:S→Option (S ⊕ ρ)}(n:Nat)(enc:σ→Int→S)(f:σ→Nat→σ)(fin:σ→ρ)(I:Nat→σ→Prop)(s0:σ)
  (h0:I 0 s0) (hstep:∀s (i:Nat),i<n→I i s→step (enc s i)=some (.inl (enc (f s i) ((i+1:Nat):Int)))∧I (i+1) (f s i))
  (hend:∀s,I n s→step (enc s n)=some (.inr (fin s))):Ao step (enc s0 0)=some (fin ((List.range n).foldl f s0))∧I n ((List.range n).foldl f s0):=by
 have key:∀k,k≤n→Ao step (enc s0 0)=Ao step (enc ((List.range k).foldl f s0) k)∧I k ((List.range k).foldl f s0):=by
  intro k
  induction k with
  |zero=>intro _;exact⟨rfl,h0⟩
  |succ k ih=>
   intro hk
   obtain⟨h1,h2⟩:=ih (by omega)
   obtain⟨h3,h4⟩:=hstep _ k (by omega) h2
   rw[List.range_succ,List.foldl_append,List.foldl_cons,List.foldl_nil]
   exact⟨by rw[h1,Bi h3],h4⟩
 obtain⟨h1,h2⟩:=key n (Nat.le_refl n)
 exact⟨by rw[h1,AV (hend _ h2)],h2⟩
theorem DH {ρ : Type} {step : Int → Option (Int ⊕ ρ)} (n : Nat) (c : Nat → Option ρ) (fin : ρ)
    (hstep : ∀ i, i < n → step (i : Int) = match c i with | some r => some (.inr r) | none => some (.inl ((i + 1 : Nat) : Int)))
    (hend : step (n : Int) = some (.inr fin)) : Ao step 0 = some (((List.range n).findSome? c).getD fin) := by
  have key : ∀ (k i : Nat), i + k = n → Ao step (i : Int) = some (((List.range' i k).findSome? c).getD fin) := by
    intro k
    induction k with
    | zero => intro i h; obtain rfl : i = n := by omega
              simpa using AV hend
    | succ k ih =>
      intro i h
      have h1 := hstep i (by omega)
      rw [List.range'_succ, List.findSome?_cons]
      cases hc : c i with
      | some r => rw [hc] at h1; simpa using AV h1
      | none => rw [hc] at h1; rw [Bi h1]; exact ih (i + 1) (by omega)
  have := key n 0 (by omega)
  simpa [List.range_eq_range'] using this
theorem Cg {β:Type}{step:Int→Option (Int ⊕ (Unit ⊕ β))}{k:Unit ⊕ β→Option Bool}(n:Nat)(c:Nat→Bool)(bad:β)
  (hstep:∀i,i<n→step (i:Int)=if c i then some (.inl ((i+1:Nat):Int)) else some (.inr (.inr bad)))
  (hend:step (n:Int)=some (.inr (.inl ()))) (hk1:k (.inl ())=some true) (hk2:k (.inr bad)=some false):
  (Ao step 0).bind k=some ((List.range n).all c):=by
 rw[DH n (λi=>if c i then none else some (.inr bad)) (.inl ()) (λi hi=>by rw[hstep i hi];cases c i<;>rfl) hend]
 simp only[bs]
 cases h:(List.range n).all c with
 |true=>
  rw[List.findSome?_eq_none_iff.2 (λx hx=>by rw[if_pos (List.all_eq_true.1 h x hx)])]
  exact hk1
 |false=>
  cases h2:(List.range n).findSome? (λi=>if c i then none else some (Sum.inr bad)) with
  |none=>
   rw[List.findSome?_eq_none_iff] at h2
   have:(List.range n).all c=true:=List.all_eq_true.2 λx hx=>by
    have:=h2 x hx
    cases hc:c x
    ·rw[hc] at this;cases this
    ·rfl
   rw[this] at h;cases h
  |some r=>
   obtain⟨x,_,hx⟩:=List.exists_of_findSome?_eq_some h2
   cases hc:c x
   ·rw[hc] at hx;simp at hx;subst hx;exact hk2
   ·rw[hc] at hx;simp at hx
theorem Es {ρ β:Type}{step:Int→Option (Int ⊕ ρ)}{k:ρ→Option β}(n:Nat)(c:Nat→Bool)(fine bad:ρ)
  (hstep:∀i,i<n→step (i:Int)=if c i then some (.inl ((i+1:Nat):Int)) else some (.inr bad))
  (hend:step (n:Int)=some (.inr fine)):(Ao step 0).bind k=cond ((List.range n).all c) (k fine) (k bad):=by
 rw[DH n (λi=>if c i then none else some bad) fine (λi hi=>by rw[hstep i hi];cases c i<;>rfl) hend]
 simp only[bs]
 cases h:(List.range n).all c with
 |true=>
  rw[List.findSome?_eq_none_iff.2 (λx hx=>by rw[if_pos (List.all_eq_true.1 h x hx)])]
  rfl
 |false=>
  cases h2:(List.range n).findSome? (λi=>if c i then none else some bad) with
  |none=>
   rw[List.findSome?_eq_none_iff] at h2
   have:(List.range n).all c=true:=List.all_eq_true.2 λx hx=>by
    have:=h2 x hx
    cases hc:c x
    ·rw[hc] at this;cases this
    ·rfl
   rw[this] at h;cases h
  |some r=>
   obtain⟨x,_,hx⟩:=List.exists_of_findSome?_eq_some h2
   cases hc:c x
   ·rw[hc] at hx;simp at hx;subst hx;rfl
   ·rw[hc] at hx;simp at hx
theorem loop_anyb {β:Type}{step:Int→Option (Int ⊕ (Unit ⊕ β))}{k:Unit ⊕ β→Option Bool}(n:Nat)(c:Nat→Bool)(good:β)
  (hstep:∀i,i<n→step (i:Int)=if c i then some (.inr (.inr good)) else some (.inl ((i+1:Nat):Int)))
  (hend:step (n:Int)=some (.inr (.inl ()))) (hk1:k (.inl ())=some false) (hk2:k (.inr good)=some true):
  (Ao step 0).bind k=some ((List.range n).any c):=by
 rw[DH n (λi=>if c i then some (.inr good) else none) (.inl ()) (λi hi=>by rw[hstep i hi];cases c i<;>rfl) hend]
 simp only[bs]
 cases h:(List.range n).any c with
 |false=>
  rw[List.findSome?_eq_none_iff.2 (λx hx=>by
   have:c x=false:=by
    cases hc:c x
    ·rfl
    ·rw[List.any_eq_true.2 ⟨x,hx,hc⟩] at h;cases h
   rw[this];rfl)]
  exact hk1
 |true=>
  obtain⟨x,hx,hc⟩:=List.any_eq_true.1 h
  cases h2:(List.range n).findSome? (λi=>if c i then some (Sum.inr good) else none) with
  |none=>
   rw[List.findSome?_eq_none_iff] at h2
   have:=h2 x hx
   rw[hc] at this;cases this
  |some r=>
   obtain⟨y,_,hy⟩:=List.exists_of_findSome?_eq_some h2
   cases hc:c y
   ·rw[hc] at hy;simp at hy
   ·rw[hc] at hy;simp at hy;subst hy;exact hk2
theorem DO {α:Type}(xs:List α)(p:α→Bool)(c:Nat→Bool)(h:∀i (hi:i<xs.length),c i=p xs[i]):(List.range xs.length).all c=xs.all p:=by
 rw[Bool.eq_iff_iff,List.all_eq_true,List.all_eq_true]
 constructor
 ·intro hh x hx
  obtain⟨i,hi,rfl⟩:=List.getElem_of_mem hx
  rw[←h i hi];exact hh i (List.mem_range.2 hi)
 ·intro hh i hi
  have hi':=List.mem_range.1 hi
  rw[h i hi'];exact hh _ (List.getElem_mem _)
theorem range_any_list {α:Type}(xs:List α)(p:α→Bool)(c:Nat→Bool)(h:∀i (hi:i<xs.length),c i=p xs[i]):(List.range xs.length).any c=xs.any p:=by
 rw[Bool.eq_iff_iff,List.any_eq_true,List.any_eq_true]
 constructor
 ·rintro⟨i,hi,hc⟩
  have hi':=List.mem_range.1 hi
  exact⟨_,List.getElem_mem hi',by rw[←h i hi'];exact hc⟩
 ·rintro⟨x,hx,hc⟩
  obtain⟨i,hi,rfl⟩:=List.getElem_of_mem hx
  exact⟨i,List.mem_range.2 hi,by rw[h i hi];exact hc⟩
theorem Df (n:Nat)(c:Nat→Bool):(List.range n).all c=true↔∀i,i<n→c i=true:=by
 rw[List.all_eq_true]
 exact⟨λh i hi=>h i (List.mem_range.2 hi),λh i hi=>h i (List.mem_range.1 hi)⟩
end Go.Sx



namespace Go.Sx
noncomputable def DG.insertionSort {α:Type}(cmp:α→α→Option Int)(x0:(List α))(x1:Int)(x2:Int):Option (((List α))):=
 (Ao (σ:=(List α)×Int) (ρ:=((List α))) (fun(s_560:(List α)×Int)=>match s_560 with|(l_563,x_566)=>cond (decide (x_566<x2)) ((Ao (σ:=(List α)×Int) (ρ:=((List α))) (fun(s_984:(List α)×Int)=>match s_984 with|(l_987,x_990)=>(cond (decide (x1<x_990)) ((idx l_987 x_990).bind λe_1079=>(idx l_987 (IntKind.i64.wrap (x_990-1))).bind λe_1085=>(cmp e_1079 e_1085).bind λy_1091=>some (decide (y_1091<0))) (some false)).bind λb_1077=>cond b_1077 ((idx l_987 (IntKind.i64.wrap (x_990-1))).bind λe_1097=>(idx l_987 x_990).bind λe_1103=>(idx l_987 x_990).bind λe_1109=>(idx (l_987.set (Int.toNat x_990) e_1097) (IntKind.i64.wrap (x_990-1))).bind λe_1117=>some (.inl (((l_987.set (Int.toNat x_990) e_1097).set (Int.toNat (IntKind.i64.wrap (x_990-1))) e_1103),(IntKind.i64.wrap (x_990-1))))) (some (.inr l_987))) (l_563,x_566)).bind λl_1056=>some (.inl (l_1056,(IntKind.i64.wrap (x_566+1))))) (some (.inr l_563))) (x0,(IntKind.i64.wrap (x1+1)))).bind λl_844=>some l_844
noncomputable def DG.siftDown {α:Type}(cmp:α→α→Option Int)(x0:(List α))(x1:Int)(x2:Int)(x3:Int):Option (((List α))):=
 (Ao (σ:=(List α)×Int) (ρ:=((List α)) ⊕ (((List α)))) (fun(s_186:(List α)×Int)=>match s_186 with|(l_189,x_192)=>cond (decide (x2≤(IntKind.i64.wrap ((IntKind.i64.wrap (2*x_192))+1)))) (some (.inr (.inl l_189))) ((cond (decide ((IntKind.i64.wrap ((IntKind.i64.wrap ((IntKind.i64.wrap (2*x_192))+1))+1))<x2)) ((idx l_189 (IntKind.i64.wrap (x3+(IntKind.i64.wrap ((IntKind.i64.wrap (2*x_192))+1))))).bind λe_307=>(idx l_189 (IntKind.i64.wrap ((IntKind.i64.wrap (x3+(IntKind.i64.wrap ((IntKind.i64.wrap (2*x_192))+1))))+1))).bind λe_313=>(cmp e_307 e_313).bind λy_319=>some (decide (y_319<0))) (some false)).bind λb_305=>((cond b_305 (some (IntKind.i64.wrap ((IntKind.i64.wrap ((IntKind.i64.wrap (2*x_192))+1))+1))) (some (IntKind.i64.wrap ((IntKind.i64.wrap (2*x_192))+1))):Option (Int))).bind λx_328=>(idx l_189 (IntKind.i64.wrap (x3+x_192))).bind λe_331=>(idx l_189 (IntKind.i64.wrap (x3+x_328))).bind λe_337=>(cmp e_331 e_337).bind λy_343=>cond (!(decide (y_343<0))) (some (.inr (.inr l_189))) ((idx l_189 (IntKind.i64.wrap (x3+x_328))).bind λe_349=>(idx l_189 (IntKind.i64.wrap (x3+x_192))).bind λe_355=>(idx l_189 (IntKind.i64.wrap (x3+x_192))).bind λe_361=>(idx (l_189.set (Int.toNat (IntKind.i64.wrap (x3+x_192))) e_349) (IntKind.i64.wrap (x3+x_328))).bind λe_369=>some (.inl (((l_189.set (Int.toNat (IntKind.i64.wrap (x3+x_192))) e_349).set (Int.toNat (IntKind.i64.wrap (x3+x_328))) e_355),x_328))))) (x0,x1)).bind λzz=>match zz with| .inl l_283=>(some l_283)| .inr z=>(some z)
noncomputable def DG.heapSort {α:Type}(cmp:α→α→Option Int)(x0:(List α))(x1:Int)(x2:Int):Option (((List α))):=
 (Ao (σ:=(List α)×Int) (ρ:=((List α))) (fun(s_30:(List α)×Int)=>match s_30 with|(l_33,x_36)=>cond (decide ((0:Int)≤x_36)) ((DG.siftDown cmp l_33 x_36 (IntKind.i64.wrap (x2-x1)) x1).bind λy_54=>some (.inl (y_54,(IntKind.i64.wrap (x_36-1))))) (some (.inr l_33))) (x0,(IntKind.i64.wrap (Int.tdiv (IntKind.i64.wrap ((IntKind.i64.wrap (x2-x1))-1)) 2)))).bind λl_49=>(Ao (σ:=(List α)×Int) (ρ:=((List α))) (fun(s_144:(List α)×Int)=>match s_144 with|(l_147,x_150)=>cond (decide ((0:Int)≤x_150)) ((idx l_147 (IntKind.i64.wrap (x1+x_150))).bind λe_194=>(idx l_147 x1).bind λe_200=>(idx l_147 x1).bind λe_206=>(idx (l_147.set (Int.toNat x1) e_194) (IntKind.i64.wrap (x1+x_150))).bind λe_214=>(DG.siftDown cmp ((l_147.set (Int.toNat x1) e_194).set (Int.toNat (IntKind.i64.wrap (x1+x_150))) e_200) 0 x_150 x1).bind λy_220=>some (.inl (y_220,(IntKind.i64.wrap (x_150-1))))) (some (.inr l_147))) (l_49,(IntKind.i64.wrap ((IntKind.i64.wrap (x2-x1))-1)))).bind λl_189=>some l_189
noncomputable def DG.breakPatterns {α:Type}(cmp:α→α→Option Int)(x0:(List α))(x1:Int)(x2:Int):Option (((List α))):=
 cond (decide ((8:Int)≤(IntKind.i64.wrap (x2-x1)))) ((D.P (IntKind.i64.wrap (x2-x1))).bind λy_4=>(Ao (σ:=(List α)×Int×Int) (ρ:=((List α))) (fun(s_103:(List α)×Int×Int)=>match s_103 with|(l_106,x_109,x_110)=>cond (decide (x_109≤(IntKind.i64.wrap ((IntKind.i64.wrap (x1+(IntKind.i64.wrap ((IntKind.i64.wrap (Int.tdiv (IntKind.i64.wrap (x2-x1)) 4))*2))))+1)))) ((D.v0 x_110).bind λy_159=>((cond (decide ((IntKind.i64.wrap (x2-x1))≤(IntKind.i64.wrap (iand .u64 y_159.1 (IntKind.u64.wrap (y_4-1)))))) (some (IntKind.i64.wrap ((IntKind.i64.wrap (iand .u64 y_159.1 (IntKind.u64.wrap (y_4-1))))-(IntKind.i64.wrap (x2-x1))))) (some (IntKind.i64.wrap (iand .u64 y_159.1 (IntKind.u64.wrap (y_4-1))))):Option (Int))).bind λx_170=>(idx l_106 (IntKind.i64.wrap (x1+x_170))).bind λe_173=>(idx l_106 x_109).bind λe_179=>(idx l_106 x_109).bind λe_185=>(idx (l_106.set (Int.toNat x_109) e_173) (IntKind.i64.wrap (x1+x_170))).bind λe_193=>some (.inl (((l_106.set (Int.toNat x_109) e_173).set (Int.toNat (IntKind.i64.wrap (x1+x_170))) e_179),(IntKind.i64.wrap (x_109+1)),y_159.2))) (some (.inr l_106))) (x0,(IntKind.i64.wrap ((IntKind.i64.wrap (x1+(IntKind.i64.wrap ((IntKind.i64.wrap (Int.tdiv (IntKind.i64.wrap (x2-x1)) 4))*2))))-1)),(IntKind.u64.wrap (IntKind.i64.wrap (x2-x1))))).bind λl_154=>some l_154) (some x0)
noncomputable def DG.order2 {α:Type}(cmp:α→α→Option Int)(x0:(List α))(x1:Int)(x2:Int)(x3_0:Int):Option (Int×Int×((List α))×Int):=
 (idx x0 x2).bind λe_1=>(idx x0 x1).bind λe_7=>(cmp e_1 e_7).bind λy_13=>cond (decide (y_13<0)) (some (x2,x1,x0,(IntKind.i64.wrap (x3_0+1)))) (some (x1,x2,x0,x3_0))
noncomputable def DG.median {α:Type}(cmp:α→α→Option Int)(x0:(List α))(x1:Int)(x2:Int)(x3:Int)(x4_0:Int):Option (Int×((List α))×Int):=
 (DG.order2 cmp x0 x1 x2 x4_0).bind λy_1=>(DG.order2 cmp y_1.2.2.1 y_1.2.1 x3 y_1.2.2.2).bind λy_10=>(DG.order2 cmp y_10.2.2.1 y_1.1 y_10.1 y_10.2.2.2).bind λy_19=>some (y_19.2.1,y_19.2.2.1,y_19.2.2.2)
noncomputable def DG.medianAdjacent {α:Type}(cmp:α→α→Option Int)(x0:(List α))(x1:Int)(x2_0:Int):Option (Int×((List α))×Int):=
 (DG.median cmp x0 (IntKind.i64.wrap (x1-1)) x1 (IntKind.i64.wrap (x1+1)) x2_0).bind λy_1=>some (y_1.1,y_1.2.1,y_1.2.2)
noncomputable def DG.choosePivot {α:Type}(cmp:α→α→Option Int)(x0:(List α))(x1:Int)(x2:Int):Option (Int×Int×((List α))):=
 cond (decide ((8:Int)≤(IntKind.i64.wrap (x2-x1)))) (((cond (decide ((50:Int)≤(IntKind.i64.wrap (x2-x1)))) ((DG.medianAdjacent cmp x0 (IntKind.i64.wrap (x1+(IntKind.i64.wrap ((IntKind.i64.wrap (Int.tdiv (IntKind.i64.wrap (x2-x1)) 4))*1)))) 0).bind λy_44=>(DG.medianAdjacent cmp y_44.2.1 (IntKind.i64.wrap (x1+(IntKind.i64.wrap ((IntKind.i64.wrap (Int.tdiv (IntKind.i64.wrap (x2-x1)) 4))*2)))) y_44.2.2).bind λy_53=>(DG.medianAdjacent cmp y_53.2.1 (IntKind.i64.wrap (x1+(IntKind.i64.wrap ((IntKind.i64.wrap (Int.tdiv (IntKind.i64.wrap (x2-x1)) 4))*3)))) y_53.2.2).bind λy_62=>some (y_62.2.1,y_44.1,y_53.1,y_62.1,y_62.2.2)) (some (x0,(IntKind.i64.wrap (x1+(IntKind.i64.wrap ((IntKind.i64.wrap (Int.tdiv (IntKind.i64.wrap (x2-x1)) 4))*1)))),(IntKind.i64.wrap (x1+(IntKind.i64.wrap ((IntKind.i64.wrap (Int.tdiv (IntKind.i64.wrap (x2-x1)) 4))*2)))),(IntKind.i64.wrap (x1+(IntKind.i64.wrap ((IntKind.i64.wrap (Int.tdiv (IntKind.i64.wrap (x2-x1)) 4))*3)))),0)):Option ((List α)×Int×Int×Int×Int))).bind fun(l_35,x_38,x_39,x_40,x_41)=>(DG.median cmp l_35 x_38 x_39 x_40 x_41).bind λy_71=>cond (y_71.2.2==0) (some (y_71.1,1,y_71.2.1)) (cond (y_71.2.2==12) (some (y_71.1,2,y_71.2.1)) (some (y_71.1,0,y_71.2.1)))) (cond ((0:Int)==0) (some ((IntKind.i64.wrap (x1+(IntKind.i64.wrap ((IntKind.i64.wrap (Int.tdiv (IntKind.i64.wrap (x2-x1)) 4))*2)))),1,x0)) (cond ((0:Int)==12) (some ((IntKind.i64.wrap (x1+(IntKind.i64.wrap ((IntKind.i64.wrap (Int.tdiv (IntKind.i64.wrap (x2-x1)) 4))*2)))),2,x0)) (some ((IntKind.i64.wrap (x1+(IntKind.i64.wrap ((IntKind.i64.wrap (Int.tdiv (IntKind.i64.wrap (x2-x1)) 4))*2)))),0,x0))))
noncomputable def DG.reverseRange {α:Type}(cmp:α→α→Option Int)(x0:(List α))(x1:Int)(x2:Int):Option (((List α))):=
 (Ao (σ:=(List α)×Int×Int) (ρ:=((List α))) (fun(s_65:(List α)×Int×Int)=>match s_65 with|(l_68,x_71,x_72)=>cond (decide (x_71<x_72)) ((idx l_68 x_72).bind λe_107=>(idx l_68 x_71).bind λe_113=>(idx l_68 x_71).bind λe_119=>(idx (l_68.set (Int.toNat x_71) e_107) x_72).bind λe_127=>some (.inl (((l_68.set (Int.toNat x_71) e_107).set (Int.toNat x_72) e_113),(IntKind.i64.wrap (x_71+1)),(IntKind.i64.wrap (x_72-1))))) (some (.inr l_68))) (x0,x1,(IntKind.i64.wrap (x2-1)))).bind λl_102=>some l_102
noncomputable def DG.partialInsertionSort {α:Type}(cmp:α→α→Option Int)(x0:(List α))(x1:Int)(x2:Int):Option (Bool×((List α))):=
 (Ao (σ:=(List α)×Int×Int) (ρ:=((List α)) ⊕ (Bool×((List α)))) (fun(s_1625:(List α)×Int×Int)=>match s_1625 with|(l_1628,x_1631,x_1632)=>cond (decide (x_1632<5)) ((Ao (σ:=Int) (ρ:=(Int)) (fun(x_2530:Int)=>(cond (decide (x_2530<x2)) ((idx l_1628 x_2530).bind λe_2591=>(idx l_1628 (IntKind.i64.wrap (x_2530-1))).bind λe_2597=>(cmp e_2591 e_2597).bind λy_2603=>some (!(decide (y_2603<0)))) (some false)).bind λb_2589=>cond b_2589 (some (.inl (IntKind.i64.wrap (x_2530+1)))) (some (.inr x_2530))) x_1631).bind λx_2570=>cond (x_2570==x2) (some (.inr (.inr (true,l_1628)))) (cond (decide ((IntKind.i64.wrap (x2-x1))<50)) (some (.inr (.inr (false,l_1628)))) ((idx l_1628 (IntKind.i64.wrap (x_2570-1))).bind λe_2611=>(idx l_1628 x_2570).bind λe_2617=>(idx l_1628 x_2570).bind λe_2623=>(idx (l_1628.set (Int.toNat x_2570) e_2611) (IntKind.i64.wrap (x_2570-1))).bind λe_2631=>((cond (decide ((2:Int)≤(IntKind.i64.wrap (x_2570-x1)))) ((Ao (σ:=(List α)×Int) (ρ:=((List α))) (fun(s_2947:(List α)×Int)=>match s_2947 with|(l_2950,x_2953)=>cond (decide ((1:Int)≤x_2953)) ((idx l_2950 x_2953).bind λe_3006=>(idx l_2950 (IntKind.i64.wrap (x_2953-1))).bind λe_3012=>(cmp e_3006 e_3012).bind λy_3018=>cond (!(decide (y_3018<0))) (some (.inr l_2950)) ((idx l_2950 (IntKind.i64.wrap (x_2953-1))).bind λe_3024=>(idx l_2950 x_2953).bind λe_3030=>(idx l_2950 x_2953).bind λe_3036=>(idx (l_2950.set (Int.toNat x_2953) e_3024) (IntKind.i64.wrap (x_2953-1))).bind λe_3044=>some (.inl (((l_2950.set (Int.toNat x_2953) e_3024).set (Int.toNat (IntKind.i64.wrap (x_2953-1))) e_3030),(IntKind.i64.wrap (x_2953-1)))))) (some (.inr l_2950))) (((l_1628.set (Int.toNat x_2570) e_2611).set (Int.toNat (IntKind.i64.wrap (x_2570-1))) e_2617),(IntKind.i64.wrap (x_2570-1)))).bind λl_3001=>some l_3001) (some ((l_1628.set (Int.toNat x_2570) e_2611).set (Int.toNat (IntKind.i64.wrap (x_2570-1))) e_2617)):Option ((List α)))).bind λl_2843=>cond (decide ((2:Int)≤(IntKind.i64.wrap (x2-x_2570)))) ((Ao (σ:=(List α)×Int) (ρ:=((List α))) (fun(s_3150:(List α)×Int)=>match s_3150 with|(l_3153,x_3156)=>cond (decide (x_3156<x2)) ((idx l_3153 x_3156).bind λe_3209=>(idx l_3153 (IntKind.i64.wrap (x_3156-1))).bind λe_3215=>(cmp e_3209 e_3215).bind λy_3221=>cond (!(decide (y_3221<0))) (some (.inr l_3153)) ((idx l_3153 (IntKind.i64.wrap (x_3156-1))).bind λe_3227=>(idx l_3153 x_3156).bind λe_3233=>(idx l_3153 x_3156).bind λe_3239=>(idx (l_3153.set (Int.toNat x_3156) e_3227) (IntKind.i64.wrap (x_3156-1))).bind λe_3247=>some (.inl (((l_3153.set (Int.toNat x_3156) e_3227).set (Int.toNat (IntKind.i64.wrap (x_3156-1))) e_3233),(IntKind.i64.wrap (x_3156+1)))))) (some (.inr l_3153))) (l_2843,(IntKind.i64.wrap (x_2570+1)))).bind λl_3204=>some (.inl (l_3204,x_2570,(IntKind.i64.wrap (x_1632+1))))) (some (.inl (l_2843,x_2570,(IntKind.i64.wrap (x_1632+1)))))))) (some (.inr (.inl l_1628)))) (x0,(IntKind.i64.wrap (x1+1)),0)).bind λzz=>match zz with| .inl l_2442=>(some (false,l_2442))| .inr z=>(some z)
noncomputable def DG.partitionEqual {α:Type}(cmp:α→α→Option Int)(x0:(List α))(x1:Int)(x2:Int)(x3:Int):Option (Int×((List α))):=
 (idx x0 x3).bind λe_1=>(idx x0 x1).bind λe_7=>(idx x0 x1).bind λe_13=>(idx (x0.set (Int.toNat x1) e_1) x3).bind λe_21=>(Ao (σ:=(List α)×Int×Int) (ρ:=((List α)×Int)) (fun(s_739:(List α)×Int×Int)=>match s_739 with|(l_742,x_745,x_746)=>(Ao (σ:=Int) (ρ:=(Int)) (fun(x_1188:Int)=>(cond (decide (x_1188≤x_746)) ((idx l_742 x1).bind λe_1249=>(idx l_742 x_1188).bind λe_1255=>(cmp e_1249 e_1255).bind λy_1261=>some (!(decide (y_1261<0)))) (some false)).bind λb_1247=>cond b_1247 (some (.inl (IntKind.i64.wrap (x_1188+1)))) (some (.inr x_1188))) x_745).bind λx_1228=>(Ao (σ:=Int) (ρ:=(Int)) (fun(x_1350:Int)=>(cond (decide (x_1228≤x_1350)) ((idx l_742 x1).bind λe_1411=>(idx l_742 x_1350).bind λe_1417=>(cmp e_1411 e_1417).bind λy_1423=>some (decide (y_1423<0))) (some false)).bind λb_1409=>cond b_1409 (some (.inl (IntKind.i64.wrap (x_1350-1)))) (some (.inr x_1350))) x_746).bind λx_1390=>cond (decide (x_1390<x_1228)) (some (.inr (l_742,x_1228))) ((idx l_742 x_1390).bind λe_1430=>(idx l_742 x_1228).bind λe_1436=>(idx l_742 x_1228).bind λe_1442=>(idx (l_742.set (Int.toNat x_1228) e_1430) x_1390).bind λe_1450=>some (.inl (((l_742.set (Int.toNat x_1228) e_1430).set (Int.toNat x_1390) e_1436),(IntKind.i64.wrap (x_1228+1)),(IntKind.i64.wrap (x_1390-1)))))) (((x0.set (Int.toNat x1) e_1).set (Int.toNat x3) e_7),(IntKind.i64.wrap (x1+1)),(IntKind.i64.wrap (x2-1)))).bind fun(l_1100,x_1103)=>some (x_1103,l_1100)
noncomputable def DG.partition {α:Type}(cmp:α→α→Option Int)(x0:(List α))(x1:Int)(x2:Int)(x3:Int):Option (Int×Bool×((List α))):=
 (idx x0 x3).bind λe_1=>(idx x0 x1).bind λe_7=>(idx x0 x1).bind λe_13=>(idx (x0.set (Int.toNat x1) e_1) x3).bind λe_21=>(Ao (σ:=Int) (ρ:=(Int)) (fun(x_110:Int)=>(cond (decide (x_110≤(IntKind.i64.wrap (x2-1)))) ((idx ((x0.set (Int.toNat x1) e_1).set (Int.toNat x3) e_7) x_110).bind λe_171=>(idx ((x0.set (Int.toNat x1) e_1).set (Int.toNat x3) e_7) x1).bind λe_177=>(cmp e_171 e_177).bind λy_183=>some (decide (y_183<0))) (some false)).bind λb_169=>cond b_169 (some (.inl (IntKind.i64.wrap (x_110+1)))) (some (.inr x_110))) (IntKind.i64.wrap (x1+1))).bind λx_150=>(Ao (σ:=Int) (ρ:=(Int)) (fun(x_272:Int)=>(cond (decide (x_150≤x_272)) ((idx ((x0.set (Int.toNat x1) e_1).set (Int.toNat x3) e_7) x_272).bind λe_333=>(idx ((x0.set (Int.toNat x1) e_1).set (Int.toNat x3) e_7) x1).bind λe_339=>(cmp e_333 e_339).bind λy_345=>some (!(decide (y_345<0)))) (some false)).bind λb_331=>cond b_331 (some (.inl (IntKind.i64.wrap (x_272-1)))) (some (.inr x_272))) (IntKind.i64.wrap (x2-1))).bind λx_312=>cond (decide (x_312<x_150)) ((idx ((x0.set (Int.toNat x1) e_1).set (Int.toNat x3) e_7) x1).bind λe_352=>(idx ((x0.set (Int.toNat x1) e_1).set (Int.toNat x3) e_7) x_312).bind λe_358=>(idx ((x0.set (Int.toNat x1) e_1).set (Int.toNat x3) e_7) x_312).bind λe_364=>(idx (((x0.set (Int.toNat x1) e_1).set (Int.toNat x3) e_7).set (Int.toNat x_312) e_352) x1).bind λe_372=>some (x_312,true,((((x0.set (Int.toNat x1) e_1).set (Int.toNat x3) e_7).set (Int.toNat x_312) e_352).set (Int.toNat x1) e_358))) ((idx ((x0.set (Int.toNat x1) e_1).set (Int.toNat x3) e_7) x_312).bind λe_378=>(idx ((x0.set (Int.toNat x1) e_1).set (Int.toNat x3) e_7) x_150).bind λe_384=>(idx ((x0.set (Int.toNat x1) e_1).set (Int.toNat x3) e_7) x_150).bind λe_390=>(idx (((x0.set (Int.toNat x1) e_1).set (Int.toNat x3) e_7).set (Int.toNat x_150) e_378) x_312).bind λe_398=>(Ao (σ:=(List α)×Int×Int) (ρ:=((List α)×Int)) (fun(s_1116:(List α)×Int×Int)=>match s_1116 with|(l_1119,x_1122,x_1123)=>(Ao (σ:=Int) (ρ:=(Int)) (fun(x_1565:Int)=>(cond (decide (x_1565≤x_1123)) ((idx l_1119 x_1565).bind λe_1626=>(idx l_1119 x1).bind λe_1632=>(cmp e_1626 e_1632).bind λy_1638=>some (decide (y_1638<0))) (some false)).bind λb_1624=>cond b_1624 (some (.inl (IntKind.i64.wrap (x_1565+1)))) (some (.inr x_1565))) x_1122).bind λx_1605=>(Ao (σ:=Int) (ρ:=(Int)) (fun(x_1727:Int)=>(cond (decide (x_1605≤x_1727)) ((idx l_1119 x_1727).bind λe_1788=>(idx l_1119 x1).bind λe_1794=>(cmp e_1788 e_1794).bind λy_1800=>some (!(decide (y_1800<0)))) (some false)).bind λb_1786=>cond b_1786 (some (.inl (IntKind.i64.wrap (x_1727-1)))) (some (.inr x_1727))) x_1123).bind λx_1767=>cond (decide (x_1767<x_1605)) (some (.inr (l_1119,x_1767))) ((idx l_1119 x_1767).bind λe_1807=>(idx l_1119 x_1605).bind λe_1813=>(idx l_1119 x_1605).bind λe_1819=>(idx (l_1119.set (Int.toNat x_1605) e_1807) x_1767).bind λe_1827=>some (.inl (((l_1119.set (Int.toNat x_1605) e_1807).set (Int.toNat x_1767) e_1813),(IntKind.i64.wrap (x_1605+1)),(IntKind.i64.wrap (x_1767-1)))))) (((((x0.set (Int.toNat x1) e_1).set (Int.toNat x3) e_7).set (Int.toNat x_150) e_378).set (Int.toNat x_312) e_384),(IntKind.i64.wrap (x_150+1)),(IntKind.i64.wrap (x_312-1)))).bind fun(l_1477,x_1480)=>(idx l_1477 x1).bind λe_1833=>(idx l_1477 x_1480).bind λe_1839=>(idx l_1477 x_1480).bind λe_1845=>(idx (l_1477.set (Int.toNat x_1480) e_1833) x1).bind λe_1853=>some (x_1480,false,((l_1477.set (Int.toNat x_1480) e_1833).set (Int.toNat x1) e_1839)))
noncomputable def DG.pdqsortR {α:Type}(cmp:α→α→Option Int):Nat→((List α))→Int→Int→Int→Option (((List α)))
 |0,_,_,_,_=>none
 |fuel+1,x0,x1,x2,x3=>(Ao (σ:=(List α)×Int×Int×Int×Bool×Bool) (ρ:=(((List α)))) (fun(s_398:(List α)×Int×Int×Int×Bool×Bool)=>match s_398 with|(l_401,x_404,x_405,x_406,b_407,b_408)=>cond (decide ((IntKind.i64.wrap (x_405-x_404))≤12)) ((DG.insertionSort cmp l_401 x_404 x_405).bind λy_411=>some (.inr y_411)) (cond (x_406==0) ((DG.heapSort cmp l_401 x_404 x_405).bind λy_421=>some (.inr y_421)) (((cond (!b_407) ((DG.breakPatterns cmp l_401 x_404 x_405).bind λy_449=>some (y_449,(IntKind.i64.wrap (x_406-1)))) (some (l_401,x_406)):Option ((List α)×Int))).bind fun(l_443,x_446)=>(DG.choosePivot cmp l_443 x_404 x_405).bind λy_458=>((cond (y_458.2.1==2) ((DG.reverseRange cmp y_458.2.2 x_404 x_405).bind λy_487=>some (y_487,(IntKind.i64.wrap ((IntKind.i64.wrap (x_405-1))-(IntKind.i64.wrap (y_458.1-x_404)))),1)) (some (y_458.2.2,y_458.1,y_458.2.1)):Option ((List α)×Int×Int))).bind fun(l_480,x_483,x_484)=>((cond ((b_407&&b_408)&&(x_484==1)) ((DG.partialInsertionSort cmp l_480 x_404 x_405).bind λy_521=>cond y_521.1 (some (.inr y_521.2)) (some (.inl y_521.2))) (some (.inl l_480)):Option (((List α)) ⊕ (((List α)))))).bind λq=>match q with| .inl l_516=>((cond (decide ((0:Int)<x_404)) ((idx l_516 (IntKind.i64.wrap (x_404-1))).bind λe_550=>(idx l_516 x_483).bind λe_556=>(cmp e_550 e_556).bind λy_562=>some (!(decide (y_562<0)))) (some false)).bind λb_548=>cond b_548 ((DG.partitionEqual cmp l_516 x_404 x_405 x_483).bind λy_568=>some (.inl (y_568.2,y_568.1,x_405,x_446,b_407,b_408))) ((DG.partition cmp l_516 x_404 x_405 x_483).bind λy_577=>cond (decide ((IntKind.i64.wrap (y_577.1-x_404))<(IntKind.i64.wrap (x_405-y_577.1)))) ((DG.pdqsortR cmp fuel y_577.2.2 x_404 y_577.1 x_446).bind λy_587=>some (.inl (y_587,(IntKind.i64.wrap (y_577.1+1)),x_405,x_446,(decide ((IntKind.i64.wrap (Int.tdiv (IntKind.i64.wrap (x_405-x_404)) 8))≤(IntKind.i64.wrap (y_577.1-x_404)))),y_577.2.1))) ((DG.pdqsortR cmp fuel y_577.2.2 (IntKind.i64.wrap (y_577.1+1)) x_405 x_446).bind λy_596=>some (.inl (y_596,x_404,y_577.1,x_446,(decide ((IntKind.i64.wrap (Int.tdiv (IntKind.i64.wrap (x_405-x_404)) 8))≤(IntKind.i64.wrap (x_405-y_577.1)))),y_577.2.1)))))| .inr q=>(some (.inr q))))) (x0,x1,x2,x3,true,true)).bind λz=>some z
noncomputable def DG.pdqsort {α:Type}(cmp:α→α→Option Int)(x0:(List α))(x1:Int)(x2:Int)(x3:Int):Option (((List α))):=DG.pdqsortR cmp Bv x0 x1 x2 x3
noncomputable def DG.Sort {α:Type}(cmp:α→α→Option Int)(x0:(List α)):Option (((List α))):=
 (D.y (IntKind.u64.wrap (x0.length:Int))).bind λy_1=>(DG.pdqsort cmp x0 0 (x0.length:Int) y_1).bind λy_8=>some y_8
end Go.Sx

namespace Go.Sx.Gs
class Srtd (α:Type) where
 dflt:α
 key:α→Int
 good:α→Prop
 cmp:α→α→Option Int
 law:∀x y,good x→good y→∃v,cmp x y=some v∧decide (v<0)=decide (key x<key y)
variable {α : Type} [Srtd α]
def el (l:List α)(i:Int):α:=l.getD i.toNat Srtd.dflt
def at' (l:List α)(i:Int):Int:=Srtd.key (el l i)
theorem AU {l:List α}{i:Int}(h0:0≤i)(h1:i<l.length):idx l i=some (el l i):=by
 unfold idx el
 rw[if_pos h0]
 have:i.toNat<l.length:=by omega
 simp[this]
theorem el_set {l:List α}{i k:Int}{x:α}(h0:0≤i)(h1:i<l.length)(hk:0≤k):el (l.set i.toNat x) k=if k=i then x else el l k:=by
 unfold el
 by_cases h:k=i
 ·subst h
  have:k.toNat<l.length:=by omega
  simp[this]
 ·rw[if_neg h]
  have:i.toNat≠k.toNat:=by omega
  simp[List.getD_eq_getElem?_getD,List.getElem?_set_ne this]
def sw (l:List α)(i j:Int):List α:=(l.set i.toNat (el l j)).set j.toNat (el l i)
theorem sw_len (l:List α)(i j:Int):(sw l i j).length=l.length:=by simp[sw]
theorem Bf {l:List α}{i j k:Int}(hi:0≤i)(hi':i<l.length)(hj:0≤j)(hj':j<l.length)(hk:0≤k):
  at' (sw l i j) k=if k=j then at' l i else if k=i then at' l j else at' l k:=by
 unfold sw at'
 rw[el_set hj (by simpa using hj') hk]
 split
 ·rfl
 ·rw[el_set hi hi' hk]
  split<;>rfl
omit [Srtd α] in
theorem By (z:α):∀(l:List α) (j:Nat),j<l.length→List.Perm (l.set j z) (z::l.eraseIdx j)
 |[],j,h=>by simp at h
 |x::l,0,_=>by simp
 |x::l,j+1,h=>by
  simp only[List.set_cons_succ,List.eraseIdx_cons_succ]
  exact((By z l j (by simpa using h)).cons x).trans (List.Perm.swap _ _ _)
omit [Srtd α] in
theorem CT (l:List α)(j:Nat)(h:j<l.length):List.Perm l (l[j]::l.eraseIdx j):=by
 have:=By l[j] l j h
 rwa [List.set_getElem_self] at this
omit [Srtd α] in
theorem Dx :∀(l:List α) (i j:Nat) (x y:α),l[i]? =some x→l[j]? =some y→List.Perm ((l.set i y).set j x) l
 |[],i,j,x,y,h,_=>by simp at h
 |z::l,0,0,x,y,h,h'=>by simp at h h';subst h;simp
 |z::l,0,j+1,x,y,h,h'=>by
  simp at h h'
  subst h
  simp only[List.set_cons_zero,List.set_cons_succ]
  obtain⟨hj,rfl⟩:=List.getElem?_eq_some_iff.1 h'
  have h1:=By z l j hj
  have h2:=CT l j hj
  exact((h1.cons _).trans (List.Perm.swap _ _ _)).trans (h2.symm.cons z)
 |z::l,i+1,0,x,y,h,h'=>by
  simp at h h'
  subst h'
  simp only[List.set_cons_zero,List.set_cons_succ]
  obtain⟨hj,rfl⟩:=List.getElem?_eq_some_iff.1 h
  have h1:=By z l i hj
  have h2:=CT l i hj
  exact((h1.cons _).trans (List.Perm.swap _ _ _)).trans (h2.symm.cons z)
 |z::l,i+1,j+1,x,y,h,h'=>by
  simp at h h'
  simp only[List.set_cons_succ]
  exact(Dx l i j x y h h').cons z
theorem sw_perm {l:List α}{i j:Int}(hi:0≤i)(hi':i<l.length)(hj:0≤j)(hj':j<l.length):List.Perm (sw l i j) l:=by
 have h1:i.toNat<l.length:=by omega
 have h2:j.toNat<l.length:=by omega
 exact Dx l i.toNat j.toNat _ _ (by simp[el,h1]) (by simp[el,h2])
structure Rg (a b:Int)(l l':List α):Prop where
 len:l'.length=l.length
 perm:List.Perm l' l
 out:∀k,0≤k→(k<a∨b≤k)→at' l' k=at' l k
 all:∀Q:Int→Prop,(∀k,a≤k→k<b→Q (at' l k))→∀k,a≤k→k<b→Q (at' l' k)
theorem Rg.refl (a b:Int)(l:List α):Rg a b l l:=⟨rfl,List.Perm.refl _,λ_ _ _=>rfl,λ_ h=>h⟩
theorem Rg.trans {a b:Int}{l l' l'':List α}(h:Rg a b l l')(h':Rg a b l' l''):Rg a b l l'':=
 ⟨h'.len.trans h.len,h'.perm.trans h.perm,λk h0 hk=>(h'.out k h0 hk).trans (h.out k h0 hk),λQ hQ=>h'.all Q (h.all Q hQ)⟩
theorem Rg.swap {a b i j:Int}{l:List α}(ha:0≤a)(hb:b≤l.length)(hi:a≤i)(hi':i<b)(hj:a≤j)(hj':j<b):Rg a b l (sw l i j):=by
 refine⟨sw_len _ _ _,sw_perm (by omega) (by omega) (by omega) (by omega),λk h0 hk=> ?_,λQ hQ k h1 h2=> ?_⟩
 ·rw[Bf (by omega) (by omega) (by omega) (by omega) h0,if_neg (by omega),if_neg (by omega)]
 ·rw[Bf (by omega) (by omega) (by omega) (by omega) (by omega)]
  split
  ·exact hQ i hi hi'
  ·split
   ·exact hQ j hj hj'
   ·exact hQ k h1 h2
theorem Rg.widen {a b a' b':Int}{l l':List α}(h:Rg a b l l')(ha:a'≤a)(hb:b≤b')(h0:0≤a'):Rg a' b' l l':=by
 refine⟨h.len,h.perm,λk h0 hk=>h.out k h0 (by omega),λQ hQ k h1 h2=> ?_⟩
 by_cases hk:a≤k∧k<b
 ·exact h.all Q (λk h3 h4=>hQ k (by omega) (by omega)) k hk.1 hk.2
 ·rw[h.out k (by omega) (by omega)];exact hQ k h1 h2
def Srt (l:List α)(a b:Int):Prop:=∀i j,a≤i→i<j→j<b→at' l i≤at' l j
def Good (l:List α):Prop:=∀x∈l,Srtd.good x
theorem Rg.good {a b:Int}{l l':List α}(h:Rg a b l l')(hg:Good l):Good l':=λx hx=>hg x (h.perm.mem_iff.1 hx)
theorem Good.el {l:List α}(h:Good l){i:Int}(h0:0≤i)(h1:i<l.length):Srtd.good (el l i):=by
 unfold Gs.el
 have:i.toNat<l.length:=by omega
 rw[Au this]
 exact h _ (List.getElem_mem this)
theorem Cn {l:List α}(h:Good l){i j:Int}(h0:0≤i)(h1:i<l.length)(h2:0≤j)(h3:j<l.length):∃v,Srtd.cmp (el l i) (el l j)=some v∧decide (v<0)=decide (at' l i<at' l j):=
 Srtd.law _ _ (h.el h0 h1) (h.el h2 h3)
theorem Bn {l:List α}{i j:Int}{x:α}(h0:0≤i)(h1:i<l.length):idx (l.set j.toNat x) i=some (el (l.set j.toNat x) i):=AU h0 (by simpa using h1)
end Go.Sx.Gs

namespace Go.Sx.Gs
variable {α : Type} [Srtd α]
theorem Ej (l0:List α)(a b:Int)(ha:0≤a)(hab:a≤b)(hb:b≤l0.length)(hlen:l0.length≤1000000)(hG:Good l0):
  ∃l',DG.insertionSort Srtd.cmp l0 a b=some l'∧Rg a b l0 l'∧Srt l' a b:=by
 unfold DG.insertionSort
 rw[w64 (show-9223372036854775808≤a+1 by omega) (by omega)]
 refine AW (λs=>Rg a b l0 s.1∧Srt s.1 a s.2∧a+1≤s.2∧s.2≤b+1) (λs=>(b-s.2).toNat) (λr=>Rg a b l0 r∧Srt r a b) ?_ ?_ ?_
 ·rintro⟨l,i⟩ ⟨hR,hS,h1,h2⟩
  dsimp only at hR hS h1 h2 ⊢
  have hll:=hR.len
  by_cases hi:i<b
  ·simp only[hi,decide_true,cond_true]
   rw[w64 (show-9223372036854775808≤i+1 by omega) (by omega)]
   refine AW (λs=>Rg a b l0 s.1∧a≤s.2∧s.2≤i∧∀p q,a≤p→p<q→q≤i→q≠s.2→at' s.1 p≤at' s.1 q) (λs=>(s.2-a).toNat) (λr=>Rg a b l0 r∧Srt r a (i+1)) ?_ ?_ ?_
   ·rintro⟨m,j⟩ ⟨hR',g1,g2,hS'⟩
    dsimp only at hR' g1 g2 hS' ⊢
    have hml:=hR'.len
    rw[w64 (show-9223372036854775808≤j-1 by omega) (by omega)]
    by_cases hj:a<j
    ·have r1:idx m j=some (el m j):=AU (by omega) (by omega)
     have r2:idx m (j-1)=some (el m (j-1)):=AU (by omega) (by omega)
     have r3:∀x,idx (m.set j.toNat x) (j-1)=some (el (m.set j.toNat x) (j-1)):=λx=>Bn (by omega) (by omega)
     obtain⟨v,cv,hv⟩:=Cn (hR'.good hG) (i:=j) (j:=j-1) (by omega) (by omega) (by omega) (by omega)
     by_cases hlt:at' m j<at' m (j-1)
     ·refine⟨.inl (sw m j (j-1),j-1),?_,⟨hR'.trans (Rg.swap ha (by omega) (by omega) (by omega) (by omega) (by omega)),by dsimp only;omega,by dsimp only;omega,?_⟩,by dsimp only;omega⟩
      ·simp only[r1,r2,r3,hj,cv,hv,hlt,decide_true,cond_true,bs]
       rfl
      ·intro p q k1 k2 k3 k4
       dsimp only at k4 ⊢
       rw[Bf (by omega) (by omega) (by omega) (by omega) (by omega),Bf (by omega) (by omega) (by omega) (by omega) (by omega)]
       by_cases c1:q=j
       ·subst c1
        rw[if_neg (show¬q=q-1 by omega),if_pos rfl]
        by_cases c2:p=q-1
        ·rw[if_pos c2];omega
        ·rw[if_neg c2,if_neg (by omega)]
         exact hS' p (q-1) k1 (by omega) (by omega) (by omega)
       ·rw[if_neg (show¬q=j-1 by omega),if_neg c1]
        by_cases c2:p=j-1
        ·rw[if_pos c2]
         exact hS' j q (by omega) (by omega) k3 c1
        ·rw[if_neg c2]
         by_cases c3:p=j
         ·rw[if_pos c3]
          exact hS' (j-1) q (by omega) (by omega) k3 c1
         ·rw[if_neg c3]
          exact hS' p q k1 k2 k3 c1
     ·refine⟨.inr m,?_,hR',?_⟩
      ·simp only[r1,r2,hj,cv,hv,hlt,decide_true,decide_false,cond_true,cond_false,bs]
      ·intro p q k1 k2 k3
       by_cases c1:q=j
       ·subst c1
        by_cases c2:p=q-1
        ·subst c2;omega
        ·have:=hS' p (q-1) k1 (by omega) (by omega) (by omega)
         omega
       ·exact hS' p q k1 k2 (by omega) c1
    ·refine⟨.inr m,?_,hR',?_⟩
     ·simp only[hj,decide_false,cond_false,bs]
     ·intro p q k1 k2 k3
      exact hS' p q k1 k2 (by omega) (by omega)
   ·exact⟨hR,by dsimp only;omega,Int.le_refl _,λp q k1 k2 k3 k4=>hS p q k1 k2 (by dsimp only at k4 ⊢;omega)⟩
   ·rintro r ⟨hR',hS'⟩
    exact⟨.inl (r,i+1),rfl,⟨hR',hS',by dsimp only;omega,by dsimp only;omega⟩,by dsimp only;omega⟩
  ·refine⟨.inr l,by simp only[hi,decide_false,cond_false],hR,?_⟩
   intro p q k1 k2 k3
   exact hS p q k1 k2 (by omega)
 ·exact⟨Rg.refl _ _ _,λp q k1 k2 k3=>by dsimp only at k3;omega,by dsimp only;omega,by dsimp only;omega⟩
 ·rintro r hr
  exact⟨r,rfl,hr⟩
end Go.Sx.Gs

namespace Go.Sx.Gs
variable {α : Type} [Srtd α]
theorem Ex (l0:List α)(a b:Int)(ha:0≤a)(hab:a≤b)(hb:b≤l0.length)(hlen:l0.length≤1000000):
  ∃l',DG.reverseRange Srtd.cmp l0 a b=some l'∧Rg a b l0 l':=by
 unfold DG.reverseRange
 rw[w64 (show-9223372036854775808≤b-1 by omega) (by omega)]
 refine AW (λs=>Rg a b l0 s.1∧a≤s.2.1∧s.2.1≤b∧s.2.2<b∧a-1≤s.2.2) (λs=>(s.2.2-s.2.1).toNat) (λr=>Rg a b l0 r) ?_ ?_ ?_
 ·rintro⟨l,i,j⟩ ⟨hR,h1,h2,h3,h4⟩
  dsimp only at hR h1 h2 h3 h4 ⊢
  have hll:=hR.len
  by_cases hi:i<j
  ·have r1:idx l i=some (el l i):=AU (by omega) (by omega)
   have r2:idx l j=some (el l j):=AU (by omega) (by omega)
   have r3:∀x,idx (l.set i.toNat x) j=some (el (l.set i.toNat x) j):=λx=>Bn (by omega) (by omega)
   rw[w64 (show-9223372036854775808≤i+1 by omega) (by omega),w64 (show-9223372036854775808≤j-1 by omega) (by omega)]
   refine⟨.inl (sw l i j,i+1,j-1),?_,⟨hR.trans (Rg.swap ha (by omega) (by omega) (by omega) (by omega) (by omega)),by dsimp only;omega,by dsimp only;omega,by dsimp only;omega,by dsimp only;omega⟩,by dsimp only;omega⟩
   simp only[r1,r2,r3,hi,decide_true,cond_true,bs]
   rfl
  ·exact⟨.inr l,by simp only[hi,decide_false,cond_false],hR⟩
 ·exact⟨Rg.refl _ _ _,by dsimp only;omega,by dsimp only;omega,by dsimp only;omega,by dsimp only;omega⟩
 ·rintro r hr
  exact⟨r,rfl,hr⟩
theorem scanUp {β:Type}{k:Int→Option β}{Q:β→Prop}(l:List α)(hG:Good l)(a hi i0:Int)(ha:0≤a)(ha':a<l.length)(h0:0≤i0)(h1:i0≤hi+1)(h2:hi<l.length)(hlen:l.length≤1000000)
  (hk:∀i,i0≤i→i≤hi+1→(∀q,i0≤q→q<i→at' l q<at' l a)→(i≤hi→¬at' l i<at' l a)→∃y,k i=some y∧Q y):
  ∃y,(Ao (σ:=Int) (ρ:=(Int)) (fun(x:Int)=>(cond (decide (x≤hi)) ((idx l x).bind λe=>(idx l a).bind λe'=>(Srtd.cmp e e').bind λy=>some (decide (y<0))) (some false)).bind λb=>cond b (some (.inl (IntKind.i64.wrap (x+1)))) (some (.inr x))) i0).bind k=some y∧Q y:=by
 refine AW (λi=>i0≤i∧i≤hi+1∧∀q,i0≤q→q<i→at' l q<at' l a) (λi=>(hi+1-i).toNat) (λi=>i0≤i∧i≤hi+1∧(∀q,i0≤q→q<i→at' l q<at' l a)∧(i≤hi→¬at' l i<at' l a)) ?_ ?_ ?_
 ·rintro i ⟨g1,g2,g3⟩
  by_cases hi':i≤hi
  ·have r1:idx l i=some (el l i):=AU (by omega) (by omega)
   have r2:idx l a=some (el l a):=AU (by omega) (by omega)
   obtain⟨v,cv,hv⟩:=Cn hG (i:=i) (j:=a) (by omega) (by omega) (by omega) (by omega)
   by_cases hlt:at' l i<at' l a
   ·refine⟨.inl (i+1),?_,⟨by omega,by omega,λq q1 q2=> ?_⟩,by dsimp only;omega⟩
    ·simp only[r1,r2,hi',cv,hv,hlt,decide_true,cond_true,bs]
     rw[w64 (by omega) (by omega)]
    ·by_cases e:q=i
     ·rw[e];exact hlt
     ·exact g3 q q1 (by omega)
   ·exact⟨.inr i,by simp only[r1,r2,hi',cv,hv,hlt,decide_true,decide_false,cond_true,cond_false,bs],g1,g2,g3,λ_=>hlt⟩
  ·exact⟨.inr i,by simp only[hi',decide_false,cond_false,bs],g1,g2,g3,λh=>absurd h hi'⟩
 ·exact⟨Int.le_refl _,h1,λq q1 q2=>by omega⟩
 ·rintro i ⟨g1,g2,g3,g4⟩
  exact hk i g1 g2 g3 g4
theorem scanDown {β:Type}{k:Int→Option β}{Q:β→Prop}(l:List α)(hG:Good l)(a lo j0:Int)(ha:0≤a)(ha':a<l.length)(h0:0≤lo)(h1:lo≤j0+1)(h2:j0<l.length)(hlen:l.length≤1000000)
  (hk:∀j,lo≤j+1→j≤j0→(∀q,j<q→q≤j0→¬at' l q<at' l a)→(lo≤j→at' l j<at' l a)→∃y,k j=some y∧Q y):
  ∃y,(Ao (σ:=Int) (ρ:=(Int)) (fun(x:Int)=>(cond (decide (lo≤x)) ((idx l x).bind λe=>(idx l a).bind λe'=>(Srtd.cmp e e').bind λy=>some (!(decide (y<0)))) (some false)).bind λb=>cond b (some (.inl (IntKind.i64.wrap (x-1)))) (some (.inr x))) j0).bind k=some y∧Q y:=by
 refine AW (λj=>lo≤j+1∧j≤j0∧∀q,j<q→q≤j0→¬at' l q<at' l a) (λj=>(j+1-lo).toNat) (λj=>lo≤j+1∧j≤j0∧(∀q,j<q→q≤j0→¬at' l q<at' l a)∧(lo≤j→at' l j<at' l a)) ?_ ?_ ?_
 ·rintro j ⟨g1,g2,g3⟩
  by_cases hi':lo≤j
  ·have r1:idx l j=some (el l j):=AU (by omega) (by omega)
   have r2:idx l a=some (el l a):=AU (by omega) (by omega)
   obtain⟨v,cv,hv⟩:=Cn hG (i:=j) (j:=a) (by omega) (by omega) (by omega) (by omega)
   by_cases hlt:at' l j<at' l a
   ·exact⟨.inr j,by simp only[r1,r2,hi',cv,hv,hlt,decide_true,Bool.not_true,cond_true,cond_false,bs],g1,g2,g3,λ_=>hlt⟩
   ·refine⟨.inl (j-1),?_,⟨by omega,by omega,λq q1 q2=> ?_⟩,by dsimp only;omega⟩
    ·simp only[r1,r2,hi',cv,hv,hlt,decide_true,decide_false,Bool.not_false,cond_true,bs]
     rw[w64 (by omega) (by omega)]
    ·by_cases e:q=j
     ·rw[e];exact hlt
     ·exact g3 q (by omega) q2
  ·exact⟨.inr j,by simp only[hi',decide_false,cond_false,bs],g1,g2,g3,λh=>absurd h hi'⟩
 ·exact⟨h1,Int.le_refl _,λq q1 q2=>by omega⟩
 ·rintro j ⟨g1,g2,g3,g4⟩
  exact hk j g1 g2 g3 g4
structure Parted (l0 l':List α)(a b mid:Int):Prop where
 rg:Rg a b l0 l'
 lo:a≤mid
 hi:mid<b
 left:∀k,a≤k→k<mid→at' l' k≤at' l' mid
 right:∀k,mid<k→k<b→at' l' mid≤at' l' k
theorem partition_spec (l0:List α)(a b p:Int)(ha:0≤a)(hb:b≤l0.length)(hlen:l0.length≤1000000)(hG:Good l0)(hp:a≤p)(hp':p<b):
  ∃y,DG.partition Srtd.cmp l0 a b p=some y∧Parted l0 y.2.2 a b y.1:=by
 unfold DG.partition
 have r1:idx l0 p=some (el l0 p):=AU (by omega) (by omega)
 have r2:idx l0 a=some (el l0 a):=AU (by omega) (by omega)
 have r3:∀x,idx (l0.set a.toNat x) p=some (el (l0.set a.toNat x) p):=λx=>Bn (by omega) (by omega)
 simp only[r1,r2,r3,bs]
 rw[show (l0.set a.toNat (el l0 p)).set p.toNat (el l0 a)=sw l0 a p from rfl]
 have hR0:Rg a b l0 (sw l0 a p):=Rg.swap ha hb (by omega) (by omega) hp hp'
 generalize sw l0 a p=m0 at hR0 ⊢
 have hm0:=hR0.len
 rw[w64 (show-9223372036854775808≤b-1 by omega) (by omega),w64 (show-9223372036854775808≤a+1 by omega) (by omega)]
 refine scanUp m0 (hR0.good hG) a (b-1) (a+1) ha (by omega) (by omega) (by omega) (by omega) (by omega) (λi i1 i2 i3 i4=> ?_)
 refine scanDown m0 (hR0.good hG) a i (b-1) ha (by omega) (by omega) (by omega) (by omega) (by omega) (λj j1 j2 j3 j4=> ?_)
 have q1:idx m0 a=some (el m0 a):=AU (by omega) (by omega)
 have q2:idx m0 j=some (el m0 j):=AU (by omega) (by omega)
 by_cases hij:j<i
 ·have q3:∀x,idx (m0.set j.toNat x) a=some (el (m0.set j.toNat x) a):=λx=>Bn (by omega) (by omega)
  refine⟨(j,true,sw m0 j a),?_,⟨hR0.trans (Rg.swap ha (by omega) (by omega) (by omega) (by omega) (by omega)),by dsimp only;omega,by dsimp only;omega,λk k1 k2=> ?_,λk k1 k2=> ?_⟩⟩
  ·simp only[q1,q2,q3,hij,decide_true,cond_true,bs]
   rfl
  ·dsimp only at k1 k2 ⊢
   rw[Bf (by omega) (by omega) (by omega) (by omega) (by omega),Bf (by omega) (by omega) (by omega) (by omega) (by omega)]
   rw[if_neg (show¬j=a by omega),if_pos rfl]
   by_cases e:k=a
   ·rw[if_pos e]
    have:=i3 j (by omega) (by omega);omega
   ·rw[if_neg e,if_neg (by omega)]
    have:=i3 k (by omega) (by omega);omega
  ·dsimp only at k1 k2 ⊢
   rw[Bf (by omega) (by omega) (by omega) (by omega) (by omega),Bf (by omega) (by omega) (by omega) (by omega) (by omega)]
   rw[if_neg (show¬k=a by omega),if_neg (show¬k=j by omega)]
   have hk:=j3 k (by omega) (by omega)
   by_cases e:j=a
   ·rw[if_pos e];subst e;omega
   ·rw[if_neg e,if_pos rfl];omega
 ·have q4:idx m0 i=some (el m0 i):=AU (by omega) (by omega)
  have q5:∀x,idx (m0.set i.toNat x) j=some (el (m0.set i.toNat x) j):=λx=>Bn (by omega) (by omega)
  simp only[q1,q2,q4,q5,hij,decide_false,cond_false,bs]
  rw[show (m0.set i.toNat (el m0 j)).set j.toNat (el m0 i)=sw m0 i j from rfl]
  have hia:=i4 (by omega)
  have hja:=j4 (by omega)
  have hne:i<j:=by
   rcases Int.lt_or_eq_of_le (show i≤j by omega) with h|h
   ·exact h
   ·subst h;exact absurd hja hia
  have hR1:Rg a b l0 (sw m0 i j):=hR0.trans (Rg.swap ha (by omega) (by omega) (by omega) (by omega) (by omega))
  have ea:at' (sw m0 i j) a=at' m0 a:=by rw[Bf (by omega) (by omega) (by omega) (by omega) (by omega),if_neg (by omega),if_neg (by omega)]
  have hlo:∀q,a+1≤q→q<i+1→at' (sw m0 i j) q<at' (sw m0 i j) a:=λq h1 h2=>by
   rw[ea,Bf (by omega) (by omega) (by omega) (by omega) (by omega),if_neg (by omega)]
   by_cases e:q=i
   ·rw[if_pos e];exact hja
   ·rw[if_neg e];exact i3 q h1 (by omega)
  have hhi:∀q,j-1<q→q<b→¬at' (sw m0 i j) q<at' (sw m0 i j) a:=λq h1 h2=>by
   rw[ea,Bf (by omega) (by omega) (by omega) (by omega) (by omega)]
   by_cases e:q=j
   ·rw[if_pos e];exact hia
   ·rw[if_neg e,if_neg (by omega)];exact j3 q (by omega) (by omega)
  rw[w64 (show-9223372036854775808≤i+1 by omega) (by omega),w64 (show-9223372036854775808≤j-1 by omega) (by omega)]
  generalize sw m0 i j=m1 at hR1 hlo hhi ⊢
  refine AW (λs=>Rg a b l0 s.1∧a+1≤s.2.1∧s.2.1≤s.2.2+1∧s.2.2<b∧(∀q,a+1≤q→q<s.2.1→at' s.1 q<at' s.1 a)∧(∀q,s.2.2<q→q<b→¬at' s.1 q<at' s.1 a)) (λs=>(s.2.2+1-s.2.1).toNat)
   (λs=>Rg a b l0 s.1∧a≤s.2∧s.2<b∧(∀q,a+1≤q→q≤s.2→at' s.1 q<at' s.1 a)∧(∀q,s.2<q→q<b→¬at' s.1 q<at' s.1 a)) ?_ ?_ ?_
  ·rintro⟨m,u,v⟩ ⟨hR,g1,g2,g3,g4,g5⟩
   dsimp only at hR g1 g2 g3 g4 g5 ⊢
   have hml:=hR.len
   refine scanUp m (hR.good hG) a v u ha (by omega) (by omega) (by omega) (by omega) (by omega) (λi i1 i2 i3 i4=> ?_)
   refine scanDown m (hR.good hG) a i v ha (by omega) (by omega) (by omega) (by omega) (by omega) (λj j1 j2 j3 j4=> ?_)
   have f1:∀q,a+1≤q→q<i→at' m q<at' m a:=λq h1 h2=>by
    by_cases h:q<u
    ·exact g4 q h1 h
    ·exact i3 q (by omega) h2
   have f2:∀q,j<q→q<b→¬at' m q<at' m a:=λq h1 h2=>by
    by_cases h:q≤v
    ·exact j3 q h1 h
    ·exact g5 q (by omega) h2
   by_cases hij:j<i
   ·exact⟨.inr (m,j),by simp only[hij,decide_true,cond_true],hR,by dsimp only;omega,by dsimp only;omega,λq h1 h2=>f1 q h1 (by dsimp only at h2;omega),f2⟩
   ·have t1:idx m i=some (el m i):=AU (by omega) (by omega)
    have t2:idx m j=some (el m j):=AU (by omega) (by omega)
    have t3:∀x,idx (m.set i.toNat x) j=some (el (m.set i.toNat x) j):=λx=>Bn (by omega) (by omega)
    have hia:=i4 (by omega)
    have hja:=j4 (by omega)
    have hne:i<j:=by
     rcases Int.lt_or_eq_of_le (show i≤j by omega) with h|h
     ·exact h
     ·subst h;exact absurd hja hia
    have ea:at' (sw m i j) a=at' m a:=by rw[Bf (by omega) (by omega) (by omega) (by omega) (by omega),if_neg (by omega),if_neg (by omega)]
    rw[w64 (show-9223372036854775808≤i+1 by omega) (by omega),w64 (show-9223372036854775808≤j-1 by omega) (by omega)]
    refine⟨.inl (sw m i j,i+1,j-1),?_,⟨hR.trans (Rg.swap ha (by omega) (by omega) (by omega) (by omega) (by omega)),by dsimp only;omega,by dsimp only;omega,by dsimp only;omega,λq h1 h2=> ?_,λq h1 h2=> ?_⟩,by dsimp only;omega⟩
    ·simp only[t1,t2,t3,hij,decide_false,cond_false,bs]
     rfl
    ·dsimp only at h2 ⊢
     rw[ea,Bf (by omega) (by omega) (by omega) (by omega) (by omega),if_neg (by omega)]
     by_cases e:q=i
     ·rw[if_pos e];exact hja
     ·rw[if_neg e];exact f1 q h1 (by omega)
    ·dsimp only at h1 ⊢
     rw[ea,Bf (by omega) (by omega) (by omega) (by omega) (by omega)]
     by_cases e:q=j
     ·rw[if_pos e];exact hia
     ·rw[if_neg e,if_neg (by omega)];exact f2 q (by omega) h2
  ·exact⟨hR1,by dsimp only;omega,by dsimp only;omega,by dsimp only;omega,hlo,hhi⟩
  ·rintro⟨m,v⟩ ⟨hR,g1,g2,g3,g4⟩
   dsimp only at hR g1 g2 g3 g4 ⊢
   have hml:=hR.len
   have t1:idx m a=some (el m a):=AU (by omega) (by omega)
   have t2:idx m v=some (el m v):=AU (by omega) (by omega)
   have t3:∀x,idx (m.set v.toNat x) a=some (el (m.set v.toNat x) a):=λx=>Bn (by omega) (by omega)
   refine⟨(v,false,sw m v a),?_,⟨hR.trans (Rg.swap ha (by omega) (by omega) (by omega) (by omega) (by omega)),g1,g2,λk k1 k2=> ?_,λk k1 k2=> ?_⟩⟩
   ·simp only[t1,t2,t3,bs]
    rfl
   ·dsimp only at k1 k2 ⊢
    rw[Bf (by omega) (by omega) (by omega) (by omega) (by omega),Bf (by omega) (by omega) (by omega) (by omega) (by omega)]
    rw[if_neg (show¬v=a by omega),if_pos rfl]
    by_cases e:k=a
    ·rw[if_pos e]
     have:=g3 v (by omega) (by omega);omega
    ·rw[if_neg e,if_neg (by omega)]
     have:=g3 k (by omega) (by omega);omega
   ·dsimp only at k1 k2 ⊢
    rw[Bf (by omega) (by omega) (by omega) (by omega) (by omega),Bf (by omega) (by omega) (by omega) (by omega) (by omega)]
    rw[if_neg (show¬k=a by omega),if_neg (show¬k=v by omega)]
    have hk:=g4 k (by omega) (by omega)
    by_cases e:v=a
    ·rw[if_pos e];subst e;omega
    ·rw[if_neg e,if_pos rfl];omega
end Go.Sx.Gs

namespace Go.Sx.Gs
variable {α : Type} [Srtd α]
theorem scanUp2 {β:Type}{k:Int→Option β}{Q:β→Prop}(l:List α)(hG:Good l)(a hi i0:Int)(ha:0≤a)(ha':a<l.length)(h0:0≤i0)(h1:i0≤hi+1)(h2:hi<l.length)(hlen:l.length≤1000000)
  (hk:∀i,i0≤i→i≤hi+1→(∀q,i0≤q→q<i→¬at' l a<at' l q)→(i≤hi→at' l a<at' l i)→∃y,k i=some y∧Q y):
  ∃y,(Ao (σ:=Int) (ρ:=(Int)) (fun(x:Int)=>(cond (decide (x≤hi)) ((idx l a).bind λe=>(idx l x).bind λe'=>(Srtd.cmp e e').bind λy=>some (!(decide (y<0)))) (some false)).bind λb=>cond b (some (.inl (IntKind.i64.wrap (x+1)))) (some (.inr x))) i0).bind k=some y∧Q y:=by
 refine AW (λi=>i0≤i∧i≤hi+1∧∀q,i0≤q→q<i→¬at' l a<at' l q) (λi=>(hi+1-i).toNat) (λi=>i0≤i∧i≤hi+1∧(∀q,i0≤q→q<i→¬at' l a<at' l q)∧(i≤hi→at' l a<at' l i)) ?_ ?_ ?_
 ·rintro i ⟨g1,g2,g3⟩
  by_cases hi':i≤hi
  ·have r1:idx l i=some (el l i):=AU (by omega) (by omega)
   have r2:idx l a=some (el l a):=AU (by omega) (by omega)
   obtain⟨v,cv,hv⟩:=Cn hG (i:=a) (j:=i) (by omega) (by omega) (by omega) (by omega)
   by_cases hlt:at' l a<at' l i
   ·exact⟨.inr i,by simp only[r1,r2,hi',cv,hv,hlt,decide_true,Bool.not_true,cond_true,cond_false,bs],g1,g2,g3,λ_=>hlt⟩
   ·refine⟨.inl (i+1),?_,⟨by omega,by omega,λq q1 q2=> ?_⟩,by dsimp only;omega⟩
    ·simp only[r1,r2,hi',cv,hv,hlt,decide_true,decide_false,Bool.not_false,cond_true,bs]
     rw[w64 (by omega) (by omega)]
    ·by_cases e:q=i
     ·rw[e];exact hlt
     ·exact g3 q q1 (by omega)
  ·exact⟨.inr i,by simp only[hi',decide_false,cond_false,bs],g1,g2,g3,λh=>absurd h hi'⟩
 ·exact⟨Int.le_refl _,h1,λq q1 q2=>by omega⟩
 ·rintro i ⟨g1,g2,g3,g4⟩
  exact hk i g1 g2 g3 g4
theorem scanDown2 {β:Type}{k:Int→Option β}{Q:β→Prop}(l:List α)(hG:Good l)(a lo j0:Int)(ha:0≤a)(ha':a<l.length)(h0:0≤lo)(h1:lo≤j0+1)(h2:j0<l.length)(hlen:l.length≤1000000)
  (hk:∀j,lo≤j+1→j≤j0→(∀q,j<q→q≤j0→at' l a<at' l q)→(lo≤j→¬at' l a<at' l j)→∃y,k j=some y∧Q y):
  ∃y,(Ao (σ:=Int) (ρ:=(Int)) (fun(x:Int)=>(cond (decide (lo≤x)) ((idx l a).bind λe=>(idx l x).bind λe'=>(Srtd.cmp e e').bind λy=>some (decide (y<0))) (some false)).bind λb=>cond b (some (.inl (IntKind.i64.wrap (x-1)))) (some (.inr x))) j0).bind k=some y∧Q y:=by
 refine AW (λj=>lo≤j+1∧j≤j0∧∀q,j<q→q≤j0→at' l a<at' l q) (λj=>(j+1-lo).toNat) (λj=>lo≤j+1∧j≤j0∧(∀q,j<q→q≤j0→at' l a<at' l q)∧(lo≤j→¬at' l a<at' l j)) ?_ ?_ ?_
 ·rintro j ⟨g1,g2,g3⟩
  by_cases hi':lo≤j
  ·have r1:idx l j=some (el l j):=AU (by omega) (by omega)
   have r2:idx l a=some (el l a):=AU (by omega) (by omega)
   obtain⟨v,cv,hv⟩:=Cn hG (i:=a) (j:=j) (by omega) (by omega) (by omega) (by omega)
   by_cases hlt:at' l a<at' l j
   ·refine⟨.inl (j-1),?_,⟨by omega,by omega,λq q1 q2=> ?_⟩,by dsimp only;omega⟩
    ·simp only[r1,r2,hi',cv,hv,hlt,decide_true,cond_true,bs]
     rw[w64 (by omega) (by omega)]
    ·by_cases e:q=j
     ·rw[e];exact hlt
     ·exact g3 q (by omega) q2
   ·exact⟨.inr j,by simp only[r1,r2,hi',cv,hv,hlt,decide_true,decide_false,cond_true,cond_false,bs],g1,g2,g3,λ_=>hlt⟩
  ·exact⟨.inr j,by simp only[hi',decide_false,cond_false,bs],g1,g2,g3,λh=>absurd h hi'⟩
 ·exact⟨h1,Int.le_refl _,λq q1 q2=>by omega⟩
 ·rintro j ⟨g1,g2,g3,g4⟩
  exact hk j g1 g2 g3 g4
theorem Ec (l0:List α)(a b p:Int)(ha:0≤a)(hb:b≤l0.length)(hlen:l0.length≤1000000)(hG:Good l0)(hp:a≤p)(hp':p<b):
  ∃y,DG.partitionEqual Srtd.cmp l0 a b p=some y∧Rg a b l0 y.2∧a<y.1∧y.1≤b∧(∀k,a≤k→k<y.1→at' y.2 k≤at' l0 p)∧(∀k,y.1≤k→k<b→at' l0 p<at' y.2 k):=by
 unfold DG.partitionEqual
 have r1:idx l0 p=some (el l0 p):=AU (by omega) (by omega)
 have r2:idx l0 a=some (el l0 a):=AU (by omega) (by omega)
 have r3:∀x,idx (l0.set a.toNat x) p=some (el (l0.set a.toNat x) p):=λx=>Bn (by omega) (by omega)
 simp only[r1,r2,r3,bs]
 rw[show (l0.set a.toNat (el l0 p)).set p.toNat (el l0 a)=sw l0 a p from rfl]
 have hR0:Rg a b l0 (sw l0 a p):=Rg.swap ha hb (by omega) (by omega) hp hp'
 have ep:at' (sw l0 a p) a=at' l0 p:=by
  rw[Bf (by omega) (by omega) (by omega) (by omega) (by omega)]
  by_cases e:a=p
  ·rw[if_pos e,e]
  ·rw[if_neg e,if_pos rfl]
 generalize sw l0 a p=m0 at hR0 ep ⊢
 rw[w64 (show-9223372036854775808≤b-1 by omega) (by omega),w64 (show-9223372036854775808≤a+1 by omega) (by omega)]
 refine AW (λs=>Rg a b l0 s.1∧a+1≤s.2.1∧s.2.1≤s.2.2+1∧s.2.2<b∧at' s.1 a=at' l0 p∧(∀q,a+1≤q→q<s.2.1→¬at' s.1 a<at' s.1 q)∧(∀q,s.2.2<q→q<b→at' s.1 a<at' s.1 q)) (λs=>(s.2.2+1-s.2.1).toNat)
  (λs=>Rg a b l0 s.1∧a+1≤s.2∧s.2≤b∧at' s.1 a=at' l0 p∧(∀q,a+1≤q→q<s.2→¬at' s.1 a<at' s.1 q)∧(∀q,s.2≤q→q<b→at' s.1 a<at' s.1 q)) ?_ ?_ ?_
 ·rintro⟨m,u,v⟩ ⟨hR,g1,g2,g3,g6,g4,g5⟩
  dsimp only at hR g1 g2 g3 g4 g5 g6 ⊢
  have hml:=hR.len
  refine scanUp2 m (hR.good hG) a v u ha (by omega) (by omega) (by omega) (by omega) (by omega) (λi i1 i2 i3 i4=> ?_)
  refine scanDown2 m (hR.good hG) a i v ha (by omega) (by omega) (by omega) (by omega) (by omega) (λj j1 j2 j3 j4=> ?_)
  have f1:∀q,a+1≤q→q<i→¬at' m a<at' m q:=λq h1 h2=>by
   by_cases h:q<u
   ·exact g4 q h1 h
   ·exact i3 q (by omega) h2
  have f2:∀q,j<q→q<b→at' m a<at' m q:=λq h1 h2=>by
   by_cases h:q≤v
   ·exact j3 q h1 h
   ·exact g5 q (by omega) h2
  by_cases hij:j<i
  ·exact⟨.inr (m,i),by simp only[hij,decide_true,cond_true],hR,by dsimp only;omega,by dsimp only;omega,g6,f1,λq h1 h2=>f2 q (by dsimp only at h1;omega) h2⟩
  ·have t1:idx m i=some (el m i):=AU (by omega) (by omega)
   have t2:idx m j=some (el m j):=AU (by omega) (by omega)
   have t3:∀x,idx (m.set i.toNat x) j=some (el (m.set i.toNat x) j):=λx=>Bn (by omega) (by omega)
   have hia:=i4 (by omega)
   have hja:=j4 (by omega)
   have hne:i<j:=by
    rcases Int.lt_or_eq_of_le (show i≤j by omega) with h|h
    ·exact h
    ·subst h;exact absurd hia hja
   have ea:at' (sw m i j) a=at' m a:=by rw[Bf (by omega) (by omega) (by omega) (by omega) (by omega),if_neg (by omega),if_neg (by omega)]
   rw[w64 (show-9223372036854775808≤i+1 by omega) (by omega),w64 (show-9223372036854775808≤j-1 by omega) (by omega)]
   refine⟨.inl (sw m i j,i+1,j-1),?_,⟨hR.trans (Rg.swap ha (by omega) (by omega) (by omega) (by omega) (by omega)),by dsimp only;omega,by dsimp only;omega,by dsimp only;omega,by dsimp only;rw[ea];exact g6,λq h1 h2=> ?_,λq h1 h2=> ?_⟩,by dsimp only;omega⟩
   ·simp only[t1,t2,t3,hij,decide_false,cond_false,bs]
    rfl
   ·dsimp only at h2 ⊢
    rw[ea,Bf (by omega) (by omega) (by omega) (by omega) (by omega),if_neg (by omega)]
    by_cases e:q=i
    ·rw[if_pos e];exact hja
    ·rw[if_neg e];exact f1 q h1 (by omega)
   ·dsimp only at h1 ⊢
    rw[ea,Bf (by omega) (by omega) (by omega) (by omega) (by omega)]
    by_cases e:q=j
    ·rw[if_pos e];exact hia
    ·rw[if_neg e,if_neg (by omega)];exact f2 q (by omega) h2
 ·exact⟨hR0,by dsimp only;omega,by dsimp only;omega,by dsimp only;omega,ep,λq h1 h2=>by dsimp only at h2;omega,λq h1 h2=>by dsimp only at h1;omega⟩
 ·rintro⟨m,v⟩ ⟨hR,g1,g2,g3,g4,g5⟩
  refine⟨(v,m),rfl,hR,by dsimp only at*;omega,g2,λk k1 k2=> ?_,λk k1 k2=> ?_⟩
  ·dsimp only at*
   by_cases e:k=a
   ·rw[e,g3];exact Int.le_refl _
   ·have:=g4 k (by omega) k2;omega
  ·dsimp only at*
   have:=g5 k k1 k2;omega
theorem DI (l:List α)(hG:Good l)(a b s:Int)(ha:0≤a)(ha':a<l.length)(hb:0≤b)(hb':b<l.length):
  ∃y,DG.order2 Srtd.cmp l a b s=some y∧y.2.2.1=l∧((y.1=a∧y.2.1=b)∨(y.1=b∧y.2.1=a)):=by
 have r1:idx l a=some (el l a):=AU ha ha'
 have r2:idx l b=some (el l b):=AU hb hb'
 unfold DG.order2
 obtain⟨v,cv,hv⟩:=Cn hG (i:=b) (j:=a) hb hb' ha ha'
 simp only[r1,r2,cv,hv,bs]
 by_cases h:at' l b<at' l a
 ·simp only[h,decide_true,cond_true];exact⟨_,rfl,rfl,.inr ⟨rfl,rfl⟩⟩
 ·simp only[h,decide_false,cond_false];exact⟨_,rfl,rfl,.inl ⟨rfl,rfl⟩⟩
theorem EC (l:List α)(hG:Good l)(a b c s:Int)(ha:0≤a)(ha':a<l.length)(hb:0≤b)(hb':b<l.length)(hc:0≤c)(hc':c<l.length):
  ∃y,DG.median Srtd.cmp l a b c s=some y∧y.2.1=l∧(y.1=a∨y.1=b∨y.1=c):=by
 unfold DG.median
 obtain⟨y1,h1,e1,c1⟩:=DI l hG a b s ha ha' hb hb'
 rw[h1,bs,e1]
 have b1:0≤y1.2.1∧y1.2.1<l.length∧0≤y1.1∧y1.1<l.length:=by rcases c1 with⟨c,d⟩|⟨c,d⟩<;>rw[c,d]<;>exact⟨by assumption,by assumption,by assumption,by assumption⟩
 obtain⟨y2,h2,e2,c2⟩:=DI l hG y1.2.1 c y1.2.2.2 b1.1 b1.2.1 hc hc'
 rw[h2,bs,e2]
 have b2:0≤y2.1∧y2.1<l.length:=by rcases c2 with⟨c,d⟩|⟨c,d⟩<;>rw[c]<;>exact⟨by omega,by omega⟩
 obtain⟨y3,h3,e3,c3⟩:=DI l hG y1.1 y2.1 y2.2.2.2 b1.2.2.1 b1.2.2.2 b2.1 b2.2
 rw[h3,bs]
 refine⟨_,rfl,e3,?_⟩
 dsimp only
 omega
theorem C3 (l:List α)(hG:Good l)(p s:Int)(h0:1≤p)(h1:p+1<l.length)(hlen:l.length≤1000000):
  ∃y,DG.medianAdjacent Srtd.cmp l p s=some y∧y.2.1=l∧p-1≤y.1∧y.1≤p+1:=by
 unfold DG.medianAdjacent
 rw[w64 (show-9223372036854775808≤p-1 by omega) (by omega),w64 (show-9223372036854775808≤p+1 by omega) (by omega)]
 obtain⟨y,h,e,c⟩:=EC l hG (p-1) p (p+1) s (by omega) (by omega) (by omega) (by omega) (by omega) (by omega)
 rw[h,bs]
 exact⟨_,rfl,e,by dsimp only;omega,by dsimp only;omega⟩
theorem EI (l:List α)(hG:Good l)(a b:Int)(ha:0≤a)(hb:b≤l.length)(h8:8≤b-a)(hlen:l.length≤1000000):
  ∃y,DG.choosePivot Srtd.cmp l a b=some y∧y.2.2=l∧a≤y.1∧y.1<b:=by
 unfold DG.choosePivot
 rw[w64 (show-9223372036854775808≤b-a by omega) (by omega)]
 have e4:(b-a).tdiv 4=(b-a)/4:=Int.tdiv_eq_ediv_of_nonneg (by omega)
 rw[e4,w64 (show-9223372036854775808≤(b-a)/4 by omega) (by omega)]
 rw[w64 (show-9223372036854775808≤(b-a)/4*1 by omega) (by omega),w64 (show-9223372036854775808≤(b-a)/4*2 by omega) (by omega),w64 (show-9223372036854775808≤(b-a)/4*3 by omega) (by omega)]
 rw[w64 (show-9223372036854775808≤a+(b-a)/4*1 by omega) (by omega),w64 (show-9223372036854775808≤a+(b-a)/4*2 by omega) (by omega),w64 (show-9223372036854775808≤a+(b-a)/4*3 by omega) (by omega)]
 simp only[h8,decide_true,cond_true]
 refine BR (λq:List α×Int×Int×Int×Int=>q.1=l∧(a≤q.2.1∧q.2.1<b)∧(a≤q.2.2.1∧q.2.2.1<b)∧(a≤q.2.2.2.1∧q.2.2.2.1<b)) ?_ ?_
 ·by_cases h50:50≤b-a
  ·simp only[h50,decide_true,cond_true]
   obtain⟨y1,h1,e1,c1⟩:=C3 l hG (a+(b-a)/4*1) 0 (by omega) (by omega) hlen
   rw[h1,bs,e1]
   obtain⟨y2,h2,e2,c2⟩:=C3 l hG (a+(b-a)/4*2) y1.2.2 (by omega) (by omega) hlen
   rw[h2,bs,e2]
   obtain⟨y3,h3,e3,c3⟩:=C3 l hG (a+(b-a)/4*3) y2.2.2 (by omega) (by omega) hlen
   rw[h3,bs]
   exact⟨_,rfl,e3,⟨by dsimp only;omega,by dsimp only;omega⟩,⟨by dsimp only;omega,by dsimp only;omega⟩,⟨by dsimp only;omega,by dsimp only;omega⟩⟩
  ·simp only[h50,decide_false,cond_false]
   exact⟨_,rfl,rfl,⟨by dsimp only;omega,by dsimp only;omega⟩,⟨by dsimp only;omega,by dsimp only;omega⟩,⟨by dsimp only;omega,by dsimp only;omega⟩⟩
 ·rintro⟨q,i,j,k,sw⟩ ⟨rfl,g1,g2,g3⟩
  dsimp only at g1 g2 g3 hb hlen ⊢
  obtain⟨y,h1,e1,c1⟩:=EC q hG i j k sw (by omega) (by omega) (by omega) (by omega) (by omega) (by omega)
  rw[h1,bs,e1]
  have hy:a≤y.1∧y.1<b:=by omega
  cases (y.2.2==0)
  ·cases (y.2.2==12)
   ·exact⟨_,rfl,rfl,hy⟩
   ·exact⟨_,rfl,rfl,hy⟩
  ·exact⟨_,rfl,rfl,hy⟩
end Go.Sx.Gs

namespace Go.Sx
def at' (l:LI)(i:Int):Int:=l.getD i.toNat 0
theorem at_set {l:LI}{i k x:Int}(h0:0≤i)(h1:i<l.length)(hk:0≤k):at' (l.set i.toNat x) k=if k=i then x else at' l k:=by
 unfold at'
 by_cases h:k=i
 ·subst h
  have:k.toNat<l.length:=by omega
  simp[this]
 ·rw[if_neg h]
  have:i.toNat≠k.toNat:=by omega
  simp[List.getD_eq_getElem?_getD,List.getElem?_set_ne this]
def sw (l:LI)(i j:Int):LI:=(l.set i.toNat (at' l j)).set j.toNat (at' l i)
theorem sw_len (l:LI)(i j:Int):(sw l i j).length=l.length:=by simp[sw]
theorem Bf {l:LI}{i j k:Int}(hi:0≤i)(hi':i<l.length)(hj:0≤j)(hj':j<l.length)(hk:0≤k):
  at' (sw l i j) k=if k=j then at' l i else if k=i then at' l j else at' l k:=by
 unfold sw
 rw[at_set hj (by simpa using hj') hk]
 split
 ·rfl
 ·rw[at_set hi hi' hk]
theorem By (z:Int):∀(l:LI) (j:Nat),j<l.length→List.Perm (l.set j z) (z::l.eraseIdx j)
 |[],j,h=>by simp at h
 |x::l,0,_=>by simp
 |x::l,j+1,h=>by
  simp only[List.set_cons_succ,List.eraseIdx_cons_succ]
  exact((By z l j (by simpa using h)).cons x).trans (List.Perm.swap _ _ _)
theorem CT (l:LI)(j:Nat)(h:j<l.length):List.Perm l (l[j]::l.eraseIdx j):=by
 have:=By l[j] l j h
 rwa [List.set_getElem_self] at this
theorem Dx :∀(l:LI) (i j:Nat) (x y:Int),l[i]? =some x→l[j]? =some y→List.Perm ((l.set i y).set j x) l
 |[],i,j,x,y,h,_=>by simp at h
 |z::l,0,0,x,y,h,h'=>by simp at h h';subst h;simp
 |z::l,0,j+1,x,y,h,h'=>by
  simp at h h'
  subst h
  simp only[List.set_cons_zero,List.set_cons_succ]
  obtain⟨hj,rfl⟩:=List.getElem?_eq_some_iff.1 h'
  have h1:=By z l j hj
  have h2:=CT l j hj
  exact((h1.cons _).trans (List.Perm.swap _ _ _)).trans (h2.symm.cons z)
 |z::l,i+1,0,x,y,h,h'=>by
  simp at h h'
  subst h'
  simp only[List.set_cons_zero,List.set_cons_succ]
  obtain⟨hj,rfl⟩:=List.getElem?_eq_some_iff.1 h
  have h1:=By z l i hj
  have h2:=CT l i hj
  exact((h1.cons _).trans (List.Perm.swap _ _ _)).trans (h2.symm.cons z)
 |z::l,i+1,j+1,x,y,h,h'=>by
  simp at h h'
  simp only[List.set_cons_succ]
  exact(Dx l i j x y h h').cons z
theorem sw_perm {l:LI}{i j:Int}(hi:0≤i)(hi':i<l.length)(hj:0≤j)(hj':j<l.length):List.Perm (sw l i j) l:=by
 have h1:i.toNat<l.length:=by omega
 have h2:j.toNat<l.length:=by omega
 exact Dx l i.toNat j.toNat _ _ (by simp[at',h1]) (by simp[at',h2])
structure Rg (a b:Int)(l l':LI):Prop where
 len:l'.length=l.length
 perm:List.Perm l' l
 out:∀k,0≤k→(k<a∨b≤k)→at' l' k=at' l k
 all:∀Q:Int→Prop,(∀k,a≤k→k<b→Q (at' l k))→∀k,a≤k→k<b→Q (at' l' k)
theorem Rg.refl (a b:Int)(l:LI):Rg a b l l:=⟨rfl,List.Perm.refl _,λ_ _ _=>rfl,λ_ h=>h⟩
theorem Rg.trans {a b:Int}{l l' l'':LI}(h:Rg a b l l')(h':Rg a b l' l''):Rg a b l l'':=
 ⟨h'.len.trans h.len,h'.perm.trans h.perm,λk h0 hk=>(h'.out k h0 hk).trans (h.out k h0 hk),λQ hQ=>h'.all Q (h.all Q hQ)⟩
theorem Rg.swap {a b i j:Int}{l:LI}(ha:0≤a)(hb:b≤l.length)(hi:a≤i)(hi':i<b)(hj:a≤j)(hj':j<b):Rg a b l (sw l i j):=by
 refine⟨sw_len _ _ _,sw_perm (by omega) (by omega) (by omega) (by omega),λk h0 hk=> ?_,λQ hQ k h1 h2=> ?_⟩
 ·rw[Bf (by omega) (by omega) (by omega) (by omega) h0,if_neg (by omega),if_neg (by omega)]
 ·rw[Bf (by omega) (by omega) (by omega) (by omega) (by omega)]
  split
  ·exact hQ i hi hi'
  ·split
   ·exact hQ j hj hj'
   ·exact hQ k h1 h2
structure Parted (l0 l':LI)(a b mid:Int):Prop where
 rg:Rg a b l0 l'
 lo:a≤mid
 hi:mid<b
 left:∀k,a≤k→k<mid→at' l' k≤at' l' mid
 right:∀k,mid<k→k<b→at' l' mid≤at' l' k
theorem iand_small (y m:Int)(h0:0≤m)(h1:m<4294967296):0≤iand .u64 y m∧iand .u64 y m≤m:=by
 unfold iand
 have e:(BitVec.ofInt IntKind.u64.bits y&&&BitVec.ofInt IntKind.u64.bits m).toNat≤(BitVec.ofInt IntKind.u64.bits m).toNat:=by
  rw[BitVec.toNat_and];exact Nat.and_le_right
 have e2:(BitVec.ofInt IntKind.u64.bits m).toNat=m.toNat:=by
  rw[BitVec.toNat_ofInt]
  show (m%(2^64:Nat)).toNat=m.toNat
  congr 1
  omega
 rw[e2] at e
 generalize (BitVec.ofInt IntKind.u64.bits y&&&BitVec.ofInt IntKind.u64.bits m).toNat=t at e
 have:IntKind.u64.wrap (t:Int)=t:=by
  simp only[IntKind.wrap,IntKind.bits,IntKind.signed]
  simp
  omega
 rw[this]
 omega
theorem wu64 {x:Int}(h1:0≤x)(h2:x<18446744073709551616):IntKind.u64.wrap x=x:=by
 simp only[IntKind.wrap,IntKind.bits,IntKind.signed]
 simp
 omega
end Go.Sx

namespace Go.Sx.Gs
variable {α : Type} [Srtd α]
theorem DT (l0:List α)(hG:Good l0)(a b:Int)(ha:0≤a)(hab:a<b)(hb:b≤l0.length)(hlen:l0.length≤1000000)
  (hpre:0<a→∀k,a≤k→k<b→at' l0 (a-1)≤at' l0 k):
  ∃y,DG.partialInsertionSort Srtd.cmp l0 a b=some y∧Rg a b l0 y.2∧(y.1=true→Srt y.2 a b):=by
 unfold DG.partialInsertionSort
 rw[w64 (show-9223372036854775808≤a+1 by omega) (by omega),w64 (show-9223372036854775808≤b-a by omega) (by omega)]
 refine AW (λs=>Rg a b l0 s.1∧a+1≤s.2.1∧s.2.1≤b∧Srt s.1 a s.2.1∧0≤s.2.2∧s.2.2≤5) (λs=>(5-s.2.2).toNat)
  (λr=>match r with| .inl l=>Rg a b l0 l| .inr y=>Rg a b l0 y.2∧(y.1=true→Srt y.2 a b)) ?_ ⟨Rg.refl _ _ _,by dsimp only;omega,by dsimp only;omega,λp q k1 k2 k3=>by dsimp only at k3;omega,by dsimp only;omega,by dsimp only;omega⟩ ?_
 ·rintro⟨l,i,j⟩ ⟨hR,g1,g2,g3,g4,g5⟩
  dsimp only at hR g1 g2 g3 g4 g5 ⊢
  have hll:=hR.len
  by_cases hj:j<5
  ·simp only[hj,decide_true,cond_true]
   refine AW (λi=>a+1≤i∧i≤b∧Srt l a i) (λi=>(b-i).toNat) (λi=>a+1≤i∧i≤b∧Srt l a i∧(i<b→at' l i<at' l (i-1))) ?_ ⟨g1,g2,g3⟩ ?_
   ·rintro i ⟨g1,g2,g3⟩
    by_cases hi:i<b
    ·have r1:idx l i=some (el l i):=AU (by omega) (by omega)
     have r2:idx l (i-1)=some (el l (i-1)):=AU (by omega) (by omega)
     have e1:IntKind.i64.wrap (i-1)=i-1:=w64 (by omega) (by omega)
     obtain⟨v,cv,hv⟩:=Cn (hR.good hG) (i:=i) (j:=i-1) (by omega) (by omega) (by omega) (by omega)
     by_cases hlt:at' l i<at' l (i-1)
     ·exact⟨.inr i,by simp only[r1,r2,e1,hi,cv,hv,hlt,decide_true,Bool.not_true,cond_true,cond_false,bs],g1,g2,g3,λ_=>hlt⟩
     ·refine⟨.inl (i+1),?_,⟨by omega,by omega,λp q k1 k2 k3=> ?_⟩,by dsimp only;omega⟩
      ·simp only[r1,r2,e1,hi,cv,hv,hlt,decide_true,decide_false,Bool.not_false,cond_true,bs]
       rw[w64 (by omega) (by omega)]
      ·by_cases e:q=i
       ·subst e
        by_cases e2:p=q-1
        ·subst e2;omega
        ·have:=g3 p (q-1) k1 (by omega) (by omega);omega
       ·exact g3 p q k1 k2 (by omega)
    ·exact⟨.inr i,by simp only[hi,decide_false,cond_false,bs],g1,g2,g3,λh=>absurd h hi⟩
   ·rintro i ⟨g1,g2,g3,g6⟩
    by_cases he:i=b
    ·have:(i==b)=true:=by simp[he]
     simp only[this,cond_true]
     exact⟨_,rfl,hR,λ_=>by rw[←he];exact g3⟩
    ·have:(i==b)=false:=by simp[he]
     simp only[this,cond_false]
     by_cases h50:b-a<50
     ·simp only[h50,decide_true,cond_true]
      exact⟨_,rfl,hR,λh=>by cases h⟩
     ·simp only[h50,decide_false,cond_false]
      have hib:i<b:=by omega
      have hlt:=g6 hib
      have e1:IntKind.i64.wrap (i-1)=i-1:=w64 (by omega) (by omega)
      have r1:idx l i=some (el l i):=AU (by omega) (by omega)
      have r2:idx l (i-1)=some (el l (i-1)):=AU (by omega) (by omega)
      have r3:∀x,idx (l.set i.toNat x) (i-1)=some (el (l.set i.toNat x) (i-1)):=λx=>Bn (by omega) (by omega)
      simp only[e1,r1,r2,r3,bs]
      rw[show (l.set i.toNat (el l (i-1))).set (i-1).toNat (el l i)=sw l i (i-1) from rfl]
      have hR1:Rg a b l0 (sw l i (i-1)):=hR.trans (Rg.swap ha (by omega) (by omega) (by omega) (by omega) (by omega))
      have hS1:∀p q,a≤p→p<q→q≤i-1→q≠i-1→at' (sw l i (i-1)) p≤at' (sw l i (i-1)) q:=λp q k1 k2 k3 k4=>by
       rw[Bf (by omega) (by omega) (by omega) (by omega) (by omega),Bf (by omega) (by omega) (by omega) (by omega) (by omega)]
       rw[if_neg (by omega),if_neg (by omega),if_neg (by omega),if_neg (by omega)]
       exact g3 p q k1 k2 (by omega)
      generalize sw l i (i-1)=m at hR1 hS1 ⊢
      have hml:=hR1.len
      have hpre':∀m',Rg a b l0 m'→0<a→∀k,a≤k→k<b→at' m' (a-1)≤at' m' k:=λm' hr h0 k k1 k2=>by
       rw[hr.out (a-1) (by omega) (.inl (by omega))]
       exact hr.all (λx=>at' l0 (a-1)≤x) (hpre h0) k k1 k2
      rw[w64 (show-9223372036854775808≤i-a by omega) (by omega),w64 (show-9223372036854775808≤b-i by omega) (by omega),w64 (show-9223372036854775808≤i+1 by omega) (by omega),w64 (show-9223372036854775808≤j+1 by omega) (by omega)]
      refine BR (λm=>Rg a b l0 m∧Srt m a i) ?_ ?_
      ·by_cases h2:2≤i-a
       ·simp only[h2,decide_true,cond_true]
        refine AW (λs=>Rg a b l0 s.1∧a≤s.2∧s.2≤i-1∧∀p q,a≤p→p<q→q≤i-1→q≠s.2→at' s.1 p≤at' s.1 q) (λs=>s.2.toNat) (λr=>Rg a b l0 r∧Srt r a i) ?_ ⟨hR1,by dsimp only;omega,Int.le_refl _,hS1⟩ (λr hr=>⟨r,rfl,hr⟩)
        rintro⟨m,j⟩ ⟨hR',q1,q2,hS'⟩
        dsimp only at hR' q1 q2 hS' ⊢
        have hml:=hR'.len
        by_cases hj1:1≤j
        ·have f1:idx m j=some (el m j):=AU (by omega) (by omega)
         have f2:idx m (j-1)=some (el m (j-1)):=AU (by omega) (by omega)
         have f3:∀x,idx (m.set j.toNat x) (j-1)=some (el (m.set j.toNat x) (j-1)):=λx=>Bn (by omega) (by omega)
         have e2:IntKind.i64.wrap (j-1)=j-1:=w64 (by omega) (by omega)
         obtain⟨v,cv,hv⟩:=Cn (hR'.good hG) (i:=j) (j:=j-1) (by omega) (by omega) (by omega) (by omega)
         by_cases hlt:at' m j<at' m (j-1)
         ·have hja:a<j:=by
           rcases Int.lt_or_eq_of_le q1 with h|h
           ·exact h
           ·subst h
            have:=hpre' m hR' (by omega) a (Int.le_refl _) hab
            omega
          refine⟨.inl (sw m j (j-1),j-1),?_,⟨hR'.trans (Rg.swap ha (by omega) (by omega) (by omega) (by omega) (by omega)),by dsimp only;omega,by dsimp only;omega,?_⟩,by dsimp only;omega⟩
          ·simp only[hj1,decide_true,cond_true,e2,f1,f2,f3,cv,hv,hlt,Bool.not_true,cond_false,bs]
           rfl
          ·intro p q k1 k2 k3 k4
           dsimp only at k4 ⊢
           rw[Bf (by omega) (by omega) (by omega) (by omega) (by omega),Bf (by omega) (by omega) (by omega) (by omega) (by omega)]
           by_cases c1:q=j
           ·subst c1
            rw[if_neg (show¬q=q-1 by omega),if_pos rfl]
            by_cases c2:p=q-1
            ·rw[if_pos c2];omega
            ·rw[if_neg c2,if_neg (by omega)]
             exact hS' p (q-1) k1 (by omega) (by omega) (by omega)
           ·rw[if_neg (show¬q=j-1 by omega),if_neg c1]
            by_cases c2:p=j-1
            ·rw[if_pos c2]
             exact hS' j q (by omega) (by omega) k3 c1
            ·rw[if_neg c2]
             by_cases c3:p=j
             ·rw[if_pos c3]
              exact hS' (j-1) q (by omega) (by omega) k3 c1
             ·rw[if_neg c3]
              exact hS' p q k1 k2 k3 c1
         ·refine⟨.inr m,?_,hR',?_⟩
          ·simp only[hj1,decide_true,cond_true,e2,f1,f2,cv,hv,hlt,decide_false,Bool.not_false,bs]
          ·intro p q k1 k2 k3
           by_cases c1:q=j
           ·subst c1
            by_cases c2:p=q-1
            ·subst c2;omega
            ·have:=hS' p (q-1) k1 (by omega) (by omega) (by omega)
             omega
           ·exact hS' p q k1 k2 (by omega) c1
        ·refine⟨.inr m,?_,hR',?_⟩
         ·simp only[hj1,decide_false,cond_false]
         ·intro p q k1 k2 k3
          exact hS' p q k1 k2 (by omega) (by omega)
       ·simp only[h2,decide_false,cond_false]
        exact⟨_,rfl,hR1,λp q k1 k2 k3=>by omega⟩
      ·rintro m1 ⟨hR2,hS2⟩
       have hm1:=hR2.len
       by_cases h2:2≤b-i
       ·simp only[h2,decide_true,cond_true]
        refine AW (λs=>Rg a b l0 s.1∧Srt s.1 a i∧i+1≤s.2∧s.2≤b) (λs=>(b-s.2).toNat) (λr=>Rg a b l0 r∧Srt r a i) ?_ ⟨hR2,hS2,by dsimp only;omega,by dsimp only;omega⟩ ?_
        ·rintro⟨m,q⟩ ⟨hR',hS',q1,q2⟩
         dsimp only at hR' hS' q1 q2 ⊢
         have hml:=hR'.len
         by_cases hq:q<b
         ·have f1:idx m q=some (el m q):=AU (by omega) (by omega)
          have f2:idx m (q-1)=some (el m (q-1)):=AU (by omega) (by omega)
          have f3:∀x,idx (m.set q.toNat x) (q-1)=some (el (m.set q.toNat x) (q-1)):=λx=>Bn (by omega) (by omega)
          have e2:IntKind.i64.wrap (q-1)=q-1:=w64 (by omega) (by omega)
          have e3:IntKind.i64.wrap (q+1)=q+1:=w64 (by omega) (by omega)
          obtain⟨v,cv,hv⟩:=Cn (hR'.good hG) (i:=q) (j:=q-1) (by omega) (by omega) (by omega) (by omega)
          by_cases hlt:at' m q<at' m (q-1)
          ·refine⟨.inl (sw m q (q-1),q+1),?_,⟨hR'.trans (Rg.swap ha (by omega) (by omega) (by omega) (by omega) (by omega)),λp r k1 k2 k3=> ?_,by dsimp only;omega,by dsimp only;omega⟩,by dsimp only;omega⟩
           ·simp only[hq,decide_true,cond_true,e2,e3,f1,f2,f3,cv,hv,hlt,Bool.not_true,cond_false,bs]
            rfl
           ·dsimp only
            rw[Bf (by omega) (by omega) (by omega) (by omega) (by omega),Bf (by omega) (by omega) (by omega) (by omega) (by omega)]
            rw[if_neg (by omega),if_neg (by omega),if_neg (by omega),if_neg (by omega)]
            exact hS' p r k1 k2 k3
          ·refine⟨.inr m,?_,hR',hS'⟩
           simp only[hq,decide_true,cond_true,e2,f1,f2,cv,hv,hlt,decide_false,Bool.not_false,bs]
         ·exact⟨.inr m,by simp only[hq,decide_false,cond_false],hR',hS'⟩
        ·rintro m2 ⟨hR3,hS3⟩
         exact⟨_,rfl,⟨hR3,g1,g2,hS3,by dsimp only;omega,by dsimp only;omega⟩,by dsimp only;omega⟩
       ·simp only[h2,decide_false,cond_false]
        exact⟨_,rfl,⟨hR2,g1,g2,hS2,by dsimp only;omega,by dsimp only;omega⟩,by dsimp only;omega⟩
  ·simp only[hj,decide_false,cond_false]
   exact⟨_,rfl,hR⟩
 ·rintro(l|y) h
  ·exact⟨_,rfl,h,λh=>by cases h⟩
  ·exact⟨_,rfl,h⟩
theorem EA :∀x:Nat,1≤x→x<2^64→x<2^(Lib.bitLen x)∧2^(Lib.bitLen x)≤2*x:=by
 intro x
 induction x using Nat.strongRecOn with
 |ind x ih=>
  intro h1 h2
  rw[Lib.bitLen_half x (by omega) h2]
  by_cases h:x=1
  ·subst h;decide
  ·obtain⟨a,b⟩:=ih (x/2) (by omega) (by omega) (by omega)
   rw[Nat.add_comm,Nat.pow_succ]
   generalize 2^Lib.bitLen (x/2)=p at a b
   omega
theorem pow2_spec (n:Int)(h1:8≤n)(h2:n≤1000000):∃y,D.P n=some y∧n<y∧y≤2*n:=by
 obtain⟨m,rfl⟩:∃m:Nat,n=(m:Int):=⟨n.toNat,by omega⟩
 obtain⟨k1,k2⟩:=EA m (by omega) (by omega)
 have hb:Lib.bitLen m<22:=by
  apply Classical.byContradiction
  intro hc
  have:2^22≤2^Lib.bitLen m:=Nat.pow_le_pow_right (by omega) (by omega)
  omega
 unfold D.P
 rw[wu64 (by omega) (by omega)]
 unfold D.y
 rw[if_pos (by omega),bs]
 have:decide (((Lib.bitLen m:Nat):Int)<0)=false:=by simp
 rw[Int.toNat_natCast,this,cond_false]
 have e:ishl .u64 1 ((Lib.bitLen m:Nat):Int)=((2^Lib.bitLen m:Nat):Int):=by
  show IntKind.u64.wrap (1*2^(min (((Lib.bitLen m:Nat):Int)).toNat 64))=_
  rw[Int.toNat_natCast,show min (Lib.bitLen m) 64=Lib.bitLen m by omega,Int.one_mul]
  have e':((2^Lib.bitLen m:Nat):Int)=(2:Int)^Lib.bitLen m:=by simp
  rw[←e',wu64 (by omega) (by omega)]
 rw[e]
 exact⟨_,rfl,by omega,by omega⟩
theorem Eo (l0:List α)(a b:Int)(ha:0≤a)(hb:b≤l0.length)(h8:8≤b-a)(hlen:l0.length≤1000000):
  ∃l',DG.breakPatterns Srtd.cmp l0 a b=some l'∧Rg a b l0 l':=by
 unfold DG.breakPatterns
 rw[w64 (show-9223372036854775808≤b-a by omega) (by omega)]
 have e4:(b-a).tdiv 4=(b-a)/4:=Int.tdiv_eq_ediv_of_nonneg (by omega)
 rw[e4,w64 (show-9223372036854775808≤(b-a)/4 by omega) (by omega)]
 rw[w64 (show-9223372036854775808≤(b-a)/4*2 by omega) (by omega)]
 rw[w64 (show-9223372036854775808≤a+(b-a)/4*2 by omega) (by omega)]
 rw[w64 (show-9223372036854775808≤a+(b-a)/4*2+1 by omega) (by omega),w64 (show-9223372036854775808≤a+(b-a)/4*2-1 by omega) (by omega)]
 simp only[h8,decide_true,cond_true]
 obtain⟨y,hy,g1,g2⟩:=pow2_spec (b-a) h8 (by omega)
 rw[hy,bs,wu64 (show 0≤y-1 by omega) (by omega)]
 refine AW (λs=>Rg a b l0 s.1∧a+(b-a)/4*2-1≤s.2.1∧s.2.1≤a+(b-a)/4*2+2) (λs=>(a+(b-a)/4*2+2-s.2.1).toNat) (λr=>Rg a b l0 r) ?_ ?_ ?_
 ·rintro⟨l,i,z⟩ ⟨hR,k1,k2⟩
  dsimp only at hR k1 k2 ⊢
  have hll:=hR.len
  by_cases hi:i≤a+(b-a)/4*2+1
  ·simp only[hi,decide_true,cond_true,D.v0,bs]
   obtain⟨t1,t2⟩:=iand_small (A1 .u64 (A1 .u64 (A1 .u64 z (ishl .u64 z 13)) (Bq .u64 (A1 .u64 z (ishl .u64 z 13)) 7)) (ishl .u64 (A1 .u64 (A1 .u64 z (ishl .u64 z 13)) (Bq .u64 (A1 .u64 z (ishl .u64 z 13)) 7)) 17)) (y-1) (by omega) (by omega)
   revert t1 t2
   generalize iand .u64 (A1 .u64 (A1 .u64 (A1 .u64 z (ishl .u64 z 13)) (Bq .u64 (A1 .u64 z (ishl .u64 z 13)) 7)) (ishl .u64 (A1 .u64 (A1 .u64 z (ishl .u64 z 13)) (Bq .u64 (A1 .u64 z (ishl .u64 z 13)) 7)) 17)) (y-1)=t
   generalize (A1 .u64 (A1 .u64 (A1 .u64 z (ishl .u64 z 13)) (Bq .u64 (A1 .u64 z (ishl .u64 z 13)) 7)) (ishl .u64 (A1 .u64 (A1 .u64 z (ishl .u64 z 13)) (Bq .u64 (A1 .u64 z (ishl .u64 z 13)) 7)) 17))=z'
   intro t1 t2
   rw[w64 (show-9223372036854775808≤t by omega) (by omega),w64 (show-9223372036854775808≤t-(b-a) by omega) (by omega)]
   have hc:∃o,(bif decide (b-a≤t) then some (t-(b-a)) else some t)=some o∧0≤o∧o<b-a:=by
    by_cases h:b-a≤t
    ·exact⟨t-(b-a),by simp[h],by omega,by omega⟩
    ·exact⟨t,by simp[h],by omega,by omega⟩
   obtain⟨o,ho,o1,o2⟩:=hc
   rw[ho,bs,w64 (show-9223372036854775808≤a+o by omega) (by omega),w64 (show-9223372036854775808≤i+1 by omega) (by omega)]
   have r1:idx l i=some (el l i):=AU (by omega) (by omega)
   have r2:idx l (a+o)=some (el l (a+o)):=AU (by omega) (by omega)
   have r3:∀x,idx (l.set i.toNat x) (a+o)=some (el (l.set i.toNat x) (a+o)):=λx=>Bn (by omega) (by omega)
   refine⟨.inl (sw l i (a+o),i+1,z'),?_,⟨hR.trans (Rg.swap ha (by omega) (by omega) (by omega) (by omega) (by omega)),by dsimp only;omega,by dsimp only;omega⟩,by dsimp only;omega⟩
   simp only[r1,r2,r3,bs]
   rfl
  ·exact⟨.inr l,by simp only[hi,decide_false,cond_false],hR⟩
 ·exact⟨Rg.refl _ _ _,by dsimp only;omega,by dsimp only;omega⟩
 ·rintro r hr
  exact⟨r,rfl,hr⟩
end Go.Sx.Gs

namespace Go.Sx.Gs
variable {α : Type} [Srtd α]
def kid (i c:Int):Prop:=c=2*i+1∨c=2*i+2
theorem Ea (l0:List α)(hG:Good l0)(lo hi f:Int)(h0:0≤lo)(hf:0≤f)(hlh:lo≤hi)(hb:f+hi≤l0.length)(hlen:l0.length≤1000000)
  (hH:∀i c,lo<i→kid i c→c<hi→at' l0 (f+c)≤at' l0 (f+i)):
  ∃l',DG.siftDown Srtd.cmp l0 lo hi f=some l'∧Rg (f+lo) (f+hi) l0 l'∧∀i c,lo≤i→kid i c→c<hi→at' l' (f+c)≤at' l' (f+i):=by
 unfold DG.siftDown
 refine AW (λs=>Rg (f+lo) (f+hi) l0 s.1∧lo≤s.2∧s.2≤hi∧(∀i c,lo≤i→i≠s.2→kid i c→c<hi→at' s.1 (f+c)≤at' s.1 (f+i))∧(∀p c,lo≤p→kid p s.2→kid s.2 c→c<hi→at' s.1 (f+c)≤at' s.1 (f+p)))
  (λs=>(hi-s.2).toNat)
  (λr=>match r with| .inl l'=>Rg (f+lo) (f+hi) l0 l'∧∀i c,lo≤i→kid i c→c<hi→at' l' (f+c)≤at' l' (f+i)| .inr l'=>Rg (f+lo) (f+hi) l0 l'∧∀i c,lo≤i→kid i c→c<hi→at' l' (f+c)≤at' l' (f+i)) ?_
  ⟨Rg.refl _ _ _,Int.le_refl _,hlh,λi c h1 h2 h3 h4=>hH i c (by dsimp only at h2;omega) h3 h4,λp c h1 h2 h3 h4=>by unfold kid at h2;dsimp only at h2;omega⟩ ?_
 ·rintro⟨l,r⟩ ⟨hR,g1,g2,g3,g4⟩
  dsimp only at hR g1 g2 g3 g4 ⊢
  have hll:=hR.len
  rw[w64 (show-9223372036854775808≤2*r by omega) (by omega),w64 (show-9223372036854775808≤2*r+1 by omega) (by omega)]
  rw[w64 (show-9223372036854775808≤2*r+1+1 by omega) (by omega),w64 (show-9223372036854775808≤f+(2*r+1) by omega) (by omega),w64 (show-9223372036854775808≤f+(2*r+1)+1 by omega) (by omega),w64 (show-9223372036854775808≤f+r by omega) (by omega)]
  by_cases hc:hi≤2*r+1
  ·simp only[hc,decide_true,cond_true]
   refine⟨_,rfl,hR,λi c h1 h2 h3=> ?_⟩
   by_cases e:i=r
   ·subst e;unfold kid at h2;omega
   ·exact g3 i c h1 e h2 h3
  ·simp only[hc,decide_false,cond_false]
   refine BR (λb:Bool=>(b=true→2*r+2<hi∧at' l (f+(2*r+1))<at' l (f+(2*r+2)))∧(b=false→2*r+2<hi→at' l (f+(2*r+2))≤at' l (f+(2*r+1)))) ?_ ?_
   ·by_cases h2:2*r+1+1<hi
    ·have r1:idx l (f+(2*r+1))=some (el l (f+(2*r+1))):=AU (by omega) (by omega)
     have r2:idx l (f+(2*r+1)+1)=some (el l (f+(2*r+1)+1)):=AU (by omega) (by omega)
     obtain⟨v,cv,hv⟩:=Cn (hR.good hG) (i:=f+(2*r+1)) (j:=f+(2*r+1)+1) (by omega) (by omega) (by omega) (by omega)
     simp only[h2,decide_true,cond_true,r1,r2,cv,hv,bs]
     rw[show f+(2*r+1)+1=f+(2*r+2) by omega]
     refine⟨_,rfl,λh=>⟨by omega,of_decide_eq_true h⟩,λh _=> ?_⟩
     have:=of_decide_eq_false h
     omega
    ·simp only[h2,decide_false,cond_false]
     exact⟨_,rfl,(λh=>by cases h),(λ_ h=>by omega)⟩
   ·rintro b ⟨hbb,hbf⟩
    have hch:∃c,(bif b then some (2*r+1+1) else some (2*r+1))=some c∧(b=true→c=2*r+2)∧(b=false→c=2*r+1):=by
     cases b
     ·exact⟨2*r+1,rfl,by simp,by simp⟩
     ·exact⟨2*r+2,by simp;omega,by simp,by simp⟩
    obtain⟨c,ec,c1,c2⟩:=hch
    have hkc:kid r c:=by unfold kid;cases b<;>simp at c1 c2<;>omega
    have hchi:c<hi:=by
     cases b
     ·have:=c2 rfl;omega
     ·have:=c1 rfl;have:=hbb rfl;omega
    rw[ec,bs,w64 (show-9223372036854775808≤f+c by unfold kid at hkc;omega) (by omega)]
    have hcr:r<c:=by unfold kid at hkc;omega
    have t1:idx l (f+r)=some (el l (f+r)):=AU (by omega) (by omega)
    have t2:idx l (f+c)=some (el l (f+c)):=AU (by omega) (by omega)
    have t3:∀x,idx (l.set (f+r).toNat x) (f+c)=some (el (l.set (f+r).toNat x) (f+c)):=λx=>Bn (by omega) (by omega)
    obtain⟨v,cv,hv⟩:=Cn (hR.good hG) (i:=f+r) (j:=f+c) (by omega) (by omega) (by omega) (by omega)
    have hbest:∀d,kid r d→d<hi→at' l (f+d)≤at' l (f+c):=λd hd hdh=>by
     cases b
     ·have e:=c2 rfl
      subst e
      rcases hd with rfl|rfl
      ·exact Int.le_refl _
      ·exact hbf rfl hdh
     ·have e:=c1 rfl
      subst e
      rcases hd with rfl|rfl
      ·have:=(hbb rfl).2;omega
      ·exact Int.le_refl _
    by_cases hlt:at' l (f+r)<at' l (f+c)
    ·refine⟨.inl (sw l (f+r) (f+c),c),?_,⟨hR.trans (Rg.swap (by omega) (by omega) (by omega) (by omega) (by omega) (by omega)),by dsimp only;omega,by dsimp only;omega,λi d h1 h2 h3 h4=> ?_,λp d h1 h2 h3 h4=> ?_⟩,by dsimp only;omega⟩
     ·simp only[t1,t2,t3,cv,hv,hlt,decide_true,Bool.not_true,cond_false,bs]
      rfl
     ·dsimp only at h2 ⊢
      have hd0:i<d:=by unfold kid at h3;omega
      rw[Bf (by omega) (by omega) (by omega) (by omega) (by omega),Bf (by omega) (by omega) (by omega) (by omega) (by omega)]
      rw[if_neg (show¬f+i=f+c by omega)]
      by_cases e:i=r
      ·subst e
       rw[if_pos rfl]
       by_cases e2:d=c
       ·subst e2;rw[if_pos rfl];omega
       ·rw[if_neg (show¬f+d=f+c by omega),if_neg (show¬f+d=f+i by omega)]
        exact hbest d h3 h4
      ·rw[if_neg (show¬f+i=f+r by omega)]
       have e2:d≠c:=λe2=>by subst e2;unfold kid at h3 hkc;omega
       rw[if_neg (show¬f+d=f+c by omega)]
       by_cases e3:d=r
       ·subst e3
        rw[if_pos rfl]
        exact g4 i c h1 h3 hkc hchi
       ·rw[if_neg (show¬f+d=f+r by omega)]
        exact g3 i d h1 e h3 h4
     ·dsimp only at h2 h3 ⊢
      have e:p=r:=by unfold kid at h2 hkc;omega
      subst e
      have hd0:c<d:=by unfold kid at h3;omega
      rw[Bf (by omega) (by omega) (by omega) (by omega) (by omega),Bf (by omega) (by omega) (by omega) (by omega) (by omega)]
      rw[if_neg (show¬f+d=f+c by omega),if_neg (show¬f+d=f+p by omega),if_neg (show¬f+p=f+c by omega),if_pos rfl]
      exact g3 c d (by omega) (by omega) h3 h4
    ·refine⟨.inr (.inr l),?_,hR,λi d h1 h2 h3=> ?_⟩
     ·simp only[t1,t2,cv,hv,hlt,decide_false,Bool.not_false,cond_true,bs]
     ·by_cases e:i=r
      ·subst e
       have:=hbest d h2 h3
       omega
      ·exact g3 i d h1 e h2 h3
 ·rintro(l|l) h
  ·exact⟨_,rfl,h⟩
  ·exact⟨_,rfl,h⟩
theorem heap_root {l:List α}{f hi:Int}(hH:∀i c,0≤i→kid i c→c<hi→at' l (f+c)≤at' l (f+i)):∀(n:Nat) (k:Int),k.toNat≤n→0≤k→k<hi→at' l (f+k)≤at' l (f+0):=by
 intro n
 induction n with
 |zero=>intro k h1 h2 h3;rw[show k=0 by omega];exact Int.le_refl _
 |succ n ih=>
  intro k h1 h2 h3
  by_cases h:k=0
  ·subst h;exact Int.le_refl _
  ·have hk:kid ((k-1)/2) k:=by unfold kid;omega
   have a:=hH ((k-1)/2) k (by omega) hk h3
   have b:=ih ((k-1)/2) (by omega) (by omega) (by omega)
   omega
theorem heapSort_spec (l0:List α)(hG:Good l0)(a b:Int)(ha:0≤a)(hab:a≤b)(hb:b≤l0.length)(hlen:l0.length≤1000000):
  ∃l',DG.heapSort Srtd.cmp l0 a b=some l'∧Rg a b l0 l'∧Srt l' a b:=by
 unfold DG.heapSort
 rw[w64 (show-9223372036854775808≤b-a by omega) (by omega),w64 (show-9223372036854775808≤b-a-1 by omega) (by omega)]
 have e2: -1≤(b-a-1).tdiv 2∧(b-a-1).tdiv 2≤b-a∧b-a≤2*(b-a-1).tdiv 2+2:=by
  by_cases h:1≤b-a
  ·rw[Int.tdiv_eq_ediv_of_nonneg (by omega)];omega
  ·have:b-a-1= -1:=by omega
   have e:(-1:Int).tdiv 2=0:=by decide
   rw[this,e];omega
 rw[w64 (show-9223372036854775808≤(b-a-1).tdiv 2 by omega) (by omega)]
 generalize (b-a-1).tdiv 2=st at e2
 refine AW (λs=>Rg a b l0 s.1∧-1≤s.2∧s.2≤b-a∧∀i c,s.2<i→kid i c→c<b-a→at' s.1 (a+c)≤at' s.1 (a+i)) (λs=>(s.2+1).toNat)
  (λr=>Rg a b l0 r∧∀i c,0≤i→kid i c→c<b-a→at' r (a+c)≤at' r (a+i)) ?_ ⟨Rg.refl _ _ _,by dsimp only;omega,by dsimp only;omega,λi c h1 h2 h3=>by unfold kid at h2;dsimp only at h1;omega⟩ ?_
 ·rintro⟨l,i⟩ ⟨hR,g1,g2,g3⟩
  dsimp only at hR g1 g2 g3 ⊢
  have hll:=hR.len
  by_cases hi:0≤i
  ·simp only[hi,decide_true,cond_true]
   obtain⟨l',e,r1,r2⟩:=Ea l (hR.good hG) i (b-a) a hi ha (by omega) (by omega) (by omega) g3
   rw[e,bs,w64 (show-9223372036854775808≤i-1 by omega) (by omega)]
   exact⟨_,rfl,⟨hR.trans (r1.widen (by omega) (by omega) ha),by dsimp only;omega,by dsimp only;omega,λp c h1 h2 h3=>r2 p c (by dsimp only at h1;omega) h2 h3⟩,by dsimp only;omega⟩
  ·simp only[hi,decide_false,cond_false]
   exact⟨_,rfl,hR,λp c h1 h2 h3=>g3 p c (by omega) h2 h3⟩
 ·rintro l1 ⟨hR1,hH1⟩
  refine AW (λs=>Rg a b l0 s.1∧-1≤s.2∧s.2<b-a∧(∀i c,0≤i→kid i c→c≤s.2→at' s.1 (a+c)≤at' s.1 (a+i))∧(∀p q,s.2<p→p<q→q<b-a→at' s.1 (a+p)≤at' s.1 (a+q))∧(∀p q,0≤p→p≤s.2→s.2<q→q<b-a→at' s.1 (a+p)≤at' s.1 (a+q))) (λs=>(s.2+1).toNat)
   (λr=>Rg a b l0 r∧Srt r a b) ?_ ⟨hR1,by dsimp only;omega,by dsimp only;omega,λi c h1 h2 h3=>hH1 i c h1 h2 (by dsimp only at h3;omega),λp q h1 h2 h3=>by dsimp only at h1;omega,λp q h1 h2 h3 h4=>by dsimp only at h3;omega⟩ (λr hr=>⟨r,rfl,hr⟩)
  rintro⟨l,i⟩ ⟨hR,g1,g2,g3,g4,g5⟩
  dsimp only at hR g1 g2 g3 g4 g5 ⊢
  have hll:=hR.len
  by_cases hi:0≤i
  ·rw[w64 (show-9223372036854775808≤a+i by omega) (by omega)]
   have t1:idx l a=some (el l a):=AU (by omega) (by omega)
   have t2:idx l (a+i)=some (el l (a+i)):=AU (by omega) (by omega)
   have t3:∀x,idx (l.set a.toNat x) (a+i)=some (el (l.set a.toNat x) (a+i)):=λx=>Bn (by omega) (by omega)
   simp only[hi,decide_true,cond_true,t1,t2,t3,bs]
   rw[show (l.set a.toNat (el l (a+i))).set (a+i).toNat (el l a)=sw l a (a+i) from rfl]
   have hRs:Rg a (a+(i+1)) l (sw l a (a+i)):=Rg.swap ha (by omega) (by omega) (by omega) (by omega) (by omega)
   have sat:∀k,0≤k→at' (sw l a (a+i)) (a+k)=if k=i then at' l a else if k=0 then at' l (a+i) else at' l (a+k):=λk hk=>by
    rw[Bf (by omega) (by omega) (by omega) (by omega) (by omega)]
    by_cases c1:k=i
    ·subst c1;simp
    ·rw[if_neg (show¬a+k=a+i by omega),if_neg c1]
     by_cases c2:k=0
     ·subst c2;simp
     ·rw[if_neg (show¬a+k=a by omega),if_neg c2]
   have hroot:∀k,0≤k→k≤i→at' l (a+k)≤at' l a:=λk k1 k2=>by
    have:=heap_root (hi:=i+1) (λp c h1 h2 h3=>g3 p c h1 h2 (by omega)) k.toNat k (Nat.le_refl _) k1 (by omega)
    rwa [Int.add_zero] at this
   have hsl:(sw l a (a+i)).length=l.length:=sw_len _ _ _
   obtain⟨l',e,r1,r2⟩:=Ea (sw l a (a+i)) (hRs.good (hR.good hG)) 0 i a (Int.le_refl _) ha hi (by omega) (by omega) (λp c h1 h2 h3=>by
    have hc:p<c:=by unfold kid at h2;omega
    rw[sat c (by omega),sat p (by omega),if_neg (by omega),if_neg (by omega),if_neg (by omega),if_neg (by omega)]
    exact g3 p c (by omega) h2 (by omega))
   rw[e,bs,w64 (show-9223372036854775808≤i-1 by omega) (by omega)]
   rw[Int.add_zero] at r1
   have same:∀k,i≤k→at' l' (a+k)=at' (sw l a (a+i)) (a+k):=λk hk=>r1.out (a+k) (by omega) (.inr (by omega))
   have big:∀k,i<k→k<b-a→at' l' (a+k)=at' l (a+k):=λk hk hk2=>by
    rw[same k (by omega),sat k (by omega),if_neg (by omega),if_neg (by omega)]
   have ati:at' l' (a+i)=at' l a:=by rw[same i (Int.le_refl _),sat i hi,if_pos rfl]
   have low:∀Q:Int→Prop,(∀k,0≤k→k≤i→Q (at' l (a+k)))→∀k,0≤k→k<i→Q (at' l' (a+k)):=λQ hQ k k1 k2=>
    r1.all Q (λm m1 m2=>by
     have h1:=sat (m-a) (by omega)
     rw[show a+(m-a)=m by omega] at h1
     rw[h1]
     split
     ·have:=hQ 0 (by omega) hi;rwa [Int.add_zero] at this
     ·split
      ·exact hQ i hi (Int.le_refl _)
      ·have:=hQ (m-a) (by omega) (by omega);rwa [show a+(m-a)=m by omega] at this) (a+k) (by omega) (by omega)
   refine⟨_,rfl,⟨hR.trans ((hRs.widen (Int.le_refl a) (by omega) ha).trans (r1.widen (Int.le_refl a) (by omega) ha)),by dsimp only;omega,by dsimp only;omega,λp c h1 h2 h3=> ?_,λp q h1 h2 h3=> ?_,λp q h1 h2 h3 h4=> ?_⟩,by dsimp only;omega⟩
   ·dsimp only at h3 ⊢;exact r2 p c h1 h2 (by omega)
   ·dsimp only at h1 ⊢
    by_cases c1:p=i
    ·subst c1
     rw[ati,big q h2 h3]
     have:=g5 0 q (Int.le_refl _) hi h2 h3
     rwa [Int.add_zero] at this
    ·rw[big p (by omega) (by omega),big q (by omega) h3]
     exact g4 p q (by omega) h2 h3
   ·dsimp only at h2 h3 ⊢
    by_cases c1:q=i
    ·subst c1
     rw[ati]
     exact low (λx=>x≤at' l a) hroot p h1 (by omega)
    ·rw[big q (by omega) h4]
     exact low (λx=>x≤at' l (a+q)) (λk k1 k2=>g5 k q k1 k2 (by omega) h4) p h1 (by omega)
  ·simp only[hi,decide_false,cond_false]
   refine⟨_,rfl,hR,λp q h1 h2 h3=> ?_⟩
   have:=g4 (p-a) (q-a) (by omega) (by omega) (by omega)
   rwa [show a+(p-a)=p by omega,show a+(q-a)=q by omega] at this
end Go.Sx.Gs

namespace Go.Sx.Gs
variable {α : Type} [Srtd α]
def Out (l:List α)(a0 b0 a b:Int):Prop:=∀i j,a0≤i→i<j→j<b0→¬(a≤i∧j<b)→at' l i≤at' l j
theorem Out.keep {a0 a b b0:Int}{l l':List α}(h:Rg a b l l')(h0:0≤a0)(ha:a0≤a)(hb:b≤b0)(c:Out l a0 b0 a b):Out l' a0 b0 a b:=by
 intro i j h1 h2 h3 h4
 by_cases hi:a≤i∧i<b
 ·rw[h.out j (by omega) (by omega)]
  exact h.all (λx=>x≤at' l j) (λk k1 k2=>c k j (by omega) (by omega) h3 (by omega)) i hi.1 hi.2
 ·rw[h.out i (by omega) (by omega)]
  by_cases hj:a≤j∧j<b
  ·exact h.all (λx=>at' l i≤x) (λk k1 k2=>c i k (by omega) (by omega) (by omega) (by omega)) j hj.1 hj.2
  ·rw[h.out j (by omega) (by omega)];exact c i j h1 h2 h3 h4
theorem pdqsort_spec :∀(n:Nat) (l0:List α) (a0 b0 lim:Int),0≤a0→a0≤b0→b0≤l0.length→l0.length≤1000000→Good l0→0≤lim→lim≤64→
  (0<a0→∀k,a0≤k→k<b0→at' l0 (a0-1)≤at' l0 k)→b0-a0<n→∃l',DG.pdqsortR Srtd.cmp n l0 a0 b0 lim=some l'∧Rg a0 b0 l0 l'∧Srt l' a0 b0:=by
 intro n
 induction n with
 |zero=>intro l0 a0 b0 lim h1 h2 h3 h4 hG h7 h8 h9 h10;omega
 |succ n ih=>
  intro l0 a0 b0 lim h1 h2 h3 h4 hG h7 h8 h9 h10
  unfold DG.pdqsortR
  refine AW (λs=>Rg a0 b0 l0 s.1∧Out s.1 a0 b0 s.2.1 s.2.2.1∧a0≤s.2.1∧s.2.1≤s.2.2.1∧s.2.2.1≤b0∧0≤s.2.2.2.1∧s.2.2.2.1≤64∧(0<s.2.1→∀k,s.2.1≤k→k<s.2.2.1→at' s.1 (s.2.1-1)≤at' s.1 k))
   (λs=>(s.2.2.1-s.2.1).toNat) (λr=>Rg a0 b0 l0 r∧Srt r a0 b0) ?_ ?_ ?_
  ·rintro⟨l,a,b,lm,bal,par⟩ ⟨hR,hO,g1,g2,g3,g5,g6,g7⟩
   dsimp only at hR hO g1 g2 g3 g5 g6 g7 ⊢
   have hll:=hR.len
   have fin:∀l',Rg a b l l'→Srt l' a b→Rg a0 b0 l0 l'∧Srt l' a0 b0:=λl' hr hs=>
    ⟨hR.trans (hr.widen g1 g3 h1),λi j k1 k2 k3=>by
     by_cases hc:a≤i∧j<b
     ·exact hs i j hc.1 k2 hc.2
     ·exact(hO.keep hr h1 g1 g3) i j k1 k2 k3 hc⟩
   rw[w64 (show-9223372036854775808≤b-a by omega) (by omega)]
   by_cases hs:b-a≤12
   ·obtain⟨l',e,r1,r2⟩:=Ej l a b (by omega) g2 (by omega) (by omega) (hR.good hG)
    refine⟨.inr l',?_,fin l' r1 r2⟩
    simp only[hs,decide_true,cond_true,e,bs]
   ·simp only[hs,decide_false,cond_false]
    by_cases hlm:lm=0
    ·have hl0:(lm==0)=true:=by simp[hlm]
     obtain⟨l',e,r1,r2⟩:=heapSort_spec l (hR.good hG) a b (by omega) g2 (by omega) (by omega)
     refine⟨.inr l',?_,fin l' r1 r2⟩
     simp only[hl0,cond_true,e,bs]
    have hl0:(lm==0)=false:=by simp[hlm]
    simp only[hl0,cond_false]
    refine BR (λq:List α×Int=>Rg a b l q.1∧0≤q.2∧q.2≤64) ?_ ?_
    ·cases bal
     ·obtain⟨l1,e,r1⟩:=Eo l a b (by omega) (by omega) (by omega) (by omega)
      refine⟨(l1,lm-1),?_,r1,by dsimp only;omega,by dsimp only;omega⟩
      simp only[Bool.not_false,cond_true,e,bs]
      rw[w64 (by omega) (by omega)]
     ·exact⟨(l,lm),rfl,Rg.refl _ _ _,by dsimp only;omega,by dsimp only;omega⟩
    rintro⟨l1,lm1⟩ ⟨hr1,k2,k3⟩
    dsimp only at hr1 k2 k3 ⊢
    have hl1:=hr1.len
    obtain⟨y,ey,c1,c2,c3⟩:=EI l1 ((hR.trans (hr1.widen g1 g3 h1)).good hG) a b (by omega) (by omega) (by omega) (by omega)
    rw[ey,bs]
    refine BR (λq:List α×Int×Int=>Rg a b l q.1∧a≤q.2.1∧q.2.1<b) ?_ ?_
    ·cases (y.2.1==2)
     ·exact⟨_,rfl,by dsimp only;rw[c1];exact hr1,c2,c3⟩
     ·obtain⟨l2,e2,r2⟩:=Ex l1 a b (by omega) (by omega) (by omega) (by omega)
      rw[c1]
      simp only[cond_true,e2,bs]
      rw[w64 (show-9223372036854775808≤b-1 by omega) (by omega),w64 (show-9223372036854775808≤y.1-a by omega) (by omega),w64 (show-9223372036854775808≤b-1-(y.1-a) by omega) (by omega)]
      exact⟨_,rfl,hr1.trans r2,by dsimp only;omega,by dsimp only;omega⟩
    rintro⟨l2,p,hint⟩ ⟨hr2,p1,p2⟩
    dsimp only at hr2 p1 p2 ⊢
    have hl2:=hr2.len
    refine BR (λq:List α ⊕ List α=>match q with| .inl q=>Rg a b l q| .inr q=>Rg a b l q∧Srt q a b) ?_ ?_
    ·cases ((bal&&par)&&(hint==1))
     ·exact⟨.inl l2,rfl,hr2⟩
     ·obtain⟨y2,e2,d1,d2⟩:=DT l2 ((hR.trans (hr2.widen g1 g3 h1)).good hG) a b (by omega) (by omega) (by omega) (by omega) (λha k m1 m2=>by
       rw[hr2.out (a-1) (by omega) (.inl (by omega))]
       exact hr2.all (λx=>at' l (a-1)≤x) (g7 ha) k m1 m2)
      simp only[cond_true,e2,bs]
      cases hy:y2.1
      ·exact⟨.inl y2.2,rfl,hr2.trans d1⟩
      ·exact⟨.inr y2.2,rfl,hr2.trans d1,d2 hy⟩
    rintro(q|q) hq
    case inr=>
     exact⟨.inr q,rfl,fin q hq.1 hq.2⟩
    dsimp only at hq ⊢
    clear hr2 hl2
    have hr2:Rg a b l q:=hq
    have hl2:=hr2.len
    have hGq:Good q:=(hR.trans (hr2.widen g1 g3 h1)).good hG
    have hO2:=hO.keep hr2 h1 g1 g3
    have g7':0<a→∀k,a≤k→k<b→at' q (a-1)≤at' q k:=λha k m1 m2=>by
     rw[hr2.out (a-1) (by omega) (.inl (by omega))]
     exact hr2.all (λx=>at' l (a-1)≤x) (g7 ha) k m1 m2
    refine BR (λc:Bool=>c=true→0<a∧at' q p≤at' q (a-1)) ?_ ?_
    ·by_cases ha:0<a
     ·have r1:idx q (a-1)=some (el q (a-1)):=AU (by omega) (by omega)
      have r2:idx q p=some (el q p):=AU (by omega) (by omega)
      rw[w64 (show-9223372036854775808≤a-1 by omega) (by omega)]
      obtain⟨v,cv,hv⟩:=Cn hGq (i:=a-1) (j:=p) (by omega) (by omega) (by omega) (by omega)
      simp only[ha,decide_true,cond_true,r1,r2,cv,hv,bs]
      exact⟨_,rfl,λh=>⟨by trivial,by simpa using h⟩⟩
     ·simp only[ha,decide_false,cond_false]
      exact⟨_,rfl,λh=>by cases h⟩
    intro c hc
    cases c
    ·
     simp only[cond_false]
     obtain⟨⟨mid,par',l3⟩,e3,P⟩:=partition_spec q a b p (by omega) (by omega) (by omega) hGq p1 p2
     rw[e3,bs]
     obtain⟨hr3,m1,m2,m3,m4⟩:=P
     dsimp only at hr3 m1 m2 m3 m4 ⊢
     have hl3:=hr3.len
     have hO3:=hO2.keep hr3 h1 g1 g3
     have g7'':0<a→∀k,a≤k→k<b→at' l3 (a-1)≤at' l3 k:=λha k n1 n2=>by
      rw[hr3.out (a-1) (by omega) (.inl (by omega))]
      exact hr3.all (λx=>at' q (a-1)≤x) (g7' ha) k n1 n2
     have hR3:Rg a0 b0 l0 l3:=hR.trans ((hr2.trans hr3).widen g1 g3 h1)
     rw[w64 (show-9223372036854775808≤mid-a by omega) (by omega),w64 (show-9223372036854775808≤b-mid by omega) (by omega),w64 (show-9223372036854775808≤mid+1 by omega) (by omega)]
     by_cases hside:mid-a<b-mid
     ·simp only[hside,decide_true,cond_true]
      obtain⟨l4,e4,r4,s4⟩:=ih l3 a mid lm1 (by omega) m1 (by omega) (by omega) (hR3.good hG) k2 k3 (λha k n1 n2=>g7'' ha k n1 (by omega)) (by omega)
      rw[e4,bs]
      have hl4:=r4.len
      have em:∀k,mid≤k→at' l4 k=at' l3 k:=λk hk=>r4.out k (by omega) (.inr hk)
      have lf:∀k,a≤k→k<mid→at' l4 k≤at' l4 mid:=λk n1 n2=>by
       rw[em mid (Int.le_refl _)];exact r4.all (λx=>x≤at' l3 mid) m3 k n1 n2
      refine⟨.inl _,rfl,⟨hR3.trans (r4.widen g1 (by omega) h1),?_,by dsimp only;omega,by dsimp only;omega,g3,k2,k3,?_⟩,by dsimp only;omega⟩
      ·have hO4:=hO3.keep (r4.widen (Int.le_refl a) (by omega) (by omega)) h1 g1 g3
       intro i j n1 n2 n3 n4
       dsimp only at n4 ⊢
       by_cases hin:a≤i∧j<b
       ·by_cases hj:j<mid
        ·exact s4 i j hin.1 n2 hj
        ·have hi:i≤mid:=by omega
         have e1:at' l4 i≤at' l4 mid:=by
          by_cases e:i=mid
          ·rw[e];exact Int.le_refl _
          ·exact lf i hin.1 (by omega)
         have e2:at' l4 mid≤at' l4 j:=by
          by_cases e:j=mid
          ·rw[e];exact Int.le_refl _
          ·rw[em mid (Int.le_refl _),em j (by omega)];exact m4 j (by omega) hin.2
         omega
       ·exact hO4 i j n1 n2 n3 hin
      ·intro _ k n1 n2
       dsimp only at n1 n2 ⊢
       rw[show mid+1-1=mid by omega,em mid (Int.le_refl _),em k (by omega)]
       exact m4 k (by omega) n2
     ·simp only[hside,decide_false,cond_false]
      obtain⟨l4,e4,r4,s4⟩:=ih l3 (mid+1) b lm1 (by omega) (by omega) (by omega) (by omega) (hR3.good hG) k2 k3 (λ_ k n1 n2=>by rw[show mid+1-1=mid by omega];exact m4 k (by omega) n2) (by omega)
      rw[e4,bs]
      have hl4:=r4.len
      have em:∀k,0≤k→k≤mid→at' l4 k=at' l3 k:=λk h0 hk=>r4.out k h0 (.inl (by omega))
      have rt:∀k,mid<k→k<b→at' l4 mid≤at' l4 k:=λk n1 n2=>by
       rw[em mid (by omega) (Int.le_refl _)];exact r4.all (λx=>at' l3 mid≤x) (λk q1 q2=>m4 k (by omega) q2) k (by omega) n2
      refine⟨.inl _,rfl,⟨hR3.trans (r4.widen (by omega) g3 h1),?_,g1,m1,by dsimp only;omega,k2,k3,?_⟩,by dsimp only;omega⟩
      ·have hO4:=hO3.keep (r4.widen (by omega) (Int.le_refl b) (by omega)) h1 g1 g3
       intro i j n1 n2 n3 n4
       dsimp only at n4 ⊢
       by_cases hin:a≤i∧j<b
       ·by_cases hi:mid<i
        ·exact s4 i j (by omega) n2 hin.2
        ·have hj:mid≤j:=by omega
         have e1:at' l4 i≤at' l4 mid:=by
          by_cases e:i=mid
          ·rw[e];exact Int.le_refl _
          ·rw[em i (by omega) (by omega),em mid (by omega) (Int.le_refl _)];exact m3 i hin.1 (by omega)
         have e2:at' l4 mid≤at' l4 j:=by
          by_cases e:j=mid
          ·rw[e];exact Int.le_refl _
          ·exact rt j (by omega) hin.2
         omega
       ·exact hO4 i j n1 n2 n3 hin
      ·intro ha k n1 n2
       dsimp only at ha n1 n2 ⊢
       rw[em (a-1) (by omega) (by omega),em k (by omega) (by omega)]
       exact g7'' ha k n1 (by omega)
    ·
     simp only[cond_true]
     obtain⟨hc1,hc2⟩:=hc rfl
     obtain⟨⟨mid,l3⟩,e3,hr3,m1,m2,m3,m4⟩:=Ec q a b p (by omega) (by omega) (by omega) hGq p1 p2
     rw[e3,bs]
     dsimp only at hr3 m1 m2 m3 m4 ⊢
     have hl3:=hr3.len
     have hO3:=hO2.keep hr3 h1 g1 g3
     have lw:∀k,a≤k→k<b→at' q p≤at' l3 k:=λk n1 n2=>
      hr3.all (λx=>at' q p≤x) (λk q1 q2=>Int.le_trans hc2 (g7' hc1 k q1 q2)) k n1 n2
     refine⟨.inl _,rfl,⟨hR.trans ((hr2.trans hr3).widen g1 g3 h1),?_,by dsimp only;omega,m2,g3,k2,k3,?_⟩,by dsimp only;omega⟩
     ·intro i j n1 n2 n3 n4
      dsimp only at n4 ⊢
      by_cases hin:a≤i∧j<b
      ·have:=m3 i hin.1 (by omega)
       have:=lw j (by omega) hin.2
       omega
      ·exact hO3 i j n1 n2 n3 hin
     ·intro _ k n1 n2
      dsimp only at n1 n2 ⊢
      have:=m3 (mid-1) (by omega) (by omega)
      have:=m4 k n1 n2
      omega
  ·exact⟨Rg.refl _ _ _,λi j n1 n2 n3 n4=>by dsimp only at n4;omega,Int.le_refl _,h2,Int.le_refl _,h7,h8,h9⟩
  ·rintro r hr
   exact⟨r,rfl,hr⟩
theorem sort_spec (l:List α)(hG:Good l)(hlen:l.length≤1000000):∃l',DG.Sort Srtd.cmp l=some l'∧List.Perm l' l∧Srt l' 0 l'.length:=by
 unfold DG.Sort
 rw[wu64 (by omega) (by omega)]
 unfold D.y
 rw[if_pos (by omega),bs]
 have hb:Lib.bitLen l.length≤64:=by
  by_cases h:1≤l.length
  ·obtain⟨_,k2⟩:=EA l.length h (by omega)
   apply Classical.byContradiction
   intro hc
   have:2^22≤2^Lib.bitLen l.length:=Nat.pow_le_pow_right (by omega) (by omega)
   omega
  ·have:l.length=0:=by omega
   rw[this];decide
 have hf:=Ez
 obtain⟨l',e,r,s⟩:=pdqsort_spec Bv l 0 (l.length:Int) ((Lib.bitLen l.length:Nat):Int) (Int.le_refl _) (by omega) (Int.le_refl _) (by omega) hG (by omega) (by omega) (λh=>by omega) (by omega)
 unfold DG.pdqsort
 rw[Int.toNat_natCast,e]
 refine⟨l',rfl,r.perm,?_⟩
 rw[r.len];exact s
end Go.Sx.Gs

namespace Go.Sx
theorem list2 {l:LI}(h:l.length=2):∃a b,l=[a,b]:=by
 match l,h with
 |[a,b],_=>exact⟨a,b,rfl⟩
theorem row_inj {x y:LI}(hx:rowGood x)(hy:rowGood y)(h:rowKey x=rowKey y):x=y:=by
 obtain⟨h1,h2,h3,h4,h5⟩:=hx
 obtain⟨k1,k2,k3,k4,k5⟩:=hy
 obtain⟨a,b,rfl⟩:=list2 h1
 obtain⟨c,d,rfl⟩:=list2 k1
 unfold rowKey at h
 simp only[List.getD_cons_zero,List.getD_cons_succ] at*
 have:a=c:=by omega
 subst this
 have:b=d:=by omega
 subst this
 rfl
end Go.Sx

set_option maxRecDepth 100000
namespace Go.Proofs.YtjhajfcggfhbmaaDoor
open Go Go.Sx
open Go.Proofs.Tryd Go.Proofs.YtjhajfcggfhbmaaDoor.Tryd IntKind
variable {W w : World} {G : GH} {H : List Itm}
theorem AF :prog.follows .mixedOrders=true:=by kernel_rfl
theorem Pl5 :BI prog 5:=isAgg5
theorem Pl2 :BI prog 2:=isAgg2
theorem T49 :SlT prog 49 2 1 8 (iv 0):=⟨underlying49,Tryd.t2,by kernel_rfl,by kernel_rfl,by kernel_rfl,by kernel_rfl⟩
theorem Pl135 :BI prog 135:=isAgg135
theorem Pl3 :BI prog 3:=isAgg3
theorem T71 :SlT prog 71 3 1 8 (iv 0):=⟨underlying71,Tryd.t3,by kernel_rfl,by kernel_rfl,by kernel_rfl,by kernel_rfl⟩
theorem Wk.Q0 {x0:Int}(hW:Bo W)(m:Mem W G w (H)){y:Int}(hd:D.Q0 x0=some y):
  Calls prog 109 #[(.int .u32 x0)] w (Res W G H (λ_ Ho v=>Ho=[]∧v=(iv y))):=by
 refine Ar (args:=[(.int .u32 x0)]) (N:=14) [.tmp 2] func109 Z Z (lb Z) Z λa f=> ?_
 unfold D.Q0 at hd
 refine Ae ?_
 refine Ac f Z λa f=>Aa (Af (Ae ?_))
 refine Ab f Z λa f=>Ah f Z Z BU λa f=>Aa ?_
 rcases Ad hd with⟨aa,hd⟩|⟨aa,hd⟩
 ·refine Aj f Z aa ?_
  refine Ae ?_
  refine Ac f Z λa f=>Aa ?_
  refine Ap ?_
  obtain rfl:=sj hd
  exact⟨[(iv 32)],f.g Z,f.d,_,[],gr,m,Z,Z⟩
 ·refine Ai f Z aa ?_
  refine Al ?_
  refine Ae ?_
  refine Ab f Z λa f=>Ab f Z λa f=>l_o f (r_neg (f.e Z)) λa f=>Ah f Z Z CH λa f=>Ah f Z Z C7 λa f=>l_o f (r_shr (f.e Z) (f.e Z) (by decide)) λa f=> ?_
  have⟨ab,ac,hd⟩:=bind_some hd
  refine l_tab hW m underlying134 sizeOf5 f Z Z ac λad a ae f=>A7 m Pl5 f Z Z ae λa f=>l_o f (CF (f.e Z) ⟨_,underlying5⟩ underlying3) λa f=>Ac f Z λa f=>Aa ?_
  refine Ap ?_
  obtain rfl:=sj hd
  exact⟨[(iv (i64.wrap ab))],f.g Z,f.d,_,[],gr,m,Z,Z⟩
theorem Wk.I0 {v0:Value}{x0:LI}{x1:Int}(m:Mem W G w (H))(h0:R1 G v0 x0){y:Int}(hd:D.I0 x0 x1=some y):
  Calls prog 90 #[v0,(iv x1)] w (Res W G H (λ_ Ho v=>Ho=[]∧v=(iv y))):=by
 refine Ar (args:=[v0,(iv x1)]) (N:=19) [.tmp 4] func90 Z Z (lb Z) Z λa f=> ?_
 unfold D.I0 at hd
 refine Ae ?_
 refine Ac f Z λa f=>Aa (Af (Ae ?_))
 refine Ab f Z λa f=>Ba underlying49 f Z Z h0 λa f=>Ab f Z λa f=>Aa ?_
 have⟨aa,ab,hd⟩:=bind_some hd
 refine AG (λa w=>∃q_19':Unit,aa= .inl q_19'∧∃(ac:GH),GLe G ac∧Fr a 19 []∧Mem W ac w (H)) ?_ ?_
 ·refine Ak ?_
  refine AE (λad a w=>∃ae:Int,ae=ad∧∃(af:GH),GLe G af∧Fr a 19 [(0,v0),(1,(iv x1)),(7,(iv (x0.length:Int))),(8,(iv ae))]∧Mem W af w (H)) ab ⟨_,Z,_,gr,f.k Z,m⟩ ?_
  clear ab f m
  rintro ad ag ah ai a w ⟨ae,rfl,af,aj,f,m⟩
  have h0:=rd1 aj h0
  refine Ae ?_
  refine Ah f Z Z AI λa f=>Aa (Af ?_)
  rcases Ad ah with⟨ak,ah⟩|⟨ak,ah⟩
  ·refine Aj f Z ak ?_
   refine Al ?_
   refine Af (Ak (Ae ?_))
   refine Ab f Z λa f=>Ac f Z λa f=>Av ?_
   refine Ab f Z λa f=>Ab f Z λa f=>Ab f Z λa f=> ?_
   have⟨al,am,ah⟩:=bind_some ah
   refine BQ T49 f Z Z Z h0 am λan ao a ap aq f=> ?_
   subst aq
   refine A7 m Pl2 f Z Z ap λa f=>Ah f Z Z BU λa f=>Aa ?_
   rcases Ad ah with⟨ar,ah⟩|⟨ar,ah⟩
   ·refine Aj f Z ar ?_
    refine Ae ?_
    refine Ab f Z λa f=>Ac f Z λa f=>Aa ?_
    refine Ap ?_
    obtain rfl:=sj ah
    obtain rfl:=ai _ rfl
    obtain rfl:=sj hd
    exact⟨[(iv ae)],f.g Z,f.d,_,[],aj,m,Z,Z⟩
   ·refine Ai f Z ar ?_
    refine Al ?_
    refine An ?_
    refine Ah f Z Z As λa f=>Ab f Z λa f=>Aa ?_
    obtain rfl:=sj ah
    exact⟨_,Z,_,Z,_,aj,f.k Z,m⟩
  ·refine Ai f Z ak ?_
   refine AC Z ?_
   obtain rfl:=sj ah
   obtain rfl:=ai _ rfl
   exact⟨_,Z,_,aj,f.weak trivial,m⟩
 ·rintro a w ⟨_,rfl,ac,au,f,m⟩
  refine Ae ?_
  refine Ac f Z λa f=>Aa ?_
  refine Ap ?_
  obtain rfl:=sj hd
  exact⟨[(iv (-1))],f.g Z,f.d,_,[],au,m,Z,Z⟩
theorem Wk.N {v0:Value}{x0:LI}{x1:Int}(m:Mem W G w (H))(h0:R1 G v0 x0){y:Bool}(hd:D.N x0 x1=some y):
  Calls prog 65 #[v0,(iv x1)] w (Res W G H (λ_ Ho v=>Ho=[]∧v=(.bool y))):=by
 refine Ar (args:=[v0,(iv x1)]) (N:=9) [.tmp 4] func65 Z Z (lb Z) Z λa f=> ?_
 unfold D.N at hd
 refine Ae ?_
 refine Ac f Z λa f=>Av ?_
 refine Ab f Z λa f=>Ab f Z λa f=> ?_
 have⟨aa,ab,hd⟩:=bind_some hd
 refine Bc f Z call90 (Wk.I0 m h0 ab) λac w ad m a f=>Ah f Z Z B3 λa f=>Ac f Z λa f=>Aa ?_
 refine Ap ?_
 obtain rfl:=sj hd
 exact⟨[(.bool (decide ((0:Int)≤aa)))],f.g Z,f.d,_,[],ad,m,Z,Z⟩
theorem Wk.g0 {x0:Int}(m:Mem W G w (H)){y:Int}(hd:D.g0 x0=some y):
  Calls prog 121 #[(.int .u32 x0)] w (Res W G H (λ_ Ho v=>Ho=[]∧v=(iv y))):=by
 refine Ar (args:=[(.int .u32 x0)]) (N:=21) [.tmp 2] func121 Z Z (lb Z) Z λa f=> ?_
 unfold D.g0 at hd
 refine Ae ?_
 refine Ac f Z λa f=>Aa (Af ?_)
 refine Bb 19 AF (by kernel_rfl) m ?_
 refine Ag 0 19 Z f Z λa f=>q_p 1 19 Z f (λ_=>r_shr (f.e Z) (f.e Z) (by decide)) λa f=> ?_
 have⟨aa,ab,hd⟩:=bind_some hd
 refine q_p 2 19 Z f (λ_=>Et (f.e Z) (f.e Z) underlying9 ab) λa f=>Ag 3 19 Z f Z λa f=>q_p 4 19 Z f (λ_=>r_shr (f.e Z) (f.e Z) (by decide)) λa f=>q_p 5 19 Z f (λ_=>Ay (f.e Z) (f.e Z) CH) λa f=> ?_
 have⟨ac,ad,hd⟩:=bind_some hd
 refine q_p 6 19 Z f (λ_=>Et (f.e Z) (f.e Z) underlying9 ad) λa f=>q_p 7 19 Z f (λ_=>Ay (f.e Z) (f.e Z) As) λa f=>Ag 8 19 Z f Z λa f=>q_p 9 19 Z f (λ_=>r_shr (f.e Z) (f.e Z) (by decide)) λa f=>q_p 10 19 Z f (λ_=>Ay (f.e Z) (f.e Z) CH) λa f=> ?_
 have⟨ae,af,hd⟩:=bind_some hd
 refine q_p 11 19 Z f (λ_=>Et (f.e Z) (f.e Z) underlying9 af) λa f=>q_p 12 19 Z f (λ_=>Ay (f.e Z) (f.e Z) As) λa f=>Ag 13 19 Z f Z λa f=>q_p 14 19 Z f (λ_=>Ay (f.e Z) (f.e Z) CH) λa f=> ?_
 have⟨ag,ah,hd⟩:=bind_some hd
 refine q_p 15 19 Z f (λ_=>Et (f.e Z) (f.e Z) underlying9 ah) λa f=>q_p 16 19 Z f (λ_=>Ay (f.e Z) (f.e Z) As) λa f=>q_p 17 19 Z f (λ_=>CF (f.e Z) ⟨_,underlying5⟩ underlying3) λa f=>q_p 18 19 Z f (λ_=>CY (f.e Z)) λa f=>A2 λai w aj m=>Aa ?_
 refine Ap ?_
 obtain rfl:=sj hd
 exact⟨[(iv (i64.wrap (IntKind.u8.wrap ((IntKind.u8.wrap ((IntKind.u8.wrap (aa+ac))+ae))+ag))))],f.g Z,f.d,_,[],aj,m,Z,Z⟩
theorem Wk.P {x0:Int}(m:Mem W G w (H)){y:Int}(hd:D.P x0=some y):
  Calls prog 126 #[(iv x0)] w (Res W G H (λ_ Ho v=>Ho=[]∧v=(.int .u64 y))):=by
 refine Ar (args:=[(iv x0)]) (N:=7) [.tmp 2] func126 Z Z (lb Z) Z λa f=> ?_
 unfold D.P at hd
 refine Ae ?_
 refine Ac f Z λa f=>Av ?_
 refine Ab f Z λa f=>l_o f (CF (f.e Z) ⟨_,underlying3⟩ underlying62) λa f=> ?_
 have⟨aa,ab,hd⟩:=bind_some hd
 refine AN f Z call97 (Wk.y m ab) λac ad ae w af m ag a f=> ?_
 obtain⟨rfl,rfl⟩:=ag
 obtain⟨ah,hd⟩:=CN hd
 refine l_o f (r_shl (f.e Z) (f.e Z) ah) λa f=>Ac f Z λa f=>Aa ?_
 refine Ap ?_
 obtain rfl:=sj hd
 exact⟨[(.int .u64 (ishl .u64 1 aa))],f.g Z,f.d,_,[],af,m,Z,Z⟩
theorem Wk.v0 {b0:Nat}{aa:Int}(m:Mem W G w (ib b0 135 [(.int .u64 aa)]::H)){y:Int×Int}(hd:D.v0 aa=some y):
  Calls prog 127 #[(pb b0)] w (Res W G H (λ_ Ho v=>Ho=[ib b0 135 [(.int .u64 y.2)]]∧v=(.int .u64 y.1))):=by
 refine Ar (args:=[(pb b0)]) (N:=33) [.tmp 2] func127 Z Z (lb Z) Z λa f=> ?_
 unfold D.v0 at hd
 refine Ae ?_
 refine Ac f Z λa f=>Aa (Af ?_)
 refine Bb 9 AF (by kernel_rfl) m ?_
 refine Ag 0 9 Z f Z λa f=>q_p 1 9 Z f (λ_=>AO (f.e Z)) λa f=>CD 2 9 0 Pl135 Z Z Z f Z λa f=>Ag 3 9 Z f Z λa f=>q_p 4 9 Z f (λ_=>AO (f.e Z)) λa f=>CD 5 9 0 Pl135 Z Z Z f Z λa f=>q_p 6 9 Z f (λ_=>r_shl (f.e Z) (f.e Z) (by decide)) λa f=>q_p 7 9 Z f (λ_=>Ay (f.e Z) (f.e Z) b_xor) λa f=>q_p 8 9 Z f (λ_=>AO (f.e Z)) λa f=>A2 λab w ac m=>AP 0 0 (ds:=[(.int .u64 (A1 .u64 aa (ishl .u64 aa 13)))]) m sizeOf135 f Z Z Z (AR Z A5) Z (lb Z) Z λw m=>Aa (Af ?_)
 refine Bb 9 AF (by kernel_rfl) m ?_
 refine Ag 0 9 Z f Z λa f=>q_p 1 9 Z f (λ_=>AO (f.e Z)) λa f=>CD 2 9 0 Pl135 Z Z Z f Z λa f=>Ag 3 9 Z f Z λa f=>q_p 4 9 Z f (λ_=>AO (f.e Z)) λa f=>CD 5 9 0 Pl135 Z Z Z f Z λa f=>q_p 6 9 Z f (λ_=>r_shr (f.e Z) (f.e Z) (by decide)) λa f=>q_p 7 9 Z f (λ_=>Ay (f.e Z) (f.e Z) b_xor) λa f=>q_p 8 9 Z f (λ_=>AO (f.e Z)) λa f=>A2 λad w ae m=>AP 0 0 (ds:=[(.int .u64 (A1 .u64 (A1 .u64 aa (ishl .u64 aa 13)) (Bq .u64 (A1 .u64 aa (ishl .u64 aa 13)) 7)))]) m sizeOf135 f Z Z Z (AR Z A5) Z (lb Z) Z λw m=>Aa (Af ?_)
 refine Bb 9 AF (by kernel_rfl) m ?_
 refine Ag 0 9 Z f Z λa f=>q_p 1 9 Z f (λ_=>AO (f.e Z)) λa f=>CD 2 9 0 Pl135 Z Z Z f Z λa f=>Ag 3 9 Z f Z λa f=>q_p 4 9 Z f (λ_=>AO (f.e Z)) λa f=>CD 5 9 0 Pl135 Z Z Z f Z λa f=>q_p 6 9 Z f (λ_=>r_shl (f.e Z) (f.e Z) (by decide)) λa f=>q_p 7 9 Z f (λ_=>Ay (f.e Z) (f.e Z) b_xor) λa f=>q_p 8 9 Z f (λ_=>AO (f.e Z)) λa f=>A2 λaf w ag m=>AP 0 0 (ds:=[(.int .u64 (A1 .u64 (A1 .u64 (A1 .u64 aa (ishl .u64 aa 13)) (Bq .u64 (A1 .u64 aa (ishl .u64 aa 13)) 7)) (ishl .u64 (A1 .u64 (A1 .u64 aa (ishl .u64 aa 13)) (Bq .u64 (A1 .u64 aa (ishl .u64 aa 13)) 7)) 17)))]) m sizeOf135 f Z Z Z (AR Z A5) Z (lb Z) Z λw m=>Av ?_
 refine Ab f Z λa f=>l_o f (AO (f.e Z)) λa f=>Aw 0 0 m Pl135 f Z Z Z Z λa f=>Ac f Z λa f=>Aa ?_
 refine Ap ?_
 obtain rfl:=sj hd
 exact⟨[(.int .u64 (A1 .u64 (A1 .u64 (A1 .u64 aa (ishl .u64 aa 13)) (Bq .u64 (A1 .u64 aa (ishl .u64 aa 13)) 7)) (ishl .u64 (A1 .u64 (A1 .u64 aa (ishl .u64 aa 13)) (Bq .u64 (A1 .u64 aa (ishl .u64 aa 13)) 7)) 17)))],f.g Z,f.d,_,[ib b0 135 [(.int .u64 (A1 .u64 (A1 .u64 (A1 .u64 aa (ishl .u64 aa 13)) (Bq .u64 (A1 .u64 aa (ishl .u64 aa 13)) 7)) (ishl .u64 (A1 .u64 (A1 .u64 aa (ishl .u64 aa 13)) (Bq .u64 (A1 .u64 aa (ishl .u64 aa 13)) 7)) 17)))]],(gt ac (gt ae ag)),m,Z,Z⟩
theorem Wk.S {x0:Int}(m:Mem W G w (H)){y:Bool}(hd:D.S x0=some y):
  Calls prog 130 #[(iv x0)] w (Res W G H (λ_ Ho v=>Ho=[]∧v=(.bool y))):=by
 refine Ar (args:=[(iv x0)]) (N:=6) [.tmp 2] func130 Z Z (lb Z) Z λa f=> ?_
 unfold D.S at hd
 refine Ae ?_
 refine Ac f Z λa f=>Av ?_
 refine Ab f Z λa f=>Ab f Z λa f=>Ah f Z Z CJ λa f=>Ac f Z λa f=>Aa ?_
 refine Ap ?_
 obtain rfl:=sj hd
 exact⟨[(.bool (x0 !=x0))],f.g Z,f.d,_,[],gr,m,Z,Z⟩
theorem Wk.Q {x0 x1:Int}(m:Mem W G w (H)){y:Int}(hd:D.Q x0 x1=some y):
  Calls prog 120 #[(iv x0),(iv x1)] w (Res W G H (λ_ Ho v=>Ho=[]∧v=(iv y))):=by
 refine Ar (args:=[(iv x0),(iv x1)]) (N:=20) [.tmp 4] func120 Z Z (lb Z) Z λa f=> ?_
 unfold D.Q at hd
 refine Ae ?_
 refine Ac f Z λa f=>Av ?_
 refine Ab f Z λa f=> ?_
 have⟨aa,ab,hd⟩:=bind_some hd
 refine Bc f Z call130 (Wk.S m ab) λac w ad m a f=>Ac f Z λa f=>Av ?_
 refine Ab f Z λa f=> ?_
 have⟨ae,af,hd⟩:=bind_some hd
 refine Bc f Z call130 (Wk.S m af) λag w ah m a f=>Ac f Z λa f=>Aa (Af (Ae ?_))
 refine Ab f Z λa f=>Aa ?_
 rcases Ad hd with⟨ai,hd⟩|⟨ai,hd⟩
 ·refine Aj f Z ai ?_
  refine Af (Ae ?_)
  refine Ab f Z λa f=>Aa ?_
  rcases Ad hd with⟨aj,hd⟩|⟨aj,hd⟩
  ·refine Aj f Z aj ?_
   refine Ae ?_
   refine Ac f Z λa f=>Aa ?_
   refine Ap ?_
   obtain rfl:=sj hd
   exact⟨[(iv 0)],f.g Z,f.d,_,[],(gt ad ah),m,Z,Z⟩
  ·refine Ai f Z aj ?_
   refine Al ?_
   refine Ae ?_
   refine Ac f Z λa f=>Aa ?_
   refine Ap ?_
   obtain rfl:=sj hd
   exact⟨[(iv (-1))],f.g Z,f.d,_,[],(gt ad ah),m,Z,Z⟩
 ·refine Ai f Z ai ?_
  refine Al ?_
  refine Af (Ae ?_)
  refine Ab f Z λa f=>Aa ?_
  rcases Ad hd with⟨ak,hd⟩|⟨ak,hd⟩
  ·refine Aj f Z ak ?_
   refine Ae ?_
   refine Ac f Z λa f=>Aa ?_
   refine Ap ?_
   obtain rfl:=sj hd
   exact⟨[(iv 1)],f.g Z,f.d,_,[],(gt ad ah),m,Z,Z⟩
  ·refine Ai f Z ak ?_
   refine Al ?_
   refine Af (Ae ?_)
   refine Ab f Z λa f=>Ab f Z λa f=>Ah f Z Z AI λa f=>Aa ?_
   rcases Ad hd with⟨al,hd⟩|⟨al,hd⟩
   ·refine Aj f Z al ?_
    refine Ae ?_
    refine Ac f Z λa f=>Aa ?_
    refine Ap ?_
    obtain rfl:=sj hd
    exact⟨[(iv (-1))],f.g Z,f.d,_,[],(gt ad ah),m,Z,Z⟩
   ·refine Ai f Z al ?_
    refine Al ?_
    refine Af (Ae ?_)
    refine Ab f Z λa f=>Ab f Z λa f=>Ah f Z Z CC λa f=>Aa ?_
    rcases Ad hd with⟨am,hd⟩|⟨am,hd⟩
    ·refine Aj f Z am ?_
     refine Ae ?_
     refine Ac f Z λa f=>Aa ?_
     refine Ap ?_
     obtain rfl:=sj hd
     exact⟨[(iv 1)],f.g Z,f.d,_,[],(gt ad ah),m,Z,Z⟩
    ·refine Ai f Z am ?_
     refine Al ?_
     refine Ae ?_
     refine Ac f Z λa f=>Aa ?_
     refine Ap ?_
     obtain rfl:=sj hd
     exact⟨[(iv 0)],f.g Z,f.d,_,[],(gt ad ah),m,Z,Z⟩
theorem Wk.t0 {v0 v1:Value}{x0 x1:LI}(m:Mem W G w (H))(h0:R1 G v0 x0)(h1:R1 G v1 x1){y:Int}(hd:D.t0 x0 x1=some y):
  Calls prog 98 #[v0,v1] w (Res W G H (λ_ Ho v=>Ho=[]∧v=(iv y))):=by
 refine Ar (args:=[v0,v1]) (N:=36) [.tmp 4] func98 Z Z (lb Z) Z λa f=> ?_
 unfold D.t0 at hd
 refine Ae ?_
 refine Ac f Z λa f=>Aa (Af (Ae ?_))
 refine Ab f Z λa f=>Ba underlying71 f Z Z h0 λa f=>Ab f Z λa f=>Aa ?_
 have⟨aa,ab,hd⟩:=bind_some hd
 refine AG (λa w=>∃q_47':Unit,aa= .inl q_47'∧∃(ac:GH),GLe G ac∧Fr a 36 [(0,v0),(1,v1)]∧Mem W ac w (H)) ?_ ?_
 ·refine Ak ?_
  refine AE (λad a w=>∃ae:Int,ae=ad∧∃(af:GH),GLe G af∧Fr a 36 [(0,v0),(1,v1),(9,v0),(10,(iv (x0.length:Int))),(11,(iv ae))]∧Mem W af w (H)) ab ⟨_,Z,_,gr,f.k Z,m⟩ ?_
  clear ab f m
  rintro ad ag ah ai a w ⟨ae,rfl,af,aj,f,m⟩
  have h0:=rd1 aj h0
  have h1:=rd1 aj h1
  refine Ae ?_
  refine Ah f Z Z AI λa f=>Aa (Af ?_)
  rcases Ad ah with⟨ak,ah⟩|⟨ak,ah⟩
  ·refine Aj f Z ak ?_
   refine Al ?_
   refine Af (Ak (Ae ?_))
   refine Ab f Z λa f=> ?_
   have⟨al,am,ah⟩:=bind_some ah
   refine BQ T71 f Z Z Z h0 am λan ao a ap aq f=> ?_
   subst aq
   refine A7 m Pl3 f Z Z ap λa f=>Ac f Z λa f=>Ac f Z λa f=>Aa (Af (Ae ?_))
   refine Ab f Z λa f=>Ab f Z λa f=>Ba underlying71 f Z Z h1 λa f=>Ah f Z Z B3 λa f=>Aa ?_
   rcases Ad ah with⟨ar,ah⟩|⟨ar,ah⟩
   ·refine Aj f Z ar ?_
    refine Ae ?_
    refine Ac f Z λa f=>Aa ?_
    refine Ap ?_
    obtain rfl:=sj ah
    obtain rfl:=ai _ rfl
    obtain rfl:=sj hd
    exact⟨[(iv 1)],f.g Z,f.d,_,[],aj,m,Z,Z⟩
   ·refine Ai f Z ar ?_
    refine Al ?_
    refine Ae ?_
    refine Ab f Z λa f=>Ab f Z λa f=> ?_
    have⟨au,av,ah⟩:=bind_some ah
    refine BQ T71 f Z Z Z h1 av λaw ax a ay az f=> ?_
    subst az
    refine A7 m Pl3 f Z Z ay λa f=>Ac f Z λa f=>Av ?_
    refine Ab f Z λa f=>Ab f Z λa f=> ?_
    have⟨aA,aB,ah⟩:=bind_some ah
    refine Bc f Z call120 (Wk.Q m aB) λaC w aD m a f=>Ac f Z λa f=>Av ?_
    refine Ab f Z λa f=>Ah f Z Z CJ λa f=>Aa ?_
    rcases Ad ah with⟨aE,ah⟩|⟨aE,ah⟩
    ·refine Aj f Z aE ?_
     refine Ae ?_
     refine Ab f Z λa f=>Ac f Z λa f=>Aa ?_
     refine Ap ?_
     obtain rfl:=sj ah
     obtain rfl:=ai _ rfl
     obtain rfl:=sj hd
     exact⟨[(iv aA)],f.g Z,f.d,_,[],(gt aj aD),m,Z,Z⟩
    ·refine Ai f Z aE ?_
     refine Al ?_
     refine An ?_
     refine Ah f Z Z As λa f=>Ab f Z λa f=>Aa ?_
     obtain rfl:=sj ah
     exact⟨_,Z,_,Z,_,(gt aj aD),f.k Z,m⟩
  ·refine Ai f Z ak ?_
   refine AC Z ?_
   obtain rfl:=sj ah
   obtain rfl:=ai _ rfl
   exact⟨_,Z,_,aj,f.k Z,m⟩
 ·rintro a w ⟨_,rfl,ac,aF,f,m⟩
  have h0:=rd1 aF h0
  have h1:=rd1 aF h1
  refine Af (Ae ?_)
  refine Ab f Z λa f=>Ba underlying71 f Z Z h0 λa f=>Ab f Z λa f=>Ba underlying71 f Z Z h1 λa f=>Ah f Z Z AI λa f=>Aa ?_
  rcases Ad hd with⟨aG,hd⟩|⟨aG,hd⟩
  ·refine Aj f Z aG ?_
   refine Ae ?_
   refine Ac f Z λa f=>Aa ?_
   refine Ap ?_
   obtain rfl:=sj hd
   exact⟨[(iv (-1))],f.g Z,f.d,_,[],aF,m,Z,Z⟩
  ·refine Ai f Z aG ?_
   refine Al ?_
   refine Ae ?_
   refine Ac f Z λa f=>Aa ?_
   refine Ap ?_
   obtain rfl:=sj hd
   exact⟨[(iv 0)],f.g Z,f.d,_,[],aF,m,Z,Z⟩
theorem Wk.q0 {v0 v1:Value}{x0 x1:LI}(m:Mem W G w (H))(h0:R1 G v0 x0)(h1:R1 G v1 x1){y:Bool}(hd:D.q0 x0 x1=some y):
  Calls prog 83 #[v0,v1] w (Res W G H (λ_ Ho v=>Ho=[]∧v=(.bool y))):=by
 refine Ar (args:=[v0,v1]) (N:=26) [.tmp 4] func83 Z Z (lb Z) Z λa f=> ?_
 unfold D.q0 at hd
 refine Ae ?_
 refine Ac f Z λa f=>Aa (Af (Ae ?_))
 refine Ab f Z λa f=>Ba underlying49 f Z Z h0 λa f=>Ab f Z λa f=>Ba underlying49 f Z Z h1 λa f=>Ah f Z Z CJ λa f=>Aa ?_
 rcases Ad hd with⟨aa,hd⟩|⟨aa,hd⟩
 ·refine Aj f Z aa ?_
  refine Ae ?_
  refine Ac f Z λa f=>Aa ?_
  refine Ap ?_
  obtain rfl:=sj hd
  exact⟨[(.bool false)],f.g Z,f.d,_,[],gr,m,Z,Z⟩
 ·refine Ai f Z aa ?_
  refine Al ?_
  refine Af (Ae ?_)
  refine Ab f Z λa f=>Ba underlying49 f Z Z h0 λa f=>Ab f Z λa f=>Aa ?_
  have⟨ab,ac,hd⟩:=bind_some hd
  refine AG (λa w=>∃q_36':Unit,ab= .inl q_36'∧∃(ad:GH),GLe G ad∧Fr a 26 []∧Mem W ad w (H)) ?_ ?_
  ·refine Ak ?_
   refine AE (λae a w=>∃af:Int,af=ae∧∃(ag:GH),GLe G ag∧Fr a 26 [(0,v0),(1,v1),(12,(iv (x0.length:Int))),(13,(iv af))]∧Mem W ag w (H)) ac ⟨_,Z,_,gr,f.k Z,m⟩ ?_
   clear ac f m
   rintro ae ah ai aj a w ⟨af,rfl,ag,ak,f,m⟩
   have h0:=rd1 ak h0
   have h1:=rd1 ak h1
   refine Ae ?_
   refine Ah f Z Z AI λa f=>Aa (Af ?_)
   rcases Ad ai with⟨al,ai⟩|⟨al,ai⟩
   ·refine Aj f Z al ?_
    refine Al ?_
    refine Af (Ak (Ae ?_))
    refine Ab f Z λa f=>Ac f Z λa f=>Aa (Af ?_)
    refine Bb 9 AF (by kernel_rfl) m ?_
    refine Ag 0 9 Z f Z λa f=>Ag 1 9 Z f Z λa f=> ?_
    have⟨am,an,ai⟩:=bind_some ai
    refine Ct 2 9 T49 h0 an Z f Z Z λao ap a aq ar f=> ?_
    subst ar
    refine Cs 3 9 Pl2 aq Z f Z λa f=>Ag 4 9 Z f Z λa f=>Ag 5 9 Z f Z λa f=> ?_
    have⟨au,av,ai⟩:=bind_some ai
    refine Ct 6 9 T49 h1 av Z f Z Z λaw ax a ay az f=> ?_
    subst az
    refine Cs 7 9 Pl2 ay Z f Z λa f=>q_p 8 9 Z f (λ_=>Ay (f.e Z) (f.e Z) CJ) λa f=>A2 λaA w aB m=>Aa ?_
    rcases Ad ai with⟨aC,ai⟩|⟨aC,ai⟩
    ·refine Aj f Z aC ?_
     refine Ae ?_
     refine Ac f Z λa f=>Aa ?_
     refine Ap ?_
     obtain rfl:=sj ai
     obtain rfl:=aj _ rfl
     obtain rfl:=sj hd
     exact⟨[(.bool false)],f.g Z,f.d,_,[],(gt ak aB),m,Z,Z⟩
    ·refine Ai f Z aC ?_
     refine Al ?_
     refine An ?_
     refine Ah f Z Z As λa f=>Ab f Z λa f=>Aa ?_
     obtain rfl:=sj ai
     exact⟨_,Z,_,Z,_,(gt ak aB),f.k Z,m⟩
   ·refine Ai f Z al ?_
    refine AC Z ?_
    obtain rfl:=sj ai
    obtain rfl:=aj _ rfl
    exact⟨_,Z,_,ak,f.weak trivial,m⟩
  ·rintro a w ⟨_,rfl,ad,aD,f,m⟩
   refine Ae ?_
   refine Ac f Z λa f=>Aa ?_
   refine Ap ?_
   obtain rfl:=sj hd
   exact⟨[(.bool true)],f.g Z,f.d,_,[],aD,m,Z,Z⟩
end Go.Proofs.YtjhajfcggfhbmaaDoor

set_option maxRecDepth 100000
namespace Go.Proofs.YtjhajfcggfhbmaaDoor
open Go Go.Sx
open Go.Proofs.Tryd Go.Proofs.YtjhajfcggfhbmaaDoor.Tryd IntKind
variable {W w : World} {G : GH} {H : List Itm}
theorem T34 :SlT prog 34 5 1 1 (.int .u8 0):=⟨underlying34,Tryd.t5,by kernel_rfl,by kernel_rfl,by kernel_rfl,by kernel_rfl⟩
theorem Pl38 :BI prog 38:=isAgg38
theorem Pl34 :BI prog 34:=isAgg34
theorem Ag42 :Agg prog 42 2:=⟨isAgg42,sizeOf42⟩
theorem T56 :SlT prog 56 75 1 4 (.int .u32 0):=⟨underlying56,Tryd.t75,by kernel_rfl,by kernel_rfl,by kernel_rfl,by kernel_rfl⟩
theorem AS :BI prog 75:=isAgg75
theorem T22 :SlT prog 22 49 1 24 sn:=⟨underlying22,Tryd.t49,by kernel_rfl,by kernel_rfl,by kernel_rfl,by kernel_rfl⟩
theorem B8 :BI prog 22:=isAgg22
theorem BB :Agg prog 27 1:=⟨isAgg27,sizeOf27⟩
theorem T39 :SlT prog 39 42 2 16 (.agg #[(iv 0),(iv 0)]):=⟨underlying39,Tryd.t42,by kernel_rfl,by kernel_rfl,by kernel_rfl,by kernel_rfl⟩
theorem C6 :BI prog 49:=isAgg49
theorem Wk.B0 {v0:Value}{x0:LI}(m:Mem W G w (H))(h0:RSl (RI .u8) G v0 x0){y:Bool}(hd:D.B0 x0=some y):
  Calls prog 15 #[v0] w (Res W G H (λ_ Ho v=>Ho=[]∧v=(.bool y))):=by
 refine Ar (args:=[v0]) (N:=6) [.tmp 2] func15 Z Z (lb Z) Z λa f=> ?_
 unfold D.B0 at hd
 refine Ae ?_
 refine Ac f Z λa f=>Av ?_
 refine Ab f Z λa f=>Ba underlying34 f Z Z h0 λa f=>Ah f Z Z CC λa f=>Ac f Z λa f=>Aa ?_
 refine Ap ?_
 obtain rfl:=sj hd
 exact⟨[(.bool (decide ((4096:Int)<(x0.length:Int))))],f.g Z,f.d,_,[],gr,m,Z,Z⟩
theorem Wk.i0 {v0:Value}{x0:LI}{x1:Int}(m:Mem W G w (H))(h0:RSl (RI .u8) G v0 x0){y:(LI)×Int×Int}(hd:D.i0 x0 x1=some y):
  Calls prog 16 #[v0,(.int .u64 x1)] w (Res W G H (λG' Ho v=>∃r0:Value,∃c1:Nat,Ho=[ib c1 61 [r0,(iv y.2.1),(.int .u64 y.2.2)]]∧v=(pb c1)∧RSl (RI .u8) G' r0 y.1)):=by
 refine Ar (args:=[v0,(.int .u64 x1)]) (N:=38) [.tmp 4] func16 Z Z (lb Z) Z λa f=> ?_
 unfold D.i0 at hd
 refine Ae ?_
 refine Ac f Z λa f=>Av ?_
 refine Ab f Z λa f=>Ab f Z λa f=>Ah f Z Z C7 λa f=>Ab f Z λa f=>Ba underlying34 f Z Z h0 λa f=>l_o f (CF (f.e Z) ⟨_,underlying3⟩ underlying38) λa f=>Ah f Z Z As λa f=> ?_
 have aa:∀w,(Instr.build 61 #[(0,v0),(2,(.int .u64 (IntKind.u64.wrap ((IntKind.u64.wrap (x1*7919))+(IntKind.u64.wrap (x0.length:Int))))))]).run prog w= .ok (.agg #[v0,(iv 0),(.int .u64 (IntKind.u64.wrap ((IntKind.u64.wrap (x1*7919))+(IntKind.u64.wrap (x0.length:Int)))))]) w:=by intro w;simp[Instr.build,Instr.fill,h0.cells,Cw,Ck,BZ,B6,BV,Ci]
 refine CO f Z Z aa λa f=>BG (cs:=[v0,(iv 0),(.int .u64 (IntKind.u64.wrap ((IntKind.u64.wrap (x1*7919))+(IntKind.u64.wrap (x0.length:Int)))))]) m f Z Z Z λab w a m f=>Ac f Z λa f=>Aa (Af (Ae ?_))
 refine Ac f Z λa f=>Aa ?_
 have⟨ac,ad,hd⟩:=bind_some hd
 refine AG (λa w=>∃ae:Int,ae=ac∧∃(af:GH),GLe G af∧Fr a 38 [(5,(pb ab))]∧Mem W af w (ib ab 61 [v0,(iv 0),(.int .u64 ae)]::H)) ?_ ?_
 ·refine Ak ?_
  refine AE (λag a w=>∃ah:Int,∃ai:Int,(ah,ai)=ag∧∃(aj:GH),GLe G aj∧Fr a 38 [(0,v0),(5,(pb ab)),(6,(iv ah))]∧Mem W aj w (ib ab 61 [v0,(iv 0),(.int .u64 ai)]::H)) ad ⟨_,_,Z,_,gr,f.k Z,m⟩ ?_
  clear ad f m
  rintro ag ak al am a w ⟨ah,ai,rfl,aj,an,f,m⟩
  have h0:=rd1 an h0
  refine Af (Ae ?_)
  refine Ab f Z λa f=>Ab f Z λa f=>Ba underlying34 f Z Z h0 λa f=>Ah f Z Z AI λa f=>Aa ?_
  rcases Ad al with⟨ao,al⟩|⟨ao,al⟩
  ·refine Aj f Z ao ?_
   refine Al ?_
   refine Af (Ak ?_)
   refine Bb 15 AF (by kernel_rfl) m ?_
   refine Ag 0 15 Z f Z λa f=>Ag 1 15 Z f Z λa f=>q_p 2 15 Z f (λ_=>AO (f.e Z)) λa f=>q_fa 3 15 underlying61 Z sizeOf38 Z f Z λa f=>CD 4 15 0 Pl38 Z Z Z f Z λa f=>q_p 5 15 Z f (λ_=>Ay (f.e Z) (f.e Z) C7) λa f=>Ag 6 15 Z f Z λa f=>Ag 7 15 Z f Z λa f=> ?_
   have⟨ap,aq,al⟩:=bind_some al
   refine Ct 8 15 T34 h0 aq Z f Z Z λar au a av aw f=> ?_
   subst aw
   refine Cs 9 15 Pl5 av Z f Z λa f=>q_p 10 15 Z f (λ_=>CF (f.e Z) ⟨_,underlying5⟩ underlying38) λa f=>q_p 11 15 Z f (λ_=>Ay (f.e Z) (f.e Z) As) λa f=>q_p 12 15 Z f (λ_=>Ay (f.e Z) (f.e Z) As) λa f=>q_p 13 15 Z f (λ_=>AO (f.e Z)) λa f=>q_fa 14 15 underlying61 Z sizeOf38 Z f Z λa f=>A2 λax w ay m=>AP 0 2 (ds:=[(.int .u64 (IntKind.u64.wrap ((IntKind.u64.wrap ((IntKind.u64.wrap (ai*1099511628211))+(IntKind.u64.wrap ap)))+3)))]) m sizeOf38 f Z Z Z (AR Z A5) Z (lb Z) Z λw m=>Aa (An ?_)
   refine Ab f Z λa f=>Ah f Z Z As λa f=>Ac f Z λa f=>Aa ?_
   obtain rfl:=sj al
   exact⟨_,Z,_,_,Z,_,(gt an ay),f.k Z,m⟩
  ·refine Ai f Z ao ?_
   refine AC Z ?_
   obtain rfl:=sj al
   obtain rfl:=am _ rfl
   exact⟨_,Z,_,an,f.k Z,m⟩
 ·rintro a w ⟨ae,rfl,af,az,f,m⟩
  have h0:=rd1 az h0
  refine Ae ?_
  refine Ab f Z λa f=>Ac f Z λa f=>Aa ?_
  refine Ap ?_
  obtain rfl:=sj hd
  exact⟨[(pb ab)],f.g Z,f.d,_,[ib ab 61 [v0,(iv 0),(.int .u64 ae)]],az,m,_,_,Z,Z,h0⟩
theorem Wk.k {aa:Value}{b0:Nat}{ab:LI}{ac ad x1:Int}(m:Mem W G w (ib b0 61 [aa,(iv ac),(.int .u64 ad)]::H))(ae:RSl (RI .u8) G aa ab){y:Int×(LI)×Int×Int}(hd:D.k ab ac ad x1=some y):
  Calls prog 17 #[(pb b0),(iv x1)] w (Res W G H (λG' Ho v=>∃r0:Value,Ho=[ib b0 61 [r0,(iv y.2.2.1),(.int .u64 y.2.2.2)]]∧v=(iv y.1)∧RSl (RI .u8) G' r0 y.2.1)):=by
 refine Ar (args:=[(pb b0),(iv x1)]) (N:=56) [.tmp 4] func17 Z Z (lb Z) Z λa f=> ?_
 unfold D.k at hd
 refine Ae ?_
 refine Ac f Z λa f=>Av ?_
 refine Ab f Z λa f=>Ab f Z λa f=>l_o f (AO (f.e Z)) λa f=>Bd underlying61 Z sizeOf38 f Z λa f=>Aw 0 2 m Pl38 f Z Z Z Z λa f=>Ah f Z Z C7 λa f=>Ah f Z Z As λa f=>l_o f (AO (f.e Z)) λa f=>Bd underlying61 Z sizeOf38 f Z λa f=>AP 0 2 (ds:=[(.int .u64 (IntKind.u64.wrap ((IntKind.u64.wrap (ad*6364136223846793005))+1442695040888963407)))]) m sizeOf38 f Z Z Z (AR Z A5) Z (lb Z) Z λw m=>Av ?_
 refine Ab f Z λa f=>l_o f (AO (f.e Z)) λa f=>Bd underlying61 Z sizeOf38 f Z λa f=>Aw 0 2 m Pl38 f Z Z Z Z λa f=>l_o f (r_shr (f.e Z) (f.e Z) (by decide)) λa f=>Ah f Z Z CH λa f=>l_o f (CF (f.e Z) ⟨_,underlying38⟩ underlying2) λa f=>Ac f Z λa f=>Aa (Af (Af ?_))
 refine Bb 10 AF (by kernel_rfl) m ?_
 refine Ag 0 10 Z f Z λa f=>q_p 1 10 Z f (λ_=>AO (f.e Z)) λa f=>q_fa 2 10 underlying61 Z sizeOf3 Z f Z λa f=>CD 3 10 0 Pl3 Z Z Z f Z λa f=>Ag 4 10 Z f Z λa f=>q_p 5 10 Z f (λ_=>AO (f.e Z)) λa f=>q_fa 6 10 underlying61 Z sizeOf34 Z f Z λa f=>CD 7 10 0 Pl34 Z Z Z f Z λa f=>q_len (i:=8) 10 underlying34 ae Z (by kernel_rfl) Z f Z Z Z λa f=>q_p 9 10 Z f (λ_=>Ay (f.e Z) (f.e Z) AI) λa f=>A2 λaf w ag m=> ?_
 have ae:=rd1 ag ae
 refine Aa ?_
 rcases Ad hd with⟨ah,hd⟩|⟨ah,hd⟩
 ·refine Aj f Z ah ?_
  refine Af ?_
  refine Bb 14 AF (by kernel_rfl) m ?_
  refine Ag 0 14 Z f Z λa f=>Ag 1 14 Z f Z λa f=>q_p 2 14 Z f (λ_=>AO (f.e Z)) λa f=>q_fa 3 14 underlying61 Z sizeOf34 Z f Z λa f=>CD 4 14 0 Pl34 Z Z Z f Z λa f=>Ag 5 14 Z f Z λa f=>q_p 6 14 Z f (λ_=>AO (f.e Z)) λa f=>q_fa 7 14 underlying61 Z sizeOf3 Z f Z λa f=>CD 8 14 0 Pl3 Z Z Z f Z λa f=> ?_
  have⟨ai,aj,hd⟩:=bind_some hd
  refine Ct 9 14 T34 ae aj Z f Z Z λak al a am an f=> ?_
  subst an
  refine Cs 10 14 Pl5 am Z f Z λa f=>q_p 11 14 Z f (λ_=>CF (f.e Z) ⟨_,underlying5⟩ underlying2) λa f=>q_p 12 14 Z f (λ_=>Ay (f.e Z) (f.e Z) As) λa f=>q_p 13 14 Z f (λ_=>CY (f.e Z)) λa f=>A2 λao w ap m=> ?_
  have ae:=rd1 ap ae
  refine Aa (An ?_)
  refine Ab f Z λa f=>Ab f Z λa f=>l_o f (AO (f.e Z)) λa f=>Bd underlying61 Z sizeOf3 f Z λa f=>Aw 0 1 m Pl3 f Z Z Z Z λa f=>Ah f Z Z As λa f=>l_o f (AO (f.e Z)) λa f=>Bd underlying61 Z sizeOf3 f Z λa f=>AP 0 1 (ds:=[(iv (i64.wrap (ac+1)))]) m sizeOf3 f Z Z Z (AR Z A5) Z (lb Z) Z λw m=>Av ?_
  refine Ab f Z λa f=>Ab f Z λa f=> ?_
  obtain⟨aq,hd⟩:=CN hd
  refine Ah f Z Z (b_rem aq) λa f=>Ac f Z λa f=>Aa ?_
  refine Ap ?_
  obtain rfl:=sj hd
  exact⟨[(iv (Int.tmod (i64.wrap ((i64.wrap (iand .u64 (Bq .u64 (IntKind.u64.wrap ((IntKind.u64.wrap (ad*6364136223846793005))+1442695040888963407)) 33) 16777215))+(i64.wrap ai))) x1))],f.g Z,f.d,_,[ib b0 61 [aa,(iv (i64.wrap (ac+1))),(.int .u64 (IntKind.u64.wrap ((IntKind.u64.wrap (ad*6364136223846793005))+1442695040888963407)))]],(gt ag ap),m,_,Z,Z,ae⟩
 ·refine Ai f Z ah ?_
  refine Al ?_
  refine Ae ?_
  refine Ab f Z λa f=>Ab f Z λa f=> ?_
  obtain⟨ar,hd⟩:=CN hd
  refine Ah f Z Z (b_rem ar) λa f=>Ac f Z λa f=>Aa ?_
  refine Ap ?_
  obtain rfl:=sj hd
  exact⟨[(iv (Int.tmod (i64.wrap (iand .u64 (Bq .u64 (IntKind.u64.wrap ((IntKind.u64.wrap (ad*6364136223846793005))+1442695040888963407)) 33) 16777215)) x1))],f.g Z,f.d,_,[ib b0 61 [aa,(iv ac),(.int .u64 (IntKind.u64.wrap ((IntKind.u64.wrap (ad*6364136223846793005))+1442695040888963407)))]],ag,m,_,Z,Z,ae⟩
theorem Wk.y0 {aa ab:Int}(m:Mem W G w (H)){y:Bool}(hd:D.y0 aa ab=some y):
  Calls prog 39 #[(.agg #[(iv aa),(iv ab)])] w (Res W G H (λ_ Ho v=>Ho=[]∧v=(.bool y))):=by
 refine Ar (args:=[(.agg #[(iv aa),(iv ab)])]) (N:=18) [.tmp 2] func39 Z Z (lb Z) Z λa f=> ?_
 unfold D.y0 at hd
 refine Ae ?_
 refine BG (cs:=[(iv aa),(iv ab)]) m f Z Z Z λac w a m f=>Ac f Z λa f=>Av ?_
 refine Bd underlying42 Z sizeOf2 f Z λa f=>Aw 0 0 m Pl2 f Z Z Z Z λa f=>Ah f Z Z BT λa f=>Ab f Z λa f=> ?_
 refine Bx 6 (λa w=>∃ad,GLe G ad∧Mem W ad w (ib ac 42 [(iv aa),(iv ab)]::H)∧Fr a 18 [(0,(.agg #[(iv aa),(iv ab)])),(1,(pb ac)),(3,(pb ac)),(4,(iv aa)),(5,(.bool (decide ((0:Int)≤aa)))),(6,(.bool (decide ((0:Int)≤aa)))),(12,(.bool ((decide ((0:Int)≤aa))&&(decide (aa≤ab)))))]) ?_ ?_
 ·rcases Bool.eq_false_or_eq_true (decide ((0:Int)≤aa)) with ae|ae
  ·refine Ax f ae ?_
   refine Bd underlying42 Z sizeOf2 f Z λa f=>Ax f ae ?_
   refine Aw 0 0 m Pl2 f Z Z Z Z λa f=>Ax f ae ?_
   refine Bd underlying42 Z sizeOf2 f Z λa f=>Ax f ae ?_
   refine Aw 0 1 m Pl2 f Z Z Z Z λa f=>Ax f ae ?_
   refine Ah f Z Z BT λa f=>l_o f (AK (f.e Z) ae (f.e Z)) λa f=> ?_
   exact⟨_,gr,m,f.weak ⟨Z,Z,Z,Z,Z,Z,by rw[ae];rfl,trivial⟩⟩
  ·refine Az f ae λa f=> ?_
   refine Az f ae λa f=>Az f ae λa f=>Az f ae λa f=>Az f ae λa f=>l_o f (AJ (f.e Z) ae (f.e Z)) λa f=> ?_
   exact⟨_,gr,m,f.weak ⟨Z,Z,Z,Z,Z,Z,by rw[ae];rfl,trivial⟩⟩
 ·rintro a w ⟨ad,af,m,f⟩
  refine Ab f Z λa f=> ?_
  refine Bx 4 (λa w=>∃ag,GLe ad ag∧Mem W ag w (ib ac 42 [(iv aa),(iv ab)]::H)∧Fr a 18 [(0,(.agg #[(iv aa),(iv ab)])),(1,(pb ac)),(3,(pb ac)),(4,(iv aa)),(5,(.bool (decide ((0:Int)≤aa)))),(6,(.bool (decide ((0:Int)≤aa)))),(12,(.bool ((decide ((0:Int)≤aa))&&(decide (aa≤ab))))),(13,(.bool ((decide ((0:Int)≤aa))&&(decide (aa≤ab))))),(17,(.bool (((decide ((0:Int)≤aa))&&(decide (aa≤ab)))&&(decide (ab≤100)))))]) ?_ ?_
  ·rcases Bool.eq_false_or_eq_true ((decide ((0:Int)≤aa))&&(decide (aa≤ab))) with ah|ah
   ·refine Ax f ah ?_
    refine Bd underlying42 Z sizeOf2 f Z λa f=>Ax f ah ?_
    refine Aw 0 1 m Pl2 f Z Z Z Z λa f=>Ax f ah ?_
    refine Ah f Z Z BT λa f=>l_o f (AK (f.e Z) ah (f.e Z)) λa f=> ?_
    exact⟨_,gr,m,f.weak ⟨Z,Z,Z,Z,Z,Z,Z,Z,by rw[ah];rfl,trivial⟩⟩
   ·refine Az f ah λa f=> ?_
    refine Az f ah λa f=>Az f ah λa f=>l_o f (AJ (f.e Z) ah (f.e Z)) λa f=> ?_
    exact⟨_,gr,m,f.weak ⟨Z,Z,Z,Z,Z,Z,Z,Z,by rw[ah];rfl,trivial⟩⟩
  ·rintro a w ⟨ag,ai,m,f⟩
   refine Ac f Z λa f=>Aa ?_
   refine Ap ?_
   have m:Mem W ag w H:=Mem.drop (H':=[ib ac 42 [(iv aa),(iv ab)]]) m
   obtain rfl:=sj hd
   exact⟨[(.bool (((decide ((0:Int)≤aa))&&(decide (aa≤ab)))&&(decide (ab≤100))))],f.g Z,f.d,_,[],(gt af ai),m,Z,Z⟩
theorem Wk.F0 {aa ab:Int}(m:Mem W G w (H)){y:Bool}(hd:D.F0 aa ab=some y):
  Calls prog 38 #[(.agg #[(iv aa),(iv ab)])] w (Res W G H (λ_ Ho v=>Ho=[]∧v=(.bool y))):=by
 refine Ar (args:=[(.agg #[(iv aa),(iv ab)])]) (N:=6) [.tmp 2] func38 Z Z (lb Z) Z λa f=> ?_
 unfold D.F0 at hd
 refine Ae ?_
 refine BG (cs:=[(iv aa),(iv ab)]) m f Z Z Z λac w a m f=>Ac f Z λa f=>Av ?_
 refine A4 0 0 (ds:=[(iv aa),(iv ab)]) m Ag42 f Z Z Z Z Z λa f=> ?_
 have⟨ad,ae,hd⟩:=bind_some hd
 refine Bc f Z call39 (Wk.y0 m ae) λaf w ag m a f=>l_o f (Bt (f.e Z)) λa f=>Ac f Z λa f=>Aa ?_
 refine Ap ?_
 have m:Mem W af w H:=Mem.drop (H':=[ib ac 42 [(iv aa),(iv ab)]]) m
 obtain rfl:=sj hd
 exact⟨[(.bool (!ad))],f.g Z,f.d,_,[],ag,m,Z,Z⟩
theorem Wk.b {x0:Int}(m:Mem W G w (H)){y:Int}(hd:D.b x0=some y):
  Calls prog 74 #[(iv x0)] w (Res W G H (λ_ Ho v=>Ho=[]∧v=(.int .u32 y))):=by
 refine Ar (args:=[(iv x0)]) (N:=5) [.tmp 2] func74 Z Z (lb Z) Z λa f=> ?_
 unfold D.b at hd
 refine Ae ?_
 refine Ac f Z λa f=>Av ?_
 refine Ab f Z λa f=> ?_
 obtain⟨aa,hd⟩:=CN hd
 refine l_o f (r_shl (f.e Z) (f.e Z) aa) λa f=>Ac f Z λa f=>Aa ?_
 refine Ap ?_
 obtain rfl:=sj hd
 exact⟨[(.int .u32 (ishl .u32 1 x0))],f.g Z,f.d,_,[],gr,m,Z,Z⟩
theorem Wk.I {v0:Value}{it0:Itm}{x0:LI}{x1 x2:Int}(m:Mem W G w (it0::H))(o0:Ow (RI .u32) 75 G it0 v0 x0){y:(LI)}(hd:D.I x0 x1 x2=some y):
  Calls prog 40 #[v0,(iv x1),(iv x2)] w (Res W G H (λG' Ho _=>∃i0:Itm,Ho=[i0]∧Ow (RI .u32) 75 G' i0 v0 y)):=by
 refine Ar (args:=[v0,(iv x1),(iv x2)]) (N:=22) [] func40 Z Z (lb Z) Z λa f=> ?_
 unfold D.I at hd
 refine Af ?_
 refine Bb 8 AF (by kernel_rfl) m ?_
 refine Ag 0 8 Z f Z λa f=>Ag 1 8 Z f Z λa f=> ?_
 have⟨aa,ab,hd⟩:=bind_some hd
 refine AL 2 8 0 m o0 T56 ab Z f Z Z λac a ad f=>A3 3 8 0 o0 AS ad ab Z f Z λae a af f=> ?_
 subst af
 refine Ag 4 8 Z f Z λa f=> ?_
 have⟨ag,ah,hd⟩:=bind_some hd
 refine Cu (i:=5) 8 Z (by kernel_rfl) Z f Z Z Z call74 (λ_ _ w ai m=>Wk.b m ah) λa f=>q_p 6 8 Z f (λ_=>Ay (f.e Z) (f.e Z) b_or) λa f=> ?_
 have⟨aj,ak,hd⟩:=bind_some hd
 refine AL 7 8 0 m o0 T56 ak Z f Z Z λal a am f=>A2 λan w ao m=> ?_
 have o0:=od1 ao o0
 refine AD 0 m o0 Z sizeOf75 f Z Z am ak Z Z Z λap w m aq=>Aa ?_
 refine Bb 8 AF (by kernel_rfl) m ?_
 refine Ag 0 8 Z f Z λa f=>Ag 1 8 Z f Z λa f=> ?_
 have⟨ar,au,hd⟩:=bind_some hd
 refine AL 2 8 0 m aq T56 au Z f Z Z λav a aw f=>A3 3 8 0 aq AS aw au Z f Z λax a ay f=> ?_
 subst ay
 refine Ag 4 8 Z f Z λa f=> ?_
 have⟨az,aA,hd⟩:=bind_some hd
 refine Cu (i:=5) 8 Z (by kernel_rfl) Z f Z Z Z call74 (λ_ _ w aB m=>Wk.b m aA) λa f=>q_p 6 8 Z f (λ_=>Ay (f.e Z) (f.e Z) b_or) λa f=> ?_
 have⟨aC,aD,hd⟩:=bind_some hd
 refine AL 7 8 0 m aq T56 aD Z f Z Z λaE a aF f=>A2 λaG w aH m=> ?_
 have aq:=od1 aH aq
 refine AD 0 m aq Z sizeOf75 f Z Z aF aD Z Z Z λaI w m aJ=>Aa ?_
 obtain rfl:=sj hd
 exact⟨[],trivial,f.d,_,[aI],(gt ao aH),m,_,Z,aJ⟩
theorem Wk.R {x0:Int}(hW:Bo W)(m:Mem W G w (H)){y:Int}(hd:D.R x0=some y):
  Calls prog 93 #[(.int .u32 x0)] w (Res W G H (λ_ Ho v=>Ho=[]∧v=(iv y))):=by
 refine Ar (args:=[(.int .u32 x0)]) (N:=5) [.tmp 2] func93 Z Z (lb Z) Z λa f=> ?_
 unfold D.R at hd
 refine Ae ?_
 refine Ac f Z λa f=>Av ?_
 refine Ab f Z λa f=> ?_
 have⟨aa,ab,hd⟩:=bind_some hd
 refine Bc f Z call109 (Wk.Q0 hW m ab) λac w ad m a f=>Ac f Z λa f=>Aa ?_
 refine Ap ?_
 obtain rfl:=sj hd
 exact⟨[(iv aa)],f.g Z,f.d,_,[],ad,m,Z,Z⟩
theorem Wk.c {x0:Int}(hW:Bo W)(m:Mem W G w (H)){y:(LI)}(hd:D.c x0=some y):
  Calls prog 91 #[(.int .u32 x0)] w (Res W G H (λG' Ho v=>∃r0:Value,∃i0:Itm,Ho=[i0]∧r0=v∧Ow R0 3 G' i0 r0 y)):=by
 refine Ar (args:=[(.int .u32 x0)]) (N:=17) [.tmp 2] func91 Z Z (lb Z) Z λa f=> ?_
 unfold D.c at hd
 refine Ae ?_
 refine Ac f Z λa f=>Av ?_
 refine B2 (R:=R0) (xs:=([]:LI)) (RI.one _) m T71 f Z Z Z (by decide) (All2.nil _) λaa ab w a m ac f=>Ac f Z λa f=>Aa (Af ?_)
 have⟨ad,ae,hd⟩:=bind_some hd
 refine AG (λa w=>∃af:LI,af=ad∧∃(ag:GH) (ah:Value) (ai:Itm),GLe G ag∧Fr a 17 [(3,ah)]∧Mem W ag w (ai::H)∧Ow R0 3 ag ai ah af) ?_ ?_
 ·refine Ak ?_
  refine AE (λaj a w=>∃ak:Int,∃al:LI,(ak,al)=aj∧∃(am:GH) (an:Value) (ao:Itm),GLe G am∧Fr a 17 [(0,(.int .u32 ak)),(3,an)]∧Mem W am w (ao::H)∧Ow R0 3 am ao an al) ae ⟨_,_,Z,_,ab,aa,gr,f.k Z,m,ac⟩ ?_
  clear ae f m
  rintro aj ap aq ar a w ⟨ak,al,rfl,am,an,ao,au,f,m,av⟩
  refine Af (Ae ?_)
  refine Ab f Z λa f=>Ah f Z Z CJ λa f=>Aa ?_
  rcases Ad aq with⟨aw,aq⟩|⟨aw,aq⟩
  ·refine Aj f Z aw ?_
   refine Al ?_
   refine Af (Ak (An ?_))
   refine Ab f Z λa f=>Ab f Z λa f=> ?_
   have⟨ax,ay,aq⟩:=bind_some aq
   refine Bc f Z call93 (Wk.R hW m ay) λaz w aA m a f=> ?_
   have av:=od1 aA av
   refine B2 (R:=R0) (xs:=([ax]:LI)) (RI.one _) m T71 f Z Z Z (by decide) (All2.cons Z (All2.nil _)) λaB aC w a m aD f=> ?_
   have⟨aE,aF,aq⟩:=bind_some aq
   refine B7 (RI.one _) 1 m av Z T71 Z (by decide) f Z Z Z (Ow.src (j:=0) aD m Z) aF λaG aH w a m aI f=>Ac f Z λa f=>Aa (An ?_)
   refine Ab f Z λa f=>Ab f Z λa f=>Ah f Z Z AT λa f=>Ah f Z Z CH λa f=>Ac f Z λa f=>Aa ?_
   have m:=m.fr 1
   have m:=m.eraseAt 1
   obtain rfl:=sj aq
   exact⟨_,Z,_,_,Z,_,aH,aG,(gt au aA),f.k Z,m,aI⟩
  ·refine Ai f Z aw ?_
   refine AC Z ?_
   obtain rfl:=sj aq
   obtain rfl:=ar _ rfl
   exact⟨_,Z,_,an,ao,au,f.k Z,m,av⟩
 ·rintro a w ⟨af,rfl,ag,ah,ai,aJ,f,m,aK⟩
  refine Ae ?_
  refine Ab f Z λa f=>Ac f Z λa f=>Aa ?_
  refine Ap ?_
  obtain rfl:=sj hd
  exact⟨[ah],f.g Z,f.d,_,[ai],aJ,m,_,_,Z,Z,aK⟩
theorem Wk.J {v0:Value}{x0:LI}(m:Mem W G w (H))(h0:R1 G v0 x0){y:(LI)}(hd:D.J x0=some y):
  Calls prog 78 #[v0] w (Res W G H (λG' Ho v=>∃r0:Value,∃i0:Itm,Ho=[i0]∧r0=v∧Ow R0 2 G' i0 r0 y)):=by
 refine Ar (args:=[v0]) (N:=21) [.tmp 2] func78 Z Z (lb Z) Z λa f=> ?_
 unfold D.J at hd
 refine Ae ?_
 refine Ac f Z λa f=>Av ?_
 refine Ab f Z λa f=>Ba underlying71 f Z Z h0 λa f=> ?_
 have⟨aa,ab,hd⟩:=bind_some hd
 refine l_make (R:=R0) m T49 Z (by decide) Z f Z Z Z ab λac ad w a m ae f=>Ac f Z λa f=>Aa (Af (Ae ?_))
 refine Ab f Z λa f=>Ba underlying71 f Z Z h0 λa f=>Ab f Z λa f=>Aa ?_
 have⟨af,ag,hd⟩:=bind_some hd
 refine AG (λa w=>∃ah:LI,ah=af∧∃(ai:GH) (aj:Value) (ak:Itm),GLe G ai∧Fr a 21 [(3,aj)]∧Mem W ai w (ak::H)∧Ow R0 2 ai ak aj ah) ?_ ?_
 ·refine Ak ?_
  refine AE (λal a w=>∃am:LI,∃an:Int,(am,an)=al∧∃(ao:GH) (ap:Value) (aq:Itm),GLe G ao∧Fr a 21 [(3,ap),(9,v0),(10,(iv (x0.length:Int))),(11,(iv an))]∧Mem W ao w (aq::H)∧Ow R0 2 ao aq ap am) ag ⟨_,_,Z,_,ad,ac,gr,f.k Z,m,ae⟩ ?_
  clear ag f m
  rintro al ar au av a w ⟨am,an,rfl,ao,ap,aq,aw,f,m,ax⟩
  have h0:=rd1 aw h0
  refine Ae ?_
  refine Ah f Z Z AI λa f=>Aa (Af ?_)
  rcases Ad au with⟨ay,au⟩|⟨ay,au⟩
  ·refine Aj f Z ay ?_
   refine Al ?_
   refine Af (Ak (Ae ?_))
   have⟨az,aA,au⟩:=bind_some au
   refine BQ T71 f Z Z Z h0 aA λaB aC a aD aE f=> ?_
   subst aE
   refine A7 m Pl3 f Z Z aD λa f=>Ac f Z λa f=>Aa (An ?_)
   refine Ab f Z λa f=>Ab f Z λa f=>B2 (R:=R0) (xs:=([az]:LI)) (RI.one _) m T49 f Z Z Z (by decide) (All2.cons Z (All2.nil _)) λaF aG w a m aH f=> ?_
   have⟨aI,aJ,au⟩:=bind_some au
   refine B7 (RI.one _) 1 m ax Z T49 Z (by decide) f Z Z Z (Ow.src (j:=0) aH m Z) aJ λaK aL w a m aM f=>Ac f Z λa f=>Aa (An ?_)
   refine Ah f Z Z As λa f=>Ab f Z λa f=>Aa ?_
   have m:=m.fr 1
   have m:=m.eraseAt 1
   obtain rfl:=sj au
   exact⟨_,Z,_,_,Z,_,aL,aK,aw,f.k Z,m,aM⟩
  ·refine Ai f Z ay ?_
   refine AC Z ?_
   obtain rfl:=sj au
   obtain rfl:=av _ rfl
   exact⟨_,Z,_,ap,aq,aw,f.k Z,m,ax⟩
 ·rintro a w ⟨ah,rfl,ai,aj,ak,aN,f,m,aO⟩
  refine Ae ?_
  refine Ab f Z λa f=>Ac f Z λa f=>Aa ?_
  refine Ap ?_
  obtain rfl:=sj hd
  exact⟨[aj],f.g Z,f.d,_,[ak],aN,m,_,_,Z,Z,aO⟩
theorem Wk.x {x0:Int}(hW:Bo W)(m:Mem W G w (H)){y:(LI)}(hd:D.x x0=some y):
  Calls prog 66 #[(.int .u32 x0)] w (Res W G H (λG' Ho v=>∃r0:Value,∃i0:Itm,Ho=[i0]∧r0=v∧Ow R0 2 G' i0 r0 y)):=by
 refine Ar (args:=[(.int .u32 x0)]) (N:=6) [.tmp 2] func66 Z Z (lb Z) Z λa f=> ?_
 unfold D.x at hd
 refine Ae ?_
 refine Ac f Z λa f=>Av ?_
 refine Ab f Z λa f=> ?_
 have⟨aa,ab,hd⟩:=bind_some hd
 refine AN f Z call91 (Wk.c hW m ab) λac ad ae w af m ag a f=> ?_
 obtain⟨ah,ai,rfl,rfl,aj⟩:=ag
 have⟨ak,al,hd⟩:=bind_some hd
 refine AN f Z call78 (Ow.lendCall (RI.mono _) 0 aj m Z (λam an m ao=>Wk.J m ao al) (λ_ G' _ _ ⟨a0,a1,e1,e2,o0⟩=>⟨a0,a1,e1,e2,Ow.free (RI.free _) G' o0⟩)) λap aq ar w au m av a f=> ?_
 obtain⟨aw,ax,rfl,rfl,ay⟩:=av
 refine Ac f Z λa f=>Aa ?_
 refine Ap ?_
 have m:=m.eraseAt 1
 obtain rfl:=sj hd
 exact⟨[aw],f.g Z,f.d,_,[ax],(gt af au),m,_,_,Z,Z,ay⟩
theorem Wk.V {v0:Value}{x0:LI}(hW:Bo W)(m:Mem W G w (H))(h0:RSl (RI .u32) G v0 x0){y:(LL)}(hd:D.V x0=some y):
  Calls prog 41 #[v0] w (Res W G H (λG' Ho v=>∃r0:Value,∃i0:Itm,Ho=[i0]∧v=(.agg #[r0])∧Ow R1 49 G' i0 r0 y)):=by
 refine Ar (args:=[v0]) (N:=22) [.cell 2 27] func41 Z Z (lb Z) Z λa f=> ?_
 unfold D.V at hd
 refine Ae ?_
 refine BN (cs:=[sn]) zeroValue27 m f Z Z λaa w a m f=>Av ?_
 have ab:∀w,(Instr.build 27 #[]).run prog w= .ok (.agg #[sn]) w:=by intro w;simp[Instr.build,Instr.fill,Cw,Ck,BZ,B6,BV,Ci]
 refine CO f Z Z ab λa f=>BN (cs:=[sn]) zeroValue27 m f Z Z λac w a m f=>AP 0 0 (ds:=[sn]) m sizeOf27 f Z Z Z (AR Z A5) Z (lb Z) Z λw m=>Aa (Af (Ae ?_))
 refine Ab f Z λa f=>Ba underlying56 f Z Z h0 λa f=>Ab f Z λa f=>Aa ?_
 obtain⟨ad,m,ae⟩:=Ow.nil R1 49 m
 have⟨af,ag,hd⟩:=bind_some hd
 refine AG (λa w=>∃ah:LL,ah=af∧∃(ai:GH) (aj:Value) (ak:Itm),GLe G ai∧Fr a 22 [(2,(pb aa)),(3,(pb ac))]∧Mem W ai w (ib aa 27 [sn]::ib ac 27 [aj]::ak::H)∧Ow R1 49 ai ak aj ah) ?_ ?_
 ·refine Ak ?_
  have m:=m.fr 1
  have m:=m.fr 2
  refine AE (λal a w=>∃am:Int,∃an:LL,(am,an)=al∧∃(ao:GH) (ap:Value) (aq:Itm),GLe G ao∧Fr a 22 [(2,(pb aa)),(3,(pb ac)),(7,v0),(8,(iv (x0.length:Int))),(9,(iv am))]∧Mem W ao w (ib aa 27 [sn]::ib ac 27 [ap]::aq::H)∧Ow R1 49 ao aq ap an) ag ⟨_,_,Z,_,sn,ad,gr,f.k Z,m,ae⟩ ?_
  clear ag f m
  rintro al ar au av a w ⟨am,an,rfl,ao,ap,aq,aw,f,m,ax⟩
  have h0:=rd1 aw h0
  refine Ae ?_
  refine Ah f Z Z AI λa f=>Aa (Af ?_)
  rcases Ad au with⟨ay,au⟩|⟨ay,au⟩
  ·refine Aj f Z ay ?_
   refine Al ?_
   refine Af (Ak (Ae ?_))
   have⟨az,aA,au⟩:=bind_some au
   refine BQ T56 f Z Z Z h0 aA λaB aC a aD aE f=> ?_
   subst aE
   refine A7 m AS f Z Z aD λa f=>Ac f Z λa f=>Aa ?_
   refine Bb 5 AF (by kernel_rfl) m ?_
   refine q_fa 0 5 underlying27 Z sizeOf22 Z f Z λa f=>CD 1 5 1 B8 Z Z Z f Z λa f=>Ag 2 5 Z f Z λa f=>q_on 3 Z λaF w aG m aH aH=> ?_
   have ax:=Ow.mono (RSl.mono (RI.mono _)) aG ax
   have⟨aI,aJ,au⟩:=bind_some au
   refine AN f Z call66 (Wk.x hW m aJ) λaK aL aM w aN m aO a f=> ?_
   obtain⟨aP,aQ,rfl,rfl,aR⟩:=aO
   have ax:=Ow.mono (RSl.mono (RI.mono _)) aN ax
   refine Aa ?_
   refine aH aL [aQ] _ _ aN m ?_
   refine q_on 4 Z λaS w aT m aU aU=> ?_
   have aR:=od1 aT aR
   have ax:=Ow.mono (RSl.mono (RI.mono _)) aT ax
   obtain⟨aV,aW,m,aX⟩:=Ow.stamp (RI.mono _) aR m
   have ax:=Ow.mono (RSl.mono (RI.mono _)) aW ax
   refine B2 (R:=R1) (xs:=([aI]:LL)) (RSl.one _) m T22 f Z Z Z (by decide) (All2.cons aX (All2.nil _)) λaY aZ w a m a0 f=>Aa ?_
   refine aU aV [aY] _ _ aW m ?_
   refine A2 λa1 w a2 m=> ?_
   have a0:=Ow.mono (RSl.mono (RI.mono _)) a2 a0
   have ax:=Ow.mono (RSl.mono (RI.mono _)) a2 ax
   have⟨a3,a4,au⟩:=bind_some au
   refine B7 (RSl.one _) 3 m ax Z T22 Z (by decide) f Z Z Z (Ow.src (j:=0) a0 m Z) a4 λa5 a6 w a m a7 f=>Bd underlying27 Z sizeOf22 f Z λa f=>AP 2 0 (ds:=[a6]) m sizeOf22 f Z Z (Ow.cells 3 m a7 Z) (AR (Ow.one1 3 m a7 Z) A5) Z (lb Z) Z λw m=>Aa (An ?_)
   refine Ah f Z Z As λa f=>Ab f Z λa f=>Aa ?_
   have m:=m.fr 3
   have m:=m.fr 3
   have m:Mem W a1 w (ib aa 27 [sn]::ib ac 27 [a6]::a5::aY::H):=m.fr 3
   have m:=m.eraseAt 3
   obtain rfl:=sj au
   exact⟨_,Z,_,_,Z,_,a6,a5,(gt aw (gt aG (gt aN (gt aT (gt aW a2))))),f.k Z,m,a7⟩
  ·refine Ai f Z ay ?_
   refine AC Z ?_
   obtain rfl:=sj au
   obtain rfl:=av _ rfl
   exact⟨_,Z,_,ap,aq,aw,f.k Z,m,ax⟩
 ·rintro a w ⟨ah,rfl,ai,aj,ak,a8,f,m,a9⟩
  refine Ae ?_
  refine A4 1 0 (ds:=[aj]) m BB f Z Z Z Z Z λa f=>AP 0 0 (ds:=[aj]) m sizeOf27 f Z Z Z (AR (Ow.one1 2 m a9 Z) A5) Z (lb Z) Z λw m=>Aa ?_
  refine Ap ?_
  have ba:=rr_agg (P:=prog) 0 m BB f (s:=2) rfl rfl rfl
  have m:=m.fr 2
  have m:=m.eraseAt 2
  have m:=m.eraseAt 1
  obtain rfl:=sj hd
  exact⟨[(.agg #[aj])],⟨ba,trivial⟩,f.d,_,[ak],a8,m,_,_,Z,Z,a9⟩
theorem Wk.T {v0:Value}{x0:(List (Int×Int))}(m:Mem W G w (H))(h0:RSr P2 G v0 x0){y:Int}(hd:D.T x0=some y):
  Calls prog 73 #[v0,(.func (.func 38) #[] #[])] w (Res W G H (λ_ Ho v=>Ho=[]∧v=(iv y))):=by
 refine Ar (args:=[v0,(.func (.func 38) #[] #[])]) (N:=19) [.tmp 4] func73 Z Z (lb Z) Z λa f=> ?_
 unfold D.T at hd
 refine Ae ?_
 refine Ac f Z λa f=>Aa (Af (Ae ?_))
 refine Ab f Z λa f=>CE underlying39 f Z Z h0 λa f=>Ab f Z λa f=>Aa ?_
 have⟨aa,ab,hd⟩:=bind_some hd
 refine AG (λa w=>∃q_29':Unit,aa= .inl q_29'∧∃(ac:GH),GLe G ac∧Fr a 19 []∧Mem W ac w (H)) ?_ ?_
 ·refine Ak ?_
  refine AE (λad a w=>∃ae:Int,ae=ad∧∃(af:GH),GLe G af∧Fr a 19 [(0,v0),(1,(.func (.func 38) #[] #[])),(7,(iv (x0.length:Int))),(8,(iv ae))]∧Mem W af w (H)) ab ⟨_,Z,_,gr,f.k Z,m⟩ ?_
  clear ab f m
  rintro ad ag ah ai a w ⟨ae,rfl,af,aj,f,m⟩
  have h0:=RSr.mono trivial _ _ _ _ aj h0
  refine Ae ?_
  refine Ah f Z Z AI λa f=>Aa (Af ?_)
  rcases Ad ah with⟨ak,ah⟩|⟨ak,ah⟩
  ·refine Aj f Z ak ?_
   refine Al ?_
   refine Af (Ak (Ae ?_))
   refine Ab f Z λa f=>Ac f Z λa f=>Av ?_
   refine Ab f Z λa f=>Ab f Z λa f=>Ab f Z λa f=> ?_
   have⟨al,am,ah⟩:=bind_some ah
   refine l_atR (E:=P2) T39 f Z Z Z h0 am λan a ao f=>Er (E:=P2) [(iv al.1),(iv al.2)] m Ag42 f Z Z ao Z λa f=> ?_
   have⟨ap,aq,ah⟩:=bind_some ah
   refine l_resv0 f Z Z Z call38 (Wk.F0 m aq) λar au av w aw m ax a f=> ?_
   obtain⟨rfl,rfl⟩:=ax
   refine Aa ?_
   rcases Ad ah with⟨ay,ah⟩|⟨ay,ah⟩
   ·refine Aj f Z ay ?_
    refine Ae ?_
    refine Ab f Z λa f=>Ac f Z λa f=>Aa ?_
    refine Ap ?_
    obtain rfl:=sj ah
    obtain rfl:=ai _ rfl
    obtain rfl:=sj hd
    exact⟨[(iv ae)],f.g Z,f.d,_,[],(gt aj aw),m,Z,Z⟩
   ·refine Ai f Z ay ?_
    refine Al ?_
    refine An ?_
    refine Ah f Z Z As λa f=>Ab f Z λa f=>Aa ?_
    obtain rfl:=sj ah
    exact⟨_,Z,_,Z,_,(gt aj aw),f.k Z,m⟩
  ·refine Ai f Z ak ?_
   refine AC Z ?_
   obtain rfl:=sj ah
   obtain rfl:=ai _ rfl
   exact⟨_,Z,_,aj,f.weak trivial,m⟩
 ·rintro a w ⟨_,rfl,ac,az,f,m⟩
  refine Ae ?_
  refine Ac f Z λa f=>Aa ?_
  refine Ap ?_
  obtain rfl:=sj hd
  exact⟨[(iv (-1))],f.g Z,f.d,_,[],az,m,Z,Z⟩
theorem Wk.m0 {v0:Value}{x0:(List (Int×Int))}(m:Mem W G w (H))(h0:RSr P2 G v0 x0){y:Bool}(hd:D.m0 x0=some y):
  Calls prog 37 #[v0,(.func (.func 38) #[] #[])] w (Res W G H (λ_ Ho v=>Ho=[]∧v=(.bool y))):=by
 refine Ar (args:=[v0,(.func (.func 38) #[] #[])]) (N:=9) [.tmp 4] func37 Z Z (lb Z) Z λa f=> ?_
 unfold D.m0 at hd
 refine Ae ?_
 refine Ac f Z λa f=>Av ?_
 refine Ab f Z λa f=>Ab f Z λa f=> ?_
 have⟨aa,ab,hd⟩:=bind_some hd
 refine Bc f Z call73 (Wk.T m h0 ab) λac w ad m a f=>Ah f Z Z B3 λa f=>Ac f Z λa f=>Aa ?_
 refine Ap ?_
 obtain rfl:=sj hd
 exact⟨[(.bool (decide ((0:Int)≤aa)))],f.g Z,f.d,_,[],ad,m,Z,Z⟩
theorem Wk.h {v0:Value}{x0:(List (Int×Int))}(hW:Bo W)(m:Mem W G w (H))(h0:RSr P2 G v0 x0){y:(LL)×Bool}(hd:D.h x0=some y):
  Calls prog 18 #[v0] w (Res W G H (λG' Ho v=>∃r0:Value,∃i0:Itm,Ho=[i0]∧v= .tuple #[(.agg #[r0]),(.bool y.2)]∧Ow R1 49 G' i0 r0 y.1)):=by
 refine Ar (args:=[v0]) (N:=61) [.cell 2 27,.tmp 3] func18 Z Z (lb Z) Z λa f=> ?_
 unfold D.h at hd
 refine Ae ?_
 refine BN (cs:=[sn]) zeroValue27 m f Z Z λaa w a m f=>Ac f Z λa f=>Aa (Af (Ae ?_))
 refine Ab f Z λa f=>CE underlying39 f Z Z h0 λa f=>Ah f Z Z AI λa f=>Ab f Z λa f=> ?_
 refine Bx 4 (λa w=>∃ab,GLe G ab∧Mem W ab w (ib aa 27 [sn]::H)∧Fr a 61 [(0,v0),(2,(pb aa)),(9,v0),(10,(iv (x0.length:Int))),(11,(.bool (decide ((x0.length:Int)<1)))),(12,(.bool (decide ((x0.length:Int)<1)))),(16,(.bool ((decide ((x0.length:Int)<1))||(decide ((16:Int)<(x0.length:Int))))))]) ?_ ?_
 ·rcases Bool.eq_false_or_eq_true (decide ((x0.length:Int)<1)) with ac|ac
  ·refine Az f ac λa f=> ?_
   refine Az f ac λa f=>Az f ac λa f=>l_o f (AK (f.e Z) ac (f.e Z)) λa f=> ?_
   exact⟨_,gr,m,f.weak ⟨Z,Z,Z,Z,Z,Z,by rw[ac];rfl,trivial⟩⟩
  ·refine Ax f ac ?_
   refine Ab f Z λa f=>Ax f ac ?_
   refine CE underlying39 f Z Z h0 λa f=>Ax f ac ?_
   refine Ah f Z Z CC λa f=>l_o f (AJ (f.e Z) ac (f.e Z)) λa f=> ?_
   exact⟨_,gr,m,f.weak ⟨Z,Z,Z,Z,Z,Z,by rw[ac];rfl,trivial⟩⟩
 ·rintro a w ⟨ab,ad,m,f⟩
  have h0:=RSr.mono trivial _ _ _ _ ad h0
  refine Ab f Z λa f=> ?_
  have⟨ae,af,hd⟩:=bind_some hd
  refine Bx 3 (λa w=>∃ag,GLe ab ag∧Mem W ag w (ib aa 27 [sn]::H)∧Fr a 61 [(0,v0),(2,(pb aa)),(9,v0),(10,(iv (x0.length:Int))),(11,(.bool (decide ((x0.length:Int)<1)))),(12,(.bool (decide ((x0.length:Int)<1)))),(16,(.bool ((decide ((x0.length:Int)<1))||(decide ((16:Int)<(x0.length:Int)))))),(17,(.bool ((decide ((x0.length:Int)<1))||(decide ((16:Int)<(x0.length:Int)))))),(20,(.bool ae))]) ?_ ?_
  ·rcases Ad af with⟨ah,af⟩|⟨ah,af⟩
   ·refine Az f ah λa f=> ?_
    refine Az f ah λa f=>l_o f (AK (f.e Z) ah (f.e Z)) λa f=> ?_
    obtain rfl:=sj af
    exact⟨_,gr,m,f.k Z⟩
   ·refine Ax f ah ?_
    refine Ab f Z λa f=>Ax f ah ?_
    have⟨ai,aj,af⟩:=bind_some af
    refine Bc f Z call37 (Wk.m0 m h0 aj) λak w al m a f=>l_o f (AJ (f.e Z) ah (f.e Z)) λa f=> ?_
    obtain rfl:=sj af
    exact⟨_,al,m,f.k Z⟩
  ·rintro a w ⟨ag,am,m,f⟩
   have h0:=RSr.mono trivial _ _ _ _ am h0
   refine Aa ?_
   rcases Ad hd with⟨an,hd⟩|⟨an,hd⟩
   ·refine Aj f Z an ?_
    refine Ae ?_
    have ao:∀w,(Instr.build 27 #[]).run prog w= .ok (.agg #[sn]) w:=by intro w;simp[Instr.build,Instr.fill,Cw,Ck,BZ,B6,BV,Ci]
    refine CO f Z Z ao λa f=>AP 0 0 (ds:=[sn]) m sizeOf27 f Z Z Z (AR Z A5) Z (lb Z) Z λw m=>Ac f Z λa f=>Aa ?_
    refine Ap ?_
    obtain⟨ap,m,aq⟩:=Ow.nil R1 49 m
    have ar:=rr_agg (P:=prog) 1 m BB f (s:=2) rfl rfl rfl
    have m:=m.eraseAt 1
    obtain rfl:=sj hd
    exact⟨[(.agg #[sn]),(.bool false)],⟨ar,f.get _ _ Z,trivial⟩,f.d,_,[ap],(gt ad am),m,_,_,Z,Z,aq⟩
   ·refine Ai f Z an ?_
    refine Al ?_
    refine Ae ?_
    refine Ab f Z λa f=>CE underlying39 f Z Z h0 λa f=> ?_
    have⟨au,av,hd⟩:=bind_some hd
    refine l_make (R:=(RI .u32)) m T56 Z (by decide) Z f Z Z Z av λaw ax w a m ay f=>Ac f Z λa f=>Aa (Af (Ae ?_))
    refine Ab f Z λa f=>CE underlying39 f Z Z h0 λa f=>Ab f Z λa f=>Aa ?_
    have⟨az,aA,hd⟩:=bind_some hd
    refine AG (λa w=>∃aB:LI,aB=az∧∃(aC:GH) (aD:Itm),GLe ag aC∧Fr a 61 [(2,(pb aa)),(4,ax)]∧Mem W aC w (ib aa 27 [sn]::aD::H)∧Ow (RI .u32) 75 aC aD ax aB) ?_ ?_
    ·refine Ak ?_
     have m:=m.fr 1
     refine AE (λaE a w=>∃aF:LI,∃aG:Int,(aF,aG)=aE∧∃(aH:GH) (aI:Itm),GLe ag aH∧Fr a 61 [(0,v0),(2,(pb aa)),(4,ax),(25,v0),(26,(iv (x0.length:Int))),(27,(iv aG))]∧Mem W aH w (ib aa 27 [sn]::aI::H)∧Ow (RI .u32) 75 aH aI ax aF) aA ⟨_,_,Z,_,aw,gr,f.k Z,m,ay⟩ ?_
     clear aA f m
     rintro aE aJ aK aL a w ⟨aF,aG,rfl,aH,aI,aM,f,m,aN⟩
     have h0:=RSr.mono trivial _ _ _ _ aM h0
     refine Ae ?_
     refine Ah f Z Z AI λa f=>Aa (Af ?_)
     rcases Ad aK with⟨aO,aK⟩|⟨aO,aK⟩
     ·refine Aj f Z aO ?_
      refine Al ?_
      refine Af (Ak (Ae ?_))
      refine Ab f Z λa f=> ?_
      have⟨aP,aQ,aK⟩:=bind_some aK
      refine l_atR (E:=P2) T39 f Z Z Z h0 aQ λaR a aS f=>Er (E:=P2) [(iv aP.1),(iv aP.2)] m Ag42 f Z Z aS Z λa f=>BN (cs:=[(iv 0),(iv 0)]) zeroValue42 m f Z Z λaT w a m f=>Ac f Z λa f=>AP 0 0 (ds:=[(iv aP.1),(iv aP.2)]) m sizeOf42 f Z Z Z (AR Z (AR Z A5)) Z (lb Z) Z λw m=>Av ?_
      refine Ab f Z λa f=>Ab f Z λa f=> ?_
      have⟨aU,aV,aK⟩:=bind_some aK
      refine l_sliceR (E:=P2) T39 f Z Z h0 (.inl ⟨Z,Z⟩) (.inr ⟨_,_,Z,Z⟩) aV λaW a aX f=>CE underlying39 f Z Z aX λa f=>Ab f Z λa f=>Aa ?_
      have⟨aY,aZ,aK⟩:=bind_some aK
      refine AG (λa w=>∃a0:LI,a0=aY∧∃(a1:GH) (a2:Itm),GLe aH a1∧Fr a 61 [(0,v0),(2,(pb aa)),(4,ax),(25,v0),(26,(iv (x0.length:Int))),(27,(iv aG))]∧Mem W a1 w (ib aa 27 [sn]::a2::H)∧Ow (RI .u32) 75 a1 a2 ax a0) ?_ ?_
      ·refine Ak ?_
       have m:Mem W aH w (ib aa 27 [sn]::ib aT 42 [(iv aP.1),(iv aP.2)]::aI::H):=m.fr 1
       refine AE (λa3 a w=>∃a4:LI,∃a5:Int,(a4,a5)=a3∧∃(a6:GH) (a7:Itm),GLe aH a6∧Fr a 61 [(0,v0),(2,(pb aa)),(4,ax),(5,(iv aG)),(6,(pb aT)),(25,v0),(26,(iv (x0.length:Int))),(27,(iv aG)),(34,aW),(35,(iv (aU.length:Int))),(36,(iv a5))]∧Mem W a6 w (ib aa 27 [sn]::ib aT 42 [(iv aP.1),(iv aP.2)]::a7::H)∧Ow (RI .u32) 75 a6 a7 ax a4) aZ ⟨_,_,Z,_,aI,gr,f.k Z,m,aN⟩ ?_
       clear aZ f m
       rintro a3 a8 a9 ba a w ⟨a4,a5,rfl,a6,a7,bb,f,m,bc⟩
       have aX:=RSr.mono trivial _ _ _ _ bb aX
       refine Ae ?_
       refine Ah f Z Z AI λa f=>Aa (Af ?_)
       rcases Ad a9 with⟨bd,a9⟩|⟨bd,a9⟩
       ·refine Aj f Z bd ?_
        refine Al ?_
        refine Af (Ak (Ae ?_))
        refine Ab f Z λa f=> ?_
        have⟨be,bf,a9⟩:=bind_some a9
        refine l_atR (E:=P2) T39 f Z Z Z aX bf λbg a bh f=>Er (E:=P2) [(iv be.1),(iv be.2)] m Ag42 f Z Z bh Z λa f=>BN (cs:=[(iv 0),(iv 0)]) zeroValue42 m f Z Z λbi w a m f=>Ac f Z λa f=>AP 0 0 (ds:=[(iv be.1),(iv be.2)]) m sizeOf42 f Z Z Z (AR Z (AR Z A5)) Z (lb Z) Z λw m=>Av ?_
        refine Bd underlying42 Z sizeOf2 f Z λa f=>Aw 2 0 m Pl2 f Z Z Z Z λa f=>Bd underlying42 Z sizeOf2 f Z λa f=>Aw 0 1 m Pl2 f Z Z Z Z λa f=>Ah f Z Z BT λa f=>Ab f Z λa f=> ?_
        refine Bx 6 (λa w=>∃bj,GLe a6 bj∧Mem W bj w (ib bi 42 [(iv be.1),(iv be.2)]::ib aa 27 [sn]::ib aT 42 [(iv aP.1),(iv aP.2)]::a7::H)∧Fr a 61 [(0,v0),(2,(pb aa)),(4,ax),(5,(iv aG)),(6,(pb aT)),(7,(iv a5)),(8,(pb bi)),(25,v0),(26,(iv (x0.length:Int))),(27,(iv aG)),(34,aW),(35,(iv (aU.length:Int))),(36,(iv a5)),(41,(pb aT)),(42,(iv aP.1)),(43,(.pointer (some ⟨bi,1,none⟩))),(44,(iv be.2)),(45,(.bool (decide (aP.1≤be.2)))),(46,(.bool (decide (aP.1≤be.2)))),(52,(.bool ((decide (aP.1≤be.2))&&(decide (be.1≤aP.2)))))]) ?_ ?_
        ·rcases Bool.eq_false_or_eq_true (decide (aP.1≤be.2)) with bk|bk
         ·refine Ax f bk ?_
          refine Bd underlying42 Z sizeOf2 f Z λa f=>Ax f bk ?_
          refine Aw 0 0 m Pl2 f Z Z Z Z λa f=>Ax f bk ?_
          refine Bd underlying42 Z sizeOf2 f Z λa f=>Ax f bk ?_
          refine Aw 2 1 m Pl2 f Z Z Z Z λa f=>Ax f bk ?_
          refine Ah f Z Z BT λa f=>l_o f (AK (f.e Z) bk (f.e Z)) λa f=> ?_
          exact⟨_,gr,m,f.weak ⟨Z,Z,Z,Z,Z,Z,Z,Z,Z,Z,Z,Z,Z,Z,Z,Z,Z,Z,Z,by rw[bk];rfl,trivial⟩⟩
         ·refine Az f bk λa f=> ?_
          refine Az f bk λa f=>Az f bk λa f=>Az f bk λa f=>Az f bk λa f=>l_o f (AJ (f.e Z) bk (f.e Z)) λa f=> ?_
          exact⟨_,gr,m,f.weak ⟨Z,Z,Z,Z,Z,Z,Z,Z,Z,Z,Z,Z,Z,Z,Z,Z,Z,Z,Z,by rw[bk];rfl,trivial⟩⟩
        ·rintro a w ⟨bj,bl,m,f⟩
         have bc:=od1 bl bc
         refine Aa ?_
         rcases Ad a9 with⟨bm,a9⟩|⟨bm,a9⟩
         ·refine Aj f Z bm ?_
          refine An ?_
          refine Ab f Z λa f=>Ab f Z λa f=>Ab f Z λa f=> ?_
          have m:Mem W bj w (a7::ib bi 42 [(iv be.1),(iv be.2)]::ib aa 27 [sn]::ib aT 42 [(iv aP.1),(iv aP.2)]::H):=m.fr 3
          have⟨bn,bo,a9⟩:=bind_some a9
          refine AN f Z call40 (Wk.I m bc bo) λbp bq br w bs m bt a f=> ?_
          obtain⟨bu,rfl,bv⟩:=bt
          refine Aa (An ?_)
          refine Ah f Z Z As λa f=>Ab f Z λa f=>Aa ?_
          have m:=m.fr 3
          have m:=m.fr 3
          have m:Mem W bq w (ib aa 27 [sn]::ib aT 42 [(iv aP.1),(iv aP.2)]::bu::H):=m.eraseAt 3
          obtain rfl:=sj a9
          exact⟨_,Z,_,_,Z,_,bu,(gt bb (gt bl bs)),f.k Z,m,bv⟩
         ·refine Ai f Z bm ?_
          refine Al ?_
          refine An ?_
          refine Ah f Z Z As λa f=>Ab f Z λa f=>Aa ?_
          have m:=m.fr 3
          have m:=m.fr 3
          have m:Mem W bj w (ib aa 27 [sn]::ib aT 42 [(iv aP.1),(iv aP.2)]::a7::ib bi 42 [(iv be.1),(iv be.2)]::H):=m.fr 3
          have m:Mem W bj w (ib aa 27 [sn]::ib aT 42 [(iv aP.1),(iv aP.2)]::a7::H):=m.eraseAt 3
          obtain rfl:=sj a9
          exact⟨_,Z,_,_,Z,_,a7,(gt bb bl),f.k Z,m,bc⟩
       ·refine Ai f Z bd ?_
        refine AC Z ?_
        have m:=m.fr 2
        have m:=m.fr 1
        have m:=m.eraseAt 2
        obtain rfl:=sj a9
        obtain rfl:=ba _ rfl
        exact⟨_,Z,_,a7,bb,f.k Z,m,bc⟩
      ·rintro a w ⟨a0,rfl,a1,a2,bw,f,m,bx⟩
       refine An ?_
       refine Ah f Z Z As λa f=>Ab f Z λa f=>Aa ?_
       obtain rfl:=sj aK
       exact⟨_,Z,_,_,Z,_,a2,(gt aM bw),f.k Z,m,bx⟩
     ·refine Ai f Z aO ?_
      refine AC Z ?_
      obtain rfl:=sj aK
      obtain rfl:=aL _ rfl
      exact⟨_,Z,_,aI,aM,f.k Z,m,aN⟩
    ·rintro a w ⟨aB,rfl,aC,aD,bz,f,m,bA⟩
     refine Ae ?_
     refine Ab f Z λa f=> ?_
     have m:=m.fr 1
     obtain⟨bB,bC,m,bD⟩:=Ow.stamp (RI.mono _) bA m
     have⟨bE,bF,hd⟩:=bind_some hd
     refine AN f Z call41 (Wk.V hW m bD bF) λbG bH bI w bJ m bK a f=> ?_
     obtain⟨bL,bM,rfl,rfl,bN⟩:=bK
     refine AP 1 0 (ds:=[bL]) m sizeOf27 f Z Z Z (AR (Ow.one1 0 m bN Z) A5) Z (lb Z) Z λw m=>Ac f Z λa f=>Aa ?_
     refine Ap ?_
     have bO:=rr_agg (P:=prog) 1 m BB f (s:=2) rfl rfl rfl
     have m:=m.eraseAt 1
     obtain rfl:=sj hd
     exact⟨[(.agg #[bL]),(.bool true)],⟨bO,f.get _ _ Z,trivial⟩,f.d,_,[bM],(gt ad (gt am (gt bz (gt bC bJ)))),m,_,_,Z,Z,bN⟩
theorem Wk.d {aa:Value}{ab:LL}(m:Mem W G w (H))(ac:R2 G aa ab){y:Int}(hd:D.d ab=some y):
  Calls prog 53 #[(.agg #[aa])] w (Res W G H (λ_ Ho v=>Ho=[]∧v=(iv y))):=by
 refine Ar (args:=[(.agg #[aa])]) (N:=6) [.tmp 2] func53 Z Z (lb Z) Z λa f=> ?_
 unfold D.d at hd
 refine Ae ?_
 refine BG (cs:=[aa]) m f Z Z Z λad w a m f=>Ac f Z λa f=>Av ?_
 refine Bd underlying27 Z sizeOf22 f Z λa f=>Aw 0 0 m B8 f Z Z Z Z λa f=>Ba underlying22 f Z Z ac λa f=>Ac f Z λa f=>Aa ?_
 refine Ap ?_
 have m:Mem W G w H:=Mem.drop (H':=[ib ad 27 [aa]]) m
 obtain rfl:=sj hd
 exact⟨[(iv (ab.length:Int))],f.g Z,f.d,_,[],gr,m,Z,Z⟩
theorem Wk.j {x0 x1 x2:Int}(m:Mem W G w (H)){y:Bool}(hd:D.j x0 x1 x2=some y):
  Calls prog 54 #[(iv x0),(iv x1),(iv x2)] w (Res W G H (λ_ Ho v=>Ho=[]∧v=(.bool y))):=by
 refine Ar (args:=[(iv x0),(iv x1),(iv x2)]) (N:=15) [.tmp 6] func54 Z Z (lb Z) Z λa f=> ?_
 unfold D.j at hd
 refine Ae ?_
 refine Ac f Z λa f=>Av ?_
 refine Ab f Z λa f=>Ab f Z λa f=>Ah f Z Z B3 λa f=>Ab f Z λa f=> ?_
 refine Bx 4 (λa w=>∃aa,GLe G aa∧Mem W aa w (H)∧Fr a 15 [(0,(iv x0)),(1,(iv x1)),(2,(iv x2)),(7,(iv x0)),(8,(iv x1)),(9,(.bool (decide (x1≤x0)))),(10,(.bool (decide (x1≤x0)))),(14,(.bool ((decide (x1≤x0))&&(decide (x0≤x2)))))]) ?_ ?_
 ·rcases Bool.eq_false_or_eq_true (decide (x1≤x0)) with ab|ab
  ·refine Ax f ab ?_
   refine Ab f Z λa f=>Ax f ab ?_
   refine Ab f Z λa f=>Ax f ab ?_
   refine Ah f Z Z BT λa f=>l_o f (AK (f.e Z) ab (f.e Z)) λa f=> ?_
   exact⟨_,gr,m,f.weak ⟨Z,Z,Z,Z,Z,Z,Z,by rw[ab];rfl,trivial⟩⟩
  ·refine Az f ab λa f=> ?_
   refine Az f ab λa f=>Az f ab λa f=>l_o f (AJ (f.e Z) ab (f.e Z)) λa f=> ?_
   exact⟨_,gr,m,f.weak ⟨Z,Z,Z,Z,Z,Z,Z,by rw[ab];rfl,trivial⟩⟩
 ·rintro a w ⟨aa,ac,m,f⟩
  refine Ac f Z λa f=>Aa ?_
  refine Ap ?_
  obtain rfl:=sj hd
  exact⟨[(.bool ((decide (x1≤x0))&&(decide (x0≤x2))))],f.g Z,f.d,_,[],ac,m,Z,Z⟩
theorem Wk.X {v0:Value}{x0:LI}{x1:Int}(m:Mem W G w (H))(h0:R1 G v0 x0){y:Bool}(hd:D.X x0 x1=some y):
  Calls prog 55 #[v0,(iv x1)] w (Res W G H (λ_ Ho v=>Ho=[]∧v=(.bool y))):=by
 refine Ar (args:=[v0,(iv x1)]) (N:=40) [.tmp 4] func55 Z Z (lb Z) Z λa f=> ?_
 unfold D.X at hd
 refine Ae ?_
 refine Ac f Z λa f=>Aa (Af (Ae ?_))
 refine Ab f Z λa f=>Ba underlying49 f Z Z h0 λa f=>Ab f Z λa f=>Ah f Z Z CC λa f=>Aa ?_
 rcases Ad hd with⟨aa,hd⟩|⟨aa,hd⟩
 ·refine Aj f Z aa ?_
  refine Ae ?_
  refine Ac f Z λa f=>Aa ?_
  refine Ap ?_
  obtain rfl:=sj hd
  exact⟨[(.bool false)],f.g Z,f.d,_,[],gr,m,Z,Z⟩
 ·refine Ai f Z aa ?_
  refine Al ?_
  refine Af (Ae ?_)
  refine Ac f Z λa f=>Aa ?_
  have⟨ab,ac,hd⟩:=bind_some hd
  refine AG (λa w=>∃q_150':Unit,ab= .inl q_150'∧∃(ad:GH),GLe G ad∧Fr a 40 []∧Mem W ad w (H)) ?_ ?_
  ·refine Ak ?_
   refine AE (λae a w=>∃af:Int,af=ae∧∃(ag:GH),GLe G ag∧Fr a 40 [(0,v0),(1,(iv x1)),(5,(iv af))]∧Mem W ag w (H)) ac ⟨_,Z,_,gr,f.k Z,m⟩ ?_
   clear ac f m
   rintro ae ah ai aj a w ⟨af,rfl,ag,ak,f,m⟩
   have h0:=rd1 ak h0
   refine Af (Ae ?_)
   refine Ab f Z λa f=>Ab f Z λa f=>Ba underlying49 f Z Z h0 λa f=>Ah f Z Z AI λa f=>Aa ?_
   rcases Ad ai with⟨al,ai⟩|⟨al,ai⟩
   ·refine Aj f Z al ?_
    refine Al ?_
    refine Af (Ak (Af ?_))
    refine Bb 24 AF (by kernel_rfl) m ?_
    refine Ag 0 24 Z f Z λa f=>Ag 1 24 Z f Z λa f=> ?_
    have⟨am,an,ai⟩:=bind_some ai
    refine Ct 2 24 T49 h0 an Z f Z Z λao ap a aq ar f=> ?_
    subst ar
    refine Cs 3 24 Pl2 aq Z f Z λa f=>Ag 4 24 Z f Z λa f=>q_p 5 24 Z f (λ_=>Ay (f.e Z) (f.e Z) AT) λa f=> ?_
    have⟨au,av,ai⟩:=bind_some ai
    refine Cu (i:=6) 24 Z (by kernel_rfl) Z f Z Z Z call54 (λ_ _ w aw m=>Wk.j m av) λa f=>q_p 7 24 Z f (λ_=>Bt (f.e Z)) λa f=>Ag 8 24 Z f Z λa f=> ?_
    have⟨ax,ay,ai⟩:=bind_some ai
    refine Cr (fuel':=0) (listed':= #[true,true,true,true,true,true,true,true,true,true,true,true,true,true,true,true,true,true,true,true,true,true,true,true]) (λa=>Fr a 40 [(0,v0),(1,(iv x1)),(5,(iv af)),(13,(.bool (decide (af<(x0.length:Int))))),(16,v0),(17,(iv af)),(18,ao),(19,(iv am)),(20,(iv x1)),(21,(iv (i64.wrap (x1-1)))),(22,(.bool au)),(23,(.bool (!au))),(24,(.bool (!au))),(39,(.bool ax))]) ?_ ?_
    ·intro a f
     refine A2 λaz w aA m=>Aa ?_
     rcases Ad ai with⟨aB,ai⟩|⟨aB,ai⟩
     ·refine Aj f Z aB ?_
      refine Ae ?_
      refine Ac f Z λa f=>Aa ?_
      refine Ap ?_
      obtain rfl:=sj ai
      obtain rfl:=aj _ rfl
      obtain rfl:=sj hd
      exact⟨[(.bool false)],f.g Z,f.d,_,[],(gt ak aA),m,Z,Z⟩
     ·refine Ai f Z aB ?_
      refine Al ?_
      refine An ?_
      refine Ab f Z λa f=>Ah f Z Z As λa f=>Ac f Z λa f=>Aa ?_
      obtain rfl:=sj ai
      exact⟨_,Z,_,Z,_,(gt ak aA),f.k Z,m⟩
    ·intro aC
     rcases Ad ay with⟨aD,ay⟩|⟨aD,ay⟩
     ·refine Aq 9 24 Z f aD λa f=> ?_
      refine Aq 10 24 Z f aD λa f=>Aq 11 24 Z f aD λa f=>q_nu 12 24 Z f λa f=>q_nu 13 24 Z f λa f=>q_nu 14 24 Z f λa f=>q_nu 15 24 Z f λa f=>q_nu 16 24 Z f λa f=>q_nu 17 24 Z f λa f=>q_nu 18 24 Z f λa f=>q_nu 19 24 Z f λa f=>q_nu 20 24 Z f λa f=>q_nu 21 24 Z f λa f=>Aq 22 24 Z f aD λa f=>q_p 23 24 Z f (λ_=>AK (f.e Z) aD (f.e Z)) λa f=> ?_
      obtain rfl:=sj ay
      exact aC _ (f.k Z)
     ·refine Ag (hw:=wo f aD) 9 24 Z f Z λa f=> ?_
      refine q_p (hw:=wo f aD) 10 24 Z f (λ_=>Ay (f.e Z) (f.e Z) CC) λa f=>Ag (hw:=wo f aD) 11 24 Z f Z λa f=> ?_
      have⟨aE,aF,ay⟩:=bind_some ay
      refine Cr (fuel':=1) (listed':= #[true,true,true,true,true,true,true,true,true,true,true,true,true,true,true,true,true,true,true,true,true,true,true,false]) (λa=>Fr a 40 [(0,v0),(1,(iv x1)),(5,(iv af)),(13,(.bool (decide (af<(x0.length:Int))))),(16,v0),(17,(iv af)),(18,ao),(19,(iv am)),(20,(iv x1)),(21,(iv (i64.wrap (x1-1)))),(22,(.bool au)),(23,(.bool (!au))),(24,(.bool (!au))),(25,(iv af)),(26,(.bool (decide ((0:Int)<af)))),(27,(.bool (decide ((0:Int)<af)))),(38,(.bool aE))]) ?_ ?_
      ·intro a f
       refine q_p 23 24 Z f (λ_=>AJ (f.e Z) aD (f.e Z)) λa f=> ?_
       obtain rfl:=sj ay
       exact aC _ (f.k Z)
      ·intro aG
       rcases Ad aF with⟨aH,aF⟩|⟨aH,aF⟩
       ·refine Ag (hw:=wo f aH) 12 24 Z f Z λa f=> ?_
        refine Ag (hw:=wo f aH) 13 24 Z f Z λa f=> ?_
        have⟨aI,aJ,aF⟩:=bind_some aF
        refine Ct (hw:=wo f aH) 14 24 T49 h0 aJ Z f Z Z λaK aL a aM aN f=> ?_
        subst aN
        refine Cs (hw:=wo f aH) 15 24 Pl2 aM Z f Z λa f=>Ag (hw:=wo f aH) 16 24 Z f Z λa f=>Ag (hw:=wo f aH) 17 24 Z f Z λa f=>q_p (hw:=wo f aH) 18 24 Z f (λ_=>Ay (f.e Z) (f.e Z) AT) λa f=> ?_
        have⟨aO,aP,aF⟩:=bind_some aF
        refine Ct (hw:=wo f aH) 19 24 T49 h0 aP Z f Z Z λaQ aR a aS aT f=> ?_
        subst aT
        refine Cs (hw:=wo f aH) 20 24 Pl2 aS Z f Z λa f=>q_p (hw:=wo f aH) 21 24 Z f (λ_=>Ay (f.e Z) (f.e Z) BT) λa f=>q_p (hw:=wo f aD) 22 24 Z f (λ_=>AK (f.e Z) aH (f.e Z)) λa f=> ?_
        obtain rfl:=sj aF
        exact aG _ (f.k Z)
       ·refine Aq 12 24 Z f aH λa f=> ?_
        refine Aq 13 24 Z f aH λa f=>Aq 14 24 Z f aH λa f=>Aq 15 24 Z f aH λa f=>Aq 16 24 Z f aH λa f=>Aq 17 24 Z f aH λa f=>Aq 18 24 Z f aH λa f=>Aq 19 24 Z f aH λa f=>Aq 20 24 Z f aH λa f=>Aq 21 24 Z f aH λa f=>q_p (hw:=wo f aD) 22 24 Z f (λ_=>AJ (f.e Z) aH (f.e Z)) λa f=> ?_
        obtain rfl:=sj aF
        exact aG _ (f.k Z)
   ·refine Ai f Z al ?_
    refine AC Z ?_
    obtain rfl:=sj ai
    obtain rfl:=aj _ rfl
    exact⟨_,Z,_,ak,f.weak trivial,m⟩
  ·rintro a w ⟨_,rfl,ad,aU,f,m⟩
   refine Ae ?_
   refine Ac f Z λa f=>Aa ?_
   refine Ap ?_
   obtain rfl:=sj hd
   exact⟨[(.bool true)],f.g Z,f.d,_,[],aU,m,Z,Z⟩
theorem Wk.q {v0:Value}{x0:LI}{x1:Int}(m:Mem W G w (H))(h0:R1 G v0 x0){y:Bool}(hd:D.q x0 x1=some y):
  Calls prog 56 #[v0,(iv x1)] w (Res W G H (λ_ Ho v=>Ho=[]∧v=(.bool y))):=by
 refine Ar (args:=[v0,(iv x1)]) (N:=18) [.tmp 4] func56 Z Z (lb Z) Z λa f=> ?_
 unfold D.q at hd
 refine Ae ?_
 refine Ac f Z λa f=>Aa (Af (Ae ?_))
 refine Ac f Z λa f=>Aa ?_
 have⟨aa,ab,hd⟩:=bind_some hd
 refine AG (λa w=>∃q_19':Unit,aa= .inl q_19'∧∃(ac:GH),GLe G ac∧Fr a 18 []∧Mem W ac w (H)) ?_ ?_
 ·refine Ak ?_
  refine AE (λad a w=>∃ae:Int,ae=ad∧∃(af:GH),GLe G af∧Fr a 18 [(0,v0),(1,(iv x1)),(5,(iv ae))]∧Mem W af w (H)) ab ⟨_,Z,_,gr,f.k Z,m⟩ ?_
  clear ab f m
  rintro ad ag ah ai a w ⟨ae,rfl,af,aj,f,m⟩
  have h0:=rd1 aj h0
  refine Af (Ae ?_)
  refine Ab f Z λa f=>Ab f Z λa f=>Ba underlying49 f Z Z h0 λa f=>Ah f Z Z AI λa f=>Aa ?_
  rcases Ad ah with⟨ak,ah⟩|⟨ak,ah⟩
  ·refine Aj f Z ak ?_
   refine Al ?_
   refine Af (Ak (Ae ?_))
   refine Ab f Z λa f=>Ab f Z λa f=> ?_
   have⟨al,am,ah⟩:=bind_some ah
   refine BQ T49 f Z Z Z h0 am λan ao a ap aq f=> ?_
   subst aq
   refine A7 m Pl2 f Z Z ap λa f=>Ab f Z λa f=>Ah f Z Z BU λa f=>Aa ?_
   rcases Ad ah with⟨ar,ah⟩|⟨ar,ah⟩
   ·refine Aj f Z ar ?_
    refine Ae ?_
    refine Ac f Z λa f=>Aa ?_
    refine Ap ?_
    obtain rfl:=sj ah
    obtain rfl:=ai _ rfl
    obtain rfl:=sj hd
    exact⟨[(.bool true)],f.g Z,f.d,_,[],aj,m,Z,Z⟩
   ·refine Ai f Z ar ?_
    refine Al ?_
    refine An ?_
    refine Ab f Z λa f=>Ah f Z Z As λa f=>Ac f Z λa f=>Aa ?_
    obtain rfl:=sj ah
    exact⟨_,Z,_,Z,_,aj,f.k Z,m⟩
  ·refine Ai f Z ak ?_
   refine AC Z ?_
   obtain rfl:=sj ah
   obtain rfl:=ai _ rfl
   exact⟨_,Z,_,aj,f.weak trivial,m⟩
 ·rintro a w ⟨_,rfl,ac,au,f,m⟩
  refine Ae ?_
  refine Ac f Z λa f=>Aa ?_
  refine Ap ?_
  obtain rfl:=sj hd
  exact⟨[(.bool false)],f.g Z,f.d,_,[],au,m,Z,Z⟩
theorem Wk.o {aa:Value}{ab:LL}(m:Mem W G w (H))(ac:R2 G aa ab){y:Bool}(hd:D.o ab=some y):
  Calls prog 26 #[(.agg #[aa])] w (Res W G H (λ_ Ho v=>Ho=[]∧v=(.bool y))):=by
 refine Ar (args:=[(.agg #[aa])]) (N:=64) [.tmp 2] func26 Z Z (lb Z) Z λa f=> ?_
 unfold D.o at hd
 refine Ae ?_
 refine BG (cs:=[aa]) m f Z Z Z λad w a m f=>Ac f Z λa f=>Av ?_
 refine A4 0 0 (ds:=[aa]) m BB f Z Z Z Z Z λa f=> ?_
 have⟨ae,af,hd⟩:=bind_some hd
 refine Bc f Z call53 (Wk.d m ac af) λag w ah m a f=> ?_
 have ac:=rd2 ah ac
 refine Ac f Z λa f=>Aa (Af (Ae ?_))
 refine Ab f Z λa f=> ?_
 have⟨ai,aj,hd⟩:=bind_some hd
 refine Bc f Z call54 (Wk.j m aj) λak w al m a f=> ?_
 have ac:=rd2 al ac
 refine l_o f (Bt (f.e Z)) λa f=>Aa ?_
 rcases Ad hd with⟨am,hd⟩|⟨am,hd⟩
 ·refine Aj f Z am ?_
  refine Ae ?_
  refine Ac f Z λa f=>Aa ?_
  refine Ap ?_
  have m:Mem W ak w H:=Mem.drop (H':=[ib ad 27 [aa]]) m
  obtain rfl:=sj hd
  exact⟨[(.bool false)],f.g Z,f.d,_,[],(gt ah al),m,Z,Z⟩
 ·refine Ai f Z am ?_
  refine Al ?_
  refine Af (Ae ?_)
  refine Ac f Z λa f=>Aa ?_
  have⟨an,ao,hd⟩:=bind_some hd
  refine AG (λa w=>∃q_138':Unit,an= .inl q_138'∧∃(ap:GH),GLe ak ap∧Fr a 64 [(1,(pb ad)),(3,(iv ae))]∧Mem W ap w (ib ad 27 [aa]::H)) ?_ ?_
  ·refine Ak ?_
   refine AE (λaq a w=>∃ar:Int,ar=aq∧∃(au:GH),GLe ak au∧Fr a 64 [(1,(pb ad)),(3,(iv ae)),(4,(iv ar))]∧Mem W au w (ib ad 27 [aa]::H)) ao ⟨_,Z,_,gr,f.k Z,m⟩ ?_
   clear ao f m
   rintro aq av aw ax a w ⟨ar,rfl,au,ay,f,m⟩
   have ac:=rd2 ay ac
   refine Af (Ae ?_)
   refine Ab f Z λa f=>Ab f Z λa f=>Ah f Z Z AI λa f=>Aa ?_
   rcases Ad aw with⟨az,aw⟩|⟨az,aw⟩
   ·refine Aj f Z az ?_
    refine Al ?_
    refine Af (Ak (Ae ?_))
    refine Bd underlying27 Z sizeOf22 f Z λa f=>Aw 0 0 m B8 f Z Z Z Z λa f=>Ab f Z λa f=> ?_
    have⟨aA,aB,aw⟩:=bind_some aw
    refine BQ T22 f Z Z Z ac aB λaC aD a aE aF f=>A7 m C6 f Z Z aE λa f=>Ab f Z λa f=> ?_
    have⟨aG,aH,aw⟩:=bind_some aw
    refine Bc f Z call55 (Wk.X m aF aH) λaI w aJ m a f=> ?_
    have ac:=rd2 aJ ac
    refine l_o f (Bt (f.e Z)) λa f=>Ab f Z λa f=> ?_
    have⟨aK,aL,aw⟩:=bind_some aw
    refine Bx 8 (λa w=>∃aM,GLe aI aM∧Mem W aM w (ib ad 27 [aa]::H)∧Fr a 64 [(1,(pb ad)),(3,(iv ae)),(4,(iv ar)),(14,(.bool (decide (ar<ae)))),(17,(pb ad)),(18,aa),(19,(iv ar)),(20,aC),(21,aD),(22,(iv ae)),(23,(.bool aG)),(24,(.bool (!aG))),(25,(.bool (!aG))),(33,(.bool aK))]) ?_ ?_
    ·rcases Ad aL with⟨aN,aL⟩|⟨aN,aL⟩
     ·refine Az f aN λa f=> ?_
      refine Az f aN λa f=>Az f aN λa f=>Az f aN λa f=>Az f aN λa f=>Az f aN λa f=>Az f aN λa f=>l_o f (AK (f.e Z) aN (f.e Z)) λa f=> ?_
      obtain rfl:=sj aL
      exact⟨_,gr,m,f.k Z⟩
     ·refine Ax f aN ?_
      refine Bd underlying27 Z sizeOf22 f Z λa f=>Ax f aN ?_
      refine Aw 0 0 m B8 f Z Z Z Z λa f=>Ax f aN ?_
      refine Ab f Z λa f=>Ax f aN ?_
      have⟨aO,aP,aL⟩:=bind_some aL
      refine BQ T22 f Z Z Z ac aP λaQ aR a aS aT f=>Ax f aN ?_
      refine A7 m C6 f Z Z aS λa f=>Ax f aN ?_
      refine Ab f Z λa f=>Ax f aN ?_
      have⟨aU,aV,aL⟩:=bind_some aL
      refine Bc f Z call56 (Wk.q m aT aV) λaW w aX m a f=>l_o f (AJ (f.e Z) aN (f.e Z)) λa f=> ?_
      obtain rfl:=sj aL
      exact⟨_,aX,m,f.k Z⟩
    ·rintro a w ⟨aM,aY,m,f⟩
     refine Aa ?_
     rcases Ad aw with⟨aZ,aw⟩|⟨aZ,aw⟩
     ·refine Aj f Z aZ ?_
      refine Ae ?_
      refine Ac f Z λa f=>Aa ?_
      refine Ap ?_
      have m:Mem W aM w H:=Mem.drop (H':=[ib ad 27 [aa]]) m
      obtain rfl:=sj aw
      obtain rfl:=ax _ rfl
      obtain rfl:=sj hd
      exact⟨[(.bool false)],f.g Z,f.d,_,[],(gt ah (gt al (gt ay (gt aJ aY)))),m,Z,Z⟩
     ·refine Ai f Z aZ ?_
      refine Al ?_
      refine An ?_
      refine Ab f Z λa f=>Ah f Z Z As λa f=>Ac f Z λa f=>Aa ?_
      obtain rfl:=sj aw
      exact⟨_,Z,_,Z,_,(gt ay (gt aJ aY)),f.k Z,m⟩
   ·refine Ai f Z az ?_
    refine AC Z ?_
    obtain rfl:=sj aw
    obtain rfl:=ax _ rfl
    exact⟨_,Z,_,ay,f.k Z,m⟩
  ·rintro a w ⟨_,rfl,ap,a0,f,m⟩
   have ac:=rd2 a0 ac
   refine Af (Ae ?_)
   refine Ac f Z λa f=>Aa ?_
   have⟨a1,a2,hd⟩:=bind_some hd
   refine AG (λa w=>∃q_545':Unit,a1= .inl q_545'∧∃(a3:GH),GLe ap a3∧Fr a 64 []∧Mem W a3 w (H)) ?_ ?_
   ·refine Ak ?_
    refine AE (λa4 a w=>∃a5:Int,a5=a4∧∃(a6:GH),GLe ap a6∧Fr a 64 [(1,(pb ad)),(3,(iv ae)),(5,(iv a5))]∧Mem W a6 w (ib ad 27 [aa]::H)) a2 ⟨_,Z,_,gr,f.k Z,m⟩ ?_
    clear a2 f m
    rintro a4 a7 a8 a9 a w ⟨a5,rfl,a6,ba,f,m⟩
    have ac:=rd2 ba ac
    refine Af (Ae ?_)
    refine Ab f Z λa f=>Ab f Z λa f=>Ah f Z Z AI λa f=>Aa ?_
    rcases Ad a8 with⟨bb,a8⟩|⟨bb,a8⟩
    ·refine Aj f Z bb ?_
     refine Al ?_
     refine Af (Ak (Ae ?_))
     refine Ac f Z λa f=>Aa ?_
     have⟨bc,bd,a8⟩:=bind_some a8
     refine AG (λa w=>∃q_759':Unit,bc= .inl q_759'∧∃(be:GH),GLe a6 be∧Fr a 64 [(1,(pb ad)),(3,(iv ae)),(5,(iv a5))]∧Mem W be w (ib ad 27 [aa]::H)) ?_ ?_
     ·refine Ak ?_
      refine AE (λbf a w=>∃bg:Int,bg=bf∧∃(bh:GH),GLe a6 bh∧Fr a 64 [(1,(pb ad)),(3,(iv ae)),(5,(iv a5)),(6,(iv bg))]∧Mem W bh w (ib ad 27 [aa]::H)) bd ⟨_,Z,_,gr,f.k Z,m⟩ ?_
      clear bd f m
      rintro bf bi bj bk a w ⟨bg,rfl,bh,bl,f,m⟩
      have ac:=rd2 bl ac
      refine Af (Ae ?_)
      refine Ab f Z λa f=>Bd underlying27 Z sizeOf22 f Z λa f=>Aw 0 0 m B8 f Z Z Z Z λa f=>Ab f Z λa f=> ?_
      have⟨bm,bn,bj⟩:=bind_some bj
      refine BQ T22 f Z Z Z ac bn λbo bp a bq br f=>A7 m C6 f Z Z bq λa f=>Ba underlying49 f Z Z br λa f=>Ah f Z Z AI λa f=>Aa ?_
      rcases Ad bj with⟨bs,bj⟩|⟨bs,bj⟩
      ·refine Aj f Z bs ?_
       refine Al ?_
       refine Af (Ak (Af ?_))
       refine Bb 15 AF (by kernel_rfl) m ?_
       refine q_fa 0 15 underlying27 Z sizeOf22 Z f Z λa f=>CD 1 15 0 B8 Z Z Z f Z λa f=>q_fa 2 15 underlying27 Z sizeOf22 Z f Z λa f=>CD 3 15 0 B8 Z Z Z f Z λa f=>Ag 4 15 Z f Z λa f=> ?_
       have⟨bt,bu,bj⟩:=bind_some bj
       refine Ct 5 15 T22 ac bu Z f Z Z λbv bw a bx bz f=>Cs 6 15 C6 bx Z f Z λa f=>Ag 7 15 Z f Z λa f=> ?_
       have⟨bA,bB,bj⟩:=bind_some bj
       refine Ct 8 15 T49 bz bB Z f Z Z λbC bD a bE bF f=> ?_
       subst bF
       refine Cs 9 15 Pl2 bE Z f Z λa f=> ?_
       have⟨bG,bH,bj⟩:=bind_some bj
       refine Ct 10 15 T22 ac bH Z f Z Z λbI bJ a bK bL f=>Cs 11 15 C6 bK Z f Z λa f=>Ag 12 15 Z f Z λa f=> ?_
       have⟨bM,bN,bj⟩:=bind_some bj
       refine Cu (i:=13) 15 Z (by kernel_rfl) Z f Z Z Z call56 (λ_ _ w bO m=>Wk.q m (rd1 bO bL) bN) λa f=>q_p 14 15 Z f (λ_=>Bt (f.e Z)) λa f=>A2 λbP w bQ m=>Aa ?_
       rcases Ad bj with⟨bR,bj⟩|⟨bR,bj⟩
       ·refine Aj f Z bR ?_
        refine Ae ?_
        refine Ac f Z λa f=>Aa ?_
        refine Ap ?_
        have m:Mem W bP w H:=Mem.drop (H':=[ib ad 27 [aa]]) m
        obtain rfl:=sj bj
        obtain rfl:=bk _ rfl
        obtain rfl:=sj a8
        obtain rfl:=a9 _ rfl
        obtain rfl:=sj hd
        exact⟨[(.bool false)],f.g Z,f.d,_,[],(gt ah (gt al (gt a0 (gt ba (gt bl bQ))))),m,Z,Z⟩
       ·refine Ai f Z bR ?_
        refine Al ?_
        refine An ?_
        refine Ab f Z λa f=>Ah f Z Z As λa f=>Ac f Z λa f=>Aa ?_
        obtain rfl:=sj bj
        exact⟨_,Z,_,Z,_,(gt bl bQ),f.k Z,m⟩
      ·refine Ai f Z bs ?_
       refine AC Z ?_
       obtain rfl:=sj bj
       obtain rfl:=bk _ rfl
       exact⟨_,Z,_,bl,f.k Z,m⟩
     ·rintro a w ⟨_,rfl,be,bS,f,m⟩
      refine An ?_
      refine Ab f Z λa f=>Ah f Z Z As λa f=>Ac f Z λa f=>Aa ?_
      obtain rfl:=sj a8
      exact⟨_,Z,_,Z,_,(gt ba bS),f.k Z,m⟩
    ·refine Ai f Z bb ?_
     refine AC Z ?_
     have m:Mem W a6 w H:=Mem.drop (H':=[ib ad 27 [aa]]) m
     obtain rfl:=sj a8
     obtain rfl:=a9 _ rfl
     exact⟨_,Z,_,ba,f.weak trivial,m⟩
   ·rintro a w ⟨_,rfl,a3,bT,f,m⟩
    refine Ae ?_
    refine Ac f Z λa f=>Aa ?_
    refine Ap ?_
    obtain rfl:=sj hd
    exact⟨[(.bool true)],f.g Z,f.d,_,[],(gt ah (gt al (gt a0 bT))),m,Z,Z⟩
theorem Wk.C0 {aa ab:Int}(m:Mem W G w (H)){y:Bool}(hd:D.C0 aa ab=some y):
  Calls prog 75 #[(.agg #[(iv aa),(iv ab)])] w (Res W G H (λ_ Ho v=>Ho=[]∧v=(.bool y))):=by
 refine Ar (args:=[(.agg #[(iv aa),(iv ab)])]) (N:=13) [.tmp 2] func75 Z Z (lb Z) Z λa f=> ?_
 unfold D.C0 at hd
 refine Ae ?_
 refine BG (cs:=[(iv aa),(iv ab)]) m f Z Z Z λac w a m f=>Ac f Z λa f=>Av ?_
 refine Bd underlying42 Z sizeOf2 f Z λa f=>Aw 0 0 m Pl2 f Z Z Z Z λa f=> ?_
 have⟨ad,ae,hd⟩:=bind_some hd
 refine Bc f Z call54 (Wk.j m ae) λaf w ag m a f=>Ab f Z λa f=> ?_
 have⟨ah,ai,hd⟩:=bind_some hd
 refine Bx 6 (λa w=>∃aj,GLe af aj∧Mem W aj w (ib ac 42 [(iv aa),(iv ab)]::H)∧Fr a 13 [(0,(.agg #[(iv aa),(iv ab)])),(1,(pb ac)),(3,(pb ac)),(4,(iv aa)),(5,(.bool ad)),(6,(.bool ad)),(12,(.bool ah))]) ?_ ?_
 ·rcases Ad ai with⟨ak,ai⟩|⟨ak,ai⟩
  ·refine Ax f ak ?_
   refine Bd underlying42 Z sizeOf2 f Z λa f=>Ax f ak ?_
   refine Aw 0 1 m Pl2 f Z Z Z Z λa f=>Ax f ak ?_
   refine Bd underlying42 Z sizeOf2 f Z λa f=>Ax f ak ?_
   refine Aw 0 0 m Pl2 f Z Z Z Z λa f=>Ax f ak ?_
   have⟨al,am,ai⟩:=bind_some ai
   refine Bc f Z call54 (Wk.j m am) λan w ao m a f=>l_o f (AK (f.e Z) ak (f.e Z)) λa f=> ?_
   obtain rfl:=sj ai
   exact⟨_,ao,m,f.k Z⟩
  ·refine Az f ak λa f=> ?_
   refine Az f ak λa f=>Az f ak λa f=>Az f ak λa f=>Az f ak λa f=>l_o f (AJ (f.e Z) ak (f.e Z)) λa f=> ?_
   obtain rfl:=sj ai
   exact⟨_,gr,m,f.k Z⟩
 ·rintro a w ⟨aj,ap,m,f⟩
  refine Ac f Z λa f=>Aa ?_
  refine Ap ?_
  have m:Mem W aj w H:=Mem.drop (H':=[ib ac 42 [(iv aa),(iv ab)]]) m
  obtain rfl:=sj hd
  exact⟨[(.bool ah)],f.g Z,f.d,_,[],(gt ag ap),m,Z,Z⟩
theorem Wk.j0 {v0:Value}{x0:(List (Int×Int))}(m:Mem W G w (H))(h0:RSr P2 G v0 x0){y:Bool}(hd:D.j0 x0=some y):
  Calls prog 42 #[v0] w (Res W G H (λ_ Ho v=>Ho=[]∧v=(.bool y))):=by
 refine Ar (args:=[v0]) (N:=20) [.tmp 2] func42 Z Z (lb Z) Z λa f=> ?_
 unfold D.j0 at hd
 refine Ae ?_
 refine Ac f Z λa f=>Aa (Af (Ae ?_))
 refine Ab f Z λa f=>CE underlying39 f Z Z h0 λa f=> ?_
 have⟨aa,ab,hd⟩:=bind_some hd
 refine Bc f Z call54 (Wk.j m ab) λac w ad m a f=> ?_
 have h0:=RSr.mono trivial _ _ _ _ ad h0
 refine l_o f (Bt (f.e Z)) λa f=>Aa ?_
 rcases Ad hd with⟨ae,hd⟩|⟨ae,hd⟩
 ·refine Aj f Z ae ?_
  refine Ae ?_
  refine Ac f Z λa f=>Aa ?_
  refine Ap ?_
  obtain rfl:=sj hd
  exact⟨[(.bool false)],f.g Z,f.d,_,[],ad,m,Z,Z⟩
 ·refine Ai f Z ae ?_
  refine Al ?_
  refine Af (Ae ?_)
  refine Ac f Z λa f=>Aa ?_
  have⟨af,ag,hd⟩:=bind_some hd
  refine AG (λa w=>∃q_37':Unit,af= .inl q_37'∧∃(ah:GH),GLe ac ah∧Fr a 20 []∧Mem W ah w (H)) ?_ ?_
  ·refine Ak ?_
   refine AE (λai a w=>∃aj:Int,aj=ai∧∃(ak:GH),GLe ac ak∧Fr a 20 [(0,v0),(3,(iv aj))]∧Mem W ak w (H)) ag ⟨_,Z,_,gr,f.k Z,m⟩ ?_
   clear ag f m
   rintro ai al am an a w ⟨aj,rfl,ak,ao,f,m⟩
   have h0:=RSr.mono trivial _ _ _ _ ao h0
   refine Af (Ae ?_)
   refine Ab f Z λa f=>Ab f Z λa f=>CE underlying39 f Z Z h0 λa f=>Ah f Z Z AI λa f=>Aa ?_
   rcases Ad am with⟨ap,am⟩|⟨ap,am⟩
   ·refine Aj f Z ap ?_
    refine Al ?_
    refine Af (Ak (Ae ?_))
    refine Ab f Z λa f=>Ab f Z λa f=> ?_
    have⟨aq,ar,am⟩:=bind_some am
    refine l_atR (E:=P2) T39 f Z Z Z h0 ar λau a av f=>Er (E:=P2) [(iv aq.1),(iv aq.2)] m Ag42 f Z Z av Z λa f=> ?_
    have⟨aw,ax,am⟩:=bind_some am
    refine Bc f Z call75 (Wk.C0 m ax) λay w az m a f=>l_o f (Bt (f.e Z)) λa f=>Aa ?_
    rcases Ad am with⟨aA,am⟩|⟨aA,am⟩
    ·refine Aj f Z aA ?_
     refine Ae ?_
     refine Ac f Z λa f=>Aa ?_
     refine Ap ?_
     obtain rfl:=sj am
     obtain rfl:=an _ rfl
     obtain rfl:=sj hd
     exact⟨[(.bool false)],f.g Z,f.d,_,[],(gt ad (gt ao az)),m,Z,Z⟩
    ·refine Ai f Z aA ?_
     refine Al ?_
     refine An ?_
     refine Ab f Z λa f=>Ah f Z Z As λa f=>Ac f Z λa f=>Aa ?_
     obtain rfl:=sj am
     exact⟨_,Z,_,Z,_,(gt ao az),f.k Z,m⟩
   ·refine Ai f Z ap ?_
    refine AC Z ?_
    obtain rfl:=sj am
    obtain rfl:=an _ rfl
    exact⟨_,Z,_,ao,f.weak trivial,m⟩
  ·rintro a w ⟨_,rfl,ah,aB,f,m⟩
   refine Ae ?_
   refine Ac f Z λa f=>Aa ?_
   refine Ap ?_
   obtain rfl:=sj hd
   exact⟨[(.bool true)],f.g Z,f.d,_,[],(gt ad aB),m,Z,Z⟩
theorem Wk.e0 {aa ab ac ad:Int}(m:Mem W G w (H)){y:Bool}(hd:D.e0 aa ab ac ad=some y):
  Calls prog 77 #[(.agg #[(iv aa),(iv ab)]),(.agg #[(iv ac),(iv ad)])] w (Res W G H (λ_ Ho v=>Ho=[]∧v=(.bool y))):=by
 refine Ar (args:=[(.agg #[(iv aa),(iv ab)]),(.agg #[(iv ac),(iv ad)])]) (N:=17) [.tmp 4] func77 Z Z (lb Z) Z λa f=> ?_
 unfold D.e0 at hd
 refine Ae ?_
 refine BG (cs:=[(iv aa),(iv ab)]) m f Z Z Z λae w a m f=>BG (cs:=[(iv ac),(iv ad)]) m f Z Z Z λaf w a m f=>Ac f Z λa f=>Av ?_
 refine Bd underlying42 Z sizeOf2 f Z λa f=>Aw 1 0 m Pl2 f Z Z Z Z λa f=>Bd underlying42 Z sizeOf2 f Z λa f=>Aw 0 1 m Pl2 f Z Z Z Z λa f=>Ah f Z Z BT λa f=>Ab f Z λa f=> ?_
 refine Bx 6 (λa w=>∃ag,GLe G ag∧Mem W ag w (ib af 42 [(iv ac),(iv ad)]::ib ae 42 [(iv aa),(iv ab)]::H)∧Fr a 17 [(0,(.agg #[(iv aa),(iv ab)])),(1,(.agg #[(iv ac),(iv ad)])),(2,(pb ae)),(3,(pb af)),(5,(pb ae)),(6,(iv aa)),(7,(.pointer (some ⟨af,1,none⟩))),(8,(iv ad)),(9,(.bool (decide (aa≤ad)))),(10,(.bool (decide (aa≤ad)))),(16,(.bool ((decide (aa≤ad))&&(decide (ac≤ab)))))]) ?_ ?_
 ·rcases Bool.eq_false_or_eq_true (decide (aa≤ad)) with ah|ah
  ·refine Ax f ah ?_
   refine Bd underlying42 Z sizeOf2 f Z λa f=>Ax f ah ?_
   refine Aw 0 0 m Pl2 f Z Z Z Z λa f=>Ax f ah ?_
   refine Bd underlying42 Z sizeOf2 f Z λa f=>Ax f ah ?_
   refine Aw 1 1 m Pl2 f Z Z Z Z λa f=>Ax f ah ?_
   refine Ah f Z Z BT λa f=>l_o f (AK (f.e Z) ah (f.e Z)) λa f=> ?_
   exact⟨_,gr,m,f.weak ⟨Z,Z,Z,Z,Z,Z,Z,Z,Z,Z,by rw[ah];rfl,trivial⟩⟩
  ·refine Az f ah λa f=> ?_
   refine Az f ah λa f=>Az f ah λa f=>Az f ah λa f=>Az f ah λa f=>l_o f (AJ (f.e Z) ah (f.e Z)) λa f=> ?_
   exact⟨_,gr,m,f.weak ⟨Z,Z,Z,Z,Z,Z,Z,Z,Z,Z,by rw[ah];rfl,trivial⟩⟩
 ·rintro a w ⟨ag,ai,m,f⟩
  refine Ac f Z λa f=>Aa ?_
  refine Ap ?_
  have m:Mem W ag w H:=Mem.drop (H':=[ib af 42 [(iv ac),(iv ad)],ib ae 42 [(iv aa),(iv ab)]]) m
  obtain rfl:=sj hd
  exact⟨[(.bool ((decide (aa≤ad))&&(decide (ac≤ab))))],f.g Z,f.d,_,[],ai,m,Z,Z⟩
theorem Wk.u0 {v0:Value}{x0:(List (Int×Int))}(m:Mem W G w (H))(h0:RSr P2 G v0 x0){y:(LL)}(hd:D.u0 x0=some y):
  Calls prog 44 #[v0] w (Res W G H (λG' Ho v=>∃r0:Value,∃i0:Itm,Ho=[i0]∧v=(.agg #[r0])∧Ow R1 49 G' i0 r0 y)):=by
 refine Ar (args:=[v0]) (N:=46) [.cell 2 27] func44 Z Z (lb Z) Z λa f=> ?_
 unfold D.u0 at hd
 refine Ae ?_
 refine BN (cs:=[sn]) zeroValue27 m f Z Z λaa w a m f=>Av ?_
 have ab:∀w,(Instr.build 27 #[]).run prog w= .ok (.agg #[sn]) w:=by intro w;simp[Instr.build,Instr.fill,Cw,Ck,BZ,B6,BV,Ci]
 refine CO f Z Z ab λa f=>BN (cs:=[sn]) zeroValue27 m f Z Z λac w a m f=>AP 0 0 (ds:=[sn]) m sizeOf27 f Z Z Z (AR Z A5) Z (lb Z) Z λw m=>Aa (Af (Ae ?_))
 refine Ac f Z λa f=>Aa ?_
 obtain⟨ad,m,ae⟩:=Ow.nil R1 49 m
 have⟨af,ag,hd⟩:=bind_some hd
 refine AG (λa w=>∃ah:LL,ah=af∧∃(ai:GH) (aj:Value) (ak:Itm),GLe G ai∧Fr a 46 [(2,(pb aa)),(3,(pb ac))]∧Mem W ai w (ib aa 27 [sn]::ib ac 27 [aj]::ak::H)∧Ow R1 49 ai ak aj ah) ?_ ?_
 ·refine Ak ?_
  have m:=m.fr 1
  have m:=m.fr 2
  refine AE (λal a w=>∃am:Int,∃an:LL,(am,an)=al∧∃(ao:GH) (ap:Value) (aq:Itm),GLe G ao∧Fr a 46 [(0,v0),(2,(pb aa)),(3,(pb ac)),(4,(iv am))]∧Mem W ao w (ib aa 27 [sn]::ib ac 27 [ap]::aq::H)∧Ow R1 49 ao aq ap an) ag ⟨_,_,Z,_,sn,ad,gr,f.k Z,m,ae⟩ ?_
  clear ag f m
  rintro al ar au av a w ⟨am,an,rfl,ao,ap,aq,aw,f,m,ax⟩
  have h0:=RSr.mono trivial _ _ _ _ aw h0
  refine Af (Ae ?_)
  refine Ab f Z λa f=>Ab f Z λa f=>CE underlying39 f Z Z h0 λa f=>Ah f Z Z AI λa f=>Aa ?_
  rcases Ad au with⟨ay,au⟩|⟨ay,au⟩
  ·refine Aj f Z ay ?_
   refine Al ?_
   refine Af (Ak (Ae ?_))
   refine B2 (R:=R0) (xs:=([]:LI)) (RI.one _) m T49 f Z Z Z (by decide) (All2.nil _) λaz aA w a m aB f=>Ac f Z λa f=>Aa (Af (Ae ?_))
   refine Ac f Z λa f=>Aa ?_
   have⟨aC,aD,au⟩:=bind_some au
   refine AG (λa w=>∃aE:LI,aE=aC∧∃(aF:GH) (aG:Value) (aH:Itm),GLe ao aF∧Fr a 46 [(0,v0),(2,(pb aa)),(3,(pb ac)),(4,(iv am)),(5,aG)]∧Mem W aF w (ib aa 27 [sn]::ib ac 27 [ap]::aH::aq::H)∧Ow R0 2 aF aH aG aE) ?_ ?_
   ·refine Ak ?_
    have m:=m.fr 2
    have m:Mem W ao w (ib aa 27 [sn]::ib ac 27 [ap]::az::aq::H):=m.fr 2
    refine AE (λaI a w=>∃aJ:LI,∃aK:Int,(aJ,aK)=aI∧∃(aL:GH) (aM:Value) (aN:Itm),GLe ao aL∧Fr a 46 [(0,v0),(2,(pb aa)),(3,(pb ac)),(4,(iv am)),(5,aM),(6,(iv aK))]∧Mem W aL w (ib aa 27 [sn]::ib ac 27 [ap]::aN::aq::H)∧Ow R0 2 aL aN aM aJ) aD ⟨_,_,Z,_,aA,az,gr,f.k Z,m,aB⟩ ?_
    clear aD f m
    rintro aI aO aP aQ a w ⟨aJ,aK,rfl,aL,aM,aN,aR,f,m,aS⟩
    have h0:=RSr.mono trivial _ _ _ _ aR h0
    refine Af (Ae ?_)
    refine Ab f Z λa f=>Ab f Z λa f=>CE underlying39 f Z Z h0 λa f=>Ah f Z Z AI λa f=>Aa ?_
    rcases Ad aP with⟨aT,aP⟩|⟨aT,aP⟩
    ·refine Aj f Z aT ?_
     refine Al ?_
     refine Af (Ak (Af ?_))
     refine Bb 14 AF (by kernel_rfl) m ?_
     refine Ag 0 14 Z f Z λa f=>Ag 1 14 Z f Z λa f=>q_p 2 14 Z f (λ_=>Ay (f.e Z) (f.e Z) CJ) λa f=>Ag 3 14 Z f Z λa f=> ?_
     have⟨aU,aV,aP⟩:=bind_some aP
     refine Cr (fuel':=0) (listed':= #[true,true,true,true,true,true,true,true,true,true,true,true,true,true]) (λa=>Fr a 46 [(0,v0),(2,(pb aa)),(3,(pb ac)),(4,(iv am)),(5,aM),(6,(iv aK)),(18,(.bool (decide (aK<(x0.length:Int))))),(21,(iv aK)),(22,(iv am)),(23,(.bool (aK !=am))),(24,(.bool (aK !=am))),(34,(.bool aU))]) ?_ ?_
     ·intro a f
      refine A2 λaW w aX m=> ?_
      have aS:=od1 aX aS
      refine Aa ?_
      rcases Ad aP with⟨aY,aP⟩|⟨aY,aP⟩
      ·refine Aj f Z aY ?_
       refine An ?_
       refine Ab f Z λa f=>Ab f Z λa f=>B2 (R:=R0) (xs:=([aK]:LI)) (RI.one _) m T49 f Z Z Z (by decide) (All2.cons Z (All2.nil _)) λaZ a0 w a m a1 f=> ?_
       have⟨a2,a3,aP⟩:=bind_some aP
       refine B7 (RI.one _) 3 m aS Z T49 Z (by decide) f Z Z Z (Ow.src (j:=0) a1 m Z) a3 λa4 a5 w a m a6 f=>Ac f Z λa f=>Aa (An ?_)
       refine Ab f Z λa f=>Ah f Z Z As λa f=>Ac f Z λa f=>Aa ?_
       have m:=m.fr 4
       have m:=m.fr 4
       have m:Mem W aW w (ib ac 27 [ap]::a4::aq::aZ::ib aa 27 [sn]::H):=m.fr 4
       have m:=m.fr 4
       have m:Mem W aW w (ib aa 27 [sn]::ib ac 27 [ap]::a4::aq::H):=m.eraseAt 4
       obtain rfl:=sj aP
       exact⟨_,Z,_,_,Z,_,a5,a4,(gt aR aX),f.k Z,m,a6⟩
      ·refine Ai f Z aY ?_
       refine Al ?_
       refine An ?_
       refine Ab f Z λa f=>Ah f Z Z As λa f=>Ac f Z λa f=>Aa ?_
       obtain rfl:=sj aP
       exact⟨_,Z,_,_,Z,_,aM,aN,(gt aR aX),f.k Z,m,aS⟩
     ·intro a7
      rcases Ad aV with⟨a8,aV⟩|⟨a8,aV⟩
      ·refine Ag (hw:=wo f a8) 4 14 Z f Z λa f=> ?_
       refine Ag (hw:=wo f a8) 5 14 Z f Z λa f=> ?_
       have⟨a9,ba,aV⟩:=bind_some aV
       refine q_atR (i:=6) (listed':= #[true,true,true,true,true,true,true,false,false,false,false,false,false,false]) (C:=P2) 14 T39 h0 ba Z (by kernel_rfl) Z f (Bh f Z Z Z a8) Z Z Z λbb a bc f=>q_loadR (i:=7) (listed':= #[true,true,true,true,true,true,true,true,false,false,false,false,false,false]) (C:=P2) [(iv a9.1),(iv a9.2)] 14 Ag42 bc Z Z (by kernel_rfl) Z f (Bh f Z Z Z a8) Z Z λa f=>Ag (hw:=wo f a8) 8 14 Z f Z λa f=>Ag (hw:=wo f a8) 9 14 Z f Z λa f=> ?_
       have⟨bd,be,aV⟩:=bind_some aV
       refine q_atR (i:=10) (listed':= #[true,true,true,true,true,true,true,true,true,true,true,false,false,false]) (C:=P2) 14 T39 h0 be Z (by kernel_rfl) Z f (Bh f Z Z Z a8) Z Z Z λbf a bg f=>q_loadR (i:=11) (listed':= #[true,true,true,true,true,true,true,true,true,true,true,true,false,false]) (C:=P2) [(iv bd.1),(iv bd.2)] 14 Ag42 bg Z Z (by kernel_rfl) Z f (Bh f Z Z Z a8) Z Z λa f=> ?_
       have⟨bh,bi,aV⟩:=bind_some aV
       refine Cu (i:=12) 14 Z (by kernel_rfl) Z f (Bh f Z Z Z a8) Z Z call77 (λ_ _ w bj m=>Wk.e0 m bi) λa f=>q_p 13 14 Z f (λ_=>AK (f.e Z) a8 (f.e Z)) λa f=> ?_
       obtain rfl:=sj aV
       exact a7 _ (f.k Z)
      ·refine Aq 4 14 Z f a8 λa f=> ?_
       refine Aq 5 14 Z f a8 λa f=>Aq 6 14 Z f a8 λa f=>Aq 7 14 Z f a8 λa f=>Aq 8 14 Z f a8 λa f=>Aq 9 14 Z f a8 λa f=>Aq 10 14 Z f a8 λa f=>Aq 11 14 Z f a8 λa f=>Aq 12 14 Z f a8 λa f=>q_p 13 14 Z f (λ_=>AJ (f.e Z) a8 (f.e Z)) λa f=> ?_
       obtain rfl:=sj aV
       exact a7 _ (f.k Z)
    ·refine Ai f Z aT ?_
     refine AC Z ?_
     obtain rfl:=sj aP
     obtain rfl:=aQ _ rfl
     exact⟨_,Z,_,aM,aN,aR,f.k Z,m,aS⟩
   ·rintro a w ⟨aE,rfl,aF,aG,aH,bk,f,m,bl⟩
    have ax:=Ow.mono (RSl.mono (RI.mono _)) bk ax
    refine An ?_
    refine Bd underlying27 Z sizeOf22 f Z λa f=>Aw 1 0 m B8 f Z Z Z Z λa f=>Ab f Z λa f=> ?_
    have m:Mem W aF w (aH::ib aa 27 [sn]::ib ac 27 [ap]::aq::H):=m.fr 2
    obtain⟨bm,bn,m,bo⟩:=Ow.stamp (RI.mono _) bl m
    have ax:=Ow.mono (RSl.mono (RI.mono _)) bn ax
    refine B2 (R:=R1) (xs:=([aE]:LL)) (RSl.one _) m T22 f Z Z Z (by decide) (All2.cons bo (All2.nil _)) λbp bq w a m br f=> ?_
    have⟨bs,bt,au⟩:=bind_some au
    refine B7 (RSl.one _) 3 m ax Z T22 Z (by decide) f Z Z Z (Ow.src (j:=0) br m Z) bt λbu bv w a m bw f=>Bd underlying27 Z sizeOf22 f Z λa f=>AP 2 0 (ds:=[bv]) m sizeOf22 f Z Z (Ow.cells 3 m bw Z) (AR (Ow.one1 3 m bw Z) A5) Z (lb Z) Z λw m=>Aa (An ?_)
    refine Ab f Z λa f=>Ah f Z Z As λa f=>Ac f Z λa f=>Aa ?_
    have m:=m.fr 3
    have m:=m.fr 3
    have m:Mem W bm w (ib aa 27 [sn]::ib ac 27 [bv]::bu::bp::H):=m.fr 3
    have m:=m.eraseAt 3
    obtain rfl:=sj au
    exact⟨_,Z,_,_,Z,_,bv,bu,(gt aw (gt bk bn)),f.k Z,m,bw⟩
  ·refine Ai f Z ay ?_
   refine AC Z ?_
   obtain rfl:=sj au
   obtain rfl:=av _ rfl
   exact⟨_,Z,_,ap,aq,aw,f.k Z,m,ax⟩
 ·rintro a w ⟨ah,rfl,ai,aj,ak,bx,f,m,bz⟩
  refine Ae ?_
  refine A4 1 0 (ds:=[aj]) m BB f Z Z Z Z Z λa f=>AP 0 0 (ds:=[aj]) m sizeOf27 f Z Z Z (AR (Ow.one1 2 m bz Z) A5) Z (lb Z) Z λw m=>Aa ?_
  refine Ap ?_
  have bA:=rr_agg (P:=prog) 0 m BB f (s:=2) rfl rfl rfl
  have m:=m.fr 2
  have m:=m.eraseAt 2
  have m:=m.eraseAt 1
  obtain rfl:=sj hd
  exact⟨[(.agg #[aj])],⟨bA,trivial⟩,f.d,_,[ak],bx,m,_,_,Z,Z,bz⟩
end Go.Proofs.YtjhajfcggfhbmaaDoor
