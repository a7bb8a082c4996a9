/- Parts. -/
import Derived.Test.YtjhajfcggfhbmaaDoorBo1
import Derived.Shelf.Small.Bits
import Derived.Test.YtjhajfcggfhbmaaDoorProg
import Derived.KernelRfl
set_option linter.unusedVariables false
set_option linter.unusedSimpArgs false
namespace Go.Sx
open IntKind
noncomputable section
def D.x (b c:LI):Option (Bool):=
 (Ap (σ:=Int) (ρ:=(Unit) ⊕ (Bool)) (fun(a:Int)=>cond ((decide (a<(b.length:Int)))&&(decide (a<(c.length:Int)))) ((idx b a).bind λd=>(idx c a).bind λe=>cond (d !=e) ((idx b a).bind λf=>(idx c a).bind λg=>some (.inr (.inr (decide (f<g))))) (some (.inl (i64.wrap (a+1))))) (some (.inr (.inl ())))) 0).bind λzz=>match zz with| .inl _=>(some (decide ((b.length:Int)<(c.length:Int))))| .inr z=>(some z)
def D.m (a:LL)(d:LI):Option LL:=
 (Ap (σ:=Int) (ρ:=(Int)) (fun(b:Int)=>(cond (decide (b<(a.length:Int))) ((idx a b).bind λe=>(D.x e d).bind λf=>some f) (some false)).bind λg=>cond g (some (.inl (i64.wrap (b+1)))) (some (.inr b))) 0).bind λc=>(cond (decide (c<(a.length:Int))) ((idx a c).bind λh=>(D.e0 h d).bind λi=>some i) (some false)).bind λj=>cond j (some a) ((Bj a 0 c).bind λk=>(AG ([]:LL) k).bind λl=>(AG l ([d]:LL)).bind λm=>(Bj a c (a.length:Int)).bind λn=>(AG m n).bind λo=>some o)
def D.J (c:LL)(d:Int):Option LI:=
 (Ap (σ:=LI×Int) (ρ:=LI) (fun(b,a)=>cond (decide (a<(c.length:Int))) (cond (a !=d) ((AG b ([a]:LI)).bind λf=>some (.inl (f,(i64.wrap (a+1))))) (some (.inl (b,(i64.wrap (a+1)))))) (some (.inr b))) (([]:LI),0)).bind λg=>some g
def D.B (j:LL)(f:LI)(g:Int)(k:Bool):Option LI:=
 (Ap (σ:=LI×LI) (ρ:=LI) (fun(h,b)=>cond (decide ((0:Int)<(b.length:Int))) ((idx b 0).bind λi=>(Bj b 1 (b.length:Int)).bind λm=>(Ap (σ:=LI×LI×Int) (ρ:=(LI×LI)) (fun(c,e,d)=>cond (decide (d<(f.length:Int))) ((idx f d).bind λa=>(cond (a !=i) ((idx j i).bind λo=>(D.d o a).bind λp=>some (p !=k)) (some false)).bind λq=>(cond q ((D.d c a).bind λr=>some (!r)) (some false)).bind λs=>cond s ((D.s c a).bind λt=>(AG e ([a]:LI)).bind λu=>some (.inl (t,u,(i64.wrap (d+1))))) (some (.inl (c,e,(i64.wrap (d+1)))))) (some (.inr (c,e)))) (h,m,0)).bind fun(v,w)=>some (.inl (v,w))) (some (.inr h))) (([g]:LI),([g]:LI))).bind λx=>some x
def D.u (b:LL)(c d:Int):Option (Bool):=
 (Ap (σ:=Int) (ρ:=(Unit) ⊕ (Bool)) (fun(a:Int)=>cond (decide (a<(b.length:Int))) ((idx b a).bind λe=>(idx e 0).bind λf=>(cond (f==c) ((idx b a).bind λg=>(idx g 1).bind λh=>some (h==d)) (some false)).bind λi=>cond i (some (.inr (.inr true))) (some (.inl (i64.wrap (a+1))))) (some (.inr (.inl ())))) 0).bind λzz=>match zz with| .inl _=>(some false)| .inr z=>(some z)
def D.l (c:LL)(i j:Int):Option LI:=
 (Ap (σ:=LI×LL×LL×Int) (ρ:=LI) (fun(l,m,q,d)=>cond (decide (d<(m.length:Int))) ((Ap (σ:=LI×LL×LL×Int) (ρ:=(LI×LL×LL)) (fun(n,e,o,f)=>cond (decide (f<2)) ((idx e d).bind λs=>(idx s f).bind λa=>(idx e d).bind λt=>(idx t (i64.wrap (1-f))).bind λu=>(D.s n a).bind λv=>(D.J c a).bind λw=>(D.B c w u false).bind λx=>(Ap (σ:=LL×LL×Int) (ρ:=(LL×LL)) (fun(k,g,h)=>(idx c a).bind λz=>cond (decide (h<(z.length:Int))) ((idx c a).bind λaa=>(idx aa h).bind λb=>(D.d x b).bind λab=>(cond ab ((D.u g a b).bind λac=>some (!ac)) (some false)).bind λad=>cond ad ((AG k ([([a,b]:LI)]:LL)).bind λae=>(AG g ([([a,b]:LI),([b,a]:LI)]:LL)).bind λaf=>some (.inl (ae,af,(i64.wrap (h+1))))) (some (.inl (k,g,(i64.wrap (h+1)))))) (some (.inr (k,g)))) (e,o,0)).bind fun(ag,ah)=>some (.inl (v,ag,ah,(i64.wrap (f+1))))) (some (.inr (n,e,o)))) (l,m,q,0)).bind fun(ai,aj,ak)=>some (.inl (ai,aj,ak,(i64.wrap (d+1))))) (some (.inr l))) (([]:LI),([([i,j]:LI)]:LL),([([i,j]:LI),([j,i]:LI)]:LL),0)).bind λal=>some al
def D.z (b:LL):Option LL:=
 (D.m0 b).bind λf=>cond (!f) (some ([]:LL)) ((Ap (σ:=LL×Int) (ρ:=LL) (fun(c,a)=>cond (decide (a<(b.length:Int))) ((idx b a).bind λh=>((cond ((h.length:Int)==0) ((D.m c ([a]:LI)).bind λi=>some i) (some c):Option LL)).bind λj=>(Ap (σ:=LL×Int) (ρ:=LL) (fun(e,d)=>(idx b a).bind λl=>cond (decide (d<(l.length:Int))) ((idx b a).bind λm=>(idx m d).bind λn=>(D.l b a n).bind λo=>(D.m e o).bind λp=>some (.inl (p,(i64.wrap (d+1))))) (some (.inr e))) (j,0)).bind λq=>some (.inl (q,(i64.wrap (a+1))))) (some (.inr c))) (([]:LL),0)).bind λr=>some r)
def D.r (d:LI)(e:Int):Option LI:=
 (Ap (σ:=Int×LI) (ρ:=LI) (fun(a,b)=>cond (a !=0) ((D.q a).bind λg=>(D.O d g a).bind λc=>(AG b ([c]:LI)).bind λh=>some (.inl ((iandNot .u32 a c),h))) (some (.inr b))) (e,([]:LI))).bind λi=>some i
def D.c0 (d:LI)(b:Int):Option (Int):=
 (D.r d b).bind λg=>(D.g b).bind λe=>(Ap (σ:=Int×Int) (ρ:=(Int)) (fun(c,a)=>cond (decide (a<(e.length:Int))) ((idx e a).bind λf=>(D.e f).bind λi=>(D.r d (iandNot .u32 b i)).bind λj=>cond (decide ((g.length:Int)<(j.length:Int))) ((D.e f).bind λk=>some (.inl ((ior .u32 c k),(i64.wrap (a+1))))) (some (.inl (c,(i64.wrap (a+1)))))) (some (.inr c))) (0,0)).bind λl=>some l
def D.t :Nat→LI→Int→LI→Option LI
 |0,_,_,_=>none
 |fuel+1,a,b,d=>(D.c0 a b).bind λe=>cond (e==0) ((AG d ([b]:LI)).bind λi=>some i) ((D.q e).bind λj=>(D.e j).bind λf=>(D.r a (iandNot .u32 b f)).bind λg=>(Ap (σ:=LI×Int) (ρ:=LI) (fun(h,c)=>cond (decide (c<(g.length:Int))) ((idx g c).bind λl=>(D.t fuel a (ior .u32 l f) h).bind λm=>some (.inl (m,(i64.wrap (c+1))))) (some (.inr h))) (d,0)).bind λn=>some n)
def D.f (a:LI)(b:Int)(c:LI):Option LI:=D.t BJ a b c
def D.j0 (a:LI):Option LI:=
 (D.M a).bind λe=>(D.r a e).bind λc=>(Ap (σ:=LI×Int) (ρ:=LI) (fun(d,b)=>cond (decide (b<(c.length:Int))) ((idx c b).bind λg=>(D.f a g d).bind λh=>some (.inl (h,(i64.wrap (b+1))))) (some (.inr d))) (([]:LI),0)).bind λi=>(D.i0 i).bind λj=>some j
def D.v (a:LL):Option LL:=
 (D.U a).bind λb=>cond (!b) (some ([]:LL)) ((D.b0 a).bind λc=>(D.j0 c).bind λd=>(D.X d).bind λe=>some e)
def D.p0 (a:LL):Option (Bool):=
 (D.o0 a 1048576).bind λh=>cond (decide (h<0)) (some true) ((D.o a).bind λi=>(D.z i).bind λc=>(D.o a).bind λd=>(D.v d).bind λe=>(D.p e c).bind λj=>cond (!j) (some false) ((D.o a).bind λk=>(D.h0 d k).bind λl=>cond (!l) (some false) ((D.Y d 1).bind λm=>(cond (decide (m.1<0)) (some true) ((D.p e c).bind λn=>some (!n))).bind λo=>cond o (some false) ((D.C e 1).bind λb=>(D.F b.2 1).bind λf=>cond (decide (f<0)) (some false) (cond (f !=b.1) (some false) ((D.o a).bind λp=>(D.v p).bind λq=>(D.p q c).bind λr=>cond (!r) (some false) ((D.F b.2 1).bind λg=>cond (decide (g<0)) (some false) (cond (g !=b.1) (some false) (some true)))))))))
end
end Go.Sx

namespace Go.Sx
end Go.Sx

namespace Go.Sx
end Go.Sx

namespace Go.Sx
end Go.Sx

namespace Go.Sx
end Go.Sx

namespace Go.Proofs
open Go.Shelf
def Tryd.lays125_ren :Go.Shelf.Ren:=⟨fun|125=>97|128=>118|129=>119|n=>n,fun|46=>62|3=>3|51=>74|53=>38|4=>4|5=>5|9=>9|n=>n,fun|n=>n⟩
theorem Tryd.lays125 :Go.Proofs.Lays.n125 Tryd.prog Tryd.lays125_ren:={
 mixed:=by kernel_rfl
 f125:=Tryd.func97.trans (congrArg some (by kernel_rfl))
 f128:=Tryd.func118.trans (congrArg some (by kernel_rfl))
 f129:=Tryd.func119.trans (congrArg some (by kernel_rfl))
 t3:=Tryd.underlying3
 a3:=Tryd.isAgg3
 z3:=Tryd.sizeOf3
 v3:=Tryd.zeroValue3
 t4:=Tryd.underlying4
 a4:=Tryd.isAgg4
 z4:=Tryd.sizeOf4
 v4:=Tryd.zeroValue4
 t5:=Tryd.underlying5
 a5:=Tryd.isAgg5
 z5:=Tryd.sizeOf5
 v5:=Tryd.zeroValue5
 t9:=Tryd.underlying9
 a9:=Tryd.isAgg9
 z9:=Tryd.sizeOf9
 v9:=Tryd.zeroValue9
 t46:=Tryd.underlying62
 a46:=Tryd.isAgg62
 z46:=Tryd.sizeOf62
 v46:=Tryd.zeroValue62
 t51:=Tryd.underlying74
 a51:=Tryd.isAgg74
 z51:=Tryd.sizeOf74
 v51:=Tryd.zeroValue74
 t53:=Tryd.underlying38
 a53:=Tryd.isAgg38
 z53:=Tryd.sizeOf38
 v53:=Tryd.zeroValue38}
theorem Tryd.bits_Len (x:Int)(w:World)(h0:0≤x)(h1:x≤18446744073709551615):
  Calls Tryd.prog 97 #[.int .u64 x] w λe w'=>e= .returned (.int .i64 (Lib.bitLen x.toNat))∧w'=w:=Any.bits_Len Tryd.lays125 x w h0 h1
end Go.Proofs
namespace Go.Proofs.YtjhajfcggfhbmaaDoor
open Go Go.Sx
theorem Wk.y {W w:World}{G:GH}{H:List Itm}{x0:Int}(m:Mem W G w H){y:Int}(hd:D.y x0=some y):
  Calls Tryd.prog 97 #[(.int .u64 x0)] w (Res W G H (λ_ Ho v=>Ho=[]∧v=(.int .i64 y))):=by
 unfold D.y at hd
 split at hd
 ·rename_i h
  obtain rfl:=Option.some.inj hd
  exact(Tryd.bits_Len x0 w h.1 h.2).mono (λe w' ⟨he,hw⟩=>by subst hw;exact⟨_,he,G,[],GLe.refl G,m,rfl,rfl⟩)
 ·cases hd
end Go.Proofs.YtjhajfcggfhbmaaDoor

namespace Go.Sx
theorem w64 {x:Int}(h1: -9223372036854775808≤x)(h2:x<9223372036854775808):IntKind.i64.wrap x=x:=by
 simp only[IntKind.wrap,IntKind.bits,IntKind.signed]
 have e:(2:Int)^64=18446744073709551616:=by decide
 have e':(2:Int)^(64-1)=9223372036854775808:=by decide
 simp
 omega
theorem dlt {i n:Nat}(h:i<n):decide ((i:Int)<(n:Int))=true:=by simp;omega
theorem A9 {n:Nat}:decide ((n:Int)<(n:Int))=false:=by simp
theorem Ay {α:Type}{xs:List α}{i:Nat}(h:i<xs.length):idx xs (i:Int)=some xs[i]:=by
 unfold idx;rw[if_pos (by omega)];simp[h]
theorem wi {i:Nat}(h:i<4611686018427387904):IntKind.i64.wrap ((i:Int)+1)=((i+1:Nat):Int):=by
 rw[w64 (by omega) (by omega)];rfl
theorem wi' {i n:Nat}(h:i<n)(hn:n≤4611686018427387904):IntKind.i64.wrap ((i:Int)+1)=((i+1:Nat):Int):=wi (by omega)
theorem AU {α:Type}{xs:List α}{i:Nat}(h:i<xs.length)(d:α):xs.getD i d=xs[i]:=by simp[h]
theorem Bg {α:Type}{xs ys:List α}(h:xs.length+ys.length≤4294967296):AG xs ys=some (xs++ys):=by
 unfold AG;rw[if_pos h]
theorem sliceD_pre {α:Type}{xs:List α}{i:Nat}(h:i≤xs.length):Bj xs 0 (i:Int)=some (xs.take i):=by
 unfold Bj;rw[if_pos ⟨by omega,by omega,by omega⟩];simp
theorem Da {α:Type}{xs:List α}{i:Nat}(h:i≤xs.length):Bj xs (i:Int) (xs.length:Int)=some (xs.drop i):=by
 unfold Bj;rw[if_pos ⟨by omega,by omega,by omega⟩];simp
theorem makeD_ok {α:Type}{z:α}{n:Nat}{c:Int}(h:(n:Int)≤c)(h2:c≤4294967296):Cm z (n:Int) c=some (List.replicate n z):=by
 unfold Cm;rw[if_pos ⟨by omega,h,h2⟩];simp
theorem makeD_zero {α:Type}{z:α}{c:Int}(h:0≤c)(h2:c≤4294967296):Cm z 0 c=some []:=by
 unfold Cm;rw[if_pos ⟨by omega,h,h2⟩];simp
def Stp {σ ρ:Type}(I:σ→Prop)(μ:σ→Nat)(Post:ρ→Prop)(s:σ):σ ⊕ ρ→Prop
 | .inl s'=>I s'∧μ s'<μ s
 | .inr r=>Post r
theorem AK {σ ρ β:Type}{step:σ→Option (σ ⊕ ρ)}{s:σ}{k:ρ→Option β}{Q:β→Prop}(I:σ→Prop)(μ:σ→Nat)(Post:ρ→Prop)
  (hstep:∀s,I s→∃y,step s=some y∧Stp I μ Post s y) (h0:I s) (hk:∀r,Post r→∃y,k r=some y∧Q y):∃y,(Ap step s).bind k=some y∧Q y:=by
 obtain⟨r,hr,hp⟩:=loopF_inv (step:=step) I μ Post (λs hs=>by
  obtain⟨y,hy,hq⟩:=hstep s hs
  cases y with
  |inl s'=>exact .inl ⟨s',hy,hq.1,hq.2⟩
  |inr r=>exact .inr ⟨r,hy,hq⟩) s h0
 rw[hr]
 exact hk r hp
theorem Ce {α β:Type}{e:Option α}{k:α→Option β}{Q:β→Prop}(R:α→Prop)(h:∃x,e=some x∧R x)(hk:∀x,R x→∃y,k x=some y∧Q y):∃y,e.bind k=some y∧Q y:=by
 obtain⟨x,rfl,hx⟩:=h
 exact hk x hx
theorem bind_eq {α β:Type}{e:Option α}{k:α→Option β}{Q:β→Prop}{x:α}(h:e=some x)(hk:∃y,k x=some y∧Q y):∃y,e.bind k=some y∧Q y:=by
 subst h;exact hk
theorem loop_steps {S ρ:Type}{step:S→Option (S ⊕ ρ)}(st:Nat→S)(n:Nat)(h:∀i,i<n→step (st i)=some (.inl (st (i+1)))):Ap step (st 0)=Ap step (st n):=by
 have key:∀k,k≤n→Ap step (st 0)=Ap step (st k):=by
  intro k
  induction k with
  |zero=>intro _;rfl
  |succ k ih=>intro hk;rw[ih (by omega),Bf (h k (by omega))]
 exact key n (Nat.le_refl n)
theorem CT {S ρ β:Type}{step:S→Option (S ⊕ ρ)}{k:ρ→Option β}{s0:S}(st:Nat→S)(n:Nat)(r:ρ)(h0:st 0=s0)(h:∀i,i<n→step (st i)=some (.inl (st (i+1))))(he:step (st n)=some (.inr r)):
  (Ap step s0).bind k=k r:=by
 rw[←h0,loop_steps st n h,AX he];rfl
theorem loop_list {α σ S ρ:Type}{step:S→Option (S ⊕ ρ)}(xs:List α)(enc:σ→Int→S)(f:σ→α→σ)(fin:σ→ρ)(I:σ→Prop)(s0:σ)
  (h0:I s0) (hstep:∀s (i:Nat) (h:i<xs.length),I s→step (enc s i)=some (.inl (enc (f s xs[i]) ((i+1:Nat):Int)))∧I (f s xs[i]))
  (hend:∀s,I s→step (enc s xs.length)=some (.inr (fin s))):Ap step (enc s0 0)=some (fin (xs.foldl f s0))∧I (xs.foldl f s0):=by
 have key:∀(k i:Nat) (s:σ),i+k=xs.length→I s→Ap step (enc s i)=some (fin ((xs.drop i).foldl f s))∧I ((xs.drop i).foldl f s):=by
  intro k
  induction k with
  |zero=>
   intro i s hk hs
   obtain rfl:i=xs.length:=by omega
   simp only[List.drop_length,List.foldl_nil]
   exact⟨AX (hend s hs),hs⟩
  |succ k ih=>
   intro i s hk hs
   have hi:i<xs.length:=by omega
   obtain⟨h1,h2⟩:=hstep s i hi hs
   rw[Bf h1,List.drop_eq_getElem_cons hi,List.foldl_cons]
   exact ih (i+1) _ (by omega) h2
 have:=key xs.length 0 s0 (by omega) h0
 simpa using this
theorem loop_listb {α σ S ρ β:Type}{step:S→Option (S ⊕ ρ)}{k:ρ→Option β}(xs:List α)(enc:σ→Int→S)(f:σ→α→σ)(fin:σ→ρ)(I:σ→Prop)(s0:σ)
  (h0:I s0) (hstep:∀s (i:Nat) (h:i<xs.length),I s→step (enc s i)=some (.inl (enc (f s xs[i]) ((i+1:Nat):Int)))∧I (f s xs[i]))
  (hend:∀s,I s→step (enc s xs.length)=some (.inr (fin s))):(Ap step (enc s0 0)).bind k=k (fin (xs.foldl f s0)):=by
 rw[(loop_list xs enc f fin I s0 h0 hstep hend).1];rfl
theorem loop_map {α β γ S:Type}{step:S→Option (S ⊕ List β)}{k:List β→Option γ}(xs:List α)(enc:List β→Int→S)(f:α→β)(hx:xs.length≤4294967296)
  (hstep:∀s (i:Nat) (h:i<xs.length),s.length=i→step (enc s i)=(AG s [f xs[i]]).bind λl=>some (.inl (enc l ((i+1:Nat):Int))))
  (hend:∀s,step (enc s xs.length)=some (.inr s)):(Ap step (enc [] 0)).bind k=k (xs.map f):=by
 have key:∀i,i≤xs.length→Ap step (enc [] 0)=Ap step (enc ((xs.take i).map f) i):=by
  intro i
  induction i with
  |zero=>intro _;simp
  |succ i ih=>
   intro hi
   rw[ih (by omega)]
   have h1:=hstep ((xs.take i).map f) i (by omega) (by simp;omega)
   have h2:AG ((xs.take i).map f) [f xs[i]]=some ((xs.take (i+1)).map f):=by
    unfold AG
    rw[if_pos (by simp;omega)]
    rw[List.take_succ_eq_append_getElem (show i<xs.length by omega),List.map_append];rfl
   rw[h2] at h1
   rw[Bf h1]
 rw[key xs.length (Nat.le_refl _),List.take_length,AX (hend _)];rfl
theorem loop_nat {σ S ρ:Type}{step:S→Option (S ⊕ ρ)}(n:Nat)(enc:σ→Int→S)(f:σ→Nat→σ)(fin:σ→ρ)(I:Nat→σ→Prop)(s0:σ)
  (h0:I 0 s0) (hstep:∀s (i:Nat),i<n→I i s→step (enc s i)=some (.inl (enc (f s i) ((i+1:Nat):Int)))∧I (i+1) (f s i))
  (hend:∀s,I n s→step (enc s n)=some (.inr (fin s))):Ap step (enc s0 0)=some (fin ((List.range n).foldl f s0))∧I n ((List.range n).foldl f s0):=by
 have key:∀k,k≤n→Ap step (enc s0 0)=Ap step (enc ((List.range k).foldl f s0) k)∧I k ((List.range k).foldl f s0):=by
  intro k
  induction k with
  |zero=>intro _;exact⟨rfl,h0⟩
  |succ k ih=>
   intro hk
   obtain⟨h1,h2⟩:=ih (by omega)
   obtain⟨h3,h4⟩:=hstep _ k (by omega) h2
   rw[List.range_succ,List.foldl_append,List.foldl_cons,List.foldl_nil]
   exact⟨by rw[h1,Bf h3],h4⟩
 obtain⟨h1,h2⟩:=key n (Nat.le_refl n)
 exact⟨by rw[h1,AX (hend _ h2)],h2⟩
theorem C9 {ρ : Type} {step : Int → Option (Int ⊕ ρ)} (n : Nat) (c : Nat → Option ρ) (fin : ρ)
    (hstep : ∀ i, i < n → step (i : Int) = match c i with | some r => some (.inr r) | none => some (.inl ((i + 1 : Nat) : Int)))
    (hend : step (n : Int) = some (.inr fin)) : Ap step 0 = some (((List.range n).findSome? c).getD fin) := by
  have key : ∀ (k i : Nat), i + k = n → Ap step (i : Int) = some (((List.range' i k).findSome? c).getD fin) := by
    intro k
    induction k with
    | zero => intro i h; obtain rfl : i = n := by omega
              simpa using AX hend
    | succ k ih =>
      intro i h
      have h1 := hstep i (by omega)
      rw [List.range'_succ, List.findSome?_cons]
      cases hc : c i with
      | some r => rw [hc] at h1; simpa using AX h1
      | none => rw [hc] at h1; rw [Bf h1]; exact ih (i + 1) (by omega)
  have := key n 0 (by omega)
  simpa [List.range_eq_range'] using this
theorem Cj {β:Type}{step:Int→Option (Int ⊕ (Unit ⊕ β))}{k:Unit ⊕ β→Option Bool}(n:Nat)(c:Nat→Bool)(bad:β)
  (hstep:∀i,i<n→step (i:Int)=if c i then some (.inl ((i+1:Nat):Int)) else some (.inr (.inr bad)))
  (hend:step (n:Int)=some (.inr (.inl ()))) (hk1:k (.inl ())=some true) (hk2:k (.inr bad)=some false):
  (Ap step 0).bind k=some ((List.range n).all c):=by
 rw[C9 n (λi=>if c i then none else some (.inr bad)) (.inl ()) (λi hi=>by rw[hstep i hi];cases c i<;>rfl) hend]
 simp only[bs]
 cases h:(List.range n).all c with
 |true=>
  rw[List.findSome?_eq_none_iff.2 (λx hx=>by rw[if_pos (List.all_eq_true.1 h x hx)])]
  exact hk1
 |false=>
  cases h2:(List.range n).findSome? (λi=>if c i then none else some (Sum.inr bad)) with
  |none=>
   rw[List.findSome?_eq_none_iff] at h2
   have:(List.range n).all c=true:=List.all_eq_true.2 λx hx=>by
    have:=h2 x hx
    cases hc:c x
    ·rw[hc] at this;cases this
    ·rfl
   rw[this] at h;cases h
  |some r=>
   obtain⟨x,_,hx⟩:=List.exists_of_findSome?_eq_some h2
   cases hc:c x
   ·rw[hc] at hx;simp at hx;subst hx;exact hk2
   ·rw[hc] at hx;simp at hx
theorem DF {ρ β:Type}{step:Int→Option (Int ⊕ ρ)}{k:ρ→Option β}(n:Nat)(c:Nat→Bool)(fine bad:ρ)
  (hstep:∀i,i<n→step (i:Int)=if c i then some (.inl ((i+1:Nat):Int)) else some (.inr bad))
  (hend:step (n:Int)=some (.inr fine)):(Ap step 0).bind k=cond ((List.range n).all c) (k fine) (k bad):=by
 rw[C9 n (λi=>if c i then none else some bad) fine (λi hi=>by rw[hstep i hi];cases c i<;>rfl) hend]
 simp only[bs]
 cases h:(List.range n).all c with
 |true=>
  rw[List.findSome?_eq_none_iff.2 (λx hx=>by rw[if_pos (List.all_eq_true.1 h x hx)])]
  rfl
 |false=>
  cases h2:(List.range n).findSome? (λi=>if c i then none else some bad) with
  |none=>
   rw[List.findSome?_eq_none_iff] at h2
   have:(List.range n).all c=true:=List.all_eq_true.2 λx hx=>by
    have:=h2 x hx
    cases hc:c x
    ·rw[hc] at this;cases this
    ·rfl
   rw[this] at h;cases h
  |some r=>
   obtain⟨x,_,hx⟩:=List.exists_of_findSome?_eq_some h2
   cases hc:c x
   ·rw[hc] at hx;simp at hx;subst hx;rfl
   ·rw[hc] at hx;simp at hx
theorem loop_anyb {β:Type}{step:Int→Option (Int ⊕ (Unit ⊕ β))}{k:Unit ⊕ β→Option Bool}(n:Nat)(c:Nat→Bool)(good:β)
  (hstep:∀i,i<n→step (i:Int)=if c i then some (.inr (.inr good)) else some (.inl ((i+1:Nat):Int)))
  (hend:step (n:Int)=some (.inr (.inl ()))) (hk1:k (.inl ())=some false) (hk2:k (.inr good)=some true):
  (Ap step 0).bind k=some ((List.range n).any c):=by
 rw[C9 n (λi=>if c i then some (.inr good) else none) (.inl ()) (λi hi=>by rw[hstep i hi];cases c i<;>rfl) hend]
 simp only[bs]
 cases h:(List.range n).any c with
 |false=>
  rw[List.findSome?_eq_none_iff.2 (λx hx=>by
   have:c x=false:=by
    cases hc:c x
    ·rfl
    ·rw[List.any_eq_true.2 ⟨x,hx,hc⟩] at h;cases h
   rw[this];rfl)]
  exact hk1
 |true=>
  obtain⟨x,hx,hc⟩:=List.any_eq_true.1 h
  cases h2:(List.range n).findSome? (λi=>if c i then some (Sum.inr good) else none) with
  |none=>
   rw[List.findSome?_eq_none_iff] at h2
   have:=h2 x hx
   rw[hc] at this;cases this
  |some r=>
   obtain⟨y,_,hy⟩:=List.exists_of_findSome?_eq_some h2
   cases hc:c y
   ·rw[hc] at hy;simp at hy
   ·rw[hc] at hy;simp at hy;subst hy;exact hk2
theorem De {α:Type}(xs:List α)(p:α→Bool)(c:Nat→Bool)(h:∀i (hi:i<xs.length),c i=p xs[i]):(List.range xs.length).all c=xs.all p:=by
 rw[Bool.eq_iff_iff,List.all_eq_true,List.all_eq_true]
 constructor
 ·intro hh x hx
  obtain⟨i,hi,rfl⟩:=List.getElem_of_mem hx
  rw[←h i hi];exact hh i (List.mem_range.2 hi)
 ·intro hh i hi
  have hi':=List.mem_range.1 hi
  rw[h i hi'];exact hh _ (List.getElem_mem _)
theorem range_any_list {α:Type}(xs:List α)(p:α→Bool)(c:Nat→Bool)(h:∀i (hi:i<xs.length),c i=p xs[i]):(List.range xs.length).any c=xs.any p:=by
 rw[Bool.eq_iff_iff,List.any_eq_true,List.any_eq_true]
 constructor
 ·rintro⟨i,hi,hc⟩
  have hi':=List.mem_range.1 hi
  exact⟨_,List.getElem_mem hi',by rw[←h i hi'];exact hc⟩
 ·rintro⟨x,hx,hc⟩
  obtain⟨i,hi,rfl⟩:=List.getElem_of_mem hx
  exact⟨i,List.mem_range.2 hi,by rw[h i hi];exact hc⟩
theorem CF (n:Nat)(c:Nat→Bool):(List.range n).all c=true↔∀i,i<n→c i=true:=by
 rw[List.all_eq_true]
 exact⟨λh i hi=>h i (List.mem_range.2 hi),λh i hi=>h i (List.mem_range.1 hi)⟩
end Go.Sx



namespace Go.Sx
noncomputable def DG.insertionSort {α:Type}(cmp:α→α→Option Int)(x0:(List α))(x1:Int)(x2:Int):Option (((List α))):=
 (Ap (σ:=(List α)×Int) (ρ:=((List α))) (fun(s_560:(List α)×Int)=>match s_560 with|(l_563,x_566)=>cond (decide (x_566<x2)) ((Ap (σ:=(List α)×Int) (ρ:=((List α))) (fun(s_984:(List α)×Int)=>match s_984 with|(l_987,x_990)=>(cond (decide (x1<x_990)) ((idx l_987 x_990).bind λe_1079=>(idx l_987 (IntKind.i64.wrap (x_990-1))).bind λe_1085=>(cmp e_1079 e_1085).bind λy_1091=>some (decide (y_1091<0))) (some false)).bind λb_1077=>cond b_1077 ((idx l_987 (IntKind.i64.wrap (x_990-1))).bind λe_1097=>(idx l_987 x_990).bind λe_1103=>(idx l_987 x_990).bind λe_1109=>(idx (l_987.set (Int.toNat x_990) e_1097) (IntKind.i64.wrap (x_990-1))).bind λe_1117=>some (.inl (((l_987.set (Int.toNat x_990) e_1097).set (Int.toNat (IntKind.i64.wrap (x_990-1))) e_1103),(IntKind.i64.wrap (x_990-1))))) (some (.inr l_987))) (l_563,x_566)).bind λl_1056=>some (.inl (l_1056,(IntKind.i64.wrap (x_566+1))))) (some (.inr l_563))) (x0,(IntKind.i64.wrap (x1+1)))).bind λl_844=>some l_844
noncomputable def DG.siftDown {α:Type}(cmp:α→α→Option Int)(x0:(List α))(x1:Int)(x2:Int)(x3:Int):Option (((List α))):=
 (Ap (σ:=(List α)×Int) (ρ:=((List α)) ⊕ (((List α)))) (fun(s_186:(List α)×Int)=>match s_186 with|(l_189,x_192)=>cond (decide (x2≤(IntKind.i64.wrap ((IntKind.i64.wrap (2*x_192))+1)))) (some (.inr (.inl l_189))) ((cond (decide ((IntKind.i64.wrap ((IntKind.i64.wrap ((IntKind.i64.wrap (2*x_192))+1))+1))<x2)) ((idx l_189 (IntKind.i64.wrap (x3+(IntKind.i64.wrap ((IntKind.i64.wrap (2*x_192))+1))))).bind λe_307=>(idx l_189 (IntKind.i64.wrap ((IntKind.i64.wrap (x3+(IntKind.i64.wrap ((IntKind.i64.wrap (2*x_192))+1))))+1))).bind λe_313=>(cmp e_307 e_313).bind λy_319=>some (decide (y_319<0))) (some false)).bind λb_305=>((cond b_305 (some (IntKind.i64.wrap ((IntKind.i64.wrap ((IntKind.i64.wrap (2*x_192))+1))+1))) (some (IntKind.i64.wrap ((IntKind.i64.wrap (2*x_192))+1))):Option (Int))).bind λx_328=>(idx l_189 (IntKind.i64.wrap (x3+x_192))).bind λe_331=>(idx l_189 (IntKind.i64.wrap (x3+x_328))).bind λe_337=>(cmp e_331 e_337).bind λy_343=>cond (!(decide (y_343<0))) (some (.inr (.inr l_189))) ((idx l_189 (IntKind.i64.wrap (x3+x_328))).bind λe_349=>(idx l_189 (IntKind.i64.wrap (x3+x_192))).bind λe_355=>(idx l_189 (IntKind.i64.wrap (x3+x_192))).bind λe_361=>(idx (l_189.set (Int.toNat (IntKind.i64.wrap (x3+x_192))) e_349) (IntKind.i64.wrap (x3+x_328))).bind λe_369=>some (.inl (((l_189.set (Int.toNat (IntKind.i64.wrap (x3+x_192))) e_349).set (Int.toNat (IntKind.i64.wrap (x3+x_328))) e_355),x_328))))) (x0,x1)).bind λzz=>match zz with| .inl l_283=>(some l_283)| .inr z=>(some z)
noncomputable def DG.heapSort {α:Type}(cmp:α→α→Option Int)(x0:(List α))(x1:Int)(x2:Int):Option (((List α))):=
 (Ap (σ:=(List α)×Int) (ρ:=((List α))) (fun(s_30:(List α)×Int)=>match s_30 with|(l_33,x_36)=>cond (decide ((0:Int)≤x_36)) ((DG.siftDown cmp l_33 x_36 (IntKind.i64.wrap (x2-x1)) x1).bind λy_54=>some (.inl (y_54,(IntKind.i64.wrap (x_36-1))))) (some (.inr l_33))) (x0,(IntKind.i64.wrap (Int.tdiv (IntKind.i64.wrap ((IntKind.i64.wrap (x2-x1))-1)) 2)))).bind λl_49=>(Ap (σ:=(List α)×Int) (ρ:=((List α))) (fun(s_144:(List α)×Int)=>match s_144 with|(l_147,x_150)=>cond (decide ((0:Int)≤x_150)) ((idx l_147 (IntKind.i64.wrap (x1+x_150))).bind λe_194=>(idx l_147 x1).bind λe_200=>(idx l_147 x1).bind λe_206=>(idx (l_147.set (Int.toNat x1) e_194) (IntKind.i64.wrap (x1+x_150))).bind λe_214=>(DG.siftDown cmp ((l_147.set (Int.toNat x1) e_194).set (Int.toNat (IntKind.i64.wrap (x1+x_150))) e_200) 0 x_150 x1).bind λy_220=>some (.inl (y_220,(IntKind.i64.wrap (x_150-1))))) (some (.inr l_147))) (l_49,(IntKind.i64.wrap ((IntKind.i64.wrap (x2-x1))-1)))).bind λl_189=>some l_189
noncomputable def DG.breakPatterns {α:Type}(cmp:α→α→Option Int)(x0:(List α))(x1:Int)(x2:Int):Option (((List α))):=
 cond (decide ((8:Int)≤(IntKind.i64.wrap (x2-x1)))) ((D.N (IntKind.i64.wrap (x2-x1))).bind λy_4=>(Ap (σ:=(List α)×Int×Int) (ρ:=((List α))) (fun(s_103:(List α)×Int×Int)=>match s_103 with|(l_106,x_109,x_110)=>cond (decide (x_109≤(IntKind.i64.wrap ((IntKind.i64.wrap (x1+(IntKind.i64.wrap ((IntKind.i64.wrap (Int.tdiv (IntKind.i64.wrap (x2-x1)) 4))*2))))+1)))) ((D.l0 x_110).bind λy_159=>((cond (decide ((IntKind.i64.wrap (x2-x1))≤(IntKind.i64.wrap (iand .u64 y_159.1 (IntKind.u64.wrap (y_4-1)))))) (some (IntKind.i64.wrap ((IntKind.i64.wrap (iand .u64 y_159.1 (IntKind.u64.wrap (y_4-1))))-(IntKind.i64.wrap (x2-x1))))) (some (IntKind.i64.wrap (iand .u64 y_159.1 (IntKind.u64.wrap (y_4-1))))):Option (Int))).bind λx_170=>(idx l_106 (IntKind.i64.wrap (x1+x_170))).bind λe_173=>(idx l_106 x_109).bind λe_179=>(idx l_106 x_109).bind λe_185=>(idx (l_106.set (Int.toNat x_109) e_173) (IntKind.i64.wrap (x1+x_170))).bind λe_193=>some (.inl (((l_106.set (Int.toNat x_109) e_173).set (Int.toNat (IntKind.i64.wrap (x1+x_170))) e_179),(IntKind.i64.wrap (x_109+1)),y_159.2))) (some (.inr l_106))) (x0,(IntKind.i64.wrap ((IntKind.i64.wrap (x1+(IntKind.i64.wrap ((IntKind.i64.wrap (Int.tdiv (IntKind.i64.wrap (x2-x1)) 4))*2))))-1)),(IntKind.u64.wrap (IntKind.i64.wrap (x2-x1))))).bind λl_154=>some l_154) (some x0)
noncomputable def DG.order2 {α:Type}(cmp:α→α→Option Int)(x0:(List α))(x1:Int)(x2:Int)(x3_0:Int):Option (Int×Int×((List α))×Int):=
 (idx x0 x2).bind λe_1=>(idx x0 x1).bind λe_7=>(cmp e_1 e_7).bind λy_13=>cond (decide (y_13<0)) (some (x2,x1,x0,(IntKind.i64.wrap (x3_0+1)))) (some (x1,x2,x0,x3_0))
noncomputable def DG.median {α:Type}(cmp:α→α→Option Int)(x0:(List α))(x1:Int)(x2:Int)(x3:Int)(x4_0:Int):Option (Int×((List α))×Int):=
 (DG.order2 cmp x0 x1 x2 x4_0).bind λy_1=>(DG.order2 cmp y_1.2.2.1 y_1.2.1 x3 y_1.2.2.2).bind λy_10=>(DG.order2 cmp y_10.2.2.1 y_1.1 y_10.1 y_10.2.2.2).bind λy_19=>some (y_19.2.1,y_19.2.2.1,y_19.2.2.2)
noncomputable def DG.medianAdjacent {α:Type}(cmp:α→α→Option Int)(x0:(List α))(x1:Int)(x2_0:Int):Option (Int×((List α))×Int):=
 (DG.median cmp x0 (IntKind.i64.wrap (x1-1)) x1 (IntKind.i64.wrap (x1+1)) x2_0).bind λy_1=>some (y_1.1,y_1.2.1,y_1.2.2)
noncomputable def DG.choosePivot {α:Type}(cmp:α→α→Option Int)(x0:(List α))(x1:Int)(x2:Int):Option (Int×Int×((List α))):=
 cond (decide ((8:Int)≤(IntKind.i64.wrap (x2-x1)))) (((cond (decide ((50:Int)≤(IntKind.i64.wrap (x2-x1)))) ((DG.medianAdjacent cmp x0 (IntKind.i64.wrap (x1+(IntKind.i64.wrap ((IntKind.i64.wrap (Int.tdiv (IntKind.i64.wrap (x2-x1)) 4))*1)))) 0).bind λy_44=>(DG.medianAdjacent cmp y_44.2.1 (IntKind.i64.wrap (x1+(IntKind.i64.wrap ((IntKind.i64.wrap (Int.tdiv (IntKind.i64.wrap (x2-x1)) 4))*2)))) y_44.2.2).bind λy_53=>(DG.medianAdjacent cmp y_53.2.1 (IntKind.i64.wrap (x1+(IntKind.i64.wrap ((IntKind.i64.wrap (Int.tdiv (IntKind.i64.wrap (x2-x1)) 4))*3)))) y_53.2.2).bind λy_62=>some (y_62.2.1,y_44.1,y_53.1,y_62.1,y_62.2.2)) (some (x0,(IntKind.i64.wrap (x1+(IntKind.i64.wrap ((IntKind.i64.wrap (Int.tdiv (IntKind.i64.wrap (x2-x1)) 4))*1)))),(IntKind.i64.wrap (x1+(IntKind.i64.wrap ((IntKind.i64.wrap (Int.tdiv (IntKind.i64.wrap (x2-x1)) 4))*2)))),(IntKind.i64.wrap (x1+(IntKind.i64.wrap ((IntKind.i64.wrap (Int.tdiv (IntKind.i64.wrap (x2-x1)) 4))*3)))),0)):Option ((List α)×Int×Int×Int×Int))).bind fun(l_35,x_38,x_39,x_40,x_41)=>(DG.median cmp l_35 x_38 x_39 x_40 x_41).bind λy_71=>cond (y_71.2.2==0) (some (y_71.1,1,y_71.2.1)) (cond (y_71.2.2==12) (some (y_71.1,2,y_71.2.1)) (some (y_71.1,0,y_71.2.1)))) (cond ((0:Int)==0) (some ((IntKind.i64.wrap (x1+(IntKind.i64.wrap ((IntKind.i64.wrap (Int.tdiv (IntKind.i64.wrap (x2-x1)) 4))*2)))),1,x0)) (cond ((0:Int)==12) (some ((IntKind.i64.wrap (x1+(IntKind.i64.wrap ((IntKind.i64.wrap (Int.tdiv (IntKind.i64.wrap (x2-x1)) 4))*2)))),2,x0)) (some ((IntKind.i64.wrap (x1+(IntKind.i64.wrap ((IntKind.i64.wrap (Int.tdiv (IntKind.i64.wrap (x2-x1)) 4))*2)))),0,x0))))
noncomputable def DG.reverseRange {α:Type}(cmp:α→α→Option Int)(x0:(List α))(x1:Int)(x2:Int):Option (((List α))):=
 (Ap (σ:=(List α)×Int×Int) (ρ:=((List α))) (fun(s_65:(List α)×Int×Int)=>match s_65 with|(l_68,x_71,x_72)=>cond (decide (x_71<x_72)) ((idx l_68 x_72).bind λe_107=>(idx l_68 x_71).bind λe_113=>(idx l_68 x_71).bind λe_119=>(idx (l_68.set (Int.toNat x_71) e_107) x_72).bind λe_127=>some (.inl (((l_68.set (Int.toNat x_71) e_107).set (Int.toNat x_72) e_113),(IntKind.i64.wrap (x_71+1)),(IntKind.i64.wrap (x_72-1))))) (some (.inr l_68))) (x0,x1,(IntKind.i64.wrap (x2-1)))).bind λl_102=>some l_102
noncomputable def DG.partialInsertionSort {α:Type}(cmp:α→α→Option Int)(x0:(List α))(x1:Int)(x2:Int):Option (Bool×((List α))):=
 (Ap (σ:=(List α)×Int×Int) (ρ:=((List α)) ⊕ (Bool×((List α)))) (fun(s_1625:(List α)×Int×Int)=>match s_1625 with|(l_1628,x_1631,x_1632)=>cond (decide (x_1632<5)) ((Ap (σ:=Int) (ρ:=(Int)) (fun(x_2530:Int)=>(cond (decide (x_2530<x2)) ((idx l_1628 x_2530).bind λe_2591=>(idx l_1628 (IntKind.i64.wrap (x_2530-1))).bind λe_2597=>(cmp e_2591 e_2597).bind λy_2603=>some (!(decide (y_2603<0)))) (some false)).bind λb_2589=>cond b_2589 (some (.inl (IntKind.i64.wrap (x_2530+1)))) (some (.inr x_2530))) x_1631).bind λx_2570=>cond (x_2570==x2) (some (.inr (.inr (true,l_1628)))) (cond (decide ((IntKind.i64.wrap (x2-x1))<50)) (some (.inr (.inr (false,l_1628)))) ((idx l_1628 (IntKind.i64.wrap (x_2570-1))).bind λe_2611=>(idx l_1628 x_2570).bind λe_2617=>(idx l_1628 x_2570).bind λe_2623=>(idx (l_1628.set (Int.toNat x_2570) e_2611) (IntKind.i64.wrap (x_2570-1))).bind λe_2631=>((cond (decide ((2:Int)≤(IntKind.i64.wrap (x_2570-x1)))) ((Ap (σ:=(List α)×Int) (ρ:=((List α))) (fun(s_2947:(List α)×Int)=>match s_2947 with|(l_2950,x_2953)=>cond (decide ((1:Int)≤x_2953)) ((idx l_2950 x_2953).bind λe_3006=>(idx l_2950 (IntKind.i64.wrap (x_2953-1))).bind λe_3012=>(cmp e_3006 e_3012).bind λy_3018=>cond (!(decide (y_3018<0))) (some (.inr l_2950)) ((idx l_2950 (IntKind.i64.wrap (x_2953-1))).bind λe_3024=>(idx l_2950 x_2953).bind λe_3030=>(idx l_2950 x_2953).bind λe_3036=>(idx (l_2950.set (Int.toNat x_2953) e_3024) (IntKind.i64.wrap (x_2953-1))).bind λe_3044=>some (.inl (((l_2950.set (Int.toNat x_2953) e_3024).set (Int.toNat (IntKind.i64.wrap (x_2953-1))) e_3030),(IntKind.i64.wrap (x_2953-1)))))) (some (.inr l_2950))) (((l_1628.set (Int.toNat x_2570) e_2611).set (Int.toNat (IntKind.i64.wrap (x_2570-1))) e_2617),(IntKind.i64.wrap (x_2570-1)))).bind λl_3001=>some l_3001) (some ((l_1628.set (Int.toNat x_2570) e_2611).set (Int.toNat (IntKind.i64.wrap (x_2570-1))) e_2617)):Option ((List α)))).bind λl_2843=>cond (decide ((2:Int)≤(IntKind.i64.wrap (x2-x_2570)))) ((Ap (σ:=(List α)×Int) (ρ:=((List α))) (fun(s_3150:(List α)×Int)=>match s_3150 with|(l_3153,x_3156)=>cond (decide (x_3156<x2)) ((idx l_3153 x_3156).bind λe_3209=>(idx l_3153 (IntKind.i64.wrap (x_3156-1))).bind λe_3215=>(cmp e_3209 e_3215).bind λy_3221=>cond (!(decide (y_3221<0))) (some (.inr l_3153)) ((idx l_3153 (IntKind.i64.wrap (x_3156-1))).bind λe_3227=>(idx l_3153 x_3156).bind λe_3233=>(idx l_3153 x_3156).bind λe_3239=>(idx (l_3153.set (Int.toNat x_3156) e_3227) (IntKind.i64.wrap (x_3156-1))).bind λe_3247=>some (.inl (((l_3153.set (Int.toNat x_3156) e_3227).set (Int.toNat (IntKind.i64.wrap (x_3156-1))) e_3233),(IntKind.i64.wrap (x_3156+1)))))) (some (.inr l_3153))) (l_2843,(IntKind.i64.wrap (x_2570+1)))).bind λl_3204=>some (.inl (l_3204,x_2570,(IntKind.i64.wrap (x_1632+1))))) (some (.inl (l_2843,x_2570,(IntKind.i64.wrap (x_1632+1)))))))) (some (.inr (.inl l_1628)))) (x0,(IntKind.i64.wrap (x1+1)),0)).bind λzz=>match zz with| .inl l_2442=>(some (false,l_2442))| .inr z=>(some z)
noncomputable def DG.partitionEqual {α:Type}(cmp:α→α→Option Int)(x0:(List α))(x1:Int)(x2:Int)(x3:Int):Option (Int×((List α))):=
 (idx x0 x3).bind λe_1=>(idx x0 x1).bind λe_7=>(idx x0 x1).bind λe_13=>(idx (x0.set (Int.toNat x1) e_1) x3).bind λe_21=>(Ap (σ:=(List α)×Int×Int) (ρ:=((List α)×Int)) (fun(s_739:(List α)×Int×Int)=>match s_739 with|(l_742,x_745,x_746)=>(Ap (σ:=Int) (ρ:=(Int)) (fun(x_1188:Int)=>(cond (decide (x_1188≤x_746)) ((idx l_742 x1).bind λe_1249=>(idx l_742 x_1188).bind λe_1255=>(cmp e_1249 e_1255).bind λy_1261=>some (!(decide (y_1261<0)))) (some false)).bind λb_1247=>cond b_1247 (some (.inl (IntKind.i64.wrap (x_1188+1)))) (some (.inr x_1188))) x_745).bind λx_1228=>(Ap (σ:=Int) (ρ:=(Int)) (fun(x_1350:Int)=>(cond (decide (x_1228≤x_1350)) ((idx l_742 x1).bind λe_1411=>(idx l_742 x_1350).bind λe_1417=>(cmp e_1411 e_1417).bind λy_1423=>some (decide (y_1423<0))) (some false)).bind λb_1409=>cond b_1409 (some (.inl (IntKind.i64.wrap (x_1350-1)))) (some (.inr x_1350))) x_746).bind λx_1390=>cond (decide (x_1390<x_1228)) (some (.inr (l_742,x_1228))) ((idx l_742 x_1390).bind λe_1430=>(idx l_742 x_1228).bind λe_1436=>(idx l_742 x_1228).bind λe_1442=>(idx (l_742.set (Int.toNat x_1228) e_1430) x_1390).bind λe_1450=>some (.inl (((l_742.set (Int.toNat x_1228) e_1430).set (Int.toNat x_1390) e_1436),(IntKind.i64.wrap (x_1228+1)),(IntKind.i64.wrap (x_1390-1)))))) (((x0.set (Int.toNat x1) e_1).set (Int.toNat x3) e_7),(IntKind.i64.wrap (x1+1)),(IntKind.i64.wrap (x2-1)))).bind fun(l_1100,x_1103)=>some (x_1103,l_1100)
noncomputable def DG.partition {α:Type}(cmp:α→α→Option Int)(x0:(List α))(x1:Int)(x2:Int)(x3:Int):Option (Int×Bool×((List α))):=
 (idx x0 x3).bind λe_1=>(idx x0 x1).bind λe_7=>(idx x0 x1).bind λe_13=>(idx (x0.set (Int.toNat x1) e_1) x3).bind λe_21=>(Ap (σ:=Int) (ρ:=(Int)) (fun(x_110:Int)=>(cond (decide (x_110≤(IntKind.i64.wrap (x2-1)))) ((idx ((x0.set (Int.toNat x1) e_1).set (Int.toNat x3) e_7) x_110).bind λe_171=>(idx ((x0.set (Int.toNat x1) e_1).set (Int.toNat x3) e_7) x1).bind λe_177=>(cmp e_171 e_177).bind λy_183=>some (decide (y_183<0))) (some false)).bind λb_169=>cond b_169 (some (.inl (IntKind.i64.wrap (x_110+1)))) (some (.inr x_110))) (IntKind.i64.wrap (x1+1))).bind λx_150=>(Ap (σ:=Int) (ρ:=(Int)) (fun(x_272:Int)=>(cond (decide (x_150≤x_272)) ((idx ((x0.set (Int.toNat x1) e_1).set (Int.toNat x3) e_7) x_272).bind λe_333=>(idx ((x0.set (Int.toNat x1) e_1).set (Int.toNat x3) e_7) x1).bind λe_339=>(cmp e_333 e_339).bind λy_345=>some (!(decide (y_345<0)))) (some false)).bind λb_331=>cond b_331 (some (.inl (IntKind.i64.wrap (x_272-1)))) (some (.inr x_272))) (IntKind.i64.wrap (x2-1))).bind λx_312=>cond (decide (x_312<x_150)) ((idx ((x0.set (Int.toNat x1) e_1).set (Int.toNat x3) e_7) x1).bind λe_352=>(idx ((x0.set (Int.toNat x1) e_1).set (Int.toNat x3) e_7) x_312).bind λe_358=>(idx ((x0.set (Int.toNat x1) e_1).set (Int.toNat x3) e_7) x_312).bind λe_364=>(idx (((x0.set (Int.toNat x1) e_1).set (Int.toNat x3) e_7).set (Int.toNat x_312) e_352) x1).bind λe_372=>some (x_312,true,((((x0.set (Int.toNat x1) e_1).set (Int.toNat x3) e_7).set (Int.toNat x_312) e_352).set (Int.toNat x1) e_358))) ((idx ((x0.set (Int.toNat x1) e_1).set (Int.toNat x3) e_7) x_312).bind λe_378=>(idx ((x0.set (Int.toNat x1) e_1).set (Int.toNat x3) e_7) x_150).bind λe_384=>(idx ((x0.set (Int.toNat x1) e_1).set (Int.toNat x3) e_7) x_150).bind λe_390=>(idx (((x0.set (Int.toNat x1) e_1).set (Int.toNat x3) e_7).set (Int.toNat x_150) e_378) x_312).bind λe_398=>(Ap (σ:=(List α)×Int×Int) (ρ:=((List α)×Int)) (fun(s_1116:(List α)×Int×Int)=>match s_1116 with|(l_1119,x_1122,x_1123)=>(Ap (σ:=Int) (ρ:=(Int)) (fun(x_1565:Int)=>(cond (decide (x_1565≤x_1123)) ((idx l_1119 x_1565).bind λe_1626=>(idx l_1119 x1).bind λe_1632=>(cmp e_1626 e_1632).bind λy_1638=>some (decide (y_1638<0))) (some false)).bind λb_1624=>cond b_1624 (some (.inl (IntKind.i64.wrap (x_1565+1)))) (some (.inr x_1565))) x_1122).bind λx_1605=>(Ap (σ:=Int) (ρ:=(Int)) (fun(x_1727:Int)=>(cond (decide (x_1605≤x_1727)) ((idx l_1119 x_1727).bind λe_1788=>(idx l_1119 x1).bind λe_1794=>(cmp e_1788 e_1794).bind λy_1800=>some (!(decide (y_1800<0)))) (some false)).bind λb_1786=>cond b_1786 (some (.inl (IntKind.i64.wrap (x_1727-1)))) (some (.inr x_1727))) x_1123).bind λx_1767=>cond (decide (x_1767<x_1605)) (some (.inr (l_1119,x_1767))) ((idx l_1119 x_1767).bind λe_1807=>(idx l_1119 x_1605).bind λe_1813=>(idx l_1119 x_1605).bind λe_1819=>(idx (l_1119.set (Int.toNat x_1605) e_1807) x_1767).bind λe_1827=>some (.inl (((l_1119.set (Int.toNat x_1605) e_1807).set (Int.toNat x_1767) e_1813),(IntKind.i64.wrap (x_1605+1)),(IntKind.i64.wrap (x_1767-1)))))) (((((x0.set (Int.toNat x1) e_1).set (Int.toNat x3) e_7).set (Int.toNat x_150) e_378).set (Int.toNat x_312) e_384),(IntKind.i64.wrap (x_150+1)),(IntKind.i64.wrap (x_312-1)))).bind fun(l_1477,x_1480)=>(idx l_1477 x1).bind λe_1833=>(idx l_1477 x_1480).bind λe_1839=>(idx l_1477 x_1480).bind λe_1845=>(idx (l_1477.set (Int.toNat x_1480) e_1833) x1).bind λe_1853=>some (x_1480,false,((l_1477.set (Int.toNat x_1480) e_1833).set (Int.toNat x1) e_1839)))
noncomputable def DG.pdqsortR {α:Type}(cmp:α→α→Option Int):Nat→((List α))→Int→Int→Int→Option (((List α)))
 |0,_,_,_,_=>none
 |fuel+1,x0,x1,x2,x3=>(Ap (σ:=(List α)×Int×Int×Int×Bool×Bool) (ρ:=(((List α)))) (fun(s_398:(List α)×Int×Int×Int×Bool×Bool)=>match s_398 with|(l_401,x_404,x_405,x_406,b_407,b_408)=>cond (decide ((IntKind.i64.wrap (x_405-x_404))≤12)) ((DG.insertionSort cmp l_401 x_404 x_405).bind λy_411=>some (.inr y_411)) (cond (x_406==0) ((DG.heapSort cmp l_401 x_404 x_405).bind λy_421=>some (.inr y_421)) (((cond (!b_407) ((DG.breakPatterns cmp l_401 x_404 x_405).bind λy_449=>some (y_449,(IntKind.i64.wrap (x_406-1)))) (some (l_401,x_406)):Option ((List α)×Int))).bind fun(l_443,x_446)=>(DG.choosePivot cmp l_443 x_404 x_405).bind λy_458=>((cond (y_458.2.1==2) ((DG.reverseRange cmp y_458.2.2 x_404 x_405).bind λy_487=>some (y_487,(IntKind.i64.wrap ((IntKind.i64.wrap (x_405-1))-(IntKind.i64.wrap (y_458.1-x_404)))),1)) (some (y_458.2.2,y_458.1,y_458.2.1)):Option ((List α)×Int×Int))).bind fun(l_480,x_483,x_484)=>((cond ((b_407&&b_408)&&(x_484==1)) ((DG.partialInsertionSort cmp l_480 x_404 x_405).bind λy_521=>cond y_521.1 (some (.inr y_521.2)) (some (.inl y_521.2))) (some (.inl l_480)):Option (((List α)) ⊕ (((List α)))))).bind λq=>match q with| .inl l_516=>((cond (decide ((0:Int)<x_404)) ((idx l_516 (IntKind.i64.wrap (x_404-1))).bind λe_550=>(idx l_516 x_483).bind λe_556=>(cmp e_550 e_556).bind λy_562=>some (!(decide (y_562<0)))) (some false)).bind λb_548=>cond b_548 ((DG.partitionEqual cmp l_516 x_404 x_405 x_483).bind λy_568=>some (.inl (y_568.2,y_568.1,x_405,x_446,b_407,b_408))) ((DG.partition cmp l_516 x_404 x_405 x_483).bind λy_577=>cond (decide ((IntKind.i64.wrap (y_577.1-x_404))<(IntKind.i64.wrap (x_405-y_577.1)))) ((DG.pdqsortR cmp fuel y_577.2.2 x_404 y_577.1 x_446).bind λy_587=>some (.inl (y_587,(IntKind.i64.wrap (y_577.1+1)),x_405,x_446,(decide ((IntKind.i64.wrap (Int.tdiv (IntKind.i64.wrap (x_405-x_404)) 8))≤(IntKind.i64.wrap (y_577.1-x_404)))),y_577.2.1))) ((DG.pdqsortR cmp fuel y_577.2.2 (IntKind.i64.wrap (y_577.1+1)) x_405 x_446).bind λy_596=>some (.inl (y_596,x_404,y_577.1,x_446,(decide ((IntKind.i64.wrap (Int.tdiv (IntKind.i64.wrap (x_405-x_404)) 8))≤(IntKind.i64.wrap (x_405-y_577.1)))),y_577.2.1)))))| .inr q=>(some (.inr q))))) (x0,x1,x2,x3,true,true)).bind λz=>some z
noncomputable def DG.pdqsort {α:Type}(cmp:α→α→Option Int)(x0:(List α))(x1:Int)(x2:Int)(x3:Int):Option (((List α))):=DG.pdqsortR cmp BJ x0 x1 x2 x3
noncomputable def DG.Sort {α:Type}(cmp:α→α→Option Int)(x0:(List α)):Option (((List α))):=
 (D.y (IntKind.u64.wrap (x0.length:Int))).bind λy_1=>(DG.pdqsort cmp x0 0 (x0.length:Int) y_1).bind λy_8=>some y_8
end Go.Sx

namespace Go.Sx.Gs
class Srtd (α:Type) where
 dflt:α
 key:α→Int
 good:α→Prop
 cmp:α→α→Option Int
 law:∀x y,good x→good y→∃v,cmp x y=some v∧decide (v<0)=decide (key x<key y)
variable {α : Type} [Srtd α]
def el (l:List α)(i:Int):α:=l.getD i.toNat Srtd.dflt
def at' (l:List α)(i:Int):Int:=Srtd.key (el l i)
theorem AN {l:List α}{i:Int}(h0:0≤i)(h1:i<l.length):idx l i=some (el l i):=by
 unfold idx el
 rw[if_pos h0]
 have:i.toNat<l.length:=by omega
 simp[this]
theorem el_set {l:List α}{i k:Int}{x:α}(h0:0≤i)(h1:i<l.length)(hk:0≤k):el (l.set i.toNat x) k=if k=i then x else el l k:=by
 unfold el
 by_cases h:k=i
 ·subst h
  have:k.toNat<l.length:=by omega
  simp[this]
 ·rw[if_neg h]
  have:i.toNat≠k.toNat:=by omega
  simp[List.getD_eq_getElem?_getD,List.getElem?_set_ne this]
def sw (l:List α)(i j:Int):List α:=(l.set i.toNat (el l j)).set j.toNat (el l i)
theorem sw_len (l:List α)(i j:Int):(sw l i j).length=l.length:=by simp[sw]
theorem A5 {l:List α}{i j k:Int}(hi:0≤i)(hi':i<l.length)(hj:0≤j)(hj':j<l.length)(hk:0≤k):
  at' (sw l i j) k=if k=j then at' l i else if k=i then at' l j else at' l k:=by
 unfold sw at'
 rw[el_set hj (by simpa using hj') hk]
 split
 ·rfl
 ·rw[el_set hi hi' hk]
  split<;>rfl
omit [Srtd α] in
theorem Bh (z:α):∀(l:List α) (j:Nat),j<l.length→List.Perm (l.set j z) (z::l.eraseIdx j)
 |[],j,h=>by simp at h
 |x::l,0,_=>by simp
 |x::l,j+1,h=>by
  simp only[List.set_cons_succ,List.eraseIdx_cons_succ]
  exact((Bh z l j (by simpa using h)).cons x).trans (List.Perm.swap _ _ _)
omit [Srtd α] in
theorem CG (l:List α)(j:Nat)(h:j<l.length):List.Perm l (l[j]::l.eraseIdx j):=by
 have:=Bh l[j] l j h
 rwa [List.set_getElem_self] at this
omit [Srtd α] in
theorem C2 :∀(l:List α) (i j:Nat) (x y:α),l[i]? =some x→l[j]? =some y→List.Perm ((l.set i y).set j x) l
 |[],i,j,x,y,h,_=>by simp at h
 |z::l,0,0,x,y,h,h'=>by simp at h h';subst h;simp
 |z::l,0,j+1,x,y,h,h'=>by
  simp at h h'
  subst h
  simp only[List.set_cons_zero,List.set_cons_succ]
  obtain⟨hj,rfl⟩:=List.getElem?_eq_some_iff.1 h'
  have h1:=Bh z l j hj
  have h2:=CG l j hj
  exact((h1.cons _).trans (List.Perm.swap _ _ _)).trans (h2.symm.cons z)
 |z::l,i+1,0,x,y,h,h'=>by
  simp at h h'
  subst h'
  simp only[List.set_cons_zero,List.set_cons_succ]
  obtain⟨hj,rfl⟩:=List.getElem?_eq_some_iff.1 h
  have h1:=Bh z l i hj
  have h2:=CG l i hj
  exact((h1.cons _).trans (List.Perm.swap _ _ _)).trans (h2.symm.cons z)
 |z::l,i+1,j+1,x,y,h,h'=>by
  simp at h h'
  simp only[List.set_cons_succ]
  exact(C2 l i j x y h h').cons z
theorem sw_perm {l:List α}{i j:Int}(hi:0≤i)(hi':i<l.length)(hj:0≤j)(hj':j<l.length):List.Perm (sw l i j) l:=by
 have h1:i.toNat<l.length:=by omega
 have h2:j.toNat<l.length:=by omega
 exact C2 l i.toNat j.toNat _ _ (by simp[el,h1]) (by simp[el,h2])
structure Rg (a b:Int)(l l':List α):Prop where
 len:l'.length=l.length
 perm:List.Perm l' l
 out:∀k,0≤k→(k<a∨b≤k)→at' l' k=at' l k
 all:∀Q:Int→Prop,(∀k,a≤k→k<b→Q (at' l k))→∀k,a≤k→k<b→Q (at' l' k)
theorem Rg.refl (a b:Int)(l:List α):Rg a b l l:=⟨rfl,List.Perm.refl _,λ_ _ _=>rfl,λ_ h=>h⟩
theorem Rg.trans {a b:Int}{l l' l'':List α}(h:Rg a b l l')(h':Rg a b l' l''):Rg a b l l'':=
 ⟨h'.len.trans h.len,h'.perm.trans h.perm,λk h0 hk=>(h'.out k h0 hk).trans (h.out k h0 hk),λQ hQ=>h'.all Q (h.all Q hQ)⟩
theorem Rg.swap {a b i j:Int}{l:List α}(ha:0≤a)(hb:b≤l.length)(hi:a≤i)(hi':i<b)(hj:a≤j)(hj':j<b):Rg a b l (sw l i j):=by
 refine⟨sw_len _ _ _,sw_perm (by omega) (by omega) (by omega) (by omega),λk h0 hk=> ?_,λQ hQ k h1 h2=> ?_⟩
 ·rw[A5 (by omega) (by omega) (by omega) (by omega) h0,if_neg (by omega),if_neg (by omega)]
 ·rw[A5 (by omega) (by omega) (by omega) (by omega) (by omega)]
  split
  ·exact hQ i hi hi'
  ·split
   ·exact hQ j hj hj'
   ·exact hQ k h1 h2
theorem Rg.widen {a b a' b':Int}{l l':List α}(h:Rg a b l l')(ha:a'≤a)(hb:b≤b')(h0:0≤a'):Rg a' b' l l':=by
 refine⟨h.len,h.perm,λk h0 hk=>h.out k h0 (by omega),λQ hQ k h1 h2=> ?_⟩
 by_cases hk:a≤k∧k<b
 ·exact h.all Q (λk h3 h4=>hQ k (by omega) (by omega)) k hk.1 hk.2
 ·rw[h.out k (by omega) (by omega)];exact hQ k h1 h2
def Srt (l:List α)(a b:Int):Prop:=∀i j,a≤i→i<j→j<b→at' l i≤at' l j
def Good (l:List α):Prop:=∀x∈l,Srtd.good x
theorem Rg.good {a b:Int}{l l':List α}(h:Rg a b l l')(hg:Good l):Good l':=λx hx=>hg x (h.perm.mem_iff.1 hx)
theorem Good.el {l:List α}(h:Good l){i:Int}(h0:0≤i)(h1:i<l.length):Srtd.good (el l i):=by
 unfold Gs.el
 have:i.toNat<l.length:=by omega
 rw[AU this]
 exact h _ (List.getElem_mem this)
theorem B8 {l:List α}(h:Good l){i j:Int}(h0:0≤i)(h1:i<l.length)(h2:0≤j)(h3:j<l.length):∃v,Srtd.cmp (el l i) (el l j)=some v∧decide (v<0)=decide (at' l i<at' l j):=
 Srtd.law _ _ (h.el h0 h1) (h.el h2 h3)
theorem Bb {l:List α}{i j:Int}{x:α}(h0:0≤i)(h1:i<l.length):idx (l.set j.toNat x) i=some (el (l.set j.toNat x) i):=AN h0 (by simpa using h1)
end Go.Sx.Gs

namespace Go.Sx.Gs
variable {α : Type} [Srtd α]
theorem Dz (l0:List α)(a b:Int)(ha:0≤a)(hab:a≤b)(hb:b≤l0.length)(hlen:l0.length≤1000000)(hG:Good l0):
  ∃l',DG.insertionSort Srtd.cmp l0 a b=some l'∧Rg a b l0 l'∧Srt l' a b:=by
 unfold DG.insertionSort
 rw[w64 (show-9223372036854775808≤a+1 by omega) (by omega)]
 refine AK (λs=>Rg a b l0 s.1∧Srt s.1 a s.2∧a+1≤s.2∧s.2≤b+1) (λs=>(b-s.2).toNat) (λr=>Rg a b l0 r∧Srt r a b) ?_ ?_ ?_
 ·rintro⟨l,i⟩ ⟨hR,hS,h1,h2⟩
  dsimp only at hR hS h1 h2 ⊢
  have hll:=hR.len
  by_cases hi:i<b
  ·simp only[hi,decide_true,cond_true]
   rw[w64 (show-9223372036854775808≤i+1 by omega) (by omega)]
   refine AK (λs=>Rg a b l0 s.1∧a≤s.2∧s.2≤i∧∀p q,a≤p→p<q→q≤i→q≠s.2→at' s.1 p≤at' s.1 q) (λs=>(s.2-a).toNat) (λr=>Rg a b l0 r∧Srt r a (i+1)) ?_ ?_ ?_
   ·rintro⟨m,j⟩ ⟨hR',g1,g2,hS'⟩
    dsimp only at hR' g1 g2 hS' ⊢
    have hml:=hR'.len
    rw[w64 (show-9223372036854775808≤j-1 by omega) (by omega)]
    by_cases hj:a<j
    ·have r1:idx m j=some (el m j):=AN (by omega) (by omega)
     have r2:idx m (j-1)=some (el m (j-1)):=AN (by omega) (by omega)
     have r3:∀x,idx (m.set j.toNat x) (j-1)=some (el (m.set j.toNat x) (j-1)):=λx=>Bb (by omega) (by omega)
     obtain⟨v,cv,hv⟩:=B8 (hR'.good hG) (i:=j) (j:=j-1) (by omega) (by omega) (by omega) (by omega)
     by_cases hlt:at' m j<at' m (j-1)
     ·refine⟨.inl (sw m j (j-1),j-1),?_,⟨hR'.trans (Rg.swap ha (by omega) (by omega) (by omega) (by omega) (by omega)),by dsimp only;omega,by dsimp only;omega,?_⟩,by dsimp only;omega⟩
      ·simp only[r1,r2,r3,hj,cv,hv,hlt,decide_true,cond_true,bs]
       rfl
      ·intro p q k1 k2 k3 k4
       dsimp only at k4 ⊢
       rw[A5 (by omega) (by omega) (by omega) (by omega) (by omega),A5 (by omega) (by omega) (by omega) (by omega) (by omega)]
       by_cases c1:q=j
       ·subst c1
        rw[if_neg (show¬q=q-1 by omega),if_pos rfl]
        by_cases c2:p=q-1
        ·rw[if_pos c2];omega
        ·rw[if_neg c2,if_neg (by omega)]
         exact hS' p (q-1) k1 (by omega) (by omega) (by omega)
       ·rw[if_neg (show¬q=j-1 by omega),if_neg c1]
        by_cases c2:p=j-1
        ·rw[if_pos c2]
         exact hS' j q (by omega) (by omega) k3 c1
        ·rw[if_neg c2]
         by_cases c3:p=j
         ·rw[if_pos c3]
          exact hS' (j-1) q (by omega) (by omega) k3 c1
         ·rw[if_neg c3]
          exact hS' p q k1 k2 k3 c1
     ·refine⟨.inr m,?_,hR',?_⟩
      ·simp only[r1,r2,hj,cv,hv,hlt,decide_true,decide_false,cond_true,cond_false,bs]
      ·intro p q k1 k2 k3
       by_cases c1:q=j
       ·subst c1
        by_cases c2:p=q-1
        ·subst c2;omega
        ·have:=hS' p (q-1) k1 (by omega) (by omega) (by omega)
         omega
       ·exact hS' p q k1 k2 (by omega) c1
    ·refine⟨.inr m,?_,hR',?_⟩
     ·simp only[hj,decide_false,cond_false,bs]
     ·intro p q k1 k2 k3
      exact hS' p q k1 k2 (by omega) (by omega)
   ·exact⟨hR,by dsimp only;omega,Int.le_refl _,λp q k1 k2 k3 k4=>hS p q k1 k2 (by dsimp only at k4 ⊢;omega)⟩
   ·rintro r ⟨hR',hS'⟩
    exact⟨.inl (r,i+1),rfl,⟨hR',hS',by dsimp only;omega,by dsimp only;omega⟩,by dsimp only;omega⟩
  ·refine⟨.inr l,by simp only[hi,decide_false,cond_false],hR,?_⟩
   intro p q k1 k2 k3
   exact hS p q k1 k2 (by omega)
 ·exact⟨Rg.refl _ _ _,λp q k1 k2 k3=>by dsimp only at k3;omega,by dsimp only;omega,by dsimp only;omega⟩
 ·rintro r hr
  exact⟨r,rfl,hr⟩
end Go.Sx.Gs

namespace Go.Sx.Gs
variable {α : Type} [Srtd α]
theorem DL (l0:List α)(a b:Int)(ha:0≤a)(hab:a≤b)(hb:b≤l0.length)(hlen:l0.length≤1000000):
  ∃l',DG.reverseRange Srtd.cmp l0 a b=some l'∧Rg a b l0 l':=by
 unfold DG.reverseRange
 rw[w64 (show-9223372036854775808≤b-1 by omega) (by omega)]
 refine AK (λs=>Rg a b l0 s.1∧a≤s.2.1∧s.2.1≤b∧s.2.2<b∧a-1≤s.2.2) (λs=>(s.2.2-s.2.1).toNat) (λr=>Rg a b l0 r) ?_ ?_ ?_
 ·rintro⟨l,i,j⟩ ⟨hR,h1,h2,h3,h4⟩
  dsimp only at hR h1 h2 h3 h4 ⊢
  have hll:=hR.len
  by_cases hi:i<j
  ·have r1:idx l i=some (el l i):=AN (by omega) (by omega)
   have r2:idx l j=some (el l j):=AN (by omega) (by omega)
   have r3:∀x,idx (l.set i.toNat x) j=some (el (l.set i.toNat x) j):=λx=>Bb (by omega) (by omega)
   rw[w64 (show-9223372036854775808≤i+1 by omega) (by omega),w64 (show-9223372036854775808≤j-1 by omega) (by omega)]
   refine⟨.inl (sw l i j,i+1,j-1),?_,⟨hR.trans (Rg.swap ha (by omega) (by omega) (by omega) (by omega) (by omega)),by dsimp only;omega,by dsimp only;omega,by dsimp only;omega,by dsimp only;omega⟩,by dsimp only;omega⟩
   simp only[r1,r2,r3,hi,decide_true,cond_true,bs]
   rfl
  ·exact⟨.inr l,by simp only[hi,decide_false,cond_false],hR⟩
 ·exact⟨Rg.refl _ _ _,by dsimp only;omega,by dsimp only;omega,by dsimp only;omega,by dsimp only;omega⟩
 ·rintro r hr
  exact⟨r,rfl,hr⟩
theorem scanUp {β:Type}{k:Int→Option β}{Q:β→Prop}(l:List α)(hG:Good l)(a hi i0:Int)(ha:0≤a)(ha':a<l.length)(h0:0≤i0)(h1:i0≤hi+1)(h2:hi<l.length)(hlen:l.length≤1000000)
  (hk:∀i,i0≤i→i≤hi+1→(∀q,i0≤q→q<i→at' l q<at' l a)→(i≤hi→¬at' l i<at' l a)→∃y,k i=some y∧Q y):
  ∃y,(Ap (σ:=Int) (ρ:=(Int)) (fun(x:Int)=>(cond (decide (x≤hi)) ((idx l x).bind λe=>(idx l a).bind λe'=>(Srtd.cmp e e').bind λy=>some (decide (y<0))) (some false)).bind λb=>cond b (some (.inl (IntKind.i64.wrap (x+1)))) (some (.inr x))) i0).bind k=some y∧Q y:=by
 refine AK (λi=>i0≤i∧i≤hi+1∧∀q,i0≤q→q<i→at' l q<at' l a) (λi=>(hi+1-i).toNat) (λi=>i0≤i∧i≤hi+1∧(∀q,i0≤q→q<i→at' l q<at' l a)∧(i≤hi→¬at' l i<at' l a)) ?_ ?_ ?_
 ·rintro i ⟨g1,g2,g3⟩
  by_cases hi':i≤hi
  ·have r1:idx l i=some (el l i):=AN (by omega) (by omega)
   have r2:idx l a=some (el l a):=AN (by omega) (by omega)
   obtain⟨v,cv,hv⟩:=B8 hG (i:=i) (j:=a) (by omega) (by omega) (by omega) (by omega)
   by_cases hlt:at' l i<at' l a
   ·refine⟨.inl (i+1),?_,⟨by omega,by omega,λq q1 q2=> ?_⟩,by dsimp only;omega⟩
    ·simp only[r1,r2,hi',cv,hv,hlt,decide_true,cond_true,bs]
     rw[w64 (by omega) (by omega)]
    ·by_cases e:q=i
     ·rw[e];exact hlt
     ·exact g3 q q1 (by omega)
   ·exact⟨.inr i,by simp only[r1,r2,hi',cv,hv,hlt,decide_true,decide_false,cond_true,cond_false,bs],g1,g2,g3,λ_=>hlt⟩
  ·exact⟨.inr i,by simp only[hi',decide_false,cond_false,bs],g1,g2,g3,λh=>absurd h hi'⟩
 ·exact⟨Int.le_refl _,h1,λq q1 q2=>by omega⟩
 ·rintro i ⟨g1,g2,g3,g4⟩
  exact hk i g1 g2 g3 g4
theorem scanDown {β:Type}{k:Int→Option β}{Q:β→Prop}(l:List α)(hG:Good l)(a lo j0:Int)(ha:0≤a)(ha':a<l.length)(h0:0≤lo)(h1:lo≤j0+1)(h2:j0<l.length)(hlen:l.length≤1000000)
  (hk:∀j,lo≤j+1→j≤j0→(∀q,j<q→q≤j0→¬at' l q<at' l a)→(lo≤j→at' l j<at' l a)→∃y,k j=some y∧Q y):
  ∃y,(Ap (σ:=Int) (ρ:=(Int)) (fun(x:Int)=>(cond (decide (lo≤x)) ((idx l x).bind λe=>(idx l a).bind λe'=>(Srtd.cmp e e').bind λy=>some (!(decide (y<0)))) (some false)).bind λb=>cond b (some (.inl (IntKind.i64.wrap (x-1)))) (some (.inr x))) j0).bind k=some y∧Q y:=by
 refine AK (λj=>lo≤j+1∧j≤j0∧∀q,j<q→q≤j0→¬at' l q<at' l a) (λj=>(j+1-lo).toNat) (λj=>lo≤j+1∧j≤j0∧(∀q,j<q→q≤j0→¬at' l q<at' l a)∧(lo≤j→at' l j<at' l a)) ?_ ?_ ?_
 ·rintro j ⟨g1,g2,g3⟩
  by_cases hi':lo≤j
  ·have r1:idx l j=some (el l j):=AN (by omega) (by omega)
   have r2:idx l a=some (el l a):=AN (by omega) (by omega)
   obtain⟨v,cv,hv⟩:=B8 hG (i:=j) (j:=a) (by omega) (by omega) (by omega) (by omega)
   by_cases hlt:at' l j<at' l a
   ·exact⟨.inr j,by simp only[r1,r2,hi',cv,hv,hlt,decide_true,Bool.not_true,cond_true,cond_false,bs],g1,g2,g3,λ_=>hlt⟩
   ·refine⟨.inl (j-1),?_,⟨by omega,by omega,λq q1 q2=> ?_⟩,by dsimp only;omega⟩
    ·simp only[r1,r2,hi',cv,hv,hlt,decide_true,decide_false,Bool.not_false,cond_true,bs]
     rw[w64 (by omega) (by omega)]
    ·by_cases e:q=j
     ·rw[e];exact hlt
     ·exact g3 q (by omega) q2
  ·exact⟨.inr j,by simp only[hi',decide_false,cond_false,bs],g1,g2,g3,λh=>absurd h hi'⟩
 ·exact⟨h1,Int.le_refl _,λq q1 q2=>by omega⟩
 ·rintro j ⟨g1,g2,g3,g4⟩
  exact hk j g1 g2 g3 g4
structure Parted (l0 l':List α)(a b mid:Int):Prop where
 rg:Rg a b l0 l'
 lo:a≤mid
 hi:mid<b
 left:∀k,a≤k→k<mid→at' l' k≤at' l' mid
 right:∀k,mid<k→k<b→at' l' mid≤at' l' k
theorem partition_spec (l0:List α)(a b p:Int)(ha:0≤a)(hb:b≤l0.length)(hlen:l0.length≤1000000)(hG:Good l0)(hp:a≤p)(hp':p<b):
  ∃y,DG.partition Srtd.cmp l0 a b p=some y∧Parted l0 y.2.2 a b y.1:=by
 unfold DG.partition
 have r1:idx l0 p=some (el l0 p):=AN (by omega) (by omega)
 have r2:idx l0 a=some (el l0 a):=AN (by omega) (by omega)
 have r3:∀x,idx (l0.set a.toNat x) p=some (el (l0.set a.toNat x) p):=λx=>Bb (by omega) (by omega)
 simp only[r1,r2,r3,bs]
 rw[show (l0.set a.toNat (el l0 p)).set p.toNat (el l0 a)=sw l0 a p from rfl]
 have hR0:Rg a b l0 (sw l0 a p):=Rg.swap ha hb (by omega) (by omega) hp hp'
 generalize sw l0 a p=m0 at hR0 ⊢
 have hm0:=hR0.len
 rw[w64 (show-9223372036854775808≤b-1 by omega) (by omega),w64 (show-9223372036854775808≤a+1 by omega) (by omega)]
 refine scanUp m0 (hR0.good hG) a (b-1) (a+1) ha (by omega) (by omega) (by omega) (by omega) (by omega) (λi i1 i2 i3 i4=> ?_)
 refine scanDown m0 (hR0.good hG) a i (b-1) ha (by omega) (by omega) (by omega) (by omega) (by omega) (λj j1 j2 j3 j4=> ?_)
 have q1:idx m0 a=some (el m0 a):=AN (by omega) (by omega)
 have q2:idx m0 j=some (el m0 j):=AN (by omega) (by omega)
 by_cases hij:j<i
 ·have q3:∀x,idx (m0.set j.toNat x) a=some (el (m0.set j.toNat x) a):=λx=>Bb (by omega) (by omega)
  refine⟨(j,true,sw m0 j a),?_,⟨hR0.trans (Rg.swap ha (by omega) (by omega) (by omega) (by omega) (by omega)),by dsimp only;omega,by dsimp only;omega,λk k1 k2=> ?_,λk k1 k2=> ?_⟩⟩
  ·simp only[q1,q2,q3,hij,decide_true,cond_true,bs]
   rfl
  ·dsimp only at k1 k2 ⊢
   rw[A5 (by omega) (by omega) (by omega) (by omega) (by omega),A5 (by omega) (by omega) (by omega) (by omega) (by omega)]
   rw[if_neg (show¬j=a by omega),if_pos rfl]
   by_cases e:k=a
   ·rw[if_pos e]
    have:=i3 j (by omega) (by omega);omega
   ·rw[if_neg e,if_neg (by omega)]
    have:=i3 k (by omega) (by omega);omega
  ·dsimp only at k1 k2 ⊢
   rw[A5 (by omega) (by omega) (by omega) (by omega) (by omega),A5 (by omega) (by omega) (by omega) (by omega) (by omega)]
   rw[if_neg (show¬k=a by omega),if_neg (show¬k=j by omega)]
   have hk:=j3 k (by omega) (by omega)
   by_cases e:j=a
   ·rw[if_pos e];subst e;omega
   ·rw[if_neg e,if_pos rfl];omega
 ·have q4:idx m0 i=some (el m0 i):=AN (by omega) (by omega)
  have q5:∀x,idx (m0.set i.toNat x) j=some (el (m0.set i.toNat x) j):=λx=>Bb (by omega) (by omega)
  simp only[q1,q2,q4,q5,hij,decide_false,cond_false,bs]
  rw[show (m0.set i.toNat (el m0 j)).set j.toNat (el m0 i)=sw m0 i j from rfl]
  have hia:=i4 (by omega)
  have hja:=j4 (by omega)
  have hne:i<j:=by
   rcases Int.lt_or_eq_of_le (show i≤j by omega) with h|h
   ·exact h
   ·subst h;exact absurd hja hia
  have hR1:Rg a b l0 (sw m0 i j):=hR0.trans (Rg.swap ha (by omega) (by omega) (by omega) (by omega) (by omega))
  have ea:at' (sw m0 i j) a=at' m0 a:=by rw[A5 (by omega) (by omega) (by omega) (by omega) (by omega),if_neg (by omega),if_neg (by omega)]
  have hlo:∀q,a+1≤q→q<i+1→at' (sw m0 i j) q<at' (sw m0 i j) a:=λq h1 h2=>by
   rw[ea,A5 (by omega) (by omega) (by omega) (by omega) (by omega),if_neg (by omega)]
   by_cases e:q=i
   ·rw[if_pos e];exact hja
   ·rw[if_neg e];exact i3 q h1 (by omega)
  have hhi:∀q,j-1<q→q<b→¬at' (sw m0 i j) q<at' (sw m0 i j) a:=λq h1 h2=>by
   rw[ea,A5 (by omega) (by omega) (by omega) (by omega) (by omega)]
   by_cases e:q=j
   ·rw[if_pos e];exact hia
   ·rw[if_neg e,if_neg (by omega)];exact j3 q (by omega) (by omega)
  rw[w64 (show-9223372036854775808≤i+1 by omega) (by omega),w64 (show-9223372036854775808≤j-1 by omega) (by omega)]
  generalize sw m0 i j=m1 at hR1 hlo hhi ⊢
  refine AK (λs=>Rg a b l0 s.1∧a+1≤s.2.1∧s.2.1≤s.2.2+1∧s.2.2<b∧(∀q,a+1≤q→q<s.2.1→at' s.1 q<at' s.1 a)∧(∀q,s.2.2<q→q<b→¬at' s.1 q<at' s.1 a)) (λs=>(s.2.2+1-s.2.1).toNat)
   (λs=>Rg a b l0 s.1∧a≤s.2∧s.2<b∧(∀q,a+1≤q→q≤s.2→at' s.1 q<at' s.1 a)∧(∀q,s.2<q→q<b→¬at' s.1 q<at' s.1 a)) ?_ ?_ ?_
  ·rintro⟨m,u,v⟩ ⟨hR,g1,g2,g3,g4,g5⟩
   dsimp only at hR g1 g2 g3 g4 g5 ⊢
   have hml:=hR.len
   refine scanUp m (hR.good hG) a v u ha (by omega) (by omega) (by omega) (by omega) (by omega) (λi i1 i2 i3 i4=> ?_)
   refine scanDown m (hR.good hG) a i v ha (by omega) (by omega) (by omega) (by omega) (by omega) (λj j1 j2 j3 j4=> ?_)
   have f1:∀q,a+1≤q→q<i→at' m q<at' m a:=λq h1 h2=>by
    by_cases h:q<u
    ·exact g4 q h1 h
    ·exact i3 q (by omega) h2
   have f2:∀q,j<q→q<b→¬at' m q<at' m a:=λq h1 h2=>by
    by_cases h:q≤v
    ·exact j3 q h1 h
    ·exact g5 q (by omega) h2
   by_cases hij:j<i
   ·exact⟨.inr (m,j),by simp only[hij,decide_true,cond_true],hR,by dsimp only;omega,by dsimp only;omega,λq h1 h2=>f1 q h1 (by dsimp only at h2;omega),f2⟩
   ·have t1:idx m i=some (el m i):=AN (by omega) (by omega)
    have t2:idx m j=some (el m j):=AN (by omega) (by omega)
    have t3:∀x,idx (m.set i.toNat x) j=some (el (m.set i.toNat x) j):=λx=>Bb (by omega) (by omega)
    have hia:=i4 (by omega)
    have hja:=j4 (by omega)
    have hne:i<j:=by
     rcases Int.lt_or_eq_of_le (show i≤j by omega) with h|h
     ·exact h
     ·subst h;exact absurd hja hia
    have ea:at' (sw m i j) a=at' m a:=by rw[A5 (by omega) (by omega) (by omega) (by omega) (by omega),if_neg (by omega),if_neg (by omega)]
    rw[w64 (show-9223372036854775808≤i+1 by omega) (by omega),w64 (show-9223372036854775808≤j-1 by omega) (by omega)]
    refine⟨.inl (sw m i j,i+1,j-1),?_,⟨hR.trans (Rg.swap ha (by omega) (by omega) (by omega) (by omega) (by omega)),by dsimp only;omega,by dsimp only;omega,by dsimp only;omega,λq h1 h2=> ?_,λq h1 h2=> ?_⟩,by dsimp only;omega⟩
    ·simp only[t1,t2,t3,hij,decide_false,cond_false,bs]
     rfl
    ·dsimp only at h2 ⊢
     rw[ea,A5 (by omega) (by omega) (by omega) (by omega) (by omega),if_neg (by omega)]
     by_cases e:q=i
     ·rw[if_pos e];exact hja
     ·rw[if_neg e];exact f1 q h1 (by omega)
    ·dsimp only at h1 ⊢
     rw[ea,A5 (by omega) (by omega) (by omega) (by omega) (by omega)]
     by_cases e:q=j
     ·rw[if_pos e];exact hia
     ·rw[if_neg e,if_neg (by omega)];exact f2 q (by omega) h2
  ·exact⟨hR1,by dsimp only;omega,by dsimp only;omega,by dsimp only;omega,hlo,hhi⟩
  ·rintro⟨m,v⟩ ⟨hR,g1,g2,g3,g4⟩
   dsimp only at hR g1 g2 g3 g4 ⊢
   have hml:=hR.len
   have t1:idx m a=some (el m a):=AN (by omega) (by omega)
   have t2:idx m v=some (el m v):=AN (by omega) (by omega)
   have t3:∀x,idx (m.set v.toNat x) a=some (el (m.set v.toNat x) a):=λx=>Bb (by omega) (by omega)
   refine⟨(v,false,sw m v a),?_,⟨hR.trans (Rg.swap ha (by omega) (by omega) (by omega) (by omega) (by omega)),g1,g2,λk k1 k2=> ?_,λk k1 k2=> ?_⟩⟩
   ·simp only[t1,t2,t3,bs]
    rfl
   ·dsimp only at k1 k2 ⊢
    rw[A5 (by omega) (by omega) (by omega) (by omega) (by omega),A5 (by omega) (by omega) (by omega) (by omega) (by omega)]
    rw[if_neg (show¬v=a by omega),if_pos rfl]
    by_cases e:k=a
    ·rw[if_pos e]
     have:=g3 v (by omega) (by omega);omega
    ·rw[if_neg e,if_neg (by omega)]
     have:=g3 k (by omega) (by omega);omega
   ·dsimp only at k1 k2 ⊢
    rw[A5 (by omega) (by omega) (by omega) (by omega) (by omega),A5 (by omega) (by omega) (by omega) (by omega) (by omega)]
    rw[if_neg (show¬k=a by omega),if_neg (show¬k=v by omega)]
    have hk:=g4 k (by omega) (by omega)
    by_cases e:v=a
    ·rw[if_pos e];subst e;omega
    ·rw[if_neg e,if_pos rfl];omega
end Go.Sx.Gs

namespace Go.Sx.Gs
variable {α : Type} [Srtd α]
theorem scanUp2 {β:Type}{k:Int→Option β}{Q:β→Prop}(l:List α)(hG:Good l)(a hi i0:Int)(ha:0≤a)(ha':a<l.length)(h0:0≤i0)(h1:i0≤hi+1)(h2:hi<l.length)(hlen:l.length≤1000000)
  (hk:∀i,i0≤i→i≤hi+1→(∀q,i0≤q→q<i→¬at' l a<at' l q)→(i≤hi→at' l a<at' l i)→∃y,k i=some y∧Q y):
  ∃y,(Ap (σ:=Int) (ρ:=(Int)) (fun(x:Int)=>(cond (decide (x≤hi)) ((idx l a).bind λe=>(idx l x).bind λe'=>(Srtd.cmp e e').bind λy=>some (!(decide (y<0)))) (some false)).bind λb=>cond b (some (.inl (IntKind.i64.wrap (x+1)))) (some (.inr x))) i0).bind k=some y∧Q y:=by
 refine AK (λi=>i0≤i∧i≤hi+1∧∀q,i0≤q→q<i→¬at' l a<at' l q) (λi=>(hi+1-i).toNat) (λi=>i0≤i∧i≤hi+1∧(∀q,i0≤q→q<i→¬at' l a<at' l q)∧(i≤hi→at' l a<at' l i)) ?_ ?_ ?_
 ·rintro i ⟨g1,g2,g3⟩
  by_cases hi':i≤hi
  ·have r1:idx l i=some (el l i):=AN (by omega) (by omega)
   have r2:idx l a=some (el l a):=AN (by omega) (by omega)
   obtain⟨v,cv,hv⟩:=B8 hG (i:=a) (j:=i) (by omega) (by omega) (by omega) (by omega)
   by_cases hlt:at' l a<at' l i
   ·exact⟨.inr i,by simp only[r1,r2,hi',cv,hv,hlt,decide_true,Bool.not_true,cond_true,cond_false,bs],g1,g2,g3,λ_=>hlt⟩
   ·refine⟨.inl (i+1),?_,⟨by omega,by omega,λq q1 q2=> ?_⟩,by dsimp only;omega⟩
    ·simp only[r1,r2,hi',cv,hv,hlt,decide_true,decide_false,Bool.not_false,cond_true,bs]
     rw[w64 (by omega) (by omega)]
    ·by_cases e:q=i
     ·rw[e];exact hlt
     ·exact g3 q q1 (by omega)
  ·exact⟨.inr i,by simp only[hi',decide_false,cond_false,bs],g1,g2,g3,λh=>absurd h hi'⟩
 ·exact⟨Int.le_refl _,h1,λq q1 q2=>by omega⟩
 ·rintro i ⟨g1,g2,g3,g4⟩
  exact hk i g1 g2 g3 g4
theorem scanDown2 {β:Type}{k:Int→Option β}{Q:β→Prop}(l:List α)(hG:Good l)(a lo j0:Int)(ha:0≤a)(ha':a<l.length)(h0:0≤lo)(h1:lo≤j0+1)(h2:j0<l.length)(hlen:l.length≤1000000)
  (hk:∀j,lo≤j+1→j≤j0→(∀q,j<q→q≤j0→at' l a<at' l q)→(lo≤j→¬at' l a<at' l j)→∃y,k j=some y∧Q y):
  ∃y,(Ap (σ:=Int) (ρ:=(Int)) (fun(x:Int)=>(cond (decide (lo≤x)) ((idx l a).bind λe=>(idx l x).bind λe'=>(Srtd.cmp e e').bind λy=>some (decide (y<0))) (some false)).bind λb=>cond b (some (.inl (IntKind.i64.wrap (x-1)))) (some (.inr x))) j0).bind k=some y∧Q y:=by
 refine AK (λj=>lo≤j+1∧j≤j0∧∀q,j<q→q≤j0→at' l a<at' l q) (λj=>(j+1-lo).toNat) (λj=>lo≤j+1∧j≤j0∧(∀q,j<q→q≤j0→at' l a<at' l q)∧(lo≤j→¬at' l a<at' l j)) ?_ ?_ ?_
 ·rintro j ⟨g1,g2,g3⟩
  by_cases hi':lo≤j
  ·have r1:idx l j=some (el l j):=AN (by omega) (by omega)
   have r2:idx l a=some (el l a):=AN (by omega) (by omega)
   obtain⟨v,cv,hv⟩:=B8 hG (i:=a) (j:=j) (by omega) (by omega) (by omega) (by omega)
   by_cases hlt:at' l a<at' l j
   ·refine⟨.inl (j-1),?_,⟨by omega,by omega,λq q1 q2=> ?_⟩,by dsimp only;omega⟩
    ·simp only[r1,r2,hi',cv,hv,hlt,decide_true,cond_true,bs]
     rw[w64 (by omega) (by omega)]
    ·by_cases e:q=j
     ·rw[e];exact hlt
     ·exact g3 q (by omega) q2
   ·exact⟨.inr j,by simp only[r1,r2,hi',cv,hv,hlt,decide_true,decide_false,cond_true,cond_false,bs],g1,g2,g3,λ_=>hlt⟩
  ·exact⟨.inr j,by simp only[hi',decide_false,cond_false,bs],g1,g2,g3,λh=>absurd h hi'⟩
 ·exact⟨h1,Int.le_refl _,λq q1 q2=>by omega⟩
 ·rintro j ⟨g1,g2,g3,g4⟩
  exact hk j g1 g2 g3 g4
theorem Dv (l0:List α)(a b p:Int)(ha:0≤a)(hb:b≤l0.length)(hlen:l0.length≤1000000)(hG:Good l0)(hp:a≤p)(hp':p<b):
  ∃y,DG.partitionEqual Srtd.cmp l0 a b p=some y∧Rg a b l0 y.2∧a<y.1∧y.1≤b∧(∀k,a≤k→k<y.1→at' y.2 k≤at' l0 p)∧(∀k,y.1≤k→k<b→at' l0 p<at' y.2 k):=by
 unfold DG.partitionEqual
 have r1:idx l0 p=some (el l0 p):=AN (by omega) (by omega)
 have r2:idx l0 a=some (el l0 a):=AN (by omega) (by omega)
 have r3:∀x,idx (l0.set a.toNat x) p=some (el (l0.set a.toNat x) p):=λx=>Bb (by omega) (by omega)
 simp only[r1,r2,r3,bs]
 rw[show (l0.set a.toNat (el l0 p)).set p.toNat (el l0 a)=sw l0 a p from rfl]
 have hR0:Rg a b l0 (sw l0 a p):=Rg.swap ha hb (by omega) (by omega) hp hp'
 have ep:at' (sw l0 a p) a=at' l0 p:=by
  rw[A5 (by omega) (by omega) (by omega) (by omega) (by omega)]
  by_cases e:a=p
  ·rw[if_pos e,e]
  ·rw[if_neg e,if_pos rfl]
 generalize sw l0 a p=m0 at hR0 ep ⊢
 rw[w64 (show-9223372036854775808≤b-1 by omega) (by omega),w64 (show-9223372036854775808≤a+1 by omega) (by omega)]
 refine AK (λs=>Rg a b l0 s.1∧a+1≤s.2.1∧s.2.1≤s.2.2+1∧s.2.2<b∧at' s.1 a=at' l0 p∧(∀q,a+1≤q→q<s.2.1→¬at' s.1 a<at' s.1 q)∧(∀q,s.2.2<q→q<b→at' s.1 a<at' s.1 q)) (λs=>(s.2.2+1-s.2.1).toNat)
  (λs=>Rg a b l0 s.1∧a+1≤s.2∧s.2≤b∧at' s.1 a=at' l0 p∧(∀q,a+1≤q→q<s.2→¬at' s.1 a<at' s.1 q)∧(∀q,s.2≤q→q<b→at' s.1 a<at' s.1 q)) ?_ ?_ ?_
 ·rintro⟨m,u,v⟩ ⟨hR,g1,g2,g3,g6,g4,g5⟩
  dsimp only at hR g1 g2 g3 g4 g5 g6 ⊢
  have hml:=hR.len
  refine scanUp2 m (hR.good hG) a v u ha (by omega) (by omega) (by omega) (by omega) (by omega) (λi i1 i2 i3 i4=> ?_)
  refine scanDown2 m (hR.good hG) a i v ha (by omega) (by omega) (by omega) (by omega) (by omega) (λj j1 j2 j3 j4=> ?_)
  have f1:∀q,a+1≤q→q<i→¬at' m a<at' m q:=λq h1 h2=>by
   by_cases h:q<u
   ·exact g4 q h1 h
   ·exact i3 q (by omega) h2
  have f2:∀q,j<q→q<b→at' m a<at' m q:=λq h1 h2=>by
   by_cases h:q≤v
   ·exact j3 q h1 h
   ·exact g5 q (by omega) h2
  by_cases hij:j<i
  ·exact⟨.inr (m,i),by simp only[hij,decide_true,cond_true],hR,by dsimp only;omega,by dsimp only;omega,g6,f1,λq h1 h2=>f2 q (by dsimp only at h1;omega) h2⟩
  ·have t1:idx m i=some (el m i):=AN (by omega) (by omega)
   have t2:idx m j=some (el m j):=AN (by omega) (by omega)
   have t3:∀x,idx (m.set i.toNat x) j=some (el (m.set i.toNat x) j):=λx=>Bb (by omega) (by omega)
   have hia:=i4 (by omega)
   have hja:=j4 (by omega)
   have hne:i<j:=by
    rcases Int.lt_or_eq_of_le (show i≤j by omega) with h|h
    ·exact h
    ·subst h;exact absurd hia hja
   have ea:at' (sw m i j) a=at' m a:=by rw[A5 (by omega) (by omega) (by omega) (by omega) (by omega),if_neg (by omega),if_neg (by omega)]
   rw[w64 (show-9223372036854775808≤i+1 by omega) (by omega),w64 (show-9223372036854775808≤j-1 by omega) (by omega)]
   refine⟨.inl (sw m i j,i+1,j-1),?_,⟨hR.trans (Rg.swap ha (by omega) (by omega) (by omega) (by omega) (by omega)),by dsimp only;omega,by dsimp only;omega,by dsimp only;omega,by dsimp only;rw[ea];exact g6,λq h1 h2=> ?_,λq h1 h2=> ?_⟩,by dsimp only;omega⟩
   ·simp only[t1,t2,t3,hij,decide_false,cond_false,bs]
    rfl
   ·dsimp only at h2 ⊢
    rw[ea,A5 (by omega) (by omega) (by omega) (by omega) (by omega),if_neg (by omega)]
    by_cases e:q=i
    ·rw[if_pos e];exact hja
    ·rw[if_neg e];exact f1 q h1 (by omega)
   ·dsimp only at h1 ⊢
    rw[ea,A5 (by omega) (by omega) (by omega) (by omega) (by omega)]
    by_cases e:q=j
    ·rw[if_pos e];exact hia
    ·rw[if_neg e,if_neg (by omega)];exact f2 q (by omega) h2
 ·exact⟨hR0,by dsimp only;omega,by dsimp only;omega,by dsimp only;omega,ep,λq h1 h2=>by dsimp only at h2;omega,λq h1 h2=>by dsimp only at h1;omega⟩
 ·rintro⟨m,v⟩ ⟨hR,g1,g2,g3,g4,g5⟩
  refine⟨(v,m),rfl,hR,by dsimp only at*;omega,g2,λk k1 k2=> ?_,λk k1 k2=> ?_⟩
  ·dsimp only at*
   by_cases e:k=a
   ·rw[e,g3];exact Int.le_refl _
   ·have:=g4 k (by omega) k2;omega
  ·dsimp only at*
   have:=g5 k k1 k2;omega
theorem Db (l:List α)(hG:Good l)(a b s:Int)(ha:0≤a)(ha':a<l.length)(hb:0≤b)(hb':b<l.length):
  ∃y,DG.order2 Srtd.cmp l a b s=some y∧y.2.2.1=l∧((y.1=a∧y.2.1=b)∨(y.1=b∧y.2.1=a)):=by
 have r1:idx l a=some (el l a):=AN ha ha'
 have r2:idx l b=some (el l b):=AN hb hb'
 unfold DG.order2
 obtain⟨v,cv,hv⟩:=B8 hG (i:=b) (j:=a) hb hb' ha ha'
 simp only[r1,r2,cv,hv,bs]
 by_cases h:at' l b<at' l a
 ·simp only[h,decide_true,cond_true];exact⟨_,rfl,rfl,.inr ⟨rfl,rfl⟩⟩
 ·simp only[h,decide_false,cond_false];exact⟨_,rfl,rfl,.inl ⟨rfl,rfl⟩⟩
theorem DM (l:List α)(hG:Good l)(a b c s:Int)(ha:0≤a)(ha':a<l.length)(hb:0≤b)(hb':b<l.length)(hc:0≤c)(hc':c<l.length):
  ∃y,DG.median Srtd.cmp l a b c s=some y∧y.2.1=l∧(y.1=a∨y.1=b∨y.1=c):=by
 unfold DG.median
 obtain⟨y1,h1,e1,c1⟩:=Db l hG a b s ha ha' hb hb'
 rw[h1,bs,e1]
 have b1:0≤y1.2.1∧y1.2.1<l.length∧0≤y1.1∧y1.1<l.length:=by rcases c1 with⟨c,d⟩|⟨c,d⟩<;>rw[c,d]<;>exact⟨by assumption,by assumption,by assumption,by assumption⟩
 obtain⟨y2,h2,e2,c2⟩:=Db l hG y1.2.1 c y1.2.2.2 b1.1 b1.2.1 hc hc'
 rw[h2,bs,e2]
 have b2:0≤y2.1∧y2.1<l.length:=by rcases c2 with⟨c,d⟩|⟨c,d⟩<;>rw[c]<;>exact⟨by omega,by omega⟩
 obtain⟨y3,h3,e3,c3⟩:=Db l hG y1.1 y2.1 y2.2.2.2 b1.2.2.1 b1.2.2.2 b2.1 b2.2
 rw[h3,bs]
 refine⟨_,rfl,e3,?_⟩
 dsimp only
 omega
theorem CK (l:List α)(hG:Good l)(p s:Int)(h0:1≤p)(h1:p+1<l.length)(hlen:l.length≤1000000):
  ∃y,DG.medianAdjacent Srtd.cmp l p s=some y∧y.2.1=l∧p-1≤y.1∧y.1≤p+1:=by
 unfold DG.medianAdjacent
 rw[w64 (show-9223372036854775808≤p-1 by omega) (by omega),w64 (show-9223372036854775808≤p+1 by omega) (by omega)]
 obtain⟨y,h,e,c⟩:=DM l hG (p-1) p (p+1) s (by omega) (by omega) (by omega) (by omega) (by omega) (by omega)
 rw[h,bs]
 exact⟨_,rfl,e,by dsimp only;omega,by dsimp only;omega⟩
theorem DV (l:List α)(hG:Good l)(a b:Int)(ha:0≤a)(hb:b≤l.length)(h8:8≤b-a)(hlen:l.length≤1000000):
  ∃y,DG.choosePivot Srtd.cmp l a b=some y∧y.2.2=l∧a≤y.1∧y.1<b:=by
 unfold DG.choosePivot
 rw[w64 (show-9223372036854775808≤b-a by omega) (by omega)]
 have e4:(b-a).tdiv 4=(b-a)/4:=Int.tdiv_eq_ediv_of_nonneg (by omega)
 rw[e4,w64 (show-9223372036854775808≤(b-a)/4 by omega) (by omega)]
 rw[w64 (show-9223372036854775808≤(b-a)/4*1 by omega) (by omega),w64 (show-9223372036854775808≤(b-a)/4*2 by omega) (by omega),w64 (show-9223372036854775808≤(b-a)/4*3 by omega) (by omega)]
 rw[w64 (show-9223372036854775808≤a+(b-a)/4*1 by omega) (by omega),w64 (show-9223372036854775808≤a+(b-a)/4*2 by omega) (by omega),w64 (show-9223372036854775808≤a+(b-a)/4*3 by omega) (by omega)]
 simp only[h8,decide_true,cond_true]
 refine Ce (λq:List α×Int×Int×Int×Int=>q.1=l∧(a≤q.2.1∧q.2.1<b)∧(a≤q.2.2.1∧q.2.2.1<b)∧(a≤q.2.2.2.1∧q.2.2.2.1<b)) ?_ ?_
 ·by_cases h50:50≤b-a
  ·simp only[h50,decide_true,cond_true]
   obtain⟨y1,h1,e1,c1⟩:=CK l hG (a+(b-a)/4*1) 0 (by omega) (by omega) hlen
   rw[h1,bs,e1]
   obtain⟨y2,h2,e2,c2⟩:=CK l hG (a+(b-a)/4*2) y1.2.2 (by omega) (by omega) hlen
   rw[h2,bs,e2]
   obtain⟨y3,h3,e3,c3⟩:=CK l hG (a+(b-a)/4*3) y2.2.2 (by omega) (by omega) hlen
   rw[h3,bs]
   exact⟨_,rfl,e3,⟨by dsimp only;omega,by dsimp only;omega⟩,⟨by dsimp only;omega,by dsimp only;omega⟩,⟨by dsimp only;omega,by dsimp only;omega⟩⟩
  ·simp only[h50,decide_false,cond_false]
   exact⟨_,rfl,rfl,⟨by dsimp only;omega,by dsimp only;omega⟩,⟨by dsimp only;omega,by dsimp only;omega⟩,⟨by dsimp only;omega,by dsimp only;omega⟩⟩
 ·rintro⟨q,i,j,k,sw⟩ ⟨rfl,g1,g2,g3⟩
  dsimp only at g1 g2 g3 hb hlen ⊢
  obtain⟨y,h1,e1,c1⟩:=DM q hG i j k sw (by omega) (by omega) (by omega) (by omega) (by omega) (by omega)
  rw[h1,bs,e1]
  have hy:a≤y.1∧y.1<b:=by omega
  cases (y.2.2==0)
  ·cases (y.2.2==12)
   ·exact⟨_,rfl,rfl,hy⟩
   ·exact⟨_,rfl,rfl,hy⟩
  ·exact⟨_,rfl,rfl,hy⟩
end Go.Sx.Gs

namespace Go.Sx
def at' (l:LI)(i:Int):Int:=l.getD i.toNat 0
theorem at_set {l:LI}{i k x:Int}(h0:0≤i)(h1:i<l.length)(hk:0≤k):at' (l.set i.toNat x) k=if k=i then x else at' l k:=by
 unfold at'
 by_cases h:k=i
 ·subst h
  have:k.toNat<l.length:=by omega
  simp[this]
 ·rw[if_neg h]
  have:i.toNat≠k.toNat:=by omega
  simp[List.getD_eq_getElem?_getD,List.getElem?_set_ne this]
def sw (l:LI)(i j:Int):LI:=(l.set i.toNat (at' l j)).set j.toNat (at' l i)
theorem sw_len (l:LI)(i j:Int):(sw l i j).length=l.length:=by simp[sw]
theorem A5 {l:LI}{i j k:Int}(hi:0≤i)(hi':i<l.length)(hj:0≤j)(hj':j<l.length)(hk:0≤k):
  at' (sw l i j) k=if k=j then at' l i else if k=i then at' l j else at' l k:=by
 unfold sw
 rw[at_set hj (by simpa using hj') hk]
 split
 ·rfl
 ·rw[at_set hi hi' hk]
theorem Bh (z:Int):∀(l:LI) (j:Nat),j<l.length→List.Perm (l.set j z) (z::l.eraseIdx j)
 |[],j,h=>by simp at h
 |x::l,0,_=>by simp
 |x::l,j+1,h=>by
  simp only[List.set_cons_succ,List.eraseIdx_cons_succ]
  exact((Bh z l j (by simpa using h)).cons x).trans (List.Perm.swap _ _ _)
theorem CG (l:LI)(j:Nat)(h:j<l.length):List.Perm l (l[j]::l.eraseIdx j):=by
 have:=Bh l[j] l j h
 rwa [List.set_getElem_self] at this
theorem C2 :∀(l:LI) (i j:Nat) (x y:Int),l[i]? =some x→l[j]? =some y→List.Perm ((l.set i y).set j x) l
 |[],i,j,x,y,h,_=>by simp at h
 |z::l,0,0,x,y,h,h'=>by simp at h h';subst h;simp
 |z::l,0,j+1,x,y,h,h'=>by
  simp at h h'
  subst h
  simp only[List.set_cons_zero,List.set_cons_succ]
  obtain⟨hj,rfl⟩:=List.getElem?_eq_some_iff.1 h'
  have h1:=Bh z l j hj
  have h2:=CG l j hj
  exact((h1.cons _).trans (List.Perm.swap _ _ _)).trans (h2.symm.cons z)
 |z::l,i+1,0,x,y,h,h'=>by
  simp at h h'
  subst h'
  simp only[List.set_cons_zero,List.set_cons_succ]
  obtain⟨hj,rfl⟩:=List.getElem?_eq_some_iff.1 h
  have h1:=Bh z l i hj
  have h2:=CG l i hj
  exact((h1.cons _).trans (List.Perm.swap _ _ _)).trans (h2.symm.cons z)
 |z::l,i+1,j+1,x,y,h,h'=>by
  simp at h h'
  simp only[List.set_cons_succ]
  exact(C2 l i j x y h h').cons z
theorem sw_perm {l:LI}{i j:Int}(hi:0≤i)(hi':i<l.length)(hj:0≤j)(hj':j<l.length):List.Perm (sw l i j) l:=by
 have h1:i.toNat<l.length:=by omega
 have h2:j.toNat<l.length:=by omega
 exact C2 l i.toNat j.toNat _ _ (by simp[at',h1]) (by simp[at',h2])
structure Rg (a b:Int)(l l':LI):Prop where
 len:l'.length=l.length
 perm:List.Perm l' l
 out:∀k,0≤k→(k<a∨b≤k)→at' l' k=at' l k
 all:∀Q:Int→Prop,(∀k,a≤k→k<b→Q (at' l k))→∀k,a≤k→k<b→Q (at' l' k)
theorem Rg.refl (a b:Int)(l:LI):Rg a b l l:=⟨rfl,List.Perm.refl _,λ_ _ _=>rfl,λ_ h=>h⟩
theorem Rg.trans {a b:Int}{l l' l'':LI}(h:Rg a b l l')(h':Rg a b l' l''):Rg a b l l'':=
 ⟨h'.len.trans h.len,h'.perm.trans h.perm,λk h0 hk=>(h'.out k h0 hk).trans (h.out k h0 hk),λQ hQ=>h'.all Q (h.all Q hQ)⟩
theorem Rg.swap {a b i j:Int}{l:LI}(ha:0≤a)(hb:b≤l.length)(hi:a≤i)(hi':i<b)(hj:a≤j)(hj':j<b):Rg a b l (sw l i j):=by
 refine⟨sw_len _ _ _,sw_perm (by omega) (by omega) (by omega) (by omega),λk h0 hk=> ?_,λQ hQ k h1 h2=> ?_⟩
 ·rw[A5 (by omega) (by omega) (by omega) (by omega) h0,if_neg (by omega),if_neg (by omega)]
 ·rw[A5 (by omega) (by omega) (by omega) (by omega) (by omega)]
  split
  ·exact hQ i hi hi'
  ·split
   ·exact hQ j hj hj'
   ·exact hQ k h1 h2
structure Parted (l0 l':LI)(a b mid:Int):Prop where
 rg:Rg a b l0 l'
 lo:a≤mid
 hi:mid<b
 left:∀k,a≤k→k<mid→at' l' k≤at' l' mid
 right:∀k,mid<k→k<b→at' l' mid≤at' l' k
theorem iand_small (y m:Int)(h0:0≤m)(h1:m<4294967296):0≤iand .u64 y m∧iand .u64 y m≤m:=by
 unfold iand
 have e:(BitVec.ofInt IntKind.u64.bits y&&&BitVec.ofInt IntKind.u64.bits m).toNat≤(BitVec.ofInt IntKind.u64.bits m).toNat:=by
  rw[BitVec.toNat_and];exact Nat.and_le_right
 have e2:(BitVec.ofInt IntKind.u64.bits m).toNat=m.toNat:=by
  rw[BitVec.toNat_ofInt]
  show (m%(2^64:Nat)).toNat=m.toNat
  congr 1
  omega
 rw[e2] at e
 generalize (BitVec.ofInt IntKind.u64.bits y&&&BitVec.ofInt IntKind.u64.bits m).toNat=t at e
 have:IntKind.u64.wrap (t:Int)=t:=by
  simp only[IntKind.wrap,IntKind.bits,IntKind.signed]
  simp
  omega
 rw[this]
 omega
theorem wu64 {x:Int}(h1:0≤x)(h2:x<18446744073709551616):IntKind.u64.wrap x=x:=by
 simp only[IntKind.wrap,IntKind.bits,IntKind.signed]
 simp
 omega
end Go.Sx

namespace Go.Sx.Gs
variable {α : Type} [Srtd α]
theorem Di (l0:List α)(hG:Good l0)(a b:Int)(ha:0≤a)(hab:a<b)(hb:b≤l0.length)(hlen:l0.length≤1000000)
  (hpre:0<a→∀k,a≤k→k<b→at' l0 (a-1)≤at' l0 k):
  ∃y,DG.partialInsertionSort Srtd.cmp l0 a b=some y∧Rg a b l0 y.2∧(y.1=true→Srt y.2 a b):=by
 unfold DG.partialInsertionSort
 rw[w64 (show-9223372036854775808≤a+1 by omega) (by omega),w64 (show-9223372036854775808≤b-a by omega) (by omega)]
 refine AK (λs=>Rg a b l0 s.1∧a+1≤s.2.1∧s.2.1≤b∧Srt s.1 a s.2.1∧0≤s.2.2∧s.2.2≤5) (λs=>(5-s.2.2).toNat)
  (λr=>match r with| .inl l=>Rg a b l0 l| .inr y=>Rg a b l0 y.2∧(y.1=true→Srt y.2 a b)) ?_ ⟨Rg.refl _ _ _,by dsimp only;omega,by dsimp only;omega,λp q k1 k2 k3=>by dsimp only at k3;omega,by dsimp only;omega,by dsimp only;omega⟩ ?_
 ·rintro⟨l,i,j⟩ ⟨hR,g1,g2,g3,g4,g5⟩
  dsimp only at hR g1 g2 g3 g4 g5 ⊢
  have hll:=hR.len
  by_cases hj:j<5
  ·simp only[hj,decide_true,cond_true]
   refine AK (λi=>a+1≤i∧i≤b∧Srt l a i) (λi=>(b-i).toNat) (λi=>a+1≤i∧i≤b∧Srt l a i∧(i<b→at' l i<at' l (i-1))) ?_ ⟨g1,g2,g3⟩ ?_
   ·rintro i ⟨g1,g2,g3⟩
    by_cases hi:i<b
    ·have r1:idx l i=some (el l i):=AN (by omega) (by omega)
     have r2:idx l (i-1)=some (el l (i-1)):=AN (by omega) (by omega)
     have e1:IntKind.i64.wrap (i-1)=i-1:=w64 (by omega) (by omega)
     obtain⟨v,cv,hv⟩:=B8 (hR.good hG) (i:=i) (j:=i-1) (by omega) (by omega) (by omega) (by omega)
     by_cases hlt:at' l i<at' l (i-1)
     ·exact⟨.inr i,by simp only[r1,r2,e1,hi,cv,hv,hlt,decide_true,Bool.not_true,cond_true,cond_false,bs],g1,g2,g3,λ_=>hlt⟩
     ·refine⟨.inl (i+1),?_,⟨by omega,by omega,λp q k1 k2 k3=> ?_⟩,by dsimp only;omega⟩
      ·simp only[r1,r2,e1,hi,cv,hv,hlt,decide_true,decide_false,Bool.not_false,cond_true,bs]
       rw[w64 (by omega) (by omega)]
      ·by_cases e:q=i
       ·subst e
        by_cases e2:p=q-1
        ·subst e2;omega
        ·have:=g3 p (q-1) k1 (by omega) (by omega);omega
       ·exact g3 p q k1 k2 (by omega)
    ·exact⟨.inr i,by simp only[hi,decide_false,cond_false,bs],g1,g2,g3,λh=>absurd h hi⟩
   ·rintro i ⟨g1,g2,g3,g6⟩
    by_cases he:i=b
    ·have:(i==b)=true:=by simp[he]
     simp only[this,cond_true]
     exact⟨_,rfl,hR,λ_=>by rw[←he];exact g3⟩
    ·have:(i==b)=false:=by simp[he]
     simp only[this,cond_false]
     by_cases h50:b-a<50
     ·simp only[h50,decide_true,cond_true]
      exact⟨_,rfl,hR,λh=>by cases h⟩
     ·simp only[h50,decide_false,cond_false]
      have hib:i<b:=by omega
      have hlt:=g6 hib
      have e1:IntKind.i64.wrap (i-1)=i-1:=w64 (by omega) (by omega)
      have r1:idx l i=some (el l i):=AN (by omega) (by omega)
      have r2:idx l (i-1)=some (el l (i-1)):=AN (by omega) (by omega)
      have r3:∀x,idx (l.set i.toNat x) (i-1)=some (el (l.set i.toNat x) (i-1)):=λx=>Bb (by omega) (by omega)
      simp only[e1,r1,r2,r3,bs]
      rw[show (l.set i.toNat (el l (i-1))).set (i-1).toNat (el l i)=sw l i (i-1) from rfl]
      have hR1:Rg a b l0 (sw l i (i-1)):=hR.trans (Rg.swap ha (by omega) (by omega) (by omega) (by omega) (by omega))
      have hS1:∀p q,a≤p→p<q→q≤i-1→q≠i-1→at' (sw l i (i-1)) p≤at' (sw l i (i-1)) q:=λp q k1 k2 k3 k4=>by
       rw[A5 (by omega) (by omega) (by omega) (by omega) (by omega),A5 (by omega) (by omega) (by omega) (by omega) (by omega)]
       rw[if_neg (by omega),if_neg (by omega),if_neg (by omega),if_neg (by omega)]
       exact g3 p q k1 k2 (by omega)
      generalize sw l i (i-1)=m at hR1 hS1 ⊢
      have hml:=hR1.len
      have hpre':∀m',Rg a b l0 m'→0<a→∀k,a≤k→k<b→at' m' (a-1)≤at' m' k:=λm' hr h0 k k1 k2=>by
       rw[hr.out (a-1) (by omega) (.inl (by omega))]
       exact hr.all (λx=>at' l0 (a-1)≤x) (hpre h0) k k1 k2
      rw[w64 (show-9223372036854775808≤i-a by omega) (by omega),w64 (show-9223372036854775808≤b-i by omega) (by omega),w64 (show-9223372036854775808≤i+1 by omega) (by omega),w64 (show-9223372036854775808≤j+1 by omega) (by omega)]
      refine Ce (λm=>Rg a b l0 m∧Srt m a i) ?_ ?_
      ·by_cases h2:2≤i-a
       ·simp only[h2,decide_true,cond_true]
        refine AK (λs=>Rg a b l0 s.1∧a≤s.2∧s.2≤i-1∧∀p q,a≤p→p<q→q≤i-1→q≠s.2→at' s.1 p≤at' s.1 q) (λs=>s.2.toNat) (λr=>Rg a b l0 r∧Srt r a i) ?_ ⟨hR1,by dsimp only;omega,Int.le_refl _,hS1⟩ (λr hr=>⟨r,rfl,hr⟩)
        rintro⟨m,j⟩ ⟨hR',q1,q2,hS'⟩
        dsimp only at hR' q1 q2 hS' ⊢
        have hml:=hR'.len
        by_cases hj1:1≤j
        ·have f1:idx m j=some (el m j):=AN (by omega) (by omega)
         have f2:idx m (j-1)=some (el m (j-1)):=AN (by omega) (by omega)
         have f3:∀x,idx (m.set j.toNat x) (j-1)=some (el (m.set j.toNat x) (j-1)):=λx=>Bb (by omega) (by omega)
         have e2:IntKind.i64.wrap (j-1)=j-1:=w64 (by omega) (by omega)
         obtain⟨v,cv,hv⟩:=B8 (hR'.good hG) (i:=j) (j:=j-1) (by omega) (by omega) (by omega) (by omega)
         by_cases hlt:at' m j<at' m (j-1)
         ·have hja:a<j:=by
           rcases Int.lt_or_eq_of_le q1 with h|h
           ·exact h
           ·subst h
            have:=hpre' m hR' (by omega) a (Int.le_refl _) hab
            omega
          refine⟨.inl (sw m j (j-1),j-1),?_,⟨hR'.trans (Rg.swap ha (by omega) (by omega) (by omega) (by omega) (by omega)),by dsimp only;omega,by dsimp only;omega,?_⟩,by dsimp only;omega⟩
          ·simp only[hj1,decide_true,cond_true,e2,f1,f2,f3,cv,hv,hlt,Bool.not_true,cond_false,bs]
           rfl
          ·intro p q k1 k2 k3 k4
           dsimp only at k4 ⊢
           rw[A5 (by omega) (by omega) (by omega) (by omega) (by omega),A5 (by omega) (by omega) (by omega) (by omega) (by omega)]
           by_cases c1:q=j
           ·subst c1
            rw[if_neg (show¬q=q-1 by omega),if_pos rfl]
            by_cases c2:p=q-1
            ·rw[if_pos c2];omega
            ·rw[if_neg c2,if_neg (by omega)]
             exact hS' p (q-1) k1 (by omega) (by omega) (by omega)
           ·rw[if_neg (show¬q=j-1 by omega),if_neg c1]
            by_cases c2:p=j-1
            ·rw[if_pos c2]
             exact hS' j q (by omega) (by omega) k3 c1
            ·rw[if_neg c2]
             by_cases c3:p=j
             ·rw[if_pos c3]
              exact hS' (j-1) q (by omega) (by omega) k3 c1
             ·rw[if_neg c3]
              exact hS' p q k1 k2 k3 c1
         ·refine⟨.inr m,?_,hR',?_⟩
          ·simp only[hj1,decide_true,cond_true,e2,f1,f2,cv,hv,hlt,decide_false,Bool.not_false,bs]
          ·intro p q k1 k2 k3
           by_cases c1:q=j
           ·subst c1
            by_cases c2:p=q-1
            ·subst c2;omega
            ·have:=hS' p (q-1) k1 (by omega) (by omega) (by omega)
             omega
           ·exact hS' p q k1 k2 (by omega) c1
        ·refine⟨.inr m,?_,hR',?_⟩
         ·simp only[hj1,decide_false,cond_false]
         ·intro p q k1 k2 k3
          exact hS' p q k1 k2 (by omega) (by omega)
       ·simp only[h2,decide_false,cond_false]
        exact⟨_,rfl,hR1,λp q k1 k2 k3=>by omega⟩
      ·rintro m1 ⟨hR2,hS2⟩
       have hm1:=hR2.len
       by_cases h2:2≤b-i
       ·simp only[h2,decide_true,cond_true]
        refine AK (λs=>Rg a b l0 s.1∧Srt s.1 a i∧i+1≤s.2∧s.2≤b) (λs=>(b-s.2).toNat) (λr=>Rg a b l0 r∧Srt r a i) ?_ ⟨hR2,hS2,by dsimp only;omega,by dsimp only;omega⟩ ?_
        ·rintro⟨m,q⟩ ⟨hR',hS',q1,q2⟩
         dsimp only at hR' hS' q1 q2 ⊢
         have hml:=hR'.len
         by_cases hq:q<b
         ·have f1:idx m q=some (el m q):=AN (by omega) (by omega)
          have f2:idx m (q-1)=some (el m (q-1)):=AN (by omega) (by omega)
          have f3:∀x,idx (m.set q.toNat x) (q-1)=some (el (m.set q.toNat x) (q-1)):=λx=>Bb (by omega) (by omega)
          have e2:IntKind.i64.wrap (q-1)=q-1:=w64 (by omega) (by omega)
          have e3:IntKind.i64.wrap (q+1)=q+1:=w64 (by omega) (by omega)
          obtain⟨v,cv,hv⟩:=B8 (hR'.good hG) (i:=q) (j:=q-1) (by omega) (by omega) (by omega) (by omega)
          by_cases hlt:at' m q<at' m (q-1)
          ·refine⟨.inl (sw m q (q-1),q+1),?_,⟨hR'.trans (Rg.swap ha (by omega) (by omega) (by omega) (by omega) (by omega)),λp r k1 k2 k3=> ?_,by dsimp only;omega,by dsimp only;omega⟩,by dsimp only;omega⟩
           ·simp only[hq,decide_true,cond_true,e2,e3,f1,f2,f3,cv,hv,hlt,Bool.not_true,cond_false,bs]
            rfl
           ·dsimp only
            rw[A5 (by omega) (by omega) (by omega) (by omega) (by omega),A5 (by omega) (by omega) (by omega) (by omega) (by omega)]
            rw[if_neg (by omega),if_neg (by omega),if_neg (by omega),if_neg (by omega)]
            exact hS' p r k1 k2 k3
          ·refine⟨.inr m,?_,hR',hS'⟩
           simp only[hq,decide_true,cond_true,e2,f1,f2,cv,hv,hlt,decide_false,Bool.not_false,bs]
         ·exact⟨.inr m,by simp only[hq,decide_false,cond_false],hR',hS'⟩
        ·rintro m2 ⟨hR3,hS3⟩
         exact⟨_,rfl,⟨hR3,g1,g2,hS3,by dsimp only;omega,by dsimp only;omega⟩,by dsimp only;omega⟩
       ·simp only[h2,decide_false,cond_false]
        exact⟨_,rfl,⟨hR2,g1,g2,hS2,by dsimp only;omega,by dsimp only;omega⟩,by dsimp only;omega⟩
  ·simp only[hj,decide_false,cond_false]
   exact⟨_,rfl,hR⟩
 ·rintro(l|y) h
  ·exact⟨_,rfl,h,λh=>by cases h⟩
  ·exact⟨_,rfl,h⟩
theorem DT :∀x:Nat,1≤x→x<2^64→x<2^(Lib.bitLen x)∧2^(Lib.bitLen x)≤2*x:=by
 intro x
 induction x using Nat.strongRecOn with
 |ind x ih=>
  intro h1 h2
  rw[Lib.bitLen_half x (by omega) h2]
  by_cases h:x=1
  ·subst h;decide
  ·obtain⟨a,b⟩:=ih (x/2) (by omega) (by omega) (by omega)
   rw[Nat.add_comm,Nat.pow_succ]
   generalize 2^Lib.bitLen (x/2)=p at a b
   omega
theorem pow2_spec (n:Int)(h1:8≤n)(h2:n≤1000000):∃y,D.N n=some y∧n<y∧y≤2*n:=by
 obtain⟨m,rfl⟩:∃m:Nat,n=(m:Int):=⟨n.toNat,by omega⟩
 obtain⟨k1,k2⟩:=DT m (by omega) (by omega)
 have hb:Lib.bitLen m<22:=by
  apply Classical.byContradiction
  intro hc
  have:2^22≤2^Lib.bitLen m:=Nat.pow_le_pow_right (by omega) (by omega)
  omega
 unfold D.N
 rw[wu64 (by omega) (by omega)]
 unfold D.y
 rw[if_pos (by omega),bs]
 have:decide (((Lib.bitLen m:Nat):Int)<0)=false:=by simp
 rw[Int.toNat_natCast,this,cond_false]
 have e:ishl .u64 1 ((Lib.bitLen m:Nat):Int)=((2^Lib.bitLen m:Nat):Int):=by
  show IntKind.u64.wrap (1*2^(min (((Lib.bitLen m:Nat):Int)).toNat 64))=_
  rw[Int.toNat_natCast,show min (Lib.bitLen m) 64=Lib.bitLen m by omega,Int.one_mul]
  have e':((2^Lib.bitLen m:Nat):Int)=(2:Int)^Lib.bitLen m:=by simp
  rw[←e',wu64 (by omega) (by omega)]
 rw[e]
 exact⟨_,rfl,by omega,by omega⟩
theorem Dy (l0:List α)(a b:Int)(ha:0≤a)(hb:b≤l0.length)(h8:8≤b-a)(hlen:l0.length≤1000000):
  ∃l',DG.breakPatterns Srtd.cmp l0 a b=some l'∧Rg a b l0 l':=by
 unfold DG.breakPatterns
 rw[w64 (show-9223372036854775808≤b-a by omega) (by omega)]
 have e4:(b-a).tdiv 4=(b-a)/4:=Int.tdiv_eq_ediv_of_nonneg (by omega)
 rw[e4,w64 (show-9223372036854775808≤(b-a)/4 by omega) (by omega)]
 rw[w64 (show-9223372036854775808≤(b-a)/4*2 by omega) (by omega)]
 rw[w64 (show-9223372036854775808≤a+(b-a)/4*2 by omega) (by omega)]
 rw[w64 (show-9223372036854775808≤a+(b-a)/4*2+1 by omega) (by omega),w64 (show-9223372036854775808≤a+(b-a)/4*2-1 by omega) (by omega)]
 simp only[h8,decide_true,cond_true]
 obtain⟨y,hy,g1,g2⟩:=pow2_spec (b-a) h8 (by omega)
 rw[hy,bs,wu64 (show 0≤y-1 by omega) (by omega)]
 refine AK (λs=>Rg a b l0 s.1∧a+(b-a)/4*2-1≤s.2.1∧s.2.1≤a+(b-a)/4*2+2) (λs=>(a+(b-a)/4*2+2-s.2.1).toNat) (λr=>Rg a b l0 r) ?_ ?_ ?_
 ·rintro⟨l,i,z⟩ ⟨hR,k1,k2⟩
  dsimp only at hR k1 k2 ⊢
  have hll:=hR.len
  by_cases hi:i≤a+(b-a)/4*2+1
  ·simp only[hi,decide_true,cond_true,D.l0,bs]
   obtain⟨t1,t2⟩:=iand_small (AS .u64 (AS .u64 (AS .u64 z (ishl .u64 z 13)) (BR .u64 (AS .u64 z (ishl .u64 z 13)) 7)) (ishl .u64 (AS .u64 (AS .u64 z (ishl .u64 z 13)) (BR .u64 (AS .u64 z (ishl .u64 z 13)) 7)) 17)) (y-1) (by omega) (by omega)
   revert t1 t2
   generalize iand .u64 (AS .u64 (AS .u64 (AS .u64 z (ishl .u64 z 13)) (BR .u64 (AS .u64 z (ishl .u64 z 13)) 7)) (ishl .u64 (AS .u64 (AS .u64 z (ishl .u64 z 13)) (BR .u64 (AS .u64 z (ishl .u64 z 13)) 7)) 17)) (y-1)=t
   generalize (AS .u64 (AS .u64 (AS .u64 z (ishl .u64 z 13)) (BR .u64 (AS .u64 z (ishl .u64 z 13)) 7)) (ishl .u64 (AS .u64 (AS .u64 z (ishl .u64 z 13)) (BR .u64 (AS .u64 z (ishl .u64 z 13)) 7)) 17))=z'
   intro t1 t2
   rw[w64 (show-9223372036854775808≤t by omega) (by omega),w64 (show-9223372036854775808≤t-(b-a) by omega) (by omega)]
   have hc:∃o,(bif decide (b-a≤t) then some (t-(b-a)) else some t)=some o∧0≤o∧o<b-a:=by
    by_cases h:b-a≤t
    ·exact⟨t-(b-a),by simp[h],by omega,by omega⟩
    ·exact⟨t,by simp[h],by omega,by omega⟩
   obtain⟨o,ho,o1,o2⟩:=hc
   rw[ho,bs,w64 (show-9223372036854775808≤a+o by omega) (by omega),w64 (show-9223372036854775808≤i+1 by omega) (by omega)]
   have r1:idx l i=some (el l i):=AN (by omega) (by omega)
   have r2:idx l (a+o)=some (el l (a+o)):=AN (by omega) (by omega)
   have r3:∀x,idx (l.set i.toNat x) (a+o)=some (el (l.set i.toNat x) (a+o)):=λx=>Bb (by omega) (by omega)
   refine⟨.inl (sw l i (a+o),i+1,z'),?_,⟨hR.trans (Rg.swap ha (by omega) (by omega) (by omega) (by omega) (by omega)),by dsimp only;omega,by dsimp only;omega⟩,by dsimp only;omega⟩
   simp only[r1,r2,r3,bs]
   rfl
  ·exact⟨.inr l,by simp only[hi,decide_false,cond_false],hR⟩
 ·exact⟨Rg.refl _ _ _,by dsimp only;omega,by dsimp only;omega⟩
 ·rintro r hr
  exact⟨r,rfl,hr⟩
end Go.Sx.Gs

namespace Go.Sx.Gs
variable {α : Type} [Srtd α]
def kid (i c:Int):Prop:=c=2*i+1∨c=2*i+2
theorem Dr (l0:List α)(hG:Good l0)(lo hi f:Int)(h0:0≤lo)(hf:0≤f)(hlh:lo≤hi)(hb:f+hi≤l0.length)(hlen:l0.length≤1000000)
  (hH:∀i c,lo<i→kid i c→c<hi→at' l0 (f+c)≤at' l0 (f+i)):
  ∃l',DG.siftDown Srtd.cmp l0 lo hi f=some l'∧Rg (f+lo) (f+hi) l0 l'∧∀i c,lo≤i→kid i c→c<hi→at' l' (f+c)≤at' l' (f+i):=by
 unfold DG.siftDown
 refine AK (λs=>Rg (f+lo) (f+hi) l0 s.1∧lo≤s.2∧s.2≤hi∧(∀i c,lo≤i→i≠s.2→kid i c→c<hi→at' s.1 (f+c)≤at' s.1 (f+i))∧(∀p c,lo≤p→kid p s.2→kid s.2 c→c<hi→at' s.1 (f+c)≤at' s.1 (f+p)))
  (λs=>(hi-s.2).toNat)
  (λr=>match r with| .inl l'=>Rg (f+lo) (f+hi) l0 l'∧∀i c,lo≤i→kid i c→c<hi→at' l' (f+c)≤at' l' (f+i)| .inr l'=>Rg (f+lo) (f+hi) l0 l'∧∀i c,lo≤i→kid i c→c<hi→at' l' (f+c)≤at' l' (f+i)) ?_
  ⟨Rg.refl _ _ _,Int.le_refl _,hlh,λi c h1 h2 h3 h4=>hH i c (by dsimp only at h2;omega) h3 h4,λp c h1 h2 h3 h4=>by unfold kid at h2;dsimp only at h2;omega⟩ ?_
 ·rintro⟨l,r⟩ ⟨hR,g1,g2,g3,g4⟩
  dsimp only at hR g1 g2 g3 g4 ⊢
  have hll:=hR.len
  rw[w64 (show-9223372036854775808≤2*r by omega) (by omega),w64 (show-9223372036854775808≤2*r+1 by omega) (by omega)]
  rw[w64 (show-9223372036854775808≤2*r+1+1 by omega) (by omega),w64 (show-9223372036854775808≤f+(2*r+1) by omega) (by omega),w64 (show-9223372036854775808≤f+(2*r+1)+1 by omega) (by omega),w64 (show-9223372036854775808≤f+r by omega) (by omega)]
  by_cases hc:hi≤2*r+1
  ·simp only[hc,decide_true,cond_true]
   refine⟨_,rfl,hR,λi c h1 h2 h3=> ?_⟩
   by_cases e:i=r
   ·subst e;unfold kid at h2;omega
   ·exact g3 i c h1 e h2 h3
  ·simp only[hc,decide_false,cond_false]
   refine Ce (λb:Bool=>(b=true→2*r+2<hi∧at' l (f+(2*r+1))<at' l (f+(2*r+2)))∧(b=false→2*r+2<hi→at' l (f+(2*r+2))≤at' l (f+(2*r+1)))) ?_ ?_
   ·by_cases h2:2*r+1+1<hi
    ·have r1:idx l (f+(2*r+1))=some (el l (f+(2*r+1))):=AN (by omega) (by omega)
     have r2:idx l (f+(2*r+1)+1)=some (el l (f+(2*r+1)+1)):=AN (by omega) (by omega)
     obtain⟨v,cv,hv⟩:=B8 (hR.good hG) (i:=f+(2*r+1)) (j:=f+(2*r+1)+1) (by omega) (by omega) (by omega) (by omega)
     simp only[h2,decide_true,cond_true,r1,r2,cv,hv,bs]
     rw[show f+(2*r+1)+1=f+(2*r+2) by omega]
     refine⟨_,rfl,λh=>⟨by omega,of_decide_eq_true h⟩,λh _=> ?_⟩
     have:=of_decide_eq_false h
     omega
    ·simp only[h2,decide_false,cond_false]
     exact⟨_,rfl,(λh=>by cases h),(λ_ h=>by omega)⟩
   ·rintro b ⟨hbb,hbf⟩
    have hch:∃c,(bif b then some (2*r+1+1) else some (2*r+1))=some c∧(b=true→c=2*r+2)∧(b=false→c=2*r+1):=by
     cases b
     ·exact⟨2*r+1,rfl,by simp,by simp⟩
     ·exact⟨2*r+2,by simp;omega,by simp,by simp⟩
    obtain⟨c,ec,c1,c2⟩:=hch
    have hkc:kid r c:=by unfold kid;cases b<;>simp at c1 c2<;>omega
    have hchi:c<hi:=by
     cases b
     ·have:=c2 rfl;omega
     ·have:=c1 rfl;have:=hbb rfl;omega
    rw[ec,bs,w64 (show-9223372036854775808≤f+c by unfold kid at hkc;omega) (by omega)]
    have hcr:r<c:=by unfold kid at hkc;omega
    have t1:idx l (f+r)=some (el l (f+r)):=AN (by omega) (by omega)
    have t2:idx l (f+c)=some (el l (f+c)):=AN (by omega) (by omega)
    have t3:∀x,idx (l.set (f+r).toNat x) (f+c)=some (el (l.set (f+r).toNat x) (f+c)):=λx=>Bb (by omega) (by omega)
    obtain⟨v,cv,hv⟩:=B8 (hR.good hG) (i:=f+r) (j:=f+c) (by omega) (by omega) (by omega) (by omega)
    have hbest:∀d,kid r d→d<hi→at' l (f+d)≤at' l (f+c):=λd hd hdh=>by
     cases b
     ·have e:=c2 rfl
      subst e
      rcases hd with rfl|rfl
      ·exact Int.le_refl _
      ·exact hbf rfl hdh
     ·have e:=c1 rfl
      subst e
      rcases hd with rfl|rfl
      ·have:=(hbb rfl).2;omega
      ·exact Int.le_refl _
    by_cases hlt:at' l (f+r)<at' l (f+c)
    ·refine⟨.inl (sw l (f+r) (f+c),c),?_,⟨hR.trans (Rg.swap (by omega) (by omega) (by omega) (by omega) (by omega) (by omega)),by dsimp only;omega,by dsimp only;omega,λi d h1 h2 h3 h4=> ?_,λp d h1 h2 h3 h4=> ?_⟩,by dsimp only;omega⟩
     ·simp only[t1,t2,t3,cv,hv,hlt,decide_true,Bool.not_true,cond_false,bs]
      rfl
     ·dsimp only at h2 ⊢
      have hd0:i<d:=by unfold kid at h3;omega
      rw[A5 (by omega) (by omega) (by omega) (by omega) (by omega),A5 (by omega) (by omega) (by omega) (by omega) (by omega)]
      rw[if_neg (show¬f+i=f+c by omega)]
      by_cases e:i=r
      ·subst e
       rw[if_pos rfl]
       by_cases e2:d=c
       ·subst e2;rw[if_pos rfl];omega
       ·rw[if_neg (show¬f+d=f+c by omega),if_neg (show¬f+d=f+i by omega)]
        exact hbest d h3 h4
      ·rw[if_neg (show¬f+i=f+r by omega)]
       have e2:d≠c:=λe2=>by subst e2;unfold kid at h3 hkc;omega
       rw[if_neg (show¬f+d=f+c by omega)]
       by_cases e3:d=r
       ·subst e3
        rw[if_pos rfl]
        exact g4 i c h1 h3 hkc hchi
       ·rw[if_neg (show¬f+d=f+r by omega)]
        exact g3 i d h1 e h3 h4
     ·dsimp only at h2 h3 ⊢
      have e:p=r:=by unfold kid at h2 hkc;omega
      subst e
      have hd0:c<d:=by unfold kid at h3;omega
      rw[A5 (by omega) (by omega) (by omega) (by omega) (by omega),A5 (by omega) (by omega) (by omega) (by omega) (by omega)]
      rw[if_neg (show¬f+d=f+c by omega),if_neg (show¬f+d=f+p by omega),if_neg (show¬f+p=f+c by omega),if_pos rfl]
      exact g3 c d (by omega) (by omega) h3 h4
    ·refine⟨.inr (.inr l),?_,hR,λi d h1 h2 h3=> ?_⟩
     ·simp only[t1,t2,cv,hv,hlt,decide_false,Bool.not_false,cond_true,bs]
     ·by_cases e:i=r
      ·subst e
       have:=hbest d h2 h3
       omega
      ·exact g3 i d h1 e h2 h3
 ·rintro(l|l) h
  ·exact⟨_,rfl,h⟩
  ·exact⟨_,rfl,h⟩
theorem heap_root {l:List α}{f hi:Int}(hH:∀i c,0≤i→kid i c→c<hi→at' l (f+c)≤at' l (f+i)):∀(n:Nat) (k:Int),k.toNat≤n→0≤k→k<hi→at' l (f+k)≤at' l (f+0):=by
 intro n
 induction n with
 |zero=>intro k h1 h2 h3;rw[show k=0 by omega];exact Int.le_refl _
 |succ n ih=>
  intro k h1 h2 h3
  by_cases h:k=0
  ·subst h;exact Int.le_refl _
  ·have hk:kid ((k-1)/2) k:=by unfold kid;omega
   have a:=hH ((k-1)/2) k (by omega) hk h3
   have b:=ih ((k-1)/2) (by omega) (by omega) (by omega)
   omega
theorem heapSort_spec (l0:List α)(hG:Good l0)(a b:Int)(ha:0≤a)(hab:a≤b)(hb:b≤l0.length)(hlen:l0.length≤1000000):
  ∃l',DG.heapSort Srtd.cmp l0 a b=some l'∧Rg a b l0 l'∧Srt l' a b:=by
 unfold DG.heapSort
 rw[w64 (show-9223372036854775808≤b-a by omega) (by omega),w64 (show-9223372036854775808≤b-a-1 by omega) (by omega)]
 have e2: -1≤(b-a-1).tdiv 2∧(b-a-1).tdiv 2≤b-a∧b-a≤2*(b-a-1).tdiv 2+2:=by
  by_cases h:1≤b-a
  ·rw[Int.tdiv_eq_ediv_of_nonneg (by omega)];omega
  ·have:b-a-1= -1:=by omega
   have e:(-1:Int).tdiv 2=0:=by decide
   rw[this,e];omega
 rw[w64 (show-9223372036854775808≤(b-a-1).tdiv 2 by omega) (by omega)]
 generalize (b-a-1).tdiv 2=st at e2
 refine AK (λs=>Rg a b l0 s.1∧-1≤s.2∧s.2≤b-a∧∀i c,s.2<i→kid i c→c<b-a→at' s.1 (a+c)≤at' s.1 (a+i)) (λs=>(s.2+1).toNat)
  (λr=>Rg a b l0 r∧∀i c,0≤i→kid i c→c<b-a→at' r (a+c)≤at' r (a+i)) ?_ ⟨Rg.refl _ _ _,by dsimp only;omega,by dsimp only;omega,λi c h1 h2 h3=>by unfold kid at h2;dsimp only at h1;omega⟩ ?_
 ·rintro⟨l,i⟩ ⟨hR,g1,g2,g3⟩
  dsimp only at hR g1 g2 g3 ⊢
  have hll:=hR.len
  by_cases hi:0≤i
  ·simp only[hi,decide_true,cond_true]
   obtain⟨l',e,r1,r2⟩:=Dr l (hR.good hG) i (b-a) a hi ha (by omega) (by omega) (by omega) g3
   rw[e,bs,w64 (show-9223372036854775808≤i-1 by omega) (by omega)]
   exact⟨_,rfl,⟨hR.trans (r1.widen (by omega) (by omega) ha),by dsimp only;omega,by dsimp only;omega,λp c h1 h2 h3=>r2 p c (by dsimp only at h1;omega) h2 h3⟩,by dsimp only;omega⟩
  ·simp only[hi,decide_false,cond_false]
   exact⟨_,rfl,hR,λp c h1 h2 h3=>g3 p c (by omega) h2 h3⟩
 ·rintro l1 ⟨hR1,hH1⟩
  refine AK (λs=>Rg a b l0 s.1∧-1≤s.2∧s.2<b-a∧(∀i c,0≤i→kid i c→c≤s.2→at' s.1 (a+c)≤at' s.1 (a+i))∧(∀p q,s.2<p→p<q→q<b-a→at' s.1 (a+p)≤at' s.1 (a+q))∧(∀p q,0≤p→p≤s.2→s.2<q→q<b-a→at' s.1 (a+p)≤at' s.1 (a+q))) (λs=>(s.2+1).toNat)
   (λr=>Rg a b l0 r∧Srt r a b) ?_ ⟨hR1,by dsimp only;omega,by dsimp only;omega,λi c h1 h2 h3=>hH1 i c h1 h2 (by dsimp only at h3;omega),λp q h1 h2 h3=>by dsimp only at h1;omega,λp q h1 h2 h3 h4=>by dsimp only at h3;omega⟩ (λr hr=>⟨r,rfl,hr⟩)
  rintro⟨l,i⟩ ⟨hR,g1,g2,g3,g4,g5⟩
  dsimp only at hR g1 g2 g3 g4 g5 ⊢
  have hll:=hR.len
  by_cases hi:0≤i
  ·rw[w64 (show-9223372036854775808≤a+i by omega) (by omega)]
   have t1:idx l a=some (el l a):=AN (by omega) (by omega)
   have t2:idx l (a+i)=some (el l (a+i)):=AN (by omega) (by omega)
   have t3:∀x,idx (l.set a.toNat x) (a+i)=some (el (l.set a.toNat x) (a+i)):=λx=>Bb (by omega) (by omega)
   simp only[hi,decide_true,cond_true,t1,t2,t3,bs]
   rw[show (l.set a.toNat (el l (a+i))).set (a+i).toNat (el l a)=sw l a (a+i) from rfl]
   have hRs:Rg a (a+(i+1)) l (sw l a (a+i)):=Rg.swap ha (by omega) (by omega) (by omega) (by omega) (by omega)
   have sat:∀k,0≤k→at' (sw l a (a+i)) (a+k)=if k=i then at' l a else if k=0 then at' l (a+i) else at' l (a+k):=λk hk=>by
    rw[A5 (by omega) (by omega) (by omega) (by omega) (by omega)]
    by_cases c1:k=i
    ·subst c1;simp
    ·rw[if_neg (show¬a+k=a+i by omega),if_neg c1]
     by_cases c2:k=0
     ·subst c2;simp
     ·rw[if_neg (show¬a+k=a by omega),if_neg c2]
   have hroot:∀k,0≤k→k≤i→at' l (a+k)≤at' l a:=λk k1 k2=>by
    have:=heap_root (hi:=i+1) (λp c h1 h2 h3=>g3 p c h1 h2 (by omega)) k.toNat k (Nat.le_refl _) k1 (by omega)
    rwa [Int.add_zero] at this
   have hsl:(sw l a (a+i)).length=l.length:=sw_len _ _ _
   obtain⟨l',e,r1,r2⟩:=Dr (sw l a (a+i)) (hRs.good (hR.good hG)) 0 i a (Int.le_refl _) ha hi (by omega) (by omega) (λp c h1 h2 h3=>by
    have hc:p<c:=by unfold kid at h2;omega
    rw[sat c (by omega),sat p (by omega),if_neg (by omega),if_neg (by omega),if_neg (by omega),if_neg (by omega)]
    exact g3 p c (by omega) h2 (by omega))
   rw[e,bs,w64 (show-9223372036854775808≤i-1 by omega) (by omega)]
   rw[Int.add_zero] at r1
   have same:∀k,i≤k→at' l' (a+k)=at' (sw l a (a+i)) (a+k):=λk hk=>r1.out (a+k) (by omega) (.inr (by omega))
   have big:∀k,i<k→k<b-a→at' l' (a+k)=at' l (a+k):=λk hk hk2=>by
    rw[same k (by omega),sat k (by omega),if_neg (by omega),if_neg (by omega)]
   have ati:at' l' (a+i)=at' l a:=by rw[same i (Int.le_refl _),sat i hi,if_pos rfl]
   have low:∀Q:Int→Prop,(∀k,0≤k→k≤i→Q (at' l (a+k)))→∀k,0≤k→k<i→Q (at' l' (a+k)):=λQ hQ k k1 k2=>
    r1.all Q (λm m1 m2=>by
     have h1:=sat (m-a) (by omega)
     rw[show a+(m-a)=m by omega] at h1
     rw[h1]
     split
     ·have:=hQ 0 (by omega) hi;rwa [Int.add_zero] at this
     ·split
      ·exact hQ i hi (Int.le_refl _)
      ·have:=hQ (m-a) (by omega) (by omega);rwa [show a+(m-a)=m by omega] at this) (a+k) (by omega) (by omega)
   refine⟨_,rfl,⟨hR.trans ((hRs.widen (Int.le_refl a) (by omega) ha).trans (r1.widen (Int.le_refl a) (by omega) ha)),by dsimp only;omega,by dsimp only;omega,λp c h1 h2 h3=> ?_,λp q h1 h2 h3=> ?_,λp q h1 h2 h3 h4=> ?_⟩,by dsimp only;omega⟩
   ·dsimp only at h3 ⊢;exact r2 p c h1 h2 (by omega)
   ·dsimp only at h1 ⊢
    by_cases c1:p=i
    ·subst c1
     rw[ati,big q h2 h3]
     have:=g5 0 q (Int.le_refl _) hi h2 h3
     rwa [Int.add_zero] at this
    ·rw[big p (by omega) (by omega),big q (by omega) h3]
     exact g4 p q (by omega) h2 h3
   ·dsimp only at h2 h3 ⊢
    by_cases c1:q=i
    ·subst c1
     rw[ati]
     exact low (λx=>x≤at' l a) hroot p h1 (by omega)
    ·rw[big q (by omega) h4]
     exact low (λx=>x≤at' l (a+q)) (λk k1 k2=>g5 k q k1 k2 (by omega) h4) p h1 (by omega)
  ·simp only[hi,decide_false,cond_false]
   refine⟨_,rfl,hR,λp q h1 h2 h3=> ?_⟩
   have:=g4 (p-a) (q-a) (by omega) (by omega) (by omega)
   rwa [show a+(p-a)=p by omega,show a+(q-a)=q by omega] at this
end Go.Sx.Gs

namespace Go.Sx.Gs
variable {α : Type} [Srtd α]
def Out (l:List α)(a0 b0 a b:Int):Prop:=∀i j,a0≤i→i<j→j<b0→¬(a≤i∧j<b)→at' l i≤at' l j
theorem Out.keep {a0 a b b0:Int}{l l':List α}(h:Rg a b l l')(h0:0≤a0)(ha:a0≤a)(hb:b≤b0)(c:Out l a0 b0 a b):Out l' a0 b0 a b:=by
 intro i j h1 h2 h3 h4
 by_cases hi:a≤i∧i<b
 ·rw[h.out j (by omega) (by omega)]
  exact h.all (λx=>x≤at' l j) (λk k1 k2=>c k j (by omega) (by omega) h3 (by omega)) i hi.1 hi.2
 ·rw[h.out i (by omega) (by omega)]
  by_cases hj:a≤j∧j<b
  ·exact h.all (λx=>at' l i≤x) (λk k1 k2=>c i k (by omega) (by omega) (by omega) (by omega)) j hj.1 hj.2
  ·rw[h.out j (by omega) (by omega)];exact c i j h1 h2 h3 h4
theorem pdqsort_spec :∀(n:Nat) (l0:List α) (a0 b0 lim:Int),0≤a0→a0≤b0→b0≤l0.length→l0.length≤1000000→Good l0→0≤lim→lim≤64→
  (0<a0→∀k,a0≤k→k<b0→at' l0 (a0-1)≤at' l0 k)→b0-a0<n→∃l',DG.pdqsortR Srtd.cmp n l0 a0 b0 lim=some l'∧Rg a0 b0 l0 l'∧Srt l' a0 b0:=by
 intro n
 induction n with
 |zero=>intro l0 a0 b0 lim h1 h2 h3 h4 hG h7 h8 h9 h10;omega
 |succ n ih=>
  intro l0 a0 b0 lim h1 h2 h3 h4 hG h7 h8 h9 h10
  unfold DG.pdqsortR
  refine AK (λs=>Rg a0 b0 l0 s.1∧Out s.1 a0 b0 s.2.1 s.2.2.1∧a0≤s.2.1∧s.2.1≤s.2.2.1∧s.2.2.1≤b0∧0≤s.2.2.2.1∧s.2.2.2.1≤64∧(0<s.2.1→∀k,s.2.1≤k→k<s.2.2.1→at' s.1 (s.2.1-1)≤at' s.1 k))
   (λs=>(s.2.2.1-s.2.1).toNat) (λr=>Rg a0 b0 l0 r∧Srt r a0 b0) ?_ ?_ ?_
  ·rintro⟨l,a,b,lm,bal,par⟩ ⟨hR,hO,g1,g2,g3,g5,g6,g7⟩
   dsimp only at hR hO g1 g2 g3 g5 g6 g7 ⊢
   have hll:=hR.len
   have fin:∀l',Rg a b l l'→Srt l' a b→Rg a0 b0 l0 l'∧Srt l' a0 b0:=λl' hr hs=>
    ⟨hR.trans (hr.widen g1 g3 h1),λi j k1 k2 k3=>by
     by_cases hc:a≤i∧j<b
     ·exact hs i j hc.1 k2 hc.2
     ·exact(hO.keep hr h1 g1 g3) i j k1 k2 k3 hc⟩
   rw[w64 (show-9223372036854775808≤b-a by omega) (by omega)]
   by_cases hs:b-a≤12
   ·obtain⟨l',e,r1,r2⟩:=Dz l a b (by omega) g2 (by omega) (by omega) (hR.good hG)
    refine⟨.inr l',?_,fin l' r1 r2⟩
    simp only[hs,decide_true,cond_true,e,bs]
   ·simp only[hs,decide_false,cond_false]
    by_cases hlm:lm=0
    ·have hl0:(lm==0)=true:=by simp[hlm]
     obtain⟨l',e,r1,r2⟩:=heapSort_spec l (hR.good hG) a b (by omega) g2 (by omega) (by omega)
     refine⟨.inr l',?_,fin l' r1 r2⟩
     simp only[hl0,cond_true,e,bs]
    have hl0:(lm==0)=false:=by simp[hlm]
    simp only[hl0,cond_false]
    refine Ce (λq:List α×Int=>Rg a b l q.1∧0≤q.2∧q.2≤64) ?_ ?_
    ·cases bal
     ·obtain⟨l1,e,r1⟩:=Dy l a b (by omega) (by omega) (by omega) (by omega)
      refine⟨(l1,lm-1),?_,r1,by dsimp only;omega,by dsimp only;omega⟩
      simp only[Bool.not_false,cond_true,e,bs]
      rw[w64 (by omega) (by omega)]
     ·exact⟨(l,lm),rfl,Rg.refl _ _ _,by dsimp only;omega,by dsimp only;omega⟩
    rintro⟨l1,lm1⟩ ⟨hr1,k2,k3⟩
    dsimp only at hr1 k2 k3 ⊢
    have hl1:=hr1.len
    obtain⟨y,ey,c1,c2,c3⟩:=DV l1 ((hR.trans (hr1.widen g1 g3 h1)).good hG) a b (by omega) (by omega) (by omega) (by omega)
    rw[ey,bs]
    refine Ce (λq:List α×Int×Int=>Rg a b l q.1∧a≤q.2.1∧q.2.1<b) ?_ ?_
    ·cases (y.2.1==2)
     ·exact⟨_,rfl,by dsimp only;rw[c1];exact hr1,c2,c3⟩
     ·obtain⟨l2,e2,r2⟩:=DL l1 a b (by omega) (by omega) (by omega) (by omega)
      rw[c1]
      simp only[cond_true,e2,bs]
      rw[w64 (show-9223372036854775808≤b-1 by omega) (by omega),w64 (show-9223372036854775808≤y.1-a by omega) (by omega),w64 (show-9223372036854775808≤b-1-(y.1-a) by omega) (by omega)]
      exact⟨_,rfl,hr1.trans r2,by dsimp only;omega,by dsimp only;omega⟩
    rintro⟨l2,p,hint⟩ ⟨hr2,p1,p2⟩
    dsimp only at hr2 p1 p2 ⊢
    have hl2:=hr2.len
    refine Ce (λq:List α ⊕ List α=>match q with| .inl q=>Rg a b l q| .inr q=>Rg a b l q∧Srt q a b) ?_ ?_
    ·cases ((bal&&par)&&(hint==1))
     ·exact⟨.inl l2,rfl,hr2⟩
     ·obtain⟨y2,e2,d1,d2⟩:=Di l2 ((hR.trans (hr2.widen g1 g3 h1)).good hG) a b (by omega) (by omega) (by omega) (by omega) (λha k m1 m2=>by
       rw[hr2.out (a-1) (by omega) (.inl (by omega))]
       exact hr2.all (λx=>at' l (a-1)≤x) (g7 ha) k m1 m2)
      simp only[cond_true,e2,bs]
      cases hy:y2.1
      ·exact⟨.inl y2.2,rfl,hr2.trans d1⟩
      ·exact⟨.inr y2.2,rfl,hr2.trans d1,d2 hy⟩
    rintro(q|q) hq
    case inr=>
     exact⟨.inr q,rfl,fin q hq.1 hq.2⟩
    dsimp only at hq ⊢
    clear hr2 hl2
    have hr2:Rg a b l q:=hq
    have hl2:=hr2.len
    have hGq:Good q:=(hR.trans (hr2.widen g1 g3 h1)).good hG
    have hO2:=hO.keep hr2 h1 g1 g3
    have g7':0<a→∀k,a≤k→k<b→at' q (a-1)≤at' q k:=λha k m1 m2=>by
     rw[hr2.out (a-1) (by omega) (.inl (by omega))]
     exact hr2.all (λx=>at' l (a-1)≤x) (g7 ha) k m1 m2
    refine Ce (λc:Bool=>c=true→0<a∧at' q p≤at' q (a-1)) ?_ ?_
    ·by_cases ha:0<a
     ·have r1:idx q (a-1)=some (el q (a-1)):=AN (by omega) (by omega)
      have r2:idx q p=some (el q p):=AN (by omega) (by omega)
      rw[w64 (show-9223372036854775808≤a-1 by omega) (by omega)]
      obtain⟨v,cv,hv⟩:=B8 hGq (i:=a-1) (j:=p) (by omega) (by omega) (by omega) (by omega)
      simp only[ha,decide_true,cond_true,r1,r2,cv,hv,bs]
      exact⟨_,rfl,λh=>⟨by trivial,by simpa using h⟩⟩
     ·simp only[ha,decide_false,cond_false]
      exact⟨_,rfl,λh=>by cases h⟩
    intro c hc
    cases c
    ·
     simp only[cond_false]
     obtain⟨⟨mid,par',l3⟩,e3,P⟩:=partition_spec q a b p (by omega) (by omega) (by omega) hGq p1 p2
     rw[e3,bs]
     obtain⟨hr3,m1,m2,m3,m4⟩:=P
     dsimp only at hr3 m1 m2 m3 m4 ⊢
     have hl3:=hr3.len
     have hO3:=hO2.keep hr3 h1 g1 g3
     have g7'':0<a→∀k,a≤k→k<b→at' l3 (a-1)≤at' l3 k:=λha k n1 n2=>by
      rw[hr3.out (a-1) (by omega) (.inl (by omega))]
      exact hr3.all (λx=>at' q (a-1)≤x) (g7' ha) k n1 n2
     have hR3:Rg a0 b0 l0 l3:=hR.trans ((hr2.trans hr3).widen g1 g3 h1)
     rw[w64 (show-9223372036854775808≤mid-a by omega) (by omega),w64 (show-9223372036854775808≤b-mid by omega) (by omega),w64 (show-9223372036854775808≤mid+1 by omega) (by omega)]
     by_cases hside:mid-a<b-mid
     ·simp only[hside,decide_true,cond_true]
      obtain⟨l4,e4,r4,s4⟩:=ih l3 a mid lm1 (by omega) m1 (by omega) (by omega) (hR3.good hG) k2 k3 (λha k n1 n2=>g7'' ha k n1 (by omega)) (by omega)
      rw[e4,bs]
      have hl4:=r4.len
      have em:∀k,mid≤k→at' l4 k=at' l3 k:=λk hk=>r4.out k (by omega) (.inr hk)
      have lf:∀k,a≤k→k<mid→at' l4 k≤at' l4 mid:=λk n1 n2=>by
       rw[em mid (Int.le_refl _)];exact r4.all (λx=>x≤at' l3 mid) m3 k n1 n2
      refine⟨.inl _,rfl,⟨hR3.trans (r4.widen g1 (by omega) h1),?_,by dsimp only;omega,by dsimp only;omega,g3,k2,k3,?_⟩,by dsimp only;omega⟩
      ·have hO4:=hO3.keep (r4.widen (Int.le_refl a) (by omega) (by omega)) h1 g1 g3
       intro i j n1 n2 n3 n4
       dsimp only at n4 ⊢
       by_cases hin:a≤i∧j<b
       ·by_cases hj:j<mid
        ·exact s4 i j hin.1 n2 hj
        ·have hi:i≤mid:=by omega
         have e1:at' l4 i≤at' l4 mid:=by
          by_cases e:i=mid
          ·rw[e];exact Int.le_refl _
          ·exact lf i hin.1 (by omega)
         have e2:at' l4 mid≤at' l4 j:=by
          by_cases e:j=mid
          ·rw[e];exact Int.le_refl _
          ·rw[em mid (Int.le_refl _),em j (by omega)];exact m4 j (by omega) hin.2
         omega
       ·exact hO4 i j n1 n2 n3 hin
      ·intro _ k n1 n2
       dsimp only at n1 n2 ⊢
       rw[show mid+1-1=mid by omega,em mid (Int.le_refl _),em k (by omega)]
       exact m4 k (by omega) n2
     ·simp only[hside,decide_false,cond_false]
      obtain⟨l4,e4,r4,s4⟩:=ih l3 (mid+1) b lm1 (by omega) (by omega) (by omega) (by omega) (hR3.good hG) k2 k3 (λ_ k n1 n2=>by rw[show mid+1-1=mid by omega];exact m4 k (by omega) n2) (by omega)
      rw[e4,bs]
      have hl4:=r4.len
      have em:∀k,0≤k→k≤mid→at' l4 k=at' l3 k:=λk h0 hk=>r4.out k h0 (.inl (by omega))
      have rt:∀k,mid<k→k<b→at' l4 mid≤at' l4 k:=λk n1 n2=>by
       rw[em mid (by omega) (Int.le_refl _)];exact r4.all (λx=>at' l3 mid≤x) (λk q1 q2=>m4 k (by omega) q2) k (by omega) n2
      refine⟨.inl _,rfl,⟨hR3.trans (r4.widen (by omega) g3 h1),?_,g1,m1,by dsimp only;omega,k2,k3,?_⟩,by dsimp only;omega⟩
      ·have hO4:=hO3.keep (r4.widen (by omega) (Int.le_refl b) (by omega)) h1 g1 g3
       intro i j n1 n2 n3 n4
       dsimp only at n4 ⊢
       by_cases hin:a≤i∧j<b
       ·by_cases hi:mid<i
        ·exact s4 i j (by omega) n2 hin.2
        ·have hj:mid≤j:=by omega
         have e1:at' l4 i≤at' l4 mid:=by
          by_cases e:i=mid
          ·rw[e];exact Int.le_refl _
          ·rw[em i (by omega) (by omega),em mid (by omega) (Int.le_refl _)];exact m3 i hin.1 (by omega)
         have e2:at' l4 mid≤at' l4 j:=by
          by_cases e:j=mid
          ·rw[e];exact Int.le_refl _
          ·exact rt j (by omega) hin.2
         omega
       ·exact hO4 i j n1 n2 n3 hin
      ·intro ha k n1 n2
       dsimp only at ha n1 n2 ⊢
       rw[em (a-1) (by omega) (by omega),em k (by omega) (by omega)]
       exact g7'' ha k n1 (by omega)
    ·
     simp only[cond_true]
     obtain⟨hc1,hc2⟩:=hc rfl
     obtain⟨⟨mid,l3⟩,e3,hr3,m1,m2,m3,m4⟩:=Dv q a b p (by omega) (by omega) (by omega) hGq p1 p2
     rw[e3,bs]
     dsimp only at hr3 m1 m2 m3 m4 ⊢
     have hl3:=hr3.len
     have hO3:=hO2.keep hr3 h1 g1 g3
     have lw:∀k,a≤k→k<b→at' q p≤at' l3 k:=λk n1 n2=>
      hr3.all (λx=>at' q p≤x) (λk q1 q2=>Int.le_trans hc2 (g7' hc1 k q1 q2)) k n1 n2
     refine⟨.inl _,rfl,⟨hR.trans ((hr2.trans hr3).widen g1 g3 h1),?_,by dsimp only;omega,m2,g3,k2,k3,?_⟩,by dsimp only;omega⟩
     ·intro i j n1 n2 n3 n4
      dsimp only at n4 ⊢
      by_cases hin:a≤i∧j<b
      ·have:=m3 i hin.1 (by omega)
       have:=lw j (by omega) hin.2
       omega
      ·exact hO3 i j n1 n2 n3 hin
     ·intro _ k n1 n2
      dsimp only at n1 n2 ⊢
      have:=m3 (mid-1) (by omega) (by omega)
      have:=m4 k n1 n2
      omega
  ·exact⟨Rg.refl _ _ _,λi j n1 n2 n3 n4=>by dsimp only at n4;omega,Int.le_refl _,h2,Int.le_refl _,h7,h8,h9⟩
  ·rintro r hr
   exact⟨r,rfl,hr⟩
theorem sort_spec (l:List α)(hG:Good l)(hlen:l.length≤1000000):∃l',DG.Sort Srtd.cmp l=some l'∧List.Perm l' l∧Srt l' 0 l'.length:=by
 unfold DG.Sort
 rw[wu64 (by omega) (by omega)]
 unfold D.y
 rw[if_pos (by omega),bs]
 have hb:Lib.bitLen l.length≤64:=by
  by_cases h:1≤l.length
  ·obtain⟨_,k2⟩:=DT l.length h (by omega)
   apply Classical.byContradiction
   intro hc
   have:2^22≤2^Lib.bitLen l.length:=Nat.pow_le_pow_right (by omega) (by omega)
   omega
  ·have:l.length=0:=by omega
   rw[this];decide
 have hf:=DN
 obtain⟨l',e,r,s⟩:=pdqsort_spec BJ l 0 (l.length:Int) ((Lib.bitLen l.length:Nat):Int) (Int.le_refl _) (by omega) (Int.le_refl _) (by omega) hG (by omega) (by omega) (λh=>by omega) (by omega)
 unfold DG.pdqsort
 rw[Int.toNat_natCast,e]
 refine⟨l',rfl,r.perm,?_⟩
 rw[r.len];exact s
end Go.Sx.Gs

namespace Go.Sx
theorem list2 {l:LI}(h:l.length=2):∃a b,l=[a,b]:=by
 match l,h with
 |[a,b],_=>exact⟨a,b,rfl⟩
theorem row_inj {x y:LI}(hx:rowGood x)(hy:rowGood y)(h:rowKey x=rowKey y):x=y:=by
 obtain⟨h1,h2,h3,h4,h5⟩:=hx
 obtain⟨k1,k2,k3,k4,k5⟩:=hy
 obtain⟨a,b,rfl⟩:=list2 h1
 obtain⟨c,d,rfl⟩:=list2 k1
 unfold rowKey at h
 simp only[List.getD_cons_zero,List.getD_cons_succ] at*
 have:a=c:=by omega
 subst this
 have:b=d:=by omega
 subst this
 rfl
end Go.Sx

set_option maxRecDepth 100000
namespace Go.Proofs.YtjhajfcggfhbmaaDoor
open Go Go.Sx
open Go.Proofs.Tryd Go.Proofs.YtjhajfcggfhbmaaDoor.Tryd IntKind
variable {W w : World} {G : GH} {H : List Itm}
theorem AI :prog.follows .mixedOrders=true:=by kernel_rfl
theorem Pl2 :BC prog 2:=isAgg2
theorem T49 :SlT prog 49 2 1 8 (iv 0):=⟨underlying49,Tryd.t2,by kernel_rfl,by kernel_rfl,by kernel_rfl,by kernel_rfl⟩
theorem Pl5 :BC prog 5:=isAgg5
theorem Pl135 :BC prog 135:=isAgg135
theorem Pl3 :BC prog 3:=isAgg3
theorem T71 :SlT prog 71 3 1 8 (iv 0):=⟨underlying71,Tryd.t3,by kernel_rfl,by kernel_rfl,by kernel_rfl,by kernel_rfl⟩
theorem Wk.z0 {v0:Value}{x0:LI}{x1:Int}(m:Mem W G w (H))(h0:R1 G v0 x0){y:Int}(hd:D.z0 x0 x1=some y):
  Calls prog 90 #[v0,(iv x1)] w (Res W G H (λ_ Ho v=>Ho=[]∧v=(iv y))):=by
 refine As (args:=[v0,(iv x1)]) (N:=19) [.tmp 4] func90 Z Z (lb Z) Z λa f=> ?_
 unfold D.z0 at hd
 refine Af ?_
 refine Ac f Z λa f=>Ab (Ag (Af ?_))
 refine Aa f Z λa f=>AP underlying49 f Z Z h0 λa f=>Aa f Z λa f=>Ab ?_
 have⟨aa,ab,hd⟩:=bind_some hd
 refine AE (λa w=>∃q_19':Unit,aa= .inl q_19'∧∃(ac:GH),GLe G ac∧Fr a 19 []∧Mem W ac w (H)) ?_ ?_
 ·refine Ak ?_
  refine Az (λad a w=>∃ae:Int,ae=ad∧∃(af:GH),GLe G af∧Fr a 19 [(0,v0),(1,(iv x1)),(7,(iv (x0.length:Int))),(8,(iv ae))]∧Mem W af w (H)) ab ⟨_,Z,_,gr,f.k Z,m⟩ ?_
  clear ab f m
  rintro ad ag ah ai a w ⟨ae,rfl,af,aj,f,m⟩
  have h0:=rd1 aj h0
  refine Af ?_
  refine Ah f Z Z Aw λa f=>Ab (Ag ?_)
  rcases Ae ah with⟨ak,ah⟩|⟨ak,ah⟩
  ·refine Al f Z ak ?_
   refine Am ?_
   refine Ag (Ak (Af ?_))
   refine Aa f Z λa f=>Ac f Z λa f=>Au ?_
   refine Aa f Z λa f=>Aa f Z λa f=>Aa f Z λa f=> ?_
   have⟨al,am,ah⟩:=bind_some ah
   refine A8 T49 f Z Z Z h0 am λan ao a ap aq f=> ?_
   subst aq
   refine AF m Pl2 f Z Z ap λa f=>Ah f Z Z BO λa f=>Ab ?_
   rcases Ae ah with⟨ar,ah⟩|⟨ar,ah⟩
   ·refine Al f Z ar ?_
    refine Af ?_
    refine Aa f Z λa f=>Ac f Z λa f=>Ab ?_
    refine Aq ?_
    obtain rfl:=sj ah
    obtain rfl:=ai _ rfl
    obtain rfl:=sj hd
    exact⟨[(iv ae)],f.g Z,f.d,_,[],aj,m,Z,Z⟩
   ·refine Ai f Z ar ?_
    refine Am ?_
    refine An ?_
    refine Ah f Z Z Av λa f=>Aa f Z λa f=>Ab ?_
    obtain rfl:=sj ah
    exact⟨_,Z,_,Z,_,aj,f.k Z,m⟩
  ·refine Ai f Z ak ?_
   refine Ax Z ?_
   obtain rfl:=sj ah
   obtain rfl:=ai _ rfl
   exact⟨_,Z,_,aj,f.weak trivial,m⟩
 ·rintro a w ⟨_,rfl,ac,au,f,m⟩
  refine Af ?_
  refine Ac f Z λa f=>Ab ?_
  refine Aq ?_
  obtain rfl:=sj hd
  exact⟨[(iv (-1))],f.g Z,f.d,_,[],au,m,Z,Z⟩
theorem Wk.K {v0:Value}{x0:LI}{x1:Int}(m:Mem W G w (H))(h0:R1 G v0 x0){y:Bool}(hd:D.K x0 x1=some y):
  Calls prog 65 #[v0,(iv x1)] w (Res W G H (λ_ Ho v=>Ho=[]∧v=(.bool y))):=by
 refine As (args:=[v0,(iv x1)]) (N:=9) [.tmp 4] func65 Z Z (lb Z) Z λa f=> ?_
 unfold D.K at hd
 refine Af ?_
 refine Ac f Z λa f=>Au ?_
 refine Aa f Z λa f=>Aa f Z λa f=> ?_
 have⟨aa,ab,hd⟩:=bind_some hd
 refine Ba f Z call90 (Wk.z0 m h0 ab) λac w ad m a f=>Ah f Z Z BW λa f=>Ac f Z λa f=>Ab ?_
 refine Aq ?_
 obtain rfl:=sj hd
 exact⟨[(.bool (decide ((0:Int)≤aa)))],f.g Z,f.d,_,[],ad,m,Z,Z⟩
theorem Wk.A0 {x0:Int}(hW:Bn W)(m:Mem W G w (H)){y:Int}(hd:D.A0 x0=some y):
  Calls prog 109 #[(.int .u32 x0)] w (Res W G H (λ_ Ho v=>Ho=[]∧v=(iv y))):=by
 refine As (args:=[(.int .u32 x0)]) (N:=14) [.tmp 2] func109 Z Z (lb Z) Z λa f=> ?_
 unfold D.A0 at hd
 refine Af ?_
 refine Ac f Z λa f=>Ab (Ag (Af ?_))
 refine Aa f Z λa f=>Ah f Z Z BO λa f=>Ab ?_
 rcases Ae hd with⟨aa,hd⟩|⟨aa,hd⟩
 ·refine Al f Z aa ?_
  refine Af ?_
  refine Ac f Z λa f=>Ab ?_
  refine Aq ?_
  obtain rfl:=sj hd
  exact⟨[(iv 32)],f.g Z,f.d,_,[],gr,m,Z,Z⟩
 ·refine Ai f Z aa ?_
  refine Am ?_
  refine Af ?_
  refine Aa f Z λa f=>Aa f Z λa f=>l_o f (r_neg (f.e Z)) λa f=>Ah f Z Z b_and λa f=>Ah f Z Z b_mul λa f=>l_o f (r_shr (f.e Z) (f.e Z) (by decide)) λa f=> ?_
  have⟨ab,ac,hd⟩:=bind_some hd
  refine l_tab hW m underlying134 sizeOf5 f Z Z ac λad a ae f=>AF m Pl5 f Z Z ae λa f=>l_o f (r_conv (f.e Z) ⟨_,underlying5⟩ underlying3) λa f=>Ac f Z λa f=>Ab ?_
  refine Aq ?_
  obtain rfl:=sj hd
  exact⟨[(iv (i64.wrap ab))],f.g Z,f.d,_,[],gr,m,Z,Z⟩
theorem Wk.N {x0:Int}(m:Mem W G w (H)){y:Int}(hd:D.N x0=some y):
  Calls prog 126 #[(iv x0)] w (Res W G H (λ_ Ho v=>Ho=[]∧v=(.int .u64 y))):=by
 refine As (args:=[(iv x0)]) (N:=7) [.tmp 2] func126 Z Z (lb Z) Z λa f=> ?_
 unfold D.N at hd
 refine Af ?_
 refine Ac f Z λa f=>Au ?_
 refine Aa f Z λa f=>l_o f (r_conv (f.e Z) ⟨_,underlying3⟩ underlying62) λa f=> ?_
 have⟨aa,ab,hd⟩:=bind_some hd
 refine AM f Z call97 (Wk.y m ab) λac ad ae w af m ag a f=> ?_
 obtain⟨rfl,rfl⟩:=ag
 obtain⟨ah,hd⟩:=Dx hd
 refine l_o f (r_shl (f.e Z) (f.e Z) ah) λa f=>Ac f Z λa f=>Ab ?_
 refine Aq ?_
 obtain rfl:=sj hd
 exact⟨[(.int .u64 (ishl .u64 1 aa))],f.g Z,f.d,_,[],af,m,Z,Z⟩
theorem Wk.l0 {b0:Nat}{aa:Int}(m:Mem W G w (ib b0 135 [(.int .u64 aa)]::H)){y:Int×Int}(hd:D.l0 aa=some y):
  Calls prog 127 #[(pb b0)] w (Res W G H (λ_ Ho v=>Ho=[ib b0 135 [(.int .u64 y.2)]]∧v=(.int .u64 y.1))):=by
 refine As (args:=[(pb b0)]) (N:=33) [.tmp 2] func127 Z Z (lb Z) Z λa f=> ?_
 unfold D.l0 at hd
 refine Af ?_
 refine Ac f Z λa f=>Ab (Ag ?_)
 refine A6 9 AI (by kernel_rfl) m ?_
 refine Aj 0 9 Z f Z λa f=>q_p 1 9 Z f (λ_=>Bl (f.e Z)) λa f=>q_bc 2 9 0 Pl135 Z Z Z f Z λa f=>Aj 3 9 Z f Z λa f=>q_p 4 9 Z f (λ_=>Bl (f.e Z)) λa f=>q_bc 5 9 0 Pl135 Z Z Z f Z λa f=>q_p 6 9 Z f (λ_=>r_shl (f.e Z) (f.e Z) (by decide)) λa f=>q_p 7 9 Z f (λ_=>AH (f.e Z) (f.e Z) b_xor) λa f=>q_p 8 9 Z f (λ_=>Bl (f.e Z)) λa f=>A2 λab w ac m=>BP 0 0 (ds:=[(.int .u64 (AS .u64 aa (ishl .u64 aa 13)))]) m sizeOf135 f Z Z Z (B2 Z Ci) Z (lb Z) Z λw m=>Ab (Ag ?_)
 refine A6 9 AI (by kernel_rfl) m ?_
 refine Aj 0 9 Z f Z λa f=>q_p 1 9 Z f (λ_=>Bl (f.e Z)) λa f=>q_bc 2 9 0 Pl135 Z Z Z f Z λa f=>Aj 3 9 Z f Z λa f=>q_p 4 9 Z f (λ_=>Bl (f.e Z)) λa f=>q_bc 5 9 0 Pl135 Z Z Z f Z λa f=>q_p 6 9 Z f (λ_=>r_shr (f.e Z) (f.e Z) (by decide)) λa f=>q_p 7 9 Z f (λ_=>AH (f.e Z) (f.e Z) b_xor) λa f=>q_p 8 9 Z f (λ_=>Bl (f.e Z)) λa f=>A2 λad w ae m=>BP 0 0 (ds:=[(.int .u64 (AS .u64 (AS .u64 aa (ishl .u64 aa 13)) (BR .u64 (AS .u64 aa (ishl .u64 aa 13)) 7)))]) m sizeOf135 f Z Z Z (B2 Z Ci) Z (lb Z) Z λw m=>Ab (Ag ?_)
 refine A6 9 AI (by kernel_rfl) m ?_
 refine Aj 0 9 Z f Z λa f=>q_p 1 9 Z f (λ_=>Bl (f.e Z)) λa f=>q_bc 2 9 0 Pl135 Z Z Z f Z λa f=>Aj 3 9 Z f Z λa f=>q_p 4 9 Z f (λ_=>Bl (f.e Z)) λa f=>q_bc 5 9 0 Pl135 Z Z Z f Z λa f=>q_p 6 9 Z f (λ_=>r_shl (f.e Z) (f.e Z) (by decide)) λa f=>q_p 7 9 Z f (λ_=>AH (f.e Z) (f.e Z) b_xor) λa f=>q_p 8 9 Z f (λ_=>Bl (f.e Z)) λa f=>A2 λaf w ag m=>BP 0 0 (ds:=[(.int .u64 (AS .u64 (AS .u64 (AS .u64 aa (ishl .u64 aa 13)) (BR .u64 (AS .u64 aa (ishl .u64 aa 13)) 7)) (ishl .u64 (AS .u64 (AS .u64 aa (ishl .u64 aa 13)) (BR .u64 (AS .u64 aa (ishl .u64 aa 13)) 7)) 17)))]) m sizeOf135 f Z Z Z (B2 Z Ci) Z (lb Z) Z λw m=>Au ?_
 refine Aa f Z λa f=>l_o f (Bl (f.e Z)) λa f=>AW 0 0 m Pl135 f Z Z Z Z λa f=>Ac f Z λa f=>Ab ?_
 refine Aq ?_
 obtain rfl:=sj hd
 exact⟨[(.int .u64 (AS .u64 (AS .u64 (AS .u64 aa (ishl .u64 aa 13)) (BR .u64 (AS .u64 aa (ishl .u64 aa 13)) 7)) (ishl .u64 (AS .u64 (AS .u64 aa (ishl .u64 aa 13)) (BR .u64 (AS .u64 aa (ishl .u64 aa 13)) 7)) 17)))],f.g Z,f.d,_,[ib b0 135 [(.int .u64 (AS .u64 (AS .u64 (AS .u64 aa (ishl .u64 aa 13)) (BR .u64 (AS .u64 aa (ishl .u64 aa 13)) 7)) (ishl .u64 (AS .u64 (AS .u64 aa (ishl .u64 aa 13)) (BR .u64 (AS .u64 aa (ishl .u64 aa 13)) 7)) 17)))]],(gt ac (gt ae ag)),m,Z,Z⟩
theorem Wk.L {x0:Int}(m:Mem W G w (H)){y:Bool}(hd:D.L x0=some y):
  Calls prog 130 #[(iv x0)] w (Res W G H (λ_ Ho v=>Ho=[]∧v=(.bool y))):=by
 refine As (args:=[(iv x0)]) (N:=6) [.tmp 2] func130 Z Z (lb Z) Z λa f=> ?_
 unfold D.L at hd
 refine Af ?_
 refine Ac f Z λa f=>Au ?_
 refine Aa f Z λa f=>Aa f Z λa f=>Ah f Z Z B5 λa f=>Ac f Z λa f=>Ab ?_
 refine Aq ?_
 obtain rfl:=sj hd
 exact⟨[(.bool (x0 !=x0))],f.g Z,f.d,_,[],gr,m,Z,Z⟩
theorem Wk.Q {x0 x1:Int}(m:Mem W G w (H)){y:Int}(hd:D.Q x0 x1=some y):
  Calls prog 120 #[(iv x0),(iv x1)] w (Res W G H (λ_ Ho v=>Ho=[]∧v=(iv y))):=by
 refine As (args:=[(iv x0),(iv x1)]) (N:=20) [.tmp 4] func120 Z Z (lb Z) Z λa f=> ?_
 unfold D.Q at hd
 refine Af ?_
 refine Ac f Z λa f=>Au ?_
 refine Aa f Z λa f=> ?_
 have⟨aa,ab,hd⟩:=bind_some hd
 refine Ba f Z call130 (Wk.L m ab) λac w ad m a f=>Ac f Z λa f=>Au ?_
 refine Aa f Z λa f=> ?_
 have⟨ae,af,hd⟩:=bind_some hd
 refine Ba f Z call130 (Wk.L m af) λag w ah m a f=>Ac f Z λa f=>Ab (Ag (Af ?_))
 refine Aa f Z λa f=>Ab ?_
 rcases Ae hd with⟨ai,hd⟩|⟨ai,hd⟩
 ·refine Al f Z ai ?_
  refine Ag (Af ?_)
  refine Aa f Z λa f=>Ab ?_
  rcases Ae hd with⟨aj,hd⟩|⟨aj,hd⟩
  ·refine Al f Z aj ?_
   refine Af ?_
   refine Ac f Z λa f=>Ab ?_
   refine Aq ?_
   obtain rfl:=sj hd
   exact⟨[(iv 0)],f.g Z,f.d,_,[],(gt ad ah),m,Z,Z⟩
  ·refine Ai f Z aj ?_
   refine Am ?_
   refine Af ?_
   refine Ac f Z λa f=>Ab ?_
   refine Aq ?_
   obtain rfl:=sj hd
   exact⟨[(iv (-1))],f.g Z,f.d,_,[],(gt ad ah),m,Z,Z⟩
 ·refine Ai f Z ai ?_
  refine Am ?_
  refine Ag (Af ?_)
  refine Aa f Z λa f=>Ab ?_
  rcases Ae hd with⟨ak,hd⟩|⟨ak,hd⟩
  ·refine Al f Z ak ?_
   refine Af ?_
   refine Ac f Z λa f=>Ab ?_
   refine Aq ?_
   obtain rfl:=sj hd
   exact⟨[(iv 1)],f.g Z,f.d,_,[],(gt ad ah),m,Z,Z⟩
  ·refine Ai f Z ak ?_
   refine Am ?_
   refine Ag (Af ?_)
   refine Aa f Z λa f=>Aa f Z λa f=>Ah f Z Z Aw λa f=>Ab ?_
   rcases Ae hd with⟨al,hd⟩|⟨al,hd⟩
   ·refine Al f Z al ?_
    refine Af ?_
    refine Ac f Z λa f=>Ab ?_
    refine Aq ?_
    obtain rfl:=sj hd
    exact⟨[(iv (-1))],f.g Z,f.d,_,[],(gt ad ah),m,Z,Z⟩
   ·refine Ai f Z al ?_
    refine Am ?_
    refine Ag (Af ?_)
    refine Aa f Z λa f=>Aa f Z λa f=>Ah f Z Z Cw λa f=>Ab ?_
    rcases Ae hd with⟨am,hd⟩|⟨am,hd⟩
    ·refine Al f Z am ?_
     refine Af ?_
     refine Ac f Z λa f=>Ab ?_
     refine Aq ?_
     obtain rfl:=sj hd
     exact⟨[(iv 1)],f.g Z,f.d,_,[],(gt ad ah),m,Z,Z⟩
    ·refine Ai f Z am ?_
     refine Am ?_
     refine Af ?_
     refine Ac f Z λa f=>Ab ?_
     refine Aq ?_
     obtain rfl:=sj hd
     exact⟨[(iv 0)],f.g Z,f.d,_,[],(gt ad ah),m,Z,Z⟩
theorem Wk.n0 {v0 v1:Value}{x0 x1:LI}(m:Mem W G w (H))(h0:R1 G v0 x0)(h1:R1 G v1 x1){y:Int}(hd:D.n0 x0 x1=some y):
  Calls prog 98 #[v0,v1] w (Res W G H (λ_ Ho v=>Ho=[]∧v=(iv y))):=by
 refine As (args:=[v0,v1]) (N:=36) [.tmp 4] func98 Z Z (lb Z) Z λa f=> ?_
 unfold D.n0 at hd
 refine Af ?_
 refine Ac f Z λa f=>Ab (Ag (Af ?_))
 refine Aa f Z λa f=>AP underlying71 f Z Z h0 λa f=>Aa f Z λa f=>Ab ?_
 have⟨aa,ab,hd⟩:=bind_some hd
 refine AE (λa w=>∃q_47':Unit,aa= .inl q_47'∧∃(ac:GH),GLe G ac∧Fr a 36 [(0,v0),(1,v1)]∧Mem W ac w (H)) ?_ ?_
 ·refine Ak ?_
  refine Az (λad a w=>∃ae:Int,ae=ad∧∃(af:GH),GLe G af∧Fr a 36 [(0,v0),(1,v1),(9,v0),(10,(iv (x0.length:Int))),(11,(iv ae))]∧Mem W af w (H)) ab ⟨_,Z,_,gr,f.k Z,m⟩ ?_
  clear ab f m
  rintro ad ag ah ai a w ⟨ae,rfl,af,aj,f,m⟩
  have h0:=rd1 aj h0
  have h1:=rd1 aj h1
  refine Af ?_
  refine Ah f Z Z Aw λa f=>Ab (Ag ?_)
  rcases Ae ah with⟨ak,ah⟩|⟨ak,ah⟩
  ·refine Al f Z ak ?_
   refine Am ?_
   refine Ag (Ak (Af ?_))
   refine Aa f Z λa f=> ?_
   have⟨al,am,ah⟩:=bind_some ah
   refine A8 T71 f Z Z Z h0 am λan ao a ap aq f=> ?_
   subst aq
   refine AF m Pl3 f Z Z ap λa f=>Ac f Z λa f=>Ac f Z λa f=>Ab (Ag (Af ?_))
   refine Aa f Z λa f=>Aa f Z λa f=>AP underlying71 f Z Z h1 λa f=>Ah f Z Z BW λa f=>Ab ?_
   rcases Ae ah with⟨ar,ah⟩|⟨ar,ah⟩
   ·refine Al f Z ar ?_
    refine Af ?_
    refine Ac f Z λa f=>Ab ?_
    refine Aq ?_
    obtain rfl:=sj ah
    obtain rfl:=ai _ rfl
    obtain rfl:=sj hd
    exact⟨[(iv 1)],f.g Z,f.d,_,[],aj,m,Z,Z⟩
   ·refine Ai f Z ar ?_
    refine Am ?_
    refine Af ?_
    refine Aa f Z λa f=>Aa f Z λa f=> ?_
    have⟨au,av,ah⟩:=bind_some ah
    refine A8 T71 f Z Z Z h1 av λaw ax a ay az f=> ?_
    subst az
    refine AF m Pl3 f Z Z ay λa f=>Ac f Z λa f=>Au ?_
    refine Aa f Z λa f=>Aa f Z λa f=> ?_
    have⟨aA,aB,ah⟩:=bind_some ah
    refine Ba f Z call120 (Wk.Q m aB) λaC w aD m a f=>Ac f Z λa f=>Au ?_
    refine Aa f Z λa f=>Ah f Z Z B5 λa f=>Ab ?_
    rcases Ae ah with⟨aE,ah⟩|⟨aE,ah⟩
    ·refine Al f Z aE ?_
     refine Af ?_
     refine Aa f Z λa f=>Ac f Z λa f=>Ab ?_
     refine Aq ?_
     obtain rfl:=sj ah
     obtain rfl:=ai _ rfl
     obtain rfl:=sj hd
     exact⟨[(iv aA)],f.g Z,f.d,_,[],(gt aj aD),m,Z,Z⟩
    ·refine Ai f Z aE ?_
     refine Am ?_
     refine An ?_
     refine Ah f Z Z Av λa f=>Aa f Z λa f=>Ab ?_
     obtain rfl:=sj ah
     exact⟨_,Z,_,Z,_,(gt aj aD),f.k Z,m⟩
  ·refine Ai f Z ak ?_
   refine Ax Z ?_
   obtain rfl:=sj ah
   obtain rfl:=ai _ rfl
   exact⟨_,Z,_,aj,f.k Z,m⟩
 ·rintro a w ⟨_,rfl,ac,aF,f,m⟩
  have h0:=rd1 aF h0
  have h1:=rd1 aF h1
  refine Ag (Af ?_)
  refine Aa f Z λa f=>AP underlying71 f Z Z h0 λa f=>Aa f Z λa f=>AP underlying71 f Z Z h1 λa f=>Ah f Z Z Aw λa f=>Ab ?_
  rcases Ae hd with⟨aG,hd⟩|⟨aG,hd⟩
  ·refine Al f Z aG ?_
   refine Af ?_
   refine Ac f Z λa f=>Ab ?_
   refine Aq ?_
   obtain rfl:=sj hd
   exact⟨[(iv (-1))],f.g Z,f.d,_,[],aF,m,Z,Z⟩
  ·refine Ai f Z aG ?_
   refine Am ?_
   refine Af ?_
   refine Ac f Z λa f=>Ab ?_
   refine Aq ?_
   obtain rfl:=sj hd
   exact⟨[(iv 0)],f.g Z,f.d,_,[],aF,m,Z,Z⟩
end Go.Proofs.YtjhajfcggfhbmaaDoor

set_option maxRecDepth 100000
namespace Go.Proofs.YtjhajfcggfhbmaaDoor
open Go Go.Sx
open Go.Proofs.Tryd Go.Proofs.YtjhajfcggfhbmaaDoor.Tryd IntKind
variable {W w : World} {G : GH} {H : List Itm}
theorem Bt :BC prog 49:=isAgg49
theorem T22 :SlT prog 22 49 1 24 sn:=⟨underlying22,Tryd.t49,by kernel_rfl,by kernel_rfl,by kernel_rfl,by kernel_rfl⟩
theorem BG :BC prog 22:=isAgg22
theorem CO :Agg prog 27 1:=⟨isAgg27,sizeOf27⟩
theorem Wk.k {v0:Value}{x0:LI}{x1:Int}(m:Mem W G w (H))(h0:R1 G v0 x0){y:Int}(hd:D.k x0 x1=some y):
  Calls prog 52 #[v0,(iv x1)] w (Res W G H (λ_ Ho v=>Ho=[]∧v=(iv y))):=by
 refine As (args:=[v0,(iv x1)]) (N:=12) [.tmp 4] func52 Z Z (lb Z) Z λa f=> ?_
 unfold D.k at hd
 refine Af ?_
 refine Ac f Z λa f=>Au ?_
 refine Aa f Z λa f=>Aa f Z λa f=>AP underlying49 f Z Z h0 λa f=>Ah f Z Z AL λa f=>Ac f Z λa f=>Ab (Ag (Af ?_))
 refine Aa f Z λa f=>Ah f Z Z Aw λa f=>Ab ?_
 rcases Ae hd with⟨aa,hd⟩|⟨aa,hd⟩
 ·refine Al f Z aa ?_
  refine Af ?_
  refine Ac f Z λa f=>Ab ?_
  refine Aq ?_
  obtain rfl:=sj hd
  exact⟨[(iv (-1))],f.g Z,f.d,_,[],gr,m,Z,Z⟩
 ·refine Ai f Z aa ?_
  refine Am ?_
  refine Af ?_
  refine Aa f Z λa f=>Ac f Z λa f=>Ab ?_
  refine Aq ?_
  obtain rfl:=sj hd
  exact⟨[(iv (i64.wrap (x1-(x0.length:Int))))],f.g Z,f.d,_,[],gr,m,Z,Z⟩
theorem Wk.V {v0:Value}{x0:LL}{x1:Int}(m:Mem W G w (H))(h0:R2 G v0 x0){y:Int}(hd:D.V x0 x1=some y):
  Calls prog 25 #[v0,(iv x1)] w (Res W G H (λ_ Ho v=>Ho=[]∧v=(iv y))):=by
 refine As (args:=[v0,(iv x1)]) (N:=27) [.tmp 4] func25 Z Z (lb Z) Z λa f=> ?_
 unfold D.V at hd
 refine Af ?_
 refine Ac f Z λa f=>Au ?_
 refine Aa f Z λa f=>Aa f Z λa f=>AP underlying22 f Z Z h0 λa f=>Ah f Z Z AL λa f=>Ac f Z λa f=>Ab (Ag (Af ?_))
 refine Aa f Z λa f=>Ah f Z Z Aw λa f=>Ab ?_
 rcases Ae hd with⟨aa,hd⟩|⟨aa,hd⟩
 ·refine Al f Z aa ?_
  refine Af ?_
  refine Ac f Z λa f=>Ab ?_
  refine Aq ?_
  obtain rfl:=sj hd
  exact⟨[(iv (-1))],f.g Z,f.d,_,[],gr,m,Z,Z⟩
 ·refine Ai f Z aa ?_
  refine Am ?_
  refine Ag (Af ?_)
  refine Ac f Z λa f=>Ab ?_
  have⟨ab,ac,hd⟩:=bind_some hd
  refine AE (λa w=>∃q_35':Int,ab= .inl q_35'∧∃ad:Int,ad=q_35'∧∃(ae:GH),GLe G ae∧Fr a 27 [(1,(iv ad))]∧Mem W ae w (H)) ?_ ?_
  ·refine Ak ?_
   refine Az (λaf a w=>∃ag:Int,∃ah:Int,(ag,ah)=af∧∃(ai:GH),GLe G ai∧Fr a 27 [(0,v0),(1,(iv ag)),(5,(iv ah))]∧Mem W ai w (H)) ac ⟨_,_,Z,_,gr,f.k Z,m⟩ ?_
   clear ac f m
   rintro af aj ak al a w ⟨ag,ah,rfl,ai,am,f,m⟩
   have h0:=rd2 am h0
   refine Ag (Af ?_)
   refine Aa f Z λa f=>Aa f Z λa f=>AP underlying22 f Z Z h0 λa f=>Ah f Z Z Aw λa f=>Ab ?_
   rcases Ae ak with⟨an,ak⟩|⟨an,ak⟩
   ·refine Al f Z an ?_
    refine Am ?_
    refine Ag (Ak (Af ?_))
    refine Aa f Z λa f=>Aa f Z λa f=> ?_
    have⟨ao,ap,ak⟩:=bind_some ak
    refine A8 T22 f Z Z Z h0 ap λaq ar a au av f=>AF m Bt f Z Z au λa f=>Aa f Z λa f=> ?_
    have⟨aw,ax,ak⟩:=bind_some ak
    refine Ba f Z call52 (Wk.k m av ax) λay w az m a f=>Ac f Z λa f=>Au ?_
    refine Aa f Z λa f=>Ah f Z Z Aw λa f=>Ab ?_
    rcases Ae ak with⟨aA,ak⟩|⟨aA,ak⟩
    ·refine Al f Z aA ?_
     refine Af ?_
     refine Ac f Z λa f=>Ab ?_
     refine Aq ?_
     obtain rfl:=sj ak
     obtain rfl:=al _ rfl
     obtain rfl:=sj hd
     exact⟨[(iv (-1))],f.g Z,f.d,_,[],(gt am az),m,Z,Z⟩
    ·refine Ai f Z aA ?_
     refine Am ?_
     refine An ?_
     refine Aa f Z λa f=>Ah f Z Z Av λa f=>Ac f Z λa f=>Ab ?_
     obtain rfl:=sj ak
     exact⟨_,Z,_,_,Z,_,(gt am az),f.k Z,m⟩
   ·refine Ai f Z an ?_
    refine Ax Z ?_
    obtain rfl:=sj ak
    obtain rfl:=al _ rfl
    exact⟨_,Z,_,Z,_,am,f.k Z,m⟩
  ·rintro a w ⟨_,rfl,ad,rfl,ae,aB,f,m⟩
   refine Af ?_
   refine Aa f Z λa f=>Ac f Z λa f=>Ab ?_
   refine Aq ?_
   obtain rfl:=sj hd
   exact⟨[(iv ad)],f.g Z,f.d,_,[],aB,m,Z,Z⟩
theorem Wk.o0 {aa:Value}{ab:LL}{x1:Int}(m:Mem W G w (H))(ac:R2 G aa ab){y:Int}(hd:D.o0 ab x1=some y):
  Calls prog 6 #[(.agg #[aa]),(iv x1)] w (Res W G H (λ_ Ho v=>Ho=[]∧v=(iv y))):=by
 refine As (args:=[(.agg #[aa]),(iv x1)]) (N:=12) [.tmp 4] func6 Z Z (lb Z) Z λa f=> ?_
 unfold D.o0 at hd
 refine Af ?_
 refine B6 (cs:=[aa]) m f Z Z Z λad w a m f=>Ac f Z λa f=>Au ?_
 refine BM underlying24 Z sizeOf22 f Z λa f=>AW 0 0 m BG f Z Z Z Z λa f=>Aa f Z λa f=> ?_
 have⟨ae,af,hd⟩:=bind_some hd
 refine Ba f Z call25 (Wk.V m ac af) λag w ah m a f=>Ac f Z λa f=>Ab (Ag (Af ?_))
 refine Aa f Z λa f=>Ah f Z Z Aw λa f=>Ab ?_
 rcases Ae hd with⟨ai,hd⟩|⟨ai,hd⟩
 ·refine Al f Z ai ?_
  refine Af ?_
  refine Ac f Z λa f=>Ab ?_
  refine Aq ?_
  have m:Mem W ag w H:=Mem.drop (H':=[ib ad 24 [aa]]) m
  obtain rfl:=sj hd
  exact⟨[(iv (-1))],f.g Z,f.d,_,[],ah,m,Z,Z⟩
 ·refine Ai f Z ai ?_
  refine Am ?_
  refine Af ?_
  refine Aa f Z λa f=>Ac f Z λa f=>Ab ?_
  refine Aq ?_
  have m:Mem W ag w H:=Mem.drop (H':=[ib ad 24 [aa]]) m
  obtain rfl:=sj hd
  exact⟨[(iv ae)],f.g Z,f.d,_,[],ah,m,Z,Z⟩
theorem Wk.n {v0:Value}{x0:LI}(m:Mem W G w (H))(h0:R1 G v0 x0){y:(LI)}(hd:D.n x0=some y):
  Calls prog 63 #[v0] w (Res W G H (λG' Ho v=>∃r0:Value,∃i0:Itm,Ho=[i0]∧r0=v∧Ow R0 2 G' i0 r0 y)):=by
 refine As (args:=[v0]) (N:=22) [.tmp 2] func63 Z Z (lb Z) Z λa f=> ?_
 unfold D.n at hd
 refine Af ?_
 refine Ac f Z λa f=>Au ?_
 refine Aa f Z λa f=>AP underlying49 f Z Z h0 λa f=> ?_
 have⟨aa,ab,hd⟩:=bind_some hd
 refine l_make (R:=R0) m T49 Z (by decide) Z f Z Z Z ab λac ad w a m ae f=>Ac f Z λa f=>Ab (Ag (Af ?_))
 refine Ac f Z λa f=>Ab ?_
 have⟨af,ag,hd⟩:=bind_some hd
 refine AE (λa w=>∃ah:LI,ah=af∧∃(ai:GH) (aj:Itm),GLe G ai∧Fr a 22 [(3,ad)]∧Mem W ai w (aj::H)∧Ow R0 2 ai aj ad ah) ?_ ?_
 ·refine Ak ?_
  refine Az (λak a w=>∃al:LI,∃am:Int,(al,am)=ak∧∃(an:GH) (ao:Itm),GLe G an∧Fr a 22 [(0,v0),(3,ad),(4,(iv am))]∧Mem W an w (ao::H)∧Ow R0 2 an ao ad al) ag ⟨_,_,Z,_,ac,gr,f.k Z,m,ae⟩ ?_
  clear ag f m
  rintro ak ap aq ar a w ⟨al,am,rfl,an,ao,au,f,m,av⟩
  have h0:=rd1 au h0
  refine Ag (Af ?_)
  refine Aa f Z λa f=>Aa f Z λa f=>AP underlying49 f Z Z h0 λa f=>Ah f Z Z Aw λa f=>Ab ?_
  rcases Ae aq with⟨aw,aq⟩|⟨aw,aq⟩
  ·refine Al f Z aw ?_
   refine Am ?_
   refine Ag (Ak (An ?_))
   refine Aa f Z λa f=>Aa f Z λa f=>Aa f Z λa f=>Aa f Z λa f=> ?_
   have⟨ax,ay,aq⟩:=bind_some aq
   refine A8 T49 f Z Z Z h0 ay λaz aA a aB aC f=> ?_
   subst aC
   refine AF m Pl2 f Z Z aB λa f=> ?_
   have⟨aD,aE,aq⟩:=bind_some aq
   refine A4 0 m av Z T49 f Z Z Z aE λaF a aG f=>AB 0 m av Z sizeOf2 f Z Z aG aE Z Z Z λaH w m aI=>Ab (An ?_)
   refine Aa f Z λa f=>Ah f Z Z Av λa f=>Ac f Z λa f=>Ab ?_
   obtain rfl:=sj aq
   exact⟨_,Z,_,_,Z,_,aH,au,f.k Z,m,aI⟩
  ·refine Ai f Z aw ?_
   refine Ax Z ?_
   obtain rfl:=sj aq
   obtain rfl:=ar _ rfl
   exact⟨_,Z,_,ao,au,f.k Z,m,av⟩
 ·rintro a w ⟨ah,rfl,ai,aj,aJ,f,m,aK⟩
  refine Af ?_
  refine Aa f Z λa f=>Ac f Z λa f=>Ab ?_
  refine Aq ?_
  obtain rfl:=sj hd
  exact⟨[ad],f.g Z,f.d,_,[aj],aJ,m,_,_,Z,Z,aK⟩
theorem Wk.R {v0:Value}{x0:LL}(m:Mem W G w (H))(h0:R2 G v0 x0){y:(LL)}(hd:D.R x0=some y):
  Calls prog 29 #[v0] w (Res W G H (λG' Ho v=>∃r0:Value,∃i0:Itm,Ho=[i0]∧r0=v∧Ow2 R0 49 2 G' i0 r0 y)):=by
 refine As (args:=[v0]) (N:=23) [.tmp 2] func29 Z Z (lb Z) Z λa f=> ?_
 unfold D.R at hd
 refine Af ?_
 refine Ac f Z λa f=>Au ?_
 refine Aa f Z λa f=>AP underlying22 f Z Z h0 λa f=> ?_
 have⟨aa,ab,hd⟩:=bind_some hd
 refine l_make2 (R:=R0) (t2:=2) m T22 (by decide) f Z Z Z ab λac ad w a m ae f=>Ac f Z λa f=>Ab (Ag (Af ?_))
 refine Ac f Z λa f=>Ab ?_
 have⟨af,ag,hd⟩:=bind_some hd
 refine AE (λa w=>∃ah:LL,ah=af∧∃(ai:GH) (aj:Itm),GLe G ai∧Fr a 23 [(3,ad)]∧Mem W ai w (aj::H)∧Ow2 R0 49 2 ai aj ad ah) ?_ ?_
 ·refine Ak ?_
  refine Az (λak a w=>∃al:LL,∃am:Int,(al,am)=ak∧∃(an:GH) (ao:Itm),GLe G an∧Fr a 23 [(0,v0),(3,ad),(4,(iv am))]∧Mem W an w (ao::H)∧Ow2 R0 49 2 an ao ad al) ag ⟨_,_,Z,_,ac,gr,f.k Z,m,ae⟩ ?_
  clear ag f m
  rintro ak ap aq ar a w ⟨al,am,rfl,an,ao,au,f,m,av⟩
  have h0:=rd2 au h0
  refine Ag (Af ?_)
  refine Aa f Z λa f=>Aa f Z λa f=>AP underlying22 f Z Z h0 λa f=>Ah f Z Z Aw λa f=>Ab ?_
  rcases Ae aq with⟨aw,aq⟩|⟨aw,aq⟩
  ·refine Al f Z aw ?_
   refine Am ?_
   refine Ag (Ak (An ?_))
   refine Aa f Z λa f=>Aa f Z λa f=>Aa f Z λa f=>Aa f Z λa f=> ?_
   have⟨ax,ay,aq⟩:=bind_some aq
   refine A8 T22 f Z Z Z h0 ay λaz aA a aB aC f=>AF m Bt f Z Z aB λa f=> ?_
   have⟨aD,aE,aq⟩:=bind_some aq
   refine AM f Z call63 (Wk.n m aC aE) λaF aG aH w aI m aJ a f=> ?_
   obtain⟨aK,aL,rfl,rfl,aM⟩:=aJ
   have av:=od2 aI av
   have⟨aN,aO,aq⟩:=bind_some aq
   refine l_own2_at 1 m av Z T22 f Z Z Z aO λaP a aQ f=> ?_
   have m:=m.fr 1
   refine l_own2_store m av aM sizeOf49 f Z Z aQ aO λaR w m aS=>Ab (An ?_)
   refine Aa f Z λa f=>Ah f Z Z Av λa f=>Ac f Z λa f=>Ab ?_
   obtain rfl:=sj aq
   exact⟨_,Z,_,_,Z,_,aR,(gt au aI),f.k Z,m,aS⟩
  ·refine Ai f Z aw ?_
   refine Ax Z ?_
   obtain rfl:=sj aq
   obtain rfl:=ar _ rfl
   exact⟨_,Z,_,ao,au,f.k Z,m,av⟩
 ·rintro a w ⟨ah,rfl,ai,aj,aT,f,m,aU⟩
  refine Af ?_
  refine Aa f Z λa f=>Ac f Z λa f=>Ab ?_
  refine Aq ?_
  obtain rfl:=sj hd
  exact⟨[ad],f.g Z,f.d,_,[aj],aT,m,_,_,Z,Z,aU⟩
theorem Wk.o {aa:Value}{ab:LL}(m:Mem W G w (H))(ac:R2 G aa ab){y:(LL)}(hd:D.o ab=some y):
  Calls prog 8 #[(.agg #[aa])] w (Res W G H (λG' Ho v=>∃r0:Value,∃i0:Itm,Ho=[i0]∧v=(.agg #[r0])∧Ow2 R0 49 2 G' i0 r0 y)):=by
 refine As (args:=[(.agg #[aa])]) (N:=9) [.cell 2 27] func8 Z Z (lb Z) Z λa f=> ?_
 unfold D.o at hd
 refine Af ?_
 refine B6 (cs:=[aa]) m f Z Z Z λad w a m f=>Dh (cs:=[sn]) zeroValue27 m f Z Z λae w a m f=>Au ?_
 refine Dh (cs:=[sn]) zeroValue27 m f Z Z λaf w a m f=>Au ?_
 refine BM underlying24 Z sizeOf22 f Z λa f=>AW 2 0 m BG f Z Z Z Z λa f=> ?_
 have⟨ag,ah,hd⟩:=bind_some hd
 refine AM f Z call29 (Wk.R m ac ah) λai aj ak w al m am a f=> ?_
 obtain⟨an,ao,rfl,rfl,ap⟩:=am
 refine BM underlying27 Z sizeOf22 f Z λa f=>BP 1 0 (ds:=[an]) m sizeOf22 f Z Z (Ow2.cells 0 m ap Z) (B2 (Ow2.one1 0 m ap Z) Ci) Z (lb Z) Z λw m=>Au ?_
 refine BL 1 0 (ds:=[an]) m CO f Z Z Z Z Z λa f=>BP 2 0 (ds:=[an]) m sizeOf27 f Z Z Z (B2 (Ow2.one1 0 m ap Z) Ci) Z (lb Z) Z λw m=>Ab ?_
 refine Aq ?_
 have aq:=rr_agg (P:=prog) 2 m CO f (s:=2) rfl rfl rfl
 have m:=m.eraseAt 3
 have m:=m.eraseAt 2
 have m:=m.eraseAt 1
 obtain rfl:=sj hd
 exact⟨[(.agg #[an])],⟨aq,trivial⟩,f.d,_,[ao],al,m,_,_,Z,Z,ap⟩
theorem Wk.s0 {aa:Value}{ab:LL}(m:Mem W G w (H))(ac:R2 G aa ab){y:Int}(hd:D.s0 ab=some y):
  Calls prog 53 #[(.agg #[aa])] w (Res W G H (λ_ Ho v=>Ho=[]∧v=(iv y))):=by
 refine As (args:=[(.agg #[aa])]) (N:=6) [.tmp 2] func53 Z Z (lb Z) Z λa f=> ?_
 unfold D.s0 at hd
 refine Af ?_
 refine B6 (cs:=[aa]) m f Z Z Z λad w a m f=>Ac f Z λa f=>Au ?_
 refine BM underlying27 Z sizeOf22 f Z λa f=>AW 0 0 m BG f Z Z Z Z λa f=>AP underlying22 f Z Z ac λa f=>Ac f Z λa f=>Ab ?_
 refine Aq ?_
 have m:Mem W G w H:=Mem.drop (H':=[ib ad 27 [aa]]) m
 obtain rfl:=sj hd
 exact⟨[(iv (ab.length:Int))],f.g Z,f.d,_,[],gr,m,Z,Z⟩
theorem Wk.c {x0 x1 x2:Int}(m:Mem W G w (H)){y:Bool}(hd:D.c x0 x1 x2=some y):
  Calls prog 54 #[(iv x0),(iv x1),(iv x2)] w (Res W G H (λ_ Ho v=>Ho=[]∧v=(.bool y))):=by
 refine As (args:=[(iv x0),(iv x1),(iv x2)]) (N:=15) [.tmp 6] func54 Z Z (lb Z) Z λa f=> ?_
 unfold D.c at hd
 refine Af ?_
 refine Ac f Z λa f=>Au ?_
 refine Aa f Z λa f=>Aa f Z λa f=>Ah f Z Z BW λa f=>Aa f Z λa f=> ?_
 refine BF 4 (λa w=>∃aa,GLe G aa∧Mem W aa w (H)∧Fr a 15 [(0,(iv x0)),(1,(iv x1)),(2,(iv x2)),(7,(iv x0)),(8,(iv x1)),(9,(.bool (decide (x1≤x0)))),(10,(.bool (decide (x1≤x0)))),(14,(.bool ((decide (x1≤x0))&&(decide (x0≤x2)))))]) ?_ ?_
 ·rcases Bool.eq_false_or_eq_true (decide (x1≤x0)) with ab|ab
  ·refine AC f ab ?_
   refine Aa f Z λa f=>AC f ab ?_
   refine Aa f Z λa f=>AC f ab ?_
   refine Ah f Z Z Cy λa f=>l_o f (AZ (f.e Z) ab (f.e Z)) λa f=> ?_
   exact⟨_,gr,m,f.weak ⟨Z,Z,Z,Z,Z,Z,Z,by rw[ab];rfl,trivial⟩⟩
  ·refine AD f ab λa f=> ?_
   refine AD f ab λa f=>AD f ab λa f=>l_o f (AY (f.e Z) ab (f.e Z)) λa f=> ?_
   exact⟨_,gr,m,f.weak ⟨Z,Z,Z,Z,Z,Z,Z,by rw[ab];rfl,trivial⟩⟩
 ·rintro a w ⟨aa,ac,m,f⟩
  refine Ac f Z λa f=>Ab ?_
  refine Aq ?_
  obtain rfl:=sj hd
  exact⟨[(.bool ((decide (x1≤x0))&&(decide (x0≤x2))))],f.g Z,f.d,_,[],ac,m,Z,Z⟩
theorem Wk.a0 {v0:Value}{x0:LI}{x1:Int}(m:Mem W G w (H))(h0:R1 G v0 x0){y:Bool}(hd:D.a0 x0 x1=some y):
  Calls prog 55 #[v0,(iv x1)] w (Res W G H (λ_ Ho v=>Ho=[]∧v=(.bool y))):=by
 refine As (args:=[v0,(iv x1)]) (N:=40) [.tmp 4] func55 Z Z (lb Z) Z λa f=> ?_
 unfold D.a0 at hd
 refine Af ?_
 refine Ac f Z λa f=>Ab (Ag (Af ?_))
 refine Aa f Z λa f=>AP underlying49 f Z Z h0 λa f=>Aa f Z λa f=>Ah f Z Z Cw λa f=>Ab ?_
 rcases Ae hd with⟨aa,hd⟩|⟨aa,hd⟩
 ·refine Al f Z aa ?_
  refine Af ?_
  refine Ac f Z λa f=>Ab ?_
  refine Aq ?_
  obtain rfl:=sj hd
  exact⟨[(.bool false)],f.g Z,f.d,_,[],gr,m,Z,Z⟩
 ·refine Ai f Z aa ?_
  refine Am ?_
  refine Ag (Af ?_)
  refine Ac f Z λa f=>Ab ?_
  have⟨ab,ac,hd⟩:=bind_some hd
  refine AE (λa w=>∃q_150':Unit,ab= .inl q_150'∧∃(ad:GH),GLe G ad∧Fr a 40 []∧Mem W ad w (H)) ?_ ?_
  ·refine Ak ?_
   refine Az (λae a w=>∃af:Int,af=ae∧∃(ag:GH),GLe G ag∧Fr a 40 [(0,v0),(1,(iv x1)),(5,(iv af))]∧Mem W ag w (H)) ac ⟨_,Z,_,gr,f.k Z,m⟩ ?_
   clear ac f m
   rintro ae ah ai aj a w ⟨af,rfl,ag,ak,f,m⟩
   have h0:=rd1 ak h0
   refine Ag (Af ?_)
   refine Aa f Z λa f=>Aa f Z λa f=>AP underlying49 f Z Z h0 λa f=>Ah f Z Z Aw λa f=>Ab ?_
   rcases Ae ai with⟨al,ai⟩|⟨al,ai⟩
   ·refine Al f Z al ?_
    refine Am ?_
    refine Ag (Ak (Ag ?_))
    refine A6 24 AI (by kernel_rfl) m ?_
    refine Aj 0 24 Z f Z λa f=>Aj 1 24 Z f Z λa f=> ?_
    have⟨am,an,ai⟩:=bind_some ai
    refine Cd 2 24 T49 h0 an Z f Z Z λao ap a aq ar f=> ?_
    subst ar
    refine Cb 3 24 Pl2 aq Z f Z λa f=>Aj 4 24 Z f Z λa f=>q_p 5 24 Z f (λ_=>AH (f.e Z) (f.e Z) AL) λa f=> ?_
    have⟨au,av,ai⟩:=bind_some ai
    refine q_call (i:=6) 24 Z (by kernel_rfl) Z f Z Z Z call54 (λ_ _ w aw m=>Wk.c m av) λa f=>q_p 7 24 Z f (λ_=>Bi (f.e Z)) λa f=>Aj 8 24 Z f Z λa f=> ?_
    have⟨ax,ay,ai⟩:=bind_some ai
    refine Cu (fuel':=0) (listed':= #[true,true,true,true,true,true,true,true,true,true,true,true,true,true,true,true,true,true,true,true,true,true,true,true]) (λa=>Fr a 40 [(0,v0),(1,(iv x1)),(5,(iv af)),(13,(.bool (decide (af<(x0.length:Int))))),(16,v0),(17,(iv af)),(18,ao),(19,(iv am)),(20,(iv x1)),(21,(iv (i64.wrap (x1-1)))),(22,(.bool au)),(23,(.bool (!au))),(24,(.bool (!au))),(39,(.bool ax))]) ?_ ?_
    ·intro a f
     refine A2 λaz w aA m=>Ab ?_
     rcases Ae ai with⟨aB,ai⟩|⟨aB,ai⟩
     ·refine Al f Z aB ?_
      refine Af ?_
      refine Ac f Z λa f=>Ab ?_
      refine Aq ?_
      obtain rfl:=sj ai
      obtain rfl:=aj _ rfl
      obtain rfl:=sj hd
      exact⟨[(.bool false)],f.g Z,f.d,_,[],(gt ak aA),m,Z,Z⟩
     ·refine Ai f Z aB ?_
      refine Am ?_
      refine An ?_
      refine Aa f Z λa f=>Ah f Z Z Av λa f=>Ac f Z λa f=>Ab ?_
      obtain rfl:=sj ai
      exact⟨_,Z,_,Z,_,(gt ak aA),f.k Z,m⟩
    ·intro aC
     rcases Ae ay with⟨aD,ay⟩|⟨aD,ay⟩
     ·refine Ar 9 24 Z f aD λa f=> ?_
      refine Ar 10 24 Z f aD λa f=>Ar 11 24 Z f aD λa f=>q_nu 12 24 Z f λa f=>q_nu 13 24 Z f λa f=>q_nu 14 24 Z f λa f=>q_nu 15 24 Z f λa f=>q_nu 16 24 Z f λa f=>q_nu 17 24 Z f λa f=>q_nu 18 24 Z f λa f=>q_nu 19 24 Z f λa f=>q_nu 20 24 Z f λa f=>q_nu 21 24 Z f λa f=>Ar 22 24 Z f aD λa f=>q_p 23 24 Z f (λ_=>AZ (f.e Z) aD (f.e Z)) λa f=> ?_
      obtain rfl:=sj ay
      exact aC _ (f.k Z)
     ·refine Aj (hw:=wo f aD) 9 24 Z f Z λa f=> ?_
      refine q_p (hw:=wo f aD) 10 24 Z f (λ_=>AH (f.e Z) (f.e Z) Cw) λa f=>Aj (hw:=wo f aD) 11 24 Z f Z λa f=> ?_
      have⟨aE,aF,ay⟩:=bind_some ay
      refine Cu (fuel':=1) (listed':= #[true,true,true,true,true,true,true,true,true,true,true,true,true,true,true,true,true,true,true,true,true,true,true,false]) (λa=>Fr a 40 [(0,v0),(1,(iv x1)),(5,(iv af)),(13,(.bool (decide (af<(x0.length:Int))))),(16,v0),(17,(iv af)),(18,ao),(19,(iv am)),(20,(iv x1)),(21,(iv (i64.wrap (x1-1)))),(22,(.bool au)),(23,(.bool (!au))),(24,(.bool (!au))),(25,(iv af)),(26,(.bool (decide ((0:Int)<af)))),(27,(.bool (decide ((0:Int)<af)))),(38,(.bool aE))]) ?_ ?_
      ·intro a f
       refine q_p 23 24 Z f (λ_=>AY (f.e Z) aD (f.e Z)) λa f=> ?_
       obtain rfl:=sj ay
       exact aC _ (f.k Z)
      ·intro aG
       rcases Ae aF with⟨aH,aF⟩|⟨aH,aF⟩
       ·refine Aj (hw:=wo f aH) 12 24 Z f Z λa f=> ?_
        refine Aj (hw:=wo f aH) 13 24 Z f Z λa f=> ?_
        have⟨aI,aJ,aF⟩:=bind_some aF
        refine Cd (hw:=wo f aH) 14 24 T49 h0 aJ Z f Z Z λaK aL a aM aN f=> ?_
        subst aN
        refine Cb (hw:=wo f aH) 15 24 Pl2 aM Z f Z λa f=>Aj (hw:=wo f aH) 16 24 Z f Z λa f=>Aj (hw:=wo f aH) 17 24 Z f Z λa f=>q_p (hw:=wo f aH) 18 24 Z f (λ_=>AH (f.e Z) (f.e Z) AL) λa f=> ?_
        have⟨aO,aP,aF⟩:=bind_some aF
        refine Cd (hw:=wo f aH) 19 24 T49 h0 aP Z f Z Z λaQ aR a aS aT f=> ?_
        subst aT
        refine Cb (hw:=wo f aH) 20 24 Pl2 aS Z f Z λa f=>q_p (hw:=wo f aH) 21 24 Z f (λ_=>AH (f.e Z) (f.e Z) Cy) λa f=>q_p (hw:=wo f aD) 22 24 Z f (λ_=>AZ (f.e Z) aH (f.e Z)) λa f=> ?_
        obtain rfl:=sj aF
        exact aG _ (f.k Z)
       ·refine Ar 12 24 Z f aH λa f=> ?_
        refine Ar 13 24 Z f aH λa f=>Ar 14 24 Z f aH λa f=>Ar 15 24 Z f aH λa f=>Ar 16 24 Z f aH λa f=>Ar 17 24 Z f aH λa f=>Ar 18 24 Z f aH λa f=>Ar 19 24 Z f aH λa f=>Ar 20 24 Z f aH λa f=>Ar 21 24 Z f aH λa f=>q_p (hw:=wo f aD) 22 24 Z f (λ_=>AY (f.e Z) aH (f.e Z)) λa f=> ?_
        obtain rfl:=sj aF
        exact aG _ (f.k Z)
   ·refine Ai f Z al ?_
    refine Ax Z ?_
    obtain rfl:=sj ai
    obtain rfl:=aj _ rfl
    exact⟨_,Z,_,ak,f.weak trivial,m⟩
  ·rintro a w ⟨_,rfl,ad,aU,f,m⟩
   refine Af ?_
   refine Ac f Z λa f=>Ab ?_
   refine Aq ?_
   obtain rfl:=sj hd
   exact⟨[(.bool true)],f.g Z,f.d,_,[],aU,m,Z,Z⟩
theorem Wk.d {v0:Value}{x0:LI}{x1:Int}(m:Mem W G w (H))(h0:R1 G v0 x0){y:Bool}(hd:D.d x0 x1=some y):
  Calls prog 56 #[v0,(iv x1)] w (Res W G H (λ_ Ho v=>Ho=[]∧v=(.bool y))):=by
 refine As (args:=[v0,(iv x1)]) (N:=18) [.tmp 4] func56 Z Z (lb Z) Z λa f=> ?_
 unfold D.d at hd
 refine Af ?_
 refine Ac f Z λa f=>Ab (Ag (Af ?_))
 refine Ac f Z λa f=>Ab ?_
 have⟨aa,ab,hd⟩:=bind_some hd
 refine AE (λa w=>∃q_19':Unit,aa= .inl q_19'∧∃(ac:GH),GLe G ac∧Fr a 18 []∧Mem W ac w (H)) ?_ ?_
 ·refine Ak ?_
  refine Az (λad a w=>∃ae:Int,ae=ad∧∃(af:GH),GLe G af∧Fr a 18 [(0,v0),(1,(iv x1)),(5,(iv ae))]∧Mem W af w (H)) ab ⟨_,Z,_,gr,f.k Z,m⟩ ?_
  clear ab f m
  rintro ad ag ah ai a w ⟨ae,rfl,af,aj,f,m⟩
  have h0:=rd1 aj h0
  refine Ag (Af ?_)
  refine Aa f Z λa f=>Aa f Z λa f=>AP underlying49 f Z Z h0 λa f=>Ah f Z Z Aw λa f=>Ab ?_
  rcases Ae ah with⟨ak,ah⟩|⟨ak,ah⟩
  ·refine Al f Z ak ?_
   refine Am ?_
   refine Ag (Ak (Af ?_))
   refine Aa f Z λa f=>Aa f Z λa f=> ?_
   have⟨al,am,ah⟩:=bind_some ah
   refine A8 T49 f Z Z Z h0 am λan ao a ap aq f=> ?_
   subst aq
   refine AF m Pl2 f Z Z ap λa f=>Aa f Z λa f=>Ah f Z Z BO λa f=>Ab ?_
   rcases Ae ah with⟨ar,ah⟩|⟨ar,ah⟩
   ·refine Al f Z ar ?_
    refine Af ?_
    refine Ac f Z λa f=>Ab ?_
    refine Aq ?_
    obtain rfl:=sj ah
    obtain rfl:=ai _ rfl
    obtain rfl:=sj hd
    exact⟨[(.bool true)],f.g Z,f.d,_,[],aj,m,Z,Z⟩
   ·refine Ai f Z ar ?_
    refine Am ?_
    refine An ?_
    refine Aa f Z λa f=>Ah f Z Z Av λa f=>Ac f Z λa f=>Ab ?_
    obtain rfl:=sj ah
    exact⟨_,Z,_,Z,_,aj,f.k Z,m⟩
  ·refine Ai f Z ak ?_
   refine Ax Z ?_
   obtain rfl:=sj ah
   obtain rfl:=ai _ rfl
   exact⟨_,Z,_,aj,f.weak trivial,m⟩
 ·rintro a w ⟨_,rfl,ac,au,f,m⟩
  refine Af ?_
  refine Ac f Z λa f=>Ab ?_
  refine Aq ?_
  obtain rfl:=sj hd
  exact⟨[(.bool false)],f.g Z,f.d,_,[],au,m,Z,Z⟩
theorem Wk.m0 {aa:Value}{ab:LL}(m:Mem W G w (H))(ac:R2 G aa ab){y:Bool}(hd:D.m0 ab=some y):
  Calls prog 26 #[(.agg #[aa])] w (Res W G H (λ_ Ho v=>Ho=[]∧v=(.bool y))):=by
 refine As (args:=[(.agg #[aa])]) (N:=64) [.tmp 2] func26 Z Z (lb Z) Z λa f=> ?_
 unfold D.m0 at hd
 refine Af ?_
 refine B6 (cs:=[aa]) m f Z Z Z λad w a m f=>Ac f Z λa f=>Au ?_
 refine BL 0 0 (ds:=[aa]) m CO f Z Z Z Z Z λa f=> ?_
 have⟨ae,af,hd⟩:=bind_some hd
 refine Ba f Z call53 (Wk.s0 m ac af) λag w ah m a f=> ?_
 have ac:=rd2 ah ac
 refine Ac f Z λa f=>Ab (Ag (Af ?_))
 refine Aa f Z λa f=> ?_
 have⟨ai,aj,hd⟩:=bind_some hd
 refine Ba f Z call54 (Wk.c m aj) λak w al m a f=> ?_
 have ac:=rd2 al ac
 refine l_o f (Bi (f.e Z)) λa f=>Ab ?_
 rcases Ae hd with⟨am,hd⟩|⟨am,hd⟩
 ·refine Al f Z am ?_
  refine Af ?_
  refine Ac f Z λa f=>Ab ?_
  refine Aq ?_
  have m:Mem W ak w H:=Mem.drop (H':=[ib ad 27 [aa]]) m
  obtain rfl:=sj hd
  exact⟨[(.bool false)],f.g Z,f.d,_,[],(gt ah al),m,Z,Z⟩
 ·refine Ai f Z am ?_
  refine Am ?_
  refine Ag (Af ?_)
  refine Ac f Z λa f=>Ab ?_
  have⟨an,ao,hd⟩:=bind_some hd
  refine AE (λa w=>∃q_138':Unit,an= .inl q_138'∧∃(ap:GH),GLe ak ap∧Fr a 64 [(1,(pb ad)),(3,(iv ae))]∧Mem W ap w (ib ad 27 [aa]::H)) ?_ ?_
  ·refine Ak ?_
   refine Az (λaq a w=>∃ar:Int,ar=aq∧∃(au:GH),GLe ak au∧Fr a 64 [(1,(pb ad)),(3,(iv ae)),(4,(iv ar))]∧Mem W au w (ib ad 27 [aa]::H)) ao ⟨_,Z,_,gr,f.k Z,m⟩ ?_
   clear ao f m
   rintro aq av aw ax a w ⟨ar,rfl,au,ay,f,m⟩
   have ac:=rd2 ay ac
   refine Ag (Af ?_)
   refine Aa f Z λa f=>Aa f Z λa f=>Ah f Z Z Aw λa f=>Ab ?_
   rcases Ae aw with⟨az,aw⟩|⟨az,aw⟩
   ·refine Al f Z az ?_
    refine Am ?_
    refine Ag (Ak (Af ?_))
    refine BM underlying27 Z sizeOf22 f Z λa f=>AW 0 0 m BG f Z Z Z Z λa f=>Aa f Z λa f=> ?_
    have⟨aA,aB,aw⟩:=bind_some aw
    refine A8 T22 f Z Z Z ac aB λaC aD a aE aF f=>AF m Bt f Z Z aE λa f=>Aa f Z λa f=> ?_
    have⟨aG,aH,aw⟩:=bind_some aw
    refine Ba f Z call55 (Wk.a0 m aF aH) λaI w aJ m a f=> ?_
    have ac:=rd2 aJ ac
    refine l_o f (Bi (f.e Z)) λa f=>Aa f Z λa f=> ?_
    have⟨aK,aL,aw⟩:=bind_some aw
    refine BF 8 (λa w=>∃aM,GLe aI aM∧Mem W aM w (ib ad 27 [aa]::H)∧Fr a 64 [(1,(pb ad)),(3,(iv ae)),(4,(iv ar)),(14,(.bool (decide (ar<ae)))),(17,(pb ad)),(18,aa),(19,(iv ar)),(20,aC),(21,aD),(22,(iv ae)),(23,(.bool aG)),(24,(.bool (!aG))),(25,(.bool (!aG))),(33,(.bool aK))]) ?_ ?_
    ·rcases Ae aL with⟨aN,aL⟩|⟨aN,aL⟩
     ·refine AD f aN λa f=> ?_
      refine AD f aN λa f=>AD f aN λa f=>AD f aN λa f=>AD f aN λa f=>AD f aN λa f=>AD f aN λa f=>l_o f (AZ (f.e Z) aN (f.e Z)) λa f=> ?_
      obtain rfl:=sj aL
      exact⟨_,gr,m,f.k Z⟩
     ·refine AC f aN ?_
      refine BM underlying27 Z sizeOf22 f Z λa f=>AC f aN ?_
      refine AW 0 0 m BG f Z Z Z Z λa f=>AC f aN ?_
      refine Aa f Z λa f=>AC f aN ?_
      have⟨aO,aP,aL⟩:=bind_some aL
      refine A8 T22 f Z Z Z ac aP λaQ aR a aS aT f=>AC f aN ?_
      refine AF m Bt f Z Z aS λa f=>AC f aN ?_
      refine Aa f Z λa f=>AC f aN ?_
      have⟨aU,aV,aL⟩:=bind_some aL
      refine Ba f Z call56 (Wk.d m aT aV) λaW w aX m a f=>l_o f (AY (f.e Z) aN (f.e Z)) λa f=> ?_
      obtain rfl:=sj aL
      exact⟨_,aX,m,f.k Z⟩
    ·rintro a w ⟨aM,aY,m,f⟩
     refine Ab ?_
     rcases Ae aw with⟨aZ,aw⟩|⟨aZ,aw⟩
     ·refine Al f Z aZ ?_
      refine Af ?_
      refine Ac f Z λa f=>Ab ?_
      refine Aq ?_
      have m:Mem W aM w H:=Mem.drop (H':=[ib ad 27 [aa]]) m
      obtain rfl:=sj aw
      obtain rfl:=ax _ rfl
      obtain rfl:=sj hd
      exact⟨[(.bool false)],f.g Z,f.d,_,[],(gt ah (gt al (gt ay (gt aJ aY)))),m,Z,Z⟩
     ·refine Ai f Z aZ ?_
      refine Am ?_
      refine An ?_
      refine Aa f Z λa f=>Ah f Z Z Av λa f=>Ac f Z λa f=>Ab ?_
      obtain rfl:=sj aw
      exact⟨_,Z,_,Z,_,(gt ay (gt aJ aY)),f.k Z,m⟩
   ·refine Ai f Z az ?_
    refine Ax Z ?_
    obtain rfl:=sj aw
    obtain rfl:=ax _ rfl
    exact⟨_,Z,_,ay,f.k Z,m⟩
  ·rintro a w ⟨_,rfl,ap,a0,f,m⟩
   have ac:=rd2 a0 ac
   refine Ag (Af ?_)
   refine Ac f Z λa f=>Ab ?_
   have⟨a1,a2,hd⟩:=bind_some hd
   refine AE (λa w=>∃q_545':Unit,a1= .inl q_545'∧∃(a3:GH),GLe ap a3∧Fr a 64 []∧Mem W a3 w (H)) ?_ ?_
   ·refine Ak ?_
    refine Az (λa4 a w=>∃a5:Int,a5=a4∧∃(a6:GH),GLe ap a6∧Fr a 64 [(1,(pb ad)),(3,(iv ae)),(5,(iv a5))]∧Mem W a6 w (ib ad 27 [aa]::H)) a2 ⟨_,Z,_,gr,f.k Z,m⟩ ?_
    clear a2 f m
    rintro a4 a7 a8 a9 a w ⟨a5,rfl,a6,ba,f,m⟩
    have ac:=rd2 ba ac
    refine Ag (Af ?_)
    refine Aa f Z λa f=>Aa f Z λa f=>Ah f Z Z Aw λa f=>Ab ?_
    rcases Ae a8 with⟨bb,a8⟩|⟨bb,a8⟩
    ·refine Al f Z bb ?_
     refine Am ?_
     refine Ag (Ak (Af ?_))
     refine Ac f Z λa f=>Ab ?_
     have⟨bc,bd,a8⟩:=bind_some a8
     refine AE (λa w=>∃q_759':Unit,bc= .inl q_759'∧∃(be:GH),GLe a6 be∧Fr a 64 [(1,(pb ad)),(3,(iv ae)),(5,(iv a5))]∧Mem W be w (ib ad 27 [aa]::H)) ?_ ?_
     ·refine Ak ?_
      refine Az (λbf a w=>∃bg:Int,bg=bf∧∃(bh:GH),GLe a6 bh∧Fr a 64 [(1,(pb ad)),(3,(iv ae)),(5,(iv a5)),(6,(iv bg))]∧Mem W bh w (ib ad 27 [aa]::H)) bd ⟨_,Z,_,gr,f.k Z,m⟩ ?_
      clear bd f m
      rintro bf bi bj bk a w ⟨bg,rfl,bh,bl,f,m⟩
      have ac:=rd2 bl ac
      refine Ag (Af ?_)
      refine Aa f Z λa f=>BM underlying27 Z sizeOf22 f Z λa f=>AW 0 0 m BG f Z Z Z Z λa f=>Aa f Z λa f=> ?_
      have⟨bm,bn,bj⟩:=bind_some bj
      refine A8 T22 f Z Z Z ac bn λbo bp a bq br f=>AF m Bt f Z Z bq λa f=>AP underlying49 f Z Z br λa f=>Ah f Z Z Aw λa f=>Ab ?_
      rcases Ae bj with⟨bs,bj⟩|⟨bs,bj⟩
      ·refine Al f Z bs ?_
       refine Am ?_
       refine Ag (Ak (Ag ?_))
       refine A6 15 AI (by kernel_rfl) m ?_
       refine q_fa 0 15 underlying27 Z sizeOf22 Z f Z λa f=>q_bc 1 15 0 BG Z Z Z f Z λa f=>q_fa 2 15 underlying27 Z sizeOf22 Z f Z λa f=>q_bc 3 15 0 BG Z Z Z f Z λa f=>Aj 4 15 Z f Z λa f=> ?_
       have⟨bt,bu,bj⟩:=bind_some bj
       refine Cd 5 15 T22 ac bu Z f Z Z λbv bw a bx bz f=>Cb 6 15 Bt bx Z f Z λa f=>Aj 7 15 Z f Z λa f=> ?_
       have⟨bA,bB,bj⟩:=bind_some bj
       refine Cd 8 15 T49 bz bB Z f Z Z λbC bD a bE bF f=> ?_
       subst bF
       refine Cb 9 15 Pl2 bE Z f Z λa f=> ?_
       have⟨bG,bH,bj⟩:=bind_some bj
       refine Cd 10 15 T22 ac bH Z f Z Z λbI bJ a bK bL f=>Cb 11 15 Bt bK Z f Z λa f=>Aj 12 15 Z f Z λa f=> ?_
       have⟨bM,bN,bj⟩:=bind_some bj
       refine q_call (i:=13) 15 Z (by kernel_rfl) Z f Z Z Z call56 (λ_ _ w bO m=>Wk.d m (rd1 bO bL) bN) λa f=>q_p 14 15 Z f (λ_=>Bi (f.e Z)) λa f=>A2 λbP w bQ m=>Ab ?_
       rcases Ae bj with⟨bR,bj⟩|⟨bR,bj⟩
       ·refine Al f Z bR ?_
        refine Af ?_
        refine Ac f Z λa f=>Ab ?_
        refine Aq ?_
        have m:Mem W bP w H:=Mem.drop (H':=[ib ad 27 [aa]]) m
        obtain rfl:=sj bj
        obtain rfl:=bk _ rfl
        obtain rfl:=sj a8
        obtain rfl:=a9 _ rfl
        obtain rfl:=sj hd
        exact⟨[(.bool false)],f.g Z,f.d,_,[],(gt ah (gt al (gt a0 (gt ba (gt bl bQ))))),m,Z,Z⟩
       ·refine Ai f Z bR ?_
        refine Am ?_
        refine An ?_
        refine Aa f Z λa f=>Ah f Z Z Av λa f=>Ac f Z λa f=>Ab ?_
        obtain rfl:=sj bj
        exact⟨_,Z,_,Z,_,(gt bl bQ),f.k Z,m⟩
      ·refine Ai f Z bs ?_
       refine Ax Z ?_
       obtain rfl:=sj bj
       obtain rfl:=bk _ rfl
       exact⟨_,Z,_,bl,f.k Z,m⟩
     ·rintro a w ⟨_,rfl,be,bS,f,m⟩
      refine An ?_
      refine Aa f Z λa f=>Ah f Z Z Av λa f=>Ac f Z λa f=>Ab ?_
      obtain rfl:=sj a8
      exact⟨_,Z,_,Z,_,(gt ba bS),f.k Z,m⟩
    ·refine Ai f Z bb ?_
     refine Ax Z ?_
     have m:Mem W a6 w H:=Mem.drop (H':=[ib ad 27 [aa]]) m
     obtain rfl:=sj a8
     obtain rfl:=a9 _ rfl
     exact⟨_,Z,_,ba,f.weak trivial,m⟩
   ·rintro a w ⟨_,rfl,a3,bT,f,m⟩
    refine Af ?_
    refine Ac f Z λa f=>Ab ?_
    refine Aq ?_
    obtain rfl:=sj hd
    exact⟨[(.bool true)],f.g Z,f.d,_,[],(gt ah (gt al (gt a0 bT))),m,Z,Z⟩
theorem Wk.x {v0 v1:Value}{x0 x1:LI}(m:Mem W G w (H))(h0:R1 G v0 x0)(h1:R1 G v1 x1){y:Bool}(hd:D.x x0 x1=some y):
  Calls prog 57 #[v0,v1] w (Res W G H (λ_ Ho v=>Ho=[]∧v=(.bool y))):=by
 refine As (args:=[v0,v1]) (N:=41) [.tmp 4] func57 Z Z (lb Z) Z λa f=> ?_
 unfold D.x at hd
 refine Af ?_
 refine Ac f Z λa f=>Ab (Ag (Af ?_))
 refine Ac f Z λa f=>Ab ?_
 have⟨aa,ab,hd⟩:=bind_some hd
 refine AE (λa w=>∃q_69':Unit,aa= .inl q_69'∧∃(ac:GH),GLe G ac∧Fr a 41 [(0,v0),(1,v1)]∧Mem W ac w (H)) ?_ ?_
 ·refine Ak ?_
  refine Az (λad a w=>∃ae:Int,ae=ad∧∃(af:GH),GLe G af∧Fr a 41 [(0,v0),(1,v1),(5,(iv ae))]∧Mem W af w (H)) ab ⟨_,Z,_,gr,f.k Z,m⟩ ?_
  clear ab f m
  rintro ad ag ah ai a w ⟨ae,rfl,af,aj,f,m⟩
  have h0:=rd1 aj h0
  have h1:=rd1 aj h1
  refine Ag (Af ?_)
  refine Aa f Z λa f=>Aa f Z λa f=>AP underlying49 f Z Z h0 λa f=>Ah f Z Z Aw λa f=>Aa f Z λa f=> ?_
  refine BF 5 (λa w=>∃ak,GLe af ak∧Mem W ak w (H)∧Fr a 41 [(0,v0),(1,v1),(5,(iv ae)),(6,(iv ae)),(7,v0),(8,(iv (x0.length:Int))),(9,(.bool (decide (ae<(x0.length:Int))))),(10,(.bool (decide (ae<(x0.length:Int))))),(15,(.bool ((decide (ae<(x0.length:Int)))&&(decide (ae<(x1.length:Int))))))]) ?_ ?_
  ·rcases Bool.eq_false_or_eq_true (decide (ae<(x0.length:Int))) with al|al
   ·refine AC f al ?_
    refine Aa f Z λa f=>AC f al ?_
    refine Aa f Z λa f=>AC f al ?_
    refine AP underlying49 f Z Z h1 λa f=>AC f al ?_
    refine Ah f Z Z Aw λa f=>l_o f (AZ (f.e Z) al (f.e Z)) λa f=> ?_
    exact⟨_,gr,m,f.weak ⟨Z,Z,Z,Z,Z,Z,Z,Z,by rw[al];rfl,trivial⟩⟩
   ·refine AD f al λa f=> ?_
    refine AD f al λa f=>AD f al λa f=>AD f al λa f=>l_o f (AY (f.e Z) al (f.e Z)) λa f=> ?_
    exact⟨_,gr,m,f.weak ⟨Z,Z,Z,Z,Z,Z,Z,Z,by rw[al];rfl,trivial⟩⟩
  ·rintro a w ⟨ak,am,m,f⟩
   have h0:=rd1 am h0
   have h1:=rd1 am h1
   refine Ab ?_
   rcases Ae ah with⟨an,ah⟩|⟨an,ah⟩
   ·refine Al f Z an ?_
    refine Am ?_
    refine Ag (Ak (Ag ?_))
    refine A6 9 AI (by kernel_rfl) m ?_
    refine Aj 0 9 Z f Z λa f=>Aj 1 9 Z f Z λa f=> ?_
    have⟨ao,ap,ah⟩:=bind_some ah
    refine Cd 2 9 T49 h0 ap Z f Z Z λaq ar a au av f=> ?_
    subst av
    refine Cb 3 9 Pl2 au Z f Z λa f=>Aj 4 9 Z f Z λa f=>Aj 5 9 Z f Z λa f=> ?_
    have⟨aw,ax,ah⟩:=bind_some ah
    refine Cd 6 9 T49 h1 ax Z f Z Z λay az a aA aB f=> ?_
    subst aB
    refine Cb 7 9 Pl2 aA Z f Z λa f=>q_p 8 9 Z f (λ_=>AH (f.e Z) (f.e Z) B5) λa f=>A2 λaC w aD m=> ?_
    have h0:=rd1 aD h0
    have h1:=rd1 aD h1
    refine Ab ?_
    rcases Ae ah with⟨aE,ah⟩|⟨aE,ah⟩
    ·refine Al f Z aE ?_
     refine Ag ?_
     refine A6 10 AI (by kernel_rfl) m ?_
     refine Aj 0 10 Z f Z λa f=>Aj 1 10 Z f Z λa f=> ?_
     have⟨aF,aG,ah⟩:=bind_some ah
     refine Cd 2 10 T49 h0 aG Z f Z Z λaH aI a aJ aK f=> ?_
     subst aK
     refine Cb 3 10 Pl2 aJ Z f Z λa f=>Aj 4 10 Z f Z λa f=>Aj 5 10 Z f Z λa f=> ?_
     have⟨aL,aM,ah⟩:=bind_some ah
     refine Cd 6 10 T49 h1 aM Z f Z Z λaN aO a aP aQ f=> ?_
     subst aQ
     refine Cb 7 10 Pl2 aP Z f Z λa f=>q_p 8 10 Z f (λ_=>AH (f.e Z) (f.e Z) Aw) λa f=>q_p 9 10 Z f (λ_=>Do (f.e Z)) λa f=>A2 λaR w aS m=>Ab ?_
     refine Aq ?_
     obtain rfl:=sj ah
     obtain rfl:=ai _ rfl
     obtain rfl:=sj hd
     exact⟨[(.bool (decide (aF<aL)))],f.g Z,f.d,_,[],(gt aj (gt am (gt aD aS))),m,Z,Z⟩
    ·refine Ai f Z aE ?_
     refine Am ?_
     refine An ?_
     refine Aa f Z λa f=>Ah f Z Z Av λa f=>Ac f Z λa f=>Ab ?_
     obtain rfl:=sj ah
     exact⟨_,Z,_,Z,_,(gt aj (gt am aD)),f.k Z,m⟩
   ·refine Ai f Z an ?_
    refine Ax Z ?_
    obtain rfl:=sj ah
    obtain rfl:=ai _ rfl
    exact⟨_,Z,_,(gt aj am),f.k Z,m⟩
 ·rintro a w ⟨_,rfl,ac,aT,f,m⟩
  have h0:=rd1 aT h0
  have h1:=rd1 aT h1
  refine Af ?_
  refine Aa f Z λa f=>AP underlying49 f Z Z h0 λa f=>Aa f Z λa f=>AP underlying49 f Z Z h1 λa f=>Ah f Z Z Aw λa f=>Ac f Z λa f=>Ab ?_
  refine Aq ?_
  obtain rfl:=sj hd
  exact⟨[(.bool (decide ((x0.length:Int)<(x1.length:Int))))],f.g Z,f.d,_,[],aT,m,Z,Z⟩
theorem Wk.e0 {v0 v1:Value}{x0 x1:LI}(m:Mem W G w (H))(h0:R1 G v0 x0)(h1:R1 G v1 x1){y:Bool}(hd:D.e0 x0 x1=some y):
  Calls prog 58 #[v0,v1] w (Res W G H (λ_ Ho v=>Ho=[]∧v=(.bool y))):=by
 refine As (args:=[v0,v1]) (N:=26) [.tmp 4] func58 Z Z (lb Z) Z λa f=> ?_
 unfold D.e0 at hd
 refine Af ?_
 refine Ac f Z λa f=>Ab (Ag (Af ?_))
 refine Aa f Z λa f=>AP underlying49 f Z Z h0 λa f=>Aa f Z λa f=>AP underlying49 f Z Z h1 λa f=>Ah f Z Z B5 λa f=>Ab ?_
 rcases Ae hd with⟨aa,hd⟩|⟨aa,hd⟩
 ·refine Al f Z aa ?_
  refine Af ?_
  refine Ac f Z λa f=>Ab ?_
  refine Aq ?_
  obtain rfl:=sj hd
  exact⟨[(.bool false)],f.g Z,f.d,_,[],gr,m,Z,Z⟩
 ·refine Ai f Z aa ?_
  refine Am ?_
  refine Ag (Af ?_)
  refine Ac f Z λa f=>Ab ?_
  have⟨ab,ac,hd⟩:=bind_some hd
  refine AE (λa w=>∃q_36':Unit,ab= .inl q_36'∧∃(ad:GH),GLe G ad∧Fr a 26 []∧Mem W ad w (H)) ?_ ?_
  ·refine Ak ?_
   refine Az (λae a w=>∃af:Int,af=ae∧∃(ag:GH),GLe G ag∧Fr a 26 [(0,v0),(1,v1),(5,(iv af))]∧Mem W ag w (H)) ac ⟨_,Z,_,gr,f.k Z,m⟩ ?_
   clear ac f m
   rintro ae ah ai aj a w ⟨af,rfl,ag,ak,f,m⟩
   have h0:=rd1 ak h0
   have h1:=rd1 ak h1
   refine Ag (Af ?_)
   refine Aa f Z λa f=>Aa f Z λa f=>AP underlying49 f Z Z h0 λa f=>Ah f Z Z Aw λa f=>Ab ?_
   rcases Ae ai with⟨al,ai⟩|⟨al,ai⟩
   ·refine Al f Z al ?_
    refine Am ?_
    refine Ag (Ak (Ag ?_))
    refine A6 9 AI (by kernel_rfl) m ?_
    refine Aj 0 9 Z f Z λa f=>Aj 1 9 Z f Z λa f=> ?_
    have⟨am,an,ai⟩:=bind_some ai
    refine Cd 2 9 T49 h0 an Z f Z Z λao ap a aq ar f=> ?_
    subst ar
    refine Cb 3 9 Pl2 aq Z f Z λa f=>Aj 4 9 Z f Z λa f=>Aj 5 9 Z f Z λa f=> ?_
    have⟨au,av,ai⟩:=bind_some ai
    refine Cd 6 9 T49 h1 av Z f Z Z λaw ax a ay az f=> ?_
    subst az
    refine Cb 7 9 Pl2 ay Z f Z λa f=>q_p 8 9 Z f (λ_=>AH (f.e Z) (f.e Z) B5) λa f=>A2 λaA w aB m=>Ab ?_
    rcases Ae ai with⟨aC,ai⟩|⟨aC,ai⟩
    ·refine Al f Z aC ?_
     refine Af ?_
     refine Ac f Z λa f=>Ab ?_
     refine Aq ?_
     obtain rfl:=sj ai
     obtain rfl:=aj _ rfl
     obtain rfl:=sj hd
     exact⟨[(.bool false)],f.g Z,f.d,_,[],(gt ak aB),m,Z,Z⟩
    ·refine Ai f Z aC ?_
     refine Am ?_
     refine An ?_
     refine Aa f Z λa f=>Ah f Z Z Av λa f=>Ac f Z λa f=>Ab ?_
     obtain rfl:=sj ai
     exact⟨_,Z,_,Z,_,(gt ak aB),f.k Z,m⟩
   ·refine Ai f Z al ?_
    refine Ax Z ?_
    obtain rfl:=sj ai
    obtain rfl:=aj _ rfl
    exact⟨_,Z,_,ak,f.weak trivial,m⟩
  ·rintro a w ⟨_,rfl,ad,aD,f,m⟩
   refine Af ?_
   refine Ac f Z λa f=>Ab ?_
   refine Aq ?_
   obtain rfl:=sj hd
   exact⟨[(.bool true)],f.g Z,f.d,_,[],aD,m,Z,Z⟩
theorem Wk.m {v0 v1:Value}{x0:LL}{x1:LI}(m:Mem W G w (H))(h0:R2 G v0 x0)(h1:R1 G v1 x1){y:(LL)}(hd:D.m x0 x1=some y):
  Calls prog 27 #[v0,v1] w (Res W G H (λG' Ho v=>∃r0:Value,Ho=[]∧r0=v∧R2 G' r0 y)):=by
 refine As (args:=[v0,v1]) (N:=48) [.tmp 4] func27 Z Z (lb Z) Z λa f=> ?_
 unfold D.m at hd
 refine Af ?_
 refine Ac f Z λa f=>Au ?_
 refine Ac f Z λa f=>Ab (Ag ?_)
 have⟨aa,ab,hd⟩:=bind_some hd
 refine AE (λa w=>∃ac:Int,ac=aa∧∃(ad:GH),GLe G ad∧Fr a 48 [(0,v0),(1,v1),(5,(iv ac))]∧Mem W ad w (H)) ?_ ?_
 ·refine Ak ?_
  refine Az (λae a w=>∃af:Int,af=ae∧∃(ag:GH),GLe G ag∧Fr a 48 [(0,v0),(1,v1),(5,(iv af))]∧Mem W ag w (H)) ab ⟨_,Z,_,gr,f.k Z,m⟩ ?_
  clear ab f m
  rintro ae ah ai aj a w ⟨af,rfl,ag,ak,f,m⟩
  have h0:=rd2 ak h0
  have h1:=rd1 ak h1
  refine Ag (Af ?_)
  refine Aa f Z λa f=>Aa f Z λa f=>AP underlying22 f Z Z h0 λa f=>Ah f Z Z Aw λa f=>Aa f Z λa f=> ?_
  have⟨al,am,ai⟩:=bind_some ai
  refine BF 7 (λa w=>∃an,GLe ag an∧Mem W an w (H)∧Fr a 48 [(0,v0),(1,v1),(5,(iv af)),(7,(iv af)),(8,v0),(9,(iv (x0.length:Int))),(10,(.bool (decide (af<(x0.length:Int))))),(11,(.bool (decide (af<(x0.length:Int))))),(18,(.bool al))]) ?_ ?_
  ·rcases Ae am with⟨ao,am⟩|⟨ao,am⟩
   ·refine AC f ao ?_
    refine Aa f Z λa f=>AC f ao ?_
    refine Aa f Z λa f=>AC f ao ?_
    have⟨ap,aq,am⟩:=bind_some am
    refine A8 T22 f Z Z Z h0 aq λar au a av aw f=>AC f ao ?_
    refine AF m Bt f Z Z av λa f=>AC f ao ?_
    refine Aa f Z λa f=>AC f ao ?_
    have⟨ax,ay,am⟩:=bind_some am
    refine Ba f Z call57 (Wk.x m aw h1 ay) λaz w aA m a f=>l_o f (AZ (f.e Z) ao (f.e Z)) λa f=> ?_
    obtain rfl:=sj am
    exact⟨_,aA,m,f.k Z⟩
   ·refine AD f ao λa f=> ?_
    refine AD f ao λa f=>AD f ao λa f=>AD f ao λa f=>AD f ao λa f=>AD f ao λa f=>l_o f (AY (f.e Z) ao (f.e Z)) λa f=> ?_
    obtain rfl:=sj am
    exact⟨_,gr,m,f.k Z⟩
  ·rintro a w ⟨an,aB,m,f⟩
   refine Ab ?_
   rcases Ae ai with⟨aC,ai⟩|⟨aC,ai⟩
   ·refine Al f Z aC ?_
    refine Am ?_
    refine Ak (An ?_)
    refine Aa f Z λa f=>Ah f Z Z Av λa f=>Ac f Z λa f=>Ab ?_
    obtain rfl:=sj ai
    exact⟨_,Z,_,Z,_,(gt ak aB),f.k Z,m⟩
   ·refine Ai f Z aC ?_
    refine Ax Z ?_
    obtain rfl:=sj ai
    obtain rfl:=aj _ rfl
    exact⟨_,Z,_,(gt ak aB),f.k Z,m⟩
 ·rintro a w ⟨ac,rfl,ad,aD,f,m⟩
  have h0:=rd2 aD h0
  have h1:=rd1 aD h1
  refine Ag (Af ?_)
  refine Aa f Z λa f=>Aa f Z λa f=>AP underlying22 f Z Z h0 λa f=>Ah f Z Z Aw λa f=>Aa f Z λa f=> ?_
  have⟨aE,aF,hd⟩:=bind_some hd
  refine BF 7 (λa w=>∃aG,GLe ad aG∧Mem W aG w (H)∧Fr a 48 [(0,v0),(1,v1),(5,(iv ac)),(21,(iv ac)),(22,v0),(23,(iv (x0.length:Int))),(24,(.bool (decide (ac<(x0.length:Int))))),(25,(.bool (decide (ac<(x0.length:Int))))),(32,(.bool aE))]) ?_ ?_
  ·rcases Ae aF with⟨aH,aF⟩|⟨aH,aF⟩
   ·refine AC f aH ?_
    refine Aa f Z λa f=>AC f aH ?_
    refine Aa f Z λa f=>AC f aH ?_
    have⟨aI,aJ,aF⟩:=bind_some aF
    refine A8 T22 f Z Z Z h0 aJ λaK aL a aM aN f=>AC f aH ?_
    refine AF m Bt f Z Z aM λa f=>AC f aH ?_
    refine Aa f Z λa f=>AC f aH ?_
    have⟨aO,aP,aF⟩:=bind_some aF
    refine Ba f Z call58 (Wk.e0 m aN h1 aP) λaQ w aR m a f=>l_o f (AZ (f.e Z) aH (f.e Z)) λa f=> ?_
    obtain rfl:=sj aF
    exact⟨_,aR,m,f.k Z⟩
   ·refine AD f aH λa f=> ?_
    refine AD f aH λa f=>AD f aH λa f=>AD f aH λa f=>AD f aH λa f=>AD f aH λa f=>l_o f (AY (f.e Z) aH (f.e Z)) λa f=> ?_
    obtain rfl:=sj aF
    exact⟨_,gr,m,f.k Z⟩
  ·rintro a w ⟨aG,aS,m,f⟩
   have h0:=rd2 aS h0
   have h1:=rd1 aS h1
   refine Ab ?_
   rcases Ae hd with⟨aT,hd⟩|⟨aT,hd⟩
   ·refine Al f Z aT ?_
    refine Af ?_
    refine Aa f Z λa f=>Ac f Z λa f=>Ab ?_
    refine Aq ?_
    obtain rfl:=sj hd
    exact⟨[v0],f.g Z,f.d,_,[],(gt aD aS),m,_,Z,Z,h0⟩
   ·refine Ai f Z aT ?_
    refine Am ?_
    refine Af ?_
    refine A3 (R:=R1) (xs:=([]:LL)) (RSl.one _) m T22 f Z Z Z (by decide) (All2.nil _) λaU aV w a m aW f=>Aa f Z λa f=>Aa f Z λa f=> ?_
    have⟨aX,aY,hd⟩:=bind_some hd
    refine DJ T22 f Z Z h0 (.inl ⟨Z,Z⟩) (.inr ⟨_,_,Z,Z⟩) aY λaZ a a0 f=> ?_
    have⟨a1,a2,hd⟩:=bind_some hd
    refine Bm (RSl.one _) 0 m aW Z T22 Z (by decide) f Z Z Z (a0.src m) a2 λa3 a4 w a m a5 f=>Ac f Z λa f=>Au ?_
    refine Aa f Z λa f=>Aa f Z λa f=>A3 (R:=R1) (xs:=([x1]:LL)) (RSl.one _) m T22 f Z Z Z (by decide) (All2.cons h1 (All2.nil _)) λa6 a7 w a m a8 f=> ?_
    have⟨a9,ba,hd⟩:=bind_some hd
    refine Bm (RSl.one _) 1 m a5 Z T22 Z (by decide) f Z Z Z (Ow.src (j:=0) a8 m Z) ba λbb bc w a m bd f=>Ac f Z λa f=>Au ?_
    refine Aa f Z λa f=>Aa f Z λa f=>Aa f Z λa f=> ?_
    have⟨be,bf,hd⟩:=bind_some hd
    refine DJ T22 f Z Z h0 (.inr ⟨_,_,Z,Z⟩) (.inl ⟨Z,Z⟩) bf λbg a bh f=> ?_
    have⟨bi,bj,hd⟩:=bind_some hd
    refine Bm (RSl.one _) 1 m bd Z T22 Z (by decide) f Z Z Z (bh.src m) bj λbk bl w a m bm f=>Ac f Z λa f=>Ab ?_
    refine Aq ?_
    have m:=m.fr 1
    obtain⟨bn,bo,m,bp⟩:=Ow.stamp (RSl.mono (RI.mono _)) bm m
    have m:Mem W bn w H:=Mem.drop (H':=[a6]) m
    obtain rfl:=sj hd
    exact⟨[bl],f.g Z,f.d,_,[],(gt aD (gt aS bo)),m,_,Z,Z,bp⟩
theorem Wk.P {v0:Value}{x0:LI}(m:Mem W G w (H))(h0:R1 G v0 x0){y:(LI)}(hd:D.P x0=some y):
  Calls prog 88 #[v0] w (Res W G H (λG' Ho v=>∃r0:Value,∃i0:Itm,Ho=[i0]∧r0=v∧Ow R0 2 G' i0 r0 y)):=by
 refine As (args:=[v0]) (N:=6) [.tmp 2] func88 Z Z (lb Z) Z λa f=> ?_
 unfold D.P at hd
 refine Af ?_
 refine Ac f Z λa f=>Au ?_
 refine A3 (R:=R0) (xs:=([]:LI)) (RI.one _) m T49 f Z Z Z (by decide) (All2.nil _) λaa ab w a m ac f=>Aa f Z λa f=> ?_
 have⟨ad,ae,hd⟩:=bind_some hd
 refine Bm (RI.one _) 0 m ac Z T49 Z (by decide) f Z Z Z (h0.src m) ae λaf ag w a m ah f=>Ac f Z λa f=>Ab ?_
 refine Aq ?_
 obtain rfl:=sj hd
 exact⟨[ag],f.g Z,f.d,_,[af],gr,m,_,_,Z,Z,ah⟩
theorem Wk.s {v0:Value}{x0:LI}{x1:Int}(m:Mem W G w (H))(h0:R1 G v0 x0){y:(LI)}(hd:D.s x0 x1=some y):
  Calls prog 59 #[v0,(iv x1)] w (Res W G H (λG' Ho v=>∃r0:Value,Ho=[]∧r0=v∧R1 G' r0 y)):=by
 refine As (args:=[v0,(iv x1)]) (N:=46) [.tmp 4] func59 Z Z (lb Z) Z λa f=> ?_
 unfold D.s at hd
 refine Af ?_
 refine Ac f Z λa f=>Au ?_
 refine Ac f Z λa f=>Ab (Ag ?_)
 have⟨aa,ab,hd⟩:=bind_some hd
 refine AE (λa w=>∃ac:Int,ac=aa∧∃(ad:GH),GLe G ad∧Fr a 46 [(0,v0),(1,(iv x1)),(5,(iv ac))]∧Mem W ad w (H)) ?_ ?_
 ·refine Ak ?_
  refine Az (λae a w=>∃af:Int,af=ae∧∃(ag:GH),GLe G ag∧Fr a 46 [(0,v0),(1,(iv x1)),(5,(iv af))]∧Mem W ag w (H)) ab ⟨_,Z,_,gr,f.k Z,m⟩ ?_
  clear ab f m
  rintro ae ah ai aj a w ⟨af,rfl,ag,ak,f,m⟩
  have h0:=rd1 ak h0
  refine Ag (Af ?_)
  refine Aa f Z λa f=>Aa f Z λa f=>AP underlying49 f Z Z h0 λa f=>Ah f Z Z Aw λa f=>Aa f Z λa f=> ?_
  have⟨al,am,ai⟩:=bind_some ai
  refine BF 7 (λa w=>∃an,GLe ag an∧Mem W an w (H)∧Fr a 46 [(0,v0),(1,(iv x1)),(5,(iv af)),(7,(iv af)),(8,v0),(9,(iv (x0.length:Int))),(10,(.bool (decide (af<(x0.length:Int))))),(11,(.bool (decide (af<(x0.length:Int))))),(18,(.bool al))]) ?_ ?_
  ·rcases Ae am with⟨ao,am⟩|⟨ao,am⟩
   ·refine AC f ao ?_
    refine Aa f Z λa f=>AC f ao ?_
    refine Aa f Z λa f=>AC f ao ?_
    have⟨ap,aq,am⟩:=bind_some am
    refine A8 T49 f Z Z Z h0 aq λar au a av aw f=> ?_
    subst aw
    refine AC f ao ?_
    refine AF m Pl2 f Z Z av λa f=>AC f ao ?_
    refine Aa f Z λa f=>AC f ao ?_
    refine Ah f Z Z Aw λa f=>l_o f (AZ (f.e Z) ao (f.e Z)) λa f=> ?_
    obtain rfl:=sj am
    exact⟨_,gr,m,f.k Z⟩
   ·refine AD f ao λa f=> ?_
    refine AD f ao λa f=>AD f ao λa f=>AD f ao λa f=>AD f ao λa f=>AD f ao λa f=>l_o f (AY (f.e Z) ao (f.e Z)) λa f=> ?_
    obtain rfl:=sj am
    exact⟨_,gr,m,f.k Z⟩
  ·rintro a w ⟨an,ax,m,f⟩
   refine Ab ?_
   rcases Ae ai with⟨ay,ai⟩|⟨ay,ai⟩
   ·refine Al f Z ay ?_
    refine Am ?_
    refine Ak (An ?_)
    refine Aa f Z λa f=>Ah f Z Z Av λa f=>Ac f Z λa f=>Ab ?_
    obtain rfl:=sj ai
    exact⟨_,Z,_,Z,_,(gt ak ax),f.k Z,m⟩
   ·refine Ai f Z ay ?_
    refine Ax Z ?_
    obtain rfl:=sj ai
    obtain rfl:=aj _ rfl
    exact⟨_,Z,_,(gt ak ax),f.k Z,m⟩
 ·rintro a w ⟨ac,rfl,ad,az,f,m⟩
  have h0:=rd1 az h0
  refine Ag (Af ?_)
  refine Aa f Z λa f=>Aa f Z λa f=>AP underlying49 f Z Z h0 λa f=>Ah f Z Z Aw λa f=>Aa f Z λa f=> ?_
  have⟨aA,aB,hd⟩:=bind_some hd
  refine BF 7 (λa w=>∃aC,GLe ad aC∧Mem W aC w (H)∧Fr a 46 [(0,v0),(1,(iv x1)),(5,(iv ac)),(21,(iv ac)),(22,v0),(23,(iv (x0.length:Int))),(24,(.bool (decide (ac<(x0.length:Int))))),(25,(.bool (decide (ac<(x0.length:Int))))),(32,(.bool aA))]) ?_ ?_
  ·rcases Ae aB with⟨aD,aB⟩|⟨aD,aB⟩
   ·refine AC f aD ?_
    refine Aa f Z λa f=>AC f aD ?_
    refine Aa f Z λa f=>AC f aD ?_
    have⟨aE,aF,aB⟩:=bind_some aB
    refine A8 T49 f Z Z Z h0 aF λaG aH a aI aJ f=> ?_
    subst aJ
    refine AC f aD ?_
    refine AF m Pl2 f Z Z aI λa f=>AC f aD ?_
    refine Aa f Z λa f=>AC f aD ?_
    refine Ah f Z Z BO λa f=>l_o f (AZ (f.e Z) aD (f.e Z)) λa f=> ?_
    obtain rfl:=sj aB
    exact⟨_,gr,m,f.k Z⟩
   ·refine AD f aD λa f=> ?_
    refine AD f aD λa f=>AD f aD λa f=>AD f aD λa f=>AD f aD λa f=>AD f aD λa f=>l_o f (AY (f.e Z) aD (f.e Z)) λa f=> ?_
    obtain rfl:=sj aB
    exact⟨_,gr,m,f.k Z⟩
  ·rintro a w ⟨aC,aK,m,f⟩
   have h0:=rd1 aK h0
   refine Ab ?_
   rcases Ae hd with⟨aL,hd⟩|⟨aL,hd⟩
   ·refine Al f Z aL ?_
    refine Af ?_
    refine Aa f Z λa f=>Ac f Z λa f=>Ab ?_
    refine Aq ?_
    obtain rfl:=sj hd
    exact⟨[v0],f.g Z,f.d,_,[],(gt az aK),m,_,Z,Z,h0⟩
   ·refine Ai f Z aL ?_
    refine Am ?_
    refine Af ?_
    refine Aa f Z λa f=>Aa f Z λa f=> ?_
    have⟨aM,aN,hd⟩:=bind_some hd
    refine DJ T49 f Z Z h0 (.inl ⟨Z,Z⟩) (.inr ⟨_,_,Z,Z⟩) aN λaO a aP f=> ?_
    have⟨aQ,aR,hd⟩:=bind_some hd
    refine AM f Z call88 (Wk.P m aP aR) λaS aT aU w aV m aW a f=> ?_
    obtain⟨aX,aY,rfl,rfl,aZ⟩:=aW
    have h0:=rd1 aV h0
    refine Aa f Z λa f=>A3 (R:=R0) (xs:=([x1]:LI)) (RI.one _) m T49 f Z Z Z (by decide) (All2.cons Z (All2.nil _)) λa0 a1 w a m a2 f=> ?_
    have⟨a3,a4,hd⟩:=bind_some hd
    refine Bm (RI.one _) 1 m aZ Z T49 Z (by decide) f Z Z Z (Ow.src (j:=0) a2 m Z) a4 λa5 a6 w a m a7 f=>Ac f Z λa f=>Au ?_
    refine Aa f Z λa f=>Aa f Z λa f=>Aa f Z λa f=> ?_
    have⟨a8,a9,hd⟩:=bind_some hd
    refine DJ T49 f Z Z h0 (.inr ⟨_,_,Z,Z⟩) (.inl ⟨Z,Z⟩) a9 λba a bb f=> ?_
    have⟨bc,bd,hd⟩:=bind_some hd
    refine Bm (RI.one _) 1 m a7 Z T49 Z (by decide) f Z Z Z (bb.src m) bd λbe bf w a m bg f=>Ac f Z λa f=>Ab ?_
    refine Aq ?_
    have m:=m.fr 1
    obtain⟨bh,bi,m,bj⟩:=Ow.stamp (RI.mono _) bg m
    have m:Mem W bh w H:=Mem.drop (H':=[a0]) m
    obtain rfl:=sj hd
    exact⟨[bf],f.g Z,f.d,_,[],(gt az (gt aK (gt aV bi))),m,_,Z,Z,bj⟩
theorem Wk.J {aa:Value}{ab:LL}{x1:Int}(m:Mem W G w (H))(ac:R2 G aa ab){y:(LI)}(hd:D.J ab x1=some y):
  Calls prog 61 #[(.agg #[aa]),(iv x1)] w (Res W G H (λG' Ho v=>∃r0:Value,∃i0:Itm,Ho=[i0]∧r0=v∧Ow R0 2 G' i0 r0 y)):=by
 refine As (args:=[(.agg #[aa]),(iv x1)]) (N:=23) [.tmp 4] func61 Z Z (lb Z) Z λa f=> ?_
 unfold D.J at hd
 refine Af ?_
 refine B6 (cs:=[aa]) m f Z Z Z λad w a m f=>Ac f Z λa f=>Au ?_
 refine A3 (R:=R0) (xs:=([]:LI)) (RI.one _) m T49 f Z Z Z (by decide) (All2.nil _) λae af w a m ag f=>Ac f Z λa f=>Ab (Ag (Af ?_))
 refine Ac f Z λa f=>Ab ?_
 have⟨ah,ai,hd⟩:=bind_some hd
 refine AE (λa w=>∃aj:LI,aj=ah∧∃(ak:GH) (al:Value) (am:Itm),GLe G ak∧Fr a 23 [(5,al)]∧Mem W ak w (am::H)∧Ow R0 2 ak am al aj) ?_ ?_
 ·refine Ak ?_
  have m:=m.fr 1
  refine Az (λan a w=>∃ao:LI,∃ap:Int,(ao,ap)=an∧∃(aq:GH) (ar:Value) (au:Itm),GLe G aq∧Fr a 23 [(1,(iv x1)),(2,(pb ad)),(5,ar),(6,(iv ap))]∧Mem W aq w (ib ad 27 [aa]::au::H)∧Ow R0 2 aq au ar ao) ai ⟨_,_,Z,_,af,ae,gr,f.k Z,m,ag⟩ ?_
  clear ai f m
  rintro an av aw ax a w ⟨ao,ap,rfl,aq,ar,au,ay,f,m,az⟩
  have ac:=rd2 ay ac
  refine Ag (Af ?_)
  refine Aa f Z λa f=>BM underlying27 Z sizeOf22 f Z λa f=>AW 0 0 m BG f Z Z Z Z λa f=>AP underlying22 f Z Z ac λa f=>Ah f Z Z Aw λa f=>Ab ?_
  rcases Ae aw with⟨aA,aw⟩|⟨aA,aw⟩
  ·refine Al f Z aA ?_
   refine Am ?_
   refine Ag (Ak (Af ?_))
   refine Aa f Z λa f=>Aa f Z λa f=>Ah f Z Z B5 λa f=>Ab ?_
   rcases Ae aw with⟨aB,aw⟩|⟨aB,aw⟩
   ·refine Al f Z aB ?_
    refine An ?_
    refine Aa f Z λa f=>Aa f Z λa f=>A3 (R:=R0) (xs:=([ap]:LI)) (RI.one _) m T49 f Z Z Z (by decide) (All2.cons Z (All2.nil _)) λaC aD w a m aE f=> ?_
    have⟨aF,aG,aw⟩:=bind_some aw
    refine Bm (RI.one _) 2 m az Z T49 Z (by decide) f Z Z Z (Ow.src (j:=0) aE m Z) aG λaH aI w a m aJ f=>Ac f Z λa f=>Ab (An ?_)
    refine Aa f Z λa f=>Ah f Z Z Av λa f=>Ac f Z λa f=>Ab ?_
    have m:=m.fr 2
    have m:=m.fr 2
    have m:=m.eraseAt 2
    obtain rfl:=sj aw
    exact⟨_,Z,_,_,Z,_,aI,aH,ay,f.k Z,m,aJ⟩
   ·refine Ai f Z aB ?_
    refine Am ?_
    refine An ?_
    refine Aa f Z λa f=>Ah f Z Z Av λa f=>Ac f Z λa f=>Ab ?_
    obtain rfl:=sj aw
    exact⟨_,Z,_,_,Z,_,ar,au,ay,f.k Z,m,az⟩
  ·refine Ai f Z aA ?_
   refine Ax Z ?_
   have m:=m.fr 1
   have m:=m.eraseAt 1
   obtain rfl:=sj aw
   obtain rfl:=ax _ rfl
   exact⟨_,Z,_,ar,au,ay,f.k Z,m,az⟩
 ·rintro a w ⟨aj,rfl,ak,al,am,aK,f,m,aL⟩
  refine Af ?_
  refine Aa f Z λa f=>Ac f Z λa f=>Ab ?_
  refine Aq ?_
  obtain rfl:=sj hd
  exact⟨[al],f.g Z,f.d,_,[am],aK,m,_,_,Z,Z,aL⟩
theorem Wk.B {aa v1:Value}{ab:LL}{x1:LI}{x2:Int}{x3:Bool}(m:Mem W G w (H))(ac:R2 G aa ab)(h1:R1 G v1 x1){y:(LI)}(hd:D.B ab x1 x2 x3=some y):
  Calls prog 60 #[(.agg #[aa]),v1,(iv x2),(.bool x3)] w (Res W G H (λG' Ho v=>∃r0:Value,Ho=[]∧r0=v∧R1 G' r0 y)):=by
 refine As (args:=[(.agg #[aa]),v1,(iv x2),(.bool x3)]) (N:=64) [.tmp 8] func60 Z Z (lb Z) Z λa f=> ?_
 unfold D.B at hd
 refine Af ?_
 refine B6 (cs:=[aa]) m f Z Z Z λad w a m f=>Ac f Z λa f=>Au ?_
 refine Aa f Z λa f=>A3 (R:=R0) (xs:=([x2]:LI)) (RI.one _) m T49 f Z Z Z (by decide) (All2.cons Z (All2.nil _)) λae af w a m ag f=>Ac f Z λa f=>Au ?_
 refine Aa f Z λa f=>A3 (R:=R0) (xs:=([x2]:LI)) (RI.one _) m T49 f Z Z Z (by decide) (All2.cons Z (All2.nil _)) λah ai w a m aj f=> ?_
 obtain⟨ak,m,al⟩:=OwT.of m aj (by simp)
 refine Ac f Z λa f=>Ab (Ag ?_)
 have m:=m.fr 1
 obtain⟨am,an,m,ao⟩:=Ow.stamp (RI.mono _) ag m
 have ac:=rd2 an ac
 have h1:=rd1 an h1
 have al:=OwT.mono (RI.mono _) an al
 have⟨ap,aq,hd⟩:=bind_some hd
 refine AE (λa w=>∃ar:LI,ar=ap∧∃(au:GH) (av:Value),GLe am au∧Fr a 64 [(9,av)]∧Mem W au w (H)∧R1 au av ar) ?_ ?_
 ·refine Ak ?_
  have m:=m.fr 1
  refine Az (λaw a w=>∃ax:LI,∃ay:LI,(ax,ay)=aw∧∃(az:GH) (aA:Value) (aB:Value) (aC:Itm),GLe am az∧Fr a 64 [(1,v1),(3,(.bool x3)),(4,(pb ad)),(9,aA),(10,aB)]∧Mem W az w (ib ad 27 [aa]::aC::H)∧R1 az aA ax∧OwT R0 2 az aC aB ay) aq ⟨_,_,Z,_,af,ai,ak,gr,f.k Z,m,ao,al⟩ ?_
  clear aq f m
  rintro aw aD aE aF a w ⟨ax,ay,rfl,az,aA,aB,aC,aG,f,m,aH,aI⟩
  have h1:=rd1 aG h1
  have ac:=rd2 aG ac
  refine Ag (Af ?_)
  refine Aa f Z λa f=>l_ownT_len 1 m aI Z underlying49 f Z Z λa f=>Ah f Z Z Cw λa f=>Ab ?_
  rcases Ae aE with⟨aJ,aE⟩|⟨aJ,aE⟩
  ·refine Al f Z aJ ?_
   refine Am ?_
   refine Ak (Af ?_)
   refine Aa f Z λa f=> ?_
   have⟨aK,aL,aE⟩:=bind_some aE
   refine l_ownT_at 1 m aI Z T49 f Z Z Z aL λaM a aN f=>l_ownT_load 1 m aI Z Pl2 f Z Z aN aL λaO a aP f=> ?_
   subst aP
   refine Ac f Z λa f=>Au ?_
   refine Aa f Z λa f=> ?_
   have⟨aQ,aR,aE⟩:=bind_some aE
   refine l_ownT_tail 1 m aI Z T49 f Z Z Z aR λaS aT w a m aU f=>Ac f Z λa f=>Au ?_
   refine Ac f Z λa f=>Ab ?_
   have⟨aV,aW,aE⟩:=bind_some aE
   refine AE (λa w=>∃aX:LI,∃aY:LI,(aX,aY)=aV∧∃(aZ:GH) (a0:Value) (a1:Value) (a2:Itm),GLe az aZ∧Fr a 64 [(1,v1),(3,(.bool x3)),(4,(pb ad)),(9,a0),(10,a1)]∧Mem W aZ w (ib ad 27 [aa]::a2::H)∧R1 aZ a0 aX∧OwT R0 2 aZ a2 a1 aY) ?_ ?_
   ·refine Ak ?_
    refine Az (λa3 a w=>∃a4:LI,∃a5:LI,∃a6:Int,(a4,a5,a6)=a3∧∃(a7:GH) (a8:Value) (a9:Value) (ba:Itm),GLe az a7∧Fr a 64 [(1,v1),(3,(.bool x3)),(4,(pb ad)),(9,a8),(10,a9),(11,(iv aK)),(12,(iv a6))]∧Mem W a7 w (ib ad 27 [aa]::ba::H)∧R1 a7 a8 a4∧OwT R0 2 a7 ba a9 a5) aW ⟨_,_,_,Z,_,aA,aT,aS,gr,f.k Z,m,aH,aU⟩ ?_
    clear aW f m
    rintro a3 bb bc bd a w ⟨a4,a5,a6,rfl,a7,a8,a9,ba,be,f,m,bf,bg⟩
    have h1:=rd1 be h1
    have ac:=rd2 be ac
    refine Ag (Af ?_)
    refine Aa f Z λa f=>Aa f Z λa f=>AP underlying49 f Z Z h1 λa f=>Ah f Z Z Aw λa f=>Ab ?_
    rcases Ae bc with⟨bh,bc⟩|⟨bh,bc⟩
    ·refine Al f Z bh ?_
     refine Am ?_
     refine Ag (Ak (Af ?_))
     refine Aa f Z λa f=>Aa f Z λa f=> ?_
     have⟨bi,bj,bc⟩:=bind_some bc
     refine A8 T49 f Z Z Z h1 bj λbk bl a bm bn f=> ?_
     subst bn
     refine AF m Pl2 f Z Z bm λa f=>Ac f Z λa f=>Au ?_
     refine Aa f Z λa f=>Aa f Z λa f=>Ah f Z Z B5 λa f=>Aa f Z λa f=> ?_
     have⟨bo,bp,bc⟩:=bind_some bc
     refine BF 10 (λa w=>∃bq,GLe a7 bq∧Mem W bq w (ib ad 27 [aa]::ba::H)∧Fr a 64 [(1,v1),(3,(.bool x3)),(4,(pb ad)),(9,a8),(10,a9),(11,(iv aK)),(12,(iv a6)),(13,(iv bi)),(36,(iv bi)),(37,(iv aK)),(38,(.bool (bi !=aK))),(39,(.bool (bi !=aK))),(49,(.bool bo))]) ?_ ?_
     ·rcases Ae bp with⟨br,bp⟩|⟨br,bp⟩
      ·refine AC f br ?_
       refine BM underlying27 Z sizeOf22 f Z λa f=>AC f br ?_
       refine AW 0 0 m BG f Z Z Z Z λa f=>AC f br ?_
       refine Aa f Z λa f=>AC f br ?_
       have⟨bs,bt,bp⟩:=bind_some bp
       refine A8 T22 f Z Z Z ac bt λbu bv a bw bx f=>AC f br ?_
       refine AF m Bt f Z Z bw λa f=>AC f br ?_
       refine Aa f Z λa f=>AC f br ?_
       have⟨bz,bA,bp⟩:=bind_some bp
       refine Ba f Z call56 (Wk.d m bx bA) λbB w bC m a f=> ?_
       have bg:=OwT.mono (RI.mono _) bC bg
       refine AC f br ?_
       refine Aa f Z λa f=>AC f br ?_
       refine l_o f (r_bool_neq (f.e Z) (f.e Z) underlying4) λa f=>l_o f (AZ (f.e Z) br (f.e Z)) λa f=> ?_
       obtain rfl:=sj bp
       exact⟨_,bC,m,f.k Z⟩
      ·refine AD f br λa f=> ?_
       refine AD f br λa f=>AD f br λa f=>AD f br λa f=>AD f br λa f=>AD f br λa f=>AD f br λa f=>AD f br λa f=>AD f br λa f=>l_o f (AY (f.e Z) br (f.e Z)) λa f=> ?_
       obtain rfl:=sj bp
       exact⟨_,gr,m,f.k Z⟩
     ·rintro a w ⟨bq,bD,m,f⟩
      have bf:=rd1 bD bf
      have bg:=OwT.mono (RI.mono _) bD bg
      refine Aa f Z λa f=> ?_
      have⟨bE,bF,bc⟩:=bind_some bc
      refine BF 5 (λa w=>∃bG,GLe bq bG∧Mem W bG w (ib ad 27 [aa]::ba::H)∧Fr a 64 [(1,v1),(3,(.bool x3)),(4,(pb ad)),(9,a8),(10,a9),(11,(iv aK)),(12,(iv a6)),(13,(iv bi)),(36,(iv bi)),(37,(iv aK)),(38,(.bool (bi !=aK))),(39,(.bool (bi !=aK))),(49,(.bool bo)),(50,(.bool bo)),(55,(.bool bE))]) ?_ ?_
      ·rcases Ae bF with⟨bH,bF⟩|⟨bH,bF⟩
       ·refine AC f bH ?_
        refine Aa f Z λa f=>AC f bH ?_
        refine Aa f Z λa f=>AC f bH ?_
        have⟨bI,bJ,bF⟩:=bind_some bF
        refine Ba f Z call56 (Wk.d m bf bJ) λbK w bL m a f=> ?_
        have bg:=OwT.mono (RI.mono _) bL bg
        refine AC f bH ?_
        refine l_o f (Bi (f.e Z)) λa f=>l_o f (AZ (f.e Z) bH (f.e Z)) λa f=> ?_
        obtain rfl:=sj bF
        exact⟨_,bL,m,f.k Z⟩
       ·refine AD f bH λa f=> ?_
        refine AD f bH λa f=>AD f bH λa f=>AD f bH λa f=>l_o f (AY (f.e Z) bH (f.e Z)) λa f=> ?_
        obtain rfl:=sj bF
        exact⟨_,gr,m,f.k Z⟩
      ·rintro a w ⟨bG,bM,m,f⟩
       have bf:=rd1 bM bf
       have bg:=OwT.mono (RI.mono _) bM bg
       refine Ab ?_
       rcases Ae bc with⟨bN,bc⟩|⟨bN,bc⟩
       ·refine Al f Z bN ?_
        refine Af ?_
        refine Aa f Z λa f=>Aa f Z λa f=> ?_
        have⟨bO,bP,bc⟩:=bind_some bc
        refine AM f Z call59 (Wk.s m bf bP) λbQ bR bS w bT m bU a f=> ?_
        obtain⟨bV,rfl,rfl,bW⟩:=bU
        have bg:=OwT.mono (RI.mono _) bT bg
        refine Ac f Z λa f=>Ab (An ?_)
        refine Aa f Z λa f=>Aa f Z λa f=>A3 (R:=R0) (xs:=([bi]:LI)) (RI.one _) m T49 f Z Z Z (by decide) (All2.cons Z (All2.nil _)) λbX bY w a m bZ f=> ?_
        have⟨b0,b1,bc⟩:=bind_some bc
        refine l_appendT (RI.one _) 2 m bg Z (by simp) T49 Z (by decide) f Z Z Z (Ow.src (j:=0) bZ m Z) b1 λb2 b3 w a m b4 f=>Ac f Z λa f=>Ab (An ?_)
        refine Aa f Z λa f=>Ah f Z Z Av λa f=>Ac f Z λa f=>Ab ?_
        have m:=m.fr 2
        have m:=m.fr 2
        have m:=m.eraseAt 2
        obtain rfl:=sj bc
        exact⟨_,Z,_,_,_,Z,_,bV,b3,b2,(gt be (gt bD (gt bM bT))),f.k Z,m,bW,b4⟩
       ·refine Ai f Z bN ?_
        refine Am ?_
        refine An ?_
        refine Aa f Z λa f=>Ah f Z Z Av λa f=>Ac f Z λa f=>Ab ?_
        obtain rfl:=sj bc
        exact⟨_,Z,_,_,_,Z,_,a8,a9,ba,(gt be (gt bD bM)),f.k Z,m,bf,bg⟩
    ·refine Ai f Z bh ?_
     refine Ax Z ?_
     obtain rfl:=sj bc
     obtain rfl:=bd _ rfl
     exact⟨_,_,Z,_,a8,a9,ba,be,f.k Z,m,bf,bg⟩
   ·rintro a w ⟨aX,aY,rfl,aZ,a0,a1,a2,b5,f,m,b6,b7⟩
    obtain rfl:=sj aE
    exact⟨_,Z,_,_,Z,_,a0,a1,a2,(gt aG b5),f.k Z,m,b6,b7⟩
  ·refine Ai f Z aJ ?_
   refine Ax Z ?_
   have m:Mem W az w H:=Mem.drop (H':=[ib ad 27 [aa],aC]) m
   obtain rfl:=sj aE
   obtain rfl:=aF _ rfl
   exact⟨_,Z,_,aA,aG,f.k Z,m,aH⟩
 ·rintro a w ⟨ar,rfl,au,av,b8,f,m,b9⟩
  refine Af ?_
  refine Aa f Z λa f=>Ac f Z λa f=>Ab ?_
  refine Aq ?_
  obtain rfl:=sj hd
  exact⟨[av],f.g Z,f.d,_,[],(gt an b8),m,_,Z,Z,b9⟩
theorem Wk.u {v0:Value}{x0:LL}{x1 x2:Int}(m:Mem W G w (H))(h0:R2 G v0 x0){y:Bool}(hd:D.u x0 x1 x2=some y):
  Calls prog 62 #[v0,(iv x1),(iv x2)] w (Res W G H (λ_ Ho v=>Ho=[]∧v=(.bool y))):=by
 refine As (args:=[v0,(iv x1),(iv x2)]) (N:=32) [.tmp 6] func62 Z Z (lb Z) Z λa f=> ?_
 unfold D.u at hd
 refine Af ?_
 refine Ac f Z λa f=>Ab (Ag (Af ?_))
 refine Ac f Z λa f=>Ab ?_
 have⟨aa,ab,hd⟩:=bind_some hd
 refine AE (λa w=>∃q_113':Unit,aa= .inl q_113'∧∃(ac:GH),GLe G ac∧Fr a 32 []∧Mem W ac w (H)) ?_ ?_
 ·refine Ak ?_
  refine Az (λad a w=>∃ae:Int,ae=ad∧∃(af:GH),GLe G af∧Fr a 32 [(0,v0),(1,(iv x1)),(2,(iv x2)),(7,(iv ae))]∧Mem W af w (H)) ab ⟨_,Z,_,gr,f.k Z,m⟩ ?_
  clear ab f m
  rintro ad ag ah ai a w ⟨ae,rfl,af,aj,f,m⟩
  have h0:=rd2 aj h0
  refine Ag (Af ?_)
  refine Aa f Z λa f=>Aa f Z λa f=>AP underlying22 f Z Z h0 λa f=>Ah f Z Z Aw λa f=>Ab ?_
  rcases Ae ah with⟨ak,ah⟩|⟨ak,ah⟩
  ·refine Al f Z ak ?_
   refine Am ?_
   refine Ag (Ak (Af ?_))
   refine Aa f Z λa f=>Aa f Z λa f=> ?_
   have⟨al,am,ah⟩:=bind_some ah
   refine A8 T22 f Z Z Z h0 am λan ao a ap aq f=>AF m Bt f Z Z ap λa f=> ?_
   have⟨ar,au,ah⟩:=bind_some ah
   refine A8 T49 f Z Z Z aq au λav aw a ax ay f=> ?_
   subst ay
   refine AF m Pl2 f Z Z ax λa f=>Aa f Z λa f=>Ah f Z Z BO λa f=>Aa f Z λa f=> ?_
   have⟨az,aA,ah⟩:=bind_some ah
   refine BF 9 (λa w=>∃aB,GLe af aB∧Mem W aB w (H)∧Fr a 32 [(0,v0),(1,(iv x1)),(2,(iv x2)),(7,(iv ae)),(11,(.bool (decide (ae<(x0.length:Int))))),(14,v0),(15,(iv ae)),(16,an),(17,ao),(18,av),(19,(iv ar)),(20,(iv x1)),(21,(.bool (ar==x1))),(22,(.bool (ar==x1))),(31,(.bool az))]) ?_ ?_
   ·rcases Ae aA with⟨aC,aA⟩|⟨aC,aA⟩
    ·refine AC f aC ?_
     refine Aa f Z λa f=>AC f aC ?_
     refine Aa f Z λa f=>AC f aC ?_
     have⟨aD,aE,aA⟩:=bind_some aA
     refine A8 T22 f Z Z Z h0 aE λaF aG a aH aI f=>AC f aC ?_
     refine AF m Bt f Z Z aH λa f=>AC f aC ?_
     have⟨aJ,aK,aA⟩:=bind_some aA
     refine A8 T49 f Z Z Z aI aK λaL aM a aN aO f=> ?_
     subst aO
     refine AC f aC ?_
     refine AF m Pl2 f Z Z aN λa f=>AC f aC ?_
     refine Aa f Z λa f=>AC f aC ?_
     refine Ah f Z Z BO λa f=>l_o f (AZ (f.e Z) aC (f.e Z)) λa f=> ?_
     obtain rfl:=sj aA
     exact⟨_,gr,m,f.k Z⟩
    ·refine AD f aC λa f=> ?_
     refine AD f aC λa f=>AD f aC λa f=>AD f aC λa f=>AD f aC λa f=>AD f aC λa f=>AD f aC λa f=>AD f aC λa f=>l_o f (AY (f.e Z) aC (f.e Z)) λa f=> ?_
     obtain rfl:=sj aA
     exact⟨_,gr,m,f.k Z⟩
   ·rintro a w ⟨aB,aP,m,f⟩
    refine Ab ?_
    rcases Ae ah with⟨aQ,ah⟩|⟨aQ,ah⟩
    ·refine Al f Z aQ ?_
     refine Af ?_
     refine Ac f Z λa f=>Ab ?_
     refine Aq ?_
     obtain rfl:=sj ah
     obtain rfl:=ai _ rfl
     obtain rfl:=sj hd
     exact⟨[(.bool true)],f.g Z,f.d,_,[],(gt aj aP),m,Z,Z⟩
    ·refine Ai f Z aQ ?_
     refine Am ?_
     refine An ?_
     refine Aa f Z λa f=>Ah f Z Z Av λa f=>Ac f Z λa f=>Ab ?_
     obtain rfl:=sj ah
     exact⟨_,Z,_,Z,_,(gt aj aP),f.k Z,m⟩
  ·refine Ai f Z ak ?_
   refine Ax Z ?_
   obtain rfl:=sj ah
   obtain rfl:=ai _ rfl
   exact⟨_,Z,_,aj,f.weak trivial,m⟩
 ·rintro a w ⟨_,rfl,ac,aR,f,m⟩
  refine Af ?_
  refine Ac f Z λa f=>Ab ?_
  refine Aq ?_
  obtain rfl:=sj hd
  exact⟨[(.bool false)],f.g Z,f.d,_,[],aR,m,Z,Z⟩
theorem Wk.l {aa:Value}{ab:LL}{x1 x2:Int}(m:Mem W G w (H))(ac:R2 G aa ab){y:(LI)}(hd:D.l ab x1 x2=some y):
  Calls prog 28 #[(.agg #[aa]),(iv x1),(iv x2)] w (Res W G H (λG' Ho v=>∃r0:Value,Ho=[]∧r0=v∧R1 G' r0 y)):=by
 refine As (args:=[(.agg #[aa]),(iv x1),(iv x2)]) (N:=107) [.tmp 6] func28 Z Z (lb Z) Z λa f=> ?_
 unfold D.l at hd
 refine Af ?_
 refine B6 (cs:=[aa]) m f Z Z Z λad w a m f=>Ac f Z λa f=>Au ?_
 refine A3 (R:=R0) (xs:=([]:LI)) (RI.one _) m T49 f Z Z Z (by decide) (All2.nil _) λae af w a m ag f=>Ac f Z λa f=>Au ?_
 refine Aa f Z λa f=>Aa f Z λa f=>A3 (R:=R0) (xs:=([x1,x2]:LI)) (RI.one _) m T49 f Z Z Z (by decide) (All2.cons Z (All2.cons Z (All2.nil _))) λah ai w a m aj f=> ?_
 obtain⟨ak,al,m,am⟩:=Ow.stamp (RI.mono _) aj m
 have ac:=rd2 al ac
 have ag:=od1 al ag
 refine A3 (R:=R1) (xs:=([([x1,x2]:LI)]:LL)) (RSl.one _) m T22 f Z Z Z (by decide) (All2.cons am (All2.nil _)) λan ao w a m ap f=>Ac f Z λa f=>Au ?_
 refine Aa f Z λa f=>Aa f Z λa f=>A3 (R:=R0) (xs:=([x1,x2]:LI)) (RI.one _) m T49 f Z Z Z (by decide) (All2.cons Z (All2.cons Z (All2.nil _))) λaq ar w a m au f=>Aa f Z λa f=>Aa f Z λa f=>A3 (R:=R0) (xs:=([x2,x1]:LI)) (RI.one _) m T49 f Z Z Z (by decide) (All2.cons Z (All2.cons Z (All2.nil _))) λav aw w a m ax f=> ?_
 have m:=m.fr 1
 obtain⟨ay,az,m,aA⟩:=Ow.stamp (RI.mono _) au m
 have ac:=rd2 az ac
 have ax:=od1 az ax
 have ap:=Ow.mono (RSl.mono (RI.mono _)) az ap
 have ag:=od1 az ag
 obtain⟨aB,aC,m,aD⟩:=Ow.stamp (RI.mono _) ax m
 have ac:=rd2 aC ac
 have aA:=rd1 aC aA
 have ap:=Ow.mono (RSl.mono (RI.mono _)) aC ap
 have ag:=od1 aC ag
 refine A3 (R:=R1) (xs:=([([x1,x2]:LI),([x2,x1]:LI)]:LL)) (RSl.one _) m T22 f Z Z Z (by decide) (All2.cons aA (All2.cons aD (All2.nil _))) λaE aF w a m aG f=>Ac f Z λa f=>Ab (Ag (Af ?_))
 refine Ac f Z λa f=>Ab ?_
 have m:=m.fr 2
 obtain⟨aH,aI,m,aJ⟩:=Ow.stamp (RI.mono _) ag m
 have ac:=rd2 aI ac
 have aG:=Ow.mono (RSl.mono (RI.mono _)) aI aG
 have ap:=Ow.mono (RSl.mono (RI.mono _)) aI ap
 have⟨aK,aL,hd⟩:=bind_some hd
 refine AE (λa w=>∃aM:LI,aM=aK∧∃(aN:GH) (aO:Value),GLe aH aN∧Fr a 107 [(7,aO)]∧Mem W aN w (H)∧R1 aN aO aM) ?_ ?_
 ·refine Ak ?_
  have m:=m.fr 1
  have m:=m.fr 2
  refine Az (λaP a w=>∃aQ:LI,∃aR:LL,∃aS:LL,∃aT:Int,(aQ,aR,aS,aT)=aP∧∃(aU:GH) (aV:Value) (aW:Value) (aX:Itm) (aY:Value) (aZ:Itm),GLe aH aU∧Fr a 107 [(3,(pb ad)),(7,aV),(8,aW),(9,aY),(10,(iv aT))]∧Mem W aU w (ib ad 27 [aa]::aX::aZ::H)∧R1 aU aV aQ∧Ow R1 49 aU aX aW aR∧Ow R1 49 aU aZ aY aS) aL ⟨_,_,_,_,Z,_,af,ao,an,aF,aE,gr,f.k Z,m,aJ,ap,aG⟩ ?_
  clear aL f m
  rintro aP a0 a1 a2 a w ⟨aQ,aR,aS,aT,rfl,aU,aV,aW,aX,aY,aZ,a3,f,m,a4,a5,a6⟩
  have ac:=rd2 a3 ac
  refine Ag (Af ?_)
  refine Aa f Z λa f=>Aa f Z λa f=>BQ 1 m a5 Z underlying22 f Z Z λa f=>Ah f Z Z Aw λa f=>Ab ?_
  rcases Ae a1 with⟨a7,a1⟩|⟨a7,a1⟩
  ·refine Al f Z a7 ?_
   refine Am ?_
   refine Ag (Ak (Af ?_))
   refine Ac f Z λa f=>Ab ?_
   have⟨a8,a9,a1⟩:=bind_some a1
   refine AE (λa w=>∃ba:LI,∃bb:LL,∃bc:LL,(ba,bb,bc)=a8∧∃(bd:GH) (be:Value) (bf:Value) (bg:Itm) (bh:Value) (bi:Itm),GLe aU bd∧Fr a 107 [(3,(pb ad)),(7,be),(8,bf),(9,bh),(10,(iv aT))]∧Mem W bd w (ib ad 27 [aa]::bg::bi::H)∧R1 bd be ba∧Ow R1 49 bd bg bf bb∧Ow R1 49 bd bi bh bc) ?_ ?_
   ·refine Ak ?_
    refine Az (λbj a w=>∃bk:LI,∃bl:LL,∃bm:LL,∃bn:Int,(bk,bl,bm,bn)=bj∧∃(bo:GH) (bp:Value) (bq:Value) (br:Itm) (bs:Value) (bt:Itm),GLe aU bo∧Fr a 107 [(3,(pb ad)),(7,bp),(8,bq),(9,bs),(10,(iv aT)),(11,(iv bn))]∧Mem W bo w (ib ad 27 [aa]::br::bt::H)∧R1 bo bp bk∧Ow R1 49 bo br bq bl∧Ow R1 49 bo bt bs bm) a9 ⟨_,_,_,_,Z,_,aV,aW,aX,aY,aZ,gr,f.k Z,m,a4,a5,a6⟩ ?_
    clear a9 f m
    rintro bj bu bv bw a w ⟨bk,bl,bm,bn,rfl,bo,bp,bq,br,bs,bt,bx,f,m,bz,bA,bB⟩
    have ac:=rd2 bx ac
    refine Ag (Af ?_)
    refine Aa f Z λa f=>Ah f Z Z Aw λa f=>Ab ?_
    rcases Ae bv with⟨bC,bv⟩|⟨bC,bv⟩
    ·refine Al f Z bC ?_
     refine Am ?_
     refine Ag (Ak (Af ?_))
     refine Aa f Z λa f=>Aa f Z λa f=> ?_
     have⟨bD,bE,bv⟩:=bind_some bv
     refine A4 1 m bA Z T22 f Z Z Z bE λbF a bG f=>B7 1 m bA Z Bt f Z Z bG bE λbH a bI f=>Aa f Z λa f=> ?_
     have⟨bJ,bK,bv⟩:=bind_some bv
     refine A8 T49 f Z Z Z bI bK λbL bM a bN bO f=> ?_
     subst bO
     refine AF m Pl2 f Z Z bN λa f=>Ac f Z λa f=>Au ?_
     refine Aa f Z λa f=>Aa f Z λa f=> ?_
     have⟨bP,bQ,bv⟩:=bind_some bv
     refine A4 1 m bA Z T22 f Z Z Z bQ λbR a bS f=>B7 1 m bA Z Bt f Z Z bS bQ λbT a bU f=>Aa f Z λa f=>Ah f Z Z AL λa f=> ?_
     have⟨bV,bW,bv⟩:=bind_some bv
     refine A8 T49 f Z Z Z bU bW λbX bY a bZ b0 f=> ?_
     subst b0
     refine AF m Pl2 f Z Z bZ λa f=>Ac f Z λa f=>Au ?_
     refine Aa f Z λa f=>Aa f Z λa f=> ?_
     have⟨b1,b2,bv⟩:=bind_some bv
     refine AM f Z call59 (Wk.s m bz b2) λb3 b4 b5 w b6 m b7 a f=> ?_
     obtain⟨b8,rfl,rfl,b9⟩:=b7
     have ac:=rd2 b6 ac
     have bA:=Ow.mono (RSl.mono (RI.mono _)) b6 bA
     have bB:=Ow.mono (RSl.mono (RI.mono _)) b6 bB
     refine Ac f Z λa f=>Ab (Ag ?_)
     refine A6 7 AI (by kernel_rfl) m ?_
     refine CZ (i:=0) (ds:=[aa]) 7 0 CO Z Z Z Z (by kernel_rfl) Z f Z Z Z λa f=>CZ (i:=1) (ds:=[aa]) 7 0 CO Z Z Z Z (by kernel_rfl) Z f Z Z Z λa f=>Aj 2 7 Z f Z λa f=>Aj 4 7 Z f Z λa f=>q_on 3 Z λca w cb m cc cc=> ?_
     have b9:=rd1 cb b9
     have ac:=rd2 cb ac
     have bA:=Ow.mono (RSl.mono (RI.mono _)) cb bA
     have bB:=Ow.mono (RSl.mono (RI.mono _)) cb bB
     have⟨cd,ce,bv⟩:=bind_some bv
     refine AM f Z call61 (Wk.J m ac ce) λcf cg ch w ci m cj a f=> ?_
     obtain⟨ck,cl,rfl,rfl,cm⟩:=cj
     have b9:=rd1 ci b9
     have ac:=rd2 ci ac
     have bA:=Ow.mono (RSl.mono (RI.mono _)) ci bA
     have bB:=Ow.mono (RSl.mono (RI.mono _)) ci bB
     refine Ab ?_
     refine cc cg [cl] _ _ ci m ?_
     refine q_on 5 Z λcn w co m cp cp=> ?_
     have b9:=rd1 co b9
     have ac:=rd2 co ac
     have cm:=od1 co cm
     have bA:=Ow.mono (RSl.mono (RI.mono _)) co bA
     have bB:=Ow.mono (RSl.mono (RI.mono _)) co bB
     obtain⟨cq,cr,m,ct⟩:=Ow.stamp (RI.mono _) cm m
     have b9:=rd1 cr b9
     have ac:=rd2 cr ac
     have bA:=Ow.mono (RSl.mono (RI.mono _)) cr bA
     have bB:=Ow.mono (RSl.mono (RI.mono _)) cr bB
     have⟨cu,cv,bv⟩:=bind_some bv
     refine AM f Z call60 (Wk.B m ac ct cv) λcw cx cy w cz m cA a f=> ?_
     obtain⟨cB,rfl,rfl,cC⟩:=cA
     have b9:=rd1 cz b9
     have ac:=rd2 cz ac
     have bA:=Ow.mono (RSl.mono (RI.mono _)) cz bA
     have bB:=Ow.mono (RSl.mono (RI.mono _)) cz bB
     refine Ab ?_
     refine cp cx [] _ _ (gt cr cz) m ?_
     refine q_p 6 7 Z f (λ_=>Do (f.e Z)) λa f=>A2 λcD w cE m=> ?_
     have b9:=rd1 cE b9
     have cC:=rd1 cE cC
     have ac:=rd2 cE ac
     have bA:=Ow.mono (RSl.mono (RI.mono _)) cE bA
     have bB:=Ow.mono (RSl.mono (RI.mono _)) cE bB
     refine Au ?_
     refine Ac f Z λa f=>Ab ?_
     have⟨cF,cG,bv⟩:=bind_some bv
     refine AE (λa w=>∃cH:LL,∃cI:LL,(cH,cI)=cF∧∃(cJ:GH) (cK:Value) (cL:Itm) (cM:Value) (cN:Itm),GLe cD cJ∧Fr a 107 [(3,(pb ad)),(7,b8),(8,cK),(9,cM),(10,(iv aT)),(11,(iv bn))]∧Mem W cJ w (ib ad 27 [aa]::cL::cN::H)∧Ow R1 49 cJ cL cK cH∧Ow R1 49 cJ cN cM cI) ?_ ?_
     ·refine Ak ?_
      refine Az (λcO a w=>∃cP:LL,∃cQ:LL,∃cR:Int,(cP,cQ,cR)=cO∧∃(cS:GH) (cT:Value) (cU:Itm) (cV:Value) (cW:Itm),GLe cD cS∧Fr a 107 [(3,(pb ad)),(7,b8),(8,cT),(9,cV),(10,(iv aT)),(11,(iv bn)),(12,(iv bJ)),(14,cB),(15,(iv cR))]∧Mem W cS w (ib ad 27 [aa]::cU::cW::H)∧Ow R1 49 cS cU cT cP∧Ow R1 49 cS cW cV cQ) cG ⟨_,_,_,Z,_,bq,br,bs,bt,gr,f.k Z,m,bA,bB⟩ ?_
      clear cG f m
      rintro cO cX cY cZ a w ⟨cP,cQ,cR,rfl,cS,cT,cU,cV,cW,c0,f,m,c1,c2⟩
      have cC:=rd1 c0 cC
      have ac:=rd2 c0 ac
      refine Ag (Af ?_)
      refine Aa f Z λa f=>BM underlying27 Z sizeOf22 f Z λa f=>AW 0 0 m BG f Z Z Z Z λa f=>Aa f Z λa f=> ?_
      have⟨c3,c4,cY⟩:=bind_some cY
      refine A8 T22 f Z Z Z ac c4 λc5 c6 a c7 c8 f=>AF m Bt f Z Z c7 λa f=>AP underlying49 f Z Z c8 λa f=>Ah f Z Z Aw λa f=>Ab ?_
      rcases Ae cY with⟨c9,cY⟩|⟨c9,cY⟩
      ·refine Al f Z c9 ?_
       refine Am ?_
       refine Ag (Ak (Af ?_))
       refine BM underlying27 Z sizeOf22 f Z λa f=>AW 0 0 m BG f Z Z Z Z λa f=>Aa f Z λa f=> ?_
       have⟨da,db,cY⟩:=bind_some cY
       refine A8 T22 f Z Z Z ac db λdc dd a de df f=>AF m Bt f Z Z de λa f=>Aa f Z λa f=> ?_
       have⟨dg,dh,cY⟩:=bind_some cY
       refine A8 T49 f Z Z Z df dh λdi dj a dk dl f=> ?_
       subst dl
       refine AF m Pl2 f Z Z dk λa f=>Ac f Z λa f=>Au ?_
       refine Aa f Z λa f=>Aa f Z λa f=> ?_
       have⟨dm,dn,cY⟩:=bind_some cY
       refine Ba f Z call56 (Wk.d m cC dn) λdp w dq m a f=> ?_
       have c1:=Ow.mono (RSl.mono (RI.mono _)) dq c1
       have c2:=Ow.mono (RSl.mono (RI.mono _)) dq c2
       refine Aa f Z λa f=> ?_
       have⟨dr,dt,cY⟩:=bind_some cY
       refine BF 6 (λa w=>∃du,GLe dp du∧Mem W du w (ib ad 27 [aa]::cU::cW::H)∧Fr a 107 [(3,(pb ad)),(7,b8),(8,cT),(9,cV),(10,(iv aT)),(11,(iv bn)),(12,(iv bJ)),(14,cB),(15,(iv cR)),(16,(iv dg)),(81,cB),(82,(iv dg)),(83,(.bool dm)),(84,(.bool dm)),(90,(.bool dr))]) ?_ ?_
       ·rcases Ae dt with⟨dv,dt⟩|⟨dv,dt⟩
        ·refine AC f dv ?_
         refine Aa f Z λa f=>AC f dv ?_
         refine Aa f Z λa f=>AC f dv ?_
         refine Aa f Z λa f=>AC f dv ?_
         have⟨dw,dx,dt⟩:=bind_some dt
         refine AM f Z call62 (Ow.lendCall (RSl.mono (RI.mono _)) 2 c2 m Z (λdy dz m dA=>Wk.u m dA dx) (λ_ _ _ _ h=>h)) λdB dC dD w dE m dF a f=> ?_
         obtain⟨rfl,rfl⟩:=dF
         refine AC f dv ?_
         refine l_o f (Bi (f.e Z)) λa f=>l_o f (AZ (f.e Z) dv (f.e Z)) λa f=> ?_
         obtain rfl:=sj dt
         exact⟨_,dE,m,f.k Z⟩
        ·refine AD f dv λa f=> ?_
         refine AD f dv λa f=>AD f dv λa f=>AD f dv λa f=>AD f dv λa f=>l_o f (AY (f.e Z) dv (f.e Z)) λa f=> ?_
         obtain rfl:=sj dt
         exact⟨_,gr,m,f.k Z⟩
       ·rintro a w ⟨du,dG,m,f⟩
        have c1:=Ow.mono (RSl.mono (RI.mono _)) dG c1
        have c2:=Ow.mono (RSl.mono (RI.mono _)) dG c2
        refine Ab ?_
        rcases Ae cY with⟨dH,cY⟩|⟨dH,cY⟩
        ·refine Al f Z dH ?_
         refine Af ?_
         refine Aa f Z λa f=>Aa f Z λa f=>Aa f Z λa f=>A3 (R:=R0) (xs:=([bJ,dg]:LI)) (RI.one _) m T49 f Z Z Z (by decide) (All2.cons Z (All2.cons Z (All2.nil _))) λdI dJ w a m dK f=> ?_
         obtain⟨dL,dM,m,dN⟩:=Ow.stamp (RI.mono _) dK m
         have c1:=Ow.mono (RSl.mono (RI.mono _)) dM c1
         have c2:=Ow.mono (RSl.mono (RI.mono _)) dM c2
         refine A3 (R:=R1) (xs:=([([bJ,dg]:LI)]:LL)) (RSl.one _) m T22 f Z Z Z (by decide) (All2.cons dN (All2.nil _)) λdO dP w a m dQ f=> ?_
         have⟨dR,dS,cY⟩:=bind_some cY
         refine Bm (RSl.one _) 2 m c1 Z T22 Z (by decide) f Z Z Z (Ow.src (j:=0) dQ m Z) dS λdT dU w a m dV f=>Ac f Z λa f=>Ab (An ?_)
         refine Aa f Z λa f=>Aa f Z λa f=>Aa f Z λa f=>A3 (R:=R0) (xs:=([bJ,dg]:LI)) (RI.one _) m T49 f Z Z Z (by decide) (All2.cons Z (All2.cons Z (All2.nil _))) λdW dX w a m dY f=>Aa f Z λa f=>Aa f Z λa f=>A3 (R:=R0) (xs:=([dg,bJ]:LI)) (RI.one _) m T49 f Z Z Z (by decide) (All2.cons Z (All2.cons Z (All2.nil _))) λdZ d0 w a m d1 f=> ?_
         have m:Mem W dL w (dW::dZ::dO::ib ad 27 [aa]::dT::cW::H):=m.fr 1
         obtain⟨d2,d3,m,d4⟩:=Ow.stamp (RI.mono _) dY m
         have d1:=od1 d3 d1
         have dV:=Ow.mono (RSl.mono (RI.mono _)) d3 dV
         have c2:=Ow.mono (RSl.mono (RI.mono _)) d3 c2
         obtain⟨d5,d6,m,d7⟩:=Ow.stamp (RI.mono _) d1 m
         have d4:=rd1 d6 d4
         have dV:=Ow.mono (RSl.mono (RI.mono _)) d6 dV
         have c2:=Ow.mono (RSl.mono (RI.mono _)) d6 c2
         refine A3 (R:=R1) (xs:=([([bJ,dg]:LI),([dg,bJ]:LI)]:LL)) (RSl.one _) m T22 f Z Z Z (by decide) (All2.cons d4 (All2.cons d7 (All2.nil _))) λd8 d9 w a m ea f=> ?_
         have⟨eb,ec,cY⟩:=bind_some cY
         refine Bm (RSl.one _) 4 m c2 Z T22 Z (by decide) f Z Z Z (Ow.src (j:=0) ea m Z) ec λed ee w a m ef f=>Ac f Z λa f=>Ab (An ?_)
         refine Aa f Z λa f=>Ah f Z Z Av λa f=>Ac f Z λa f=>Ab ?_
         have m:=m.fr 4
         have m:=m.fr 4
         have m:Mem W d5 w (ib ad 27 [aa]::dT::ed::d8::dO::H):=m.fr 4
         have m:=m.eraseAt 4
         have m:=m.eraseAt 3
         obtain rfl:=sj cY
         exact⟨_,Z,_,_,_,Z,_,dU,dT,ee,ed,(gt c0 (gt dq (gt dG (gt dM (gt d3 d6))))),f.k Z,m,dV,ef⟩
        ·refine Ai f Z dH ?_
         refine Am ?_
         refine An ?_
         refine Aa f Z λa f=>Ah f Z Z Av λa f=>Ac f Z λa f=>Ab ?_
         obtain rfl:=sj cY
         exact⟨_,Z,_,_,_,Z,_,cT,cU,cV,cW,(gt c0 (gt dq dG)),f.k Z,m,c1,c2⟩
      ·refine Ai f Z c9 ?_
       refine Ax Z ?_
       obtain rfl:=sj cY
       obtain rfl:=cZ _ rfl
       exact⟨_,_,Z,_,cT,cU,cV,cW,c0,f.k Z,m,c1,c2⟩
     ·rintro a w ⟨cH,cI,rfl,cJ,cK,cL,cM,cN,eg,f,m,eh,ei⟩
      have b9:=rd1 eg b9
      refine An ?_
      refine Aa f Z λa f=>Ah f Z Z Av λa f=>Ac f Z λa f=>Ab ?_
      obtain rfl:=sj bv
      exact⟨_,Z,_,_,_,_,Z,_,b8,cK,cL,cM,cN,(gt bx (gt b6 (gt cb (gt ci (gt co (gt cr (gt cz (gt cE eg)))))))),f.k Z,m,b9,eh,ei⟩
    ·refine Ai f Z bC ?_
     refine Ax Z ?_
     obtain rfl:=sj bv
     obtain rfl:=bw _ rfl
     exact⟨_,_,_,Z,_,bp,bq,br,bs,bt,bx,f.k Z,m,bz,bA,bB⟩
   ·rintro a w ⟨ba,bb,bc,rfl,bd,be,bf,bg,bh,bi,ej,f,m,ek,el,em⟩
    refine An ?_
    refine Aa f Z λa f=>Ah f Z Z Av λa f=>Ac f Z λa f=>Ab ?_
    obtain rfl:=sj a1
    exact⟨_,Z,_,_,_,_,Z,_,be,bf,bg,bh,bi,(gt a3 ej),f.k Z,m,ek,el,em⟩
  ·refine Ai f Z a7 ?_
   refine Ax Z ?_
   have m:Mem W aU w H:=Mem.drop (H':=[ib ad 27 [aa],aX,aZ]) m
   obtain rfl:=sj a1
   obtain rfl:=a2 _ rfl
   exact⟨_,Z,_,aV,a3,f.k Z,m,a4⟩
 ·rintro a w ⟨aM,rfl,aN,aO,en,f,m,eo⟩
  refine Af ?_
  refine Aa f Z λa f=>Ac f Z λa f=>Ab ?_
  refine Aq ?_
  obtain rfl:=sj hd
  exact⟨[aO],f.g Z,f.d,_,[],(gt al (gt az (gt aC (gt aI en)))),m,_,Z,Z,eo⟩
theorem Wk.z {aa:Value}{ab:LL}(m:Mem W G w (H))(ac:R2 G aa ab){y:(LL)}(hd:D.z ab=some y):
  Calls prog 7 #[(.agg #[aa])] w (Res W G H (λG' Ho v=>∃r0:Value,Ho=[]∧r0=v∧R2 G' r0 y)):=by
 refine As (args:=[(.agg #[aa])]) (N:=53) [.tmp 2] func7 Z Z (lb Z) Z λa f=> ?_
 unfold D.z at hd
 refine Af ?_
 refine B6 (cs:=[aa]) m f Z Z Z λad w a m f=>Ac f Z λa f=>Au ?_
 refine A3 (R:=R1) (xs:=([]:LL)) (RSl.one _) m T22 f Z Z Z (by decide) (All2.nil _) λae af w a m ag f=>Ac f Z λa f=>Ab (Ag (Af ?_))
 refine BL 1 0 (ds:=[aa]) m CO f Z Z Z Z Z λa f=> ?_
 have⟨ah,ai,hd⟩:=bind_some hd
 refine Ba f Z call26 (Wk.m0 m ac ai) λaj w ak m a f=> ?_
 have ac:=rd2 ak ac
 have ag:=Ow.mono (RSl.mono (RI.mono _)) ak ag
 refine l_o f (Bi (f.e Z)) λa f=>Ab ?_
 rcases Ae hd with⟨al,hd⟩|⟨al,hd⟩
 ·refine Al f Z al ?_
  refine Af ?_
  refine Aa f Z λa f=>Ac f Z λa f=>Ab ?_
  refine Aq ?_
  obtain⟨am,an,m,ao⟩:=Ow.stamp (RSl.mono (RI.mono _)) ag m
  have m:Mem W am w H:=Mem.drop (H':=[ib ad 27 [aa]]) m
  obtain rfl:=sj hd
  exact⟨[af],f.g Z,f.d,_,[],(gt ak an),m,_,Z,Z,ao⟩
 ·refine Ai f Z al ?_
  refine Am ?_
  refine Ag (Af ?_)
  refine Ac f Z λa f=>Ab ?_
  obtain⟨ap,aq,m,ar⟩:=Ow.stamp (RSl.mono (RI.mono _)) ag m
  have ac:=rd2 aq ac
  have⟨au,av,hd⟩:=bind_some hd
  refine AE (λa w=>∃aw:LL,aw=au∧∃(ax:GH) (ay:Value),GLe ap ax∧Fr a 53 [(3,ay)]∧Mem W ax w (H)∧R2 ax ay aw) ?_ ?_
  ·refine Ak ?_
   refine Az (λaz a w=>∃aA:LL,∃aB:Int,(aA,aB)=az∧∃(aC:GH) (aD:Value),GLe ap aC∧Fr a 53 [(1,(pb ad)),(3,aD),(4,(iv aB))]∧Mem W aC w (ib ad 27 [aa]::H)∧R2 aC aD aA) av ⟨_,_,Z,_,af,gr,f.k Z,m,ar⟩ ?_
   clear av f m
   rintro az aE aF aG a w ⟨aA,aB,rfl,aC,aD,aH,f,m,aI⟩
   have ac:=rd2 aH ac
   refine Ag (Af ?_)
   refine Aa f Z λa f=>BM underlying27 Z sizeOf22 f Z λa f=>AW 0 0 m BG f Z Z Z Z λa f=>AP underlying22 f Z Z ac λa f=>Ah f Z Z Aw λa f=>Ab ?_
   rcases Ae aF with⟨aJ,aF⟩|⟨aJ,aF⟩
   ·refine Al f Z aJ ?_
    refine Am ?_
    refine Ag (Ak (Ag (Af ?_)))
    refine BM underlying27 Z sizeOf22 f Z λa f=>AW 0 0 m BG f Z Z Z Z λa f=>Aa f Z λa f=> ?_
    have⟨aK,aL,aF⟩:=bind_some aF
    refine A8 T22 f Z Z Z ac aL λaM aN a aO aP f=>AF m Bt f Z Z aO λa f=>AP underlying49 f Z Z aP λa f=>Ah f Z Z BO λa f=>Ab ?_
    have⟨aQ,aR,aF⟩:=bind_some aF
    refine AE (λa w=>∃aS:LL,aS=aQ∧∃(aT:GH) (aU:Value),GLe aC aT∧Fr a 53 [(1,(pb ad)),(3,aU),(4,(iv aB))]∧Mem W aT w (ib ad 27 [aa]::H)∧R2 aT aU aS) ?_ ?_
    ·rcases Ae aR with⟨aV,aR⟩|⟨aV,aR⟩
     ·refine Al f Z aV ?_
      refine An ?_
      refine Aa f Z λa f=>Aa f Z λa f=>A3 (R:=R0) (xs:=([aB]:LI)) (RI.one _) m T49 f Z Z Z (by decide) (All2.cons Z (All2.nil _)) λaW aX w a m aY f=> ?_
      obtain⟨aZ,a0,m,a1⟩:=Ow.stamp (RI.mono _) aY m
      have aI:=rd2 a0 aI
      have⟨a2,a3,aR⟩:=bind_some aR
      refine AM f Z call27 (Wk.m m aI a1 a3) λa4 a5 a6 w a7 m a8 a f=> ?_
      obtain⟨a9,rfl,rfl,ba⟩:=a8
      refine Ac f Z λa f=>Ab ?_
      obtain rfl:=sj aR
      exact⟨_,Z,_,a9,(gt a0 a7),f.k Z,m,ba⟩
     ·refine Ai f Z aV ?_
      refine Am ?_
      obtain rfl:=sj aR
      exact⟨_,Z,_,aD,gr,f.k Z,m,aI⟩
    ·rintro a w ⟨aS,rfl,aT,aU,bb,f,m,bc⟩
     have ac:=rd2 bb ac
     refine Af ?_
     refine Ac f Z λa f=>Ab ?_
     have⟨bd,be,aF⟩:=bind_some aF
     refine AE (λa w=>∃bf:LL,bf=bd∧∃(bg:GH) (bh:Value),GLe aT bg∧Fr a 53 [(1,(pb ad)),(3,bh),(4,(iv aB))]∧Mem W bg w (ib ad 27 [aa]::H)∧R2 bg bh bf) ?_ ?_
     ·refine Ak ?_
      refine Az (λbi a w=>∃bj:LL,∃bk:Int,(bj,bk)=bi∧∃(bl:GH) (bm:Value),GLe aT bl∧Fr a 53 [(1,(pb ad)),(3,bm),(4,(iv aB)),(5,(iv bk))]∧Mem W bl w (ib ad 27 [aa]::H)∧R2 bl bm bj) be ⟨_,_,Z,_,aU,gr,f.k Z,m,bc⟩ ?_
      clear be f m
      rintro bi bn bo bp a w ⟨bj,bk,rfl,bl,bm,bq,f,m,br⟩
      have ac:=rd2 bq ac
      refine Ag (Af ?_)
      refine Aa f Z λa f=>BM underlying27 Z sizeOf22 f Z λa f=>AW 0 0 m BG f Z Z Z Z λa f=>Aa f Z λa f=> ?_
      have⟨bs,bt,bo⟩:=bind_some bo
      refine A8 T22 f Z Z Z ac bt λbu bv a bw bx f=>AF m Bt f Z Z bw λa f=>AP underlying49 f Z Z bx λa f=>Ah f Z Z Aw λa f=>Ab ?_
      rcases Ae bo with⟨bz,bo⟩|⟨bz,bo⟩
      ·refine Al f Z bz ?_
       refine Am ?_
       refine Ag (Ak ?_)
       refine A6 14 AI (by kernel_rfl) m ?_
       refine Aj 0 14 Z f Z λa f=>CZ (i:=1) (ds:=[aa]) 14 0 CO Z Z Z Z (by kernel_rfl) Z f Z Z Z λa f=>Aj 2 14 Z f Z λa f=>q_fa 3 14 underlying27 Z sizeOf22 Z f Z λa f=>q_bc 4 14 0 BG Z Z Z f Z λa f=>Aj 5 14 Z f Z λa f=> ?_
       have⟨bA,bB,bo⟩:=bind_some bo
       refine Cd 6 14 T22 ac bB Z f Z Z λbC bD a bE bF f=>Cb 7 14 Bt bE Z f Z λa f=>Aj 8 14 Z f Z λa f=> ?_
       have⟨bG,bH,bo⟩:=bind_some bo
       refine Cd 9 14 T49 bF bH Z f Z Z λbI bJ a bK bL f=> ?_
       subst bL
       refine Cb 10 14 Pl2 bK Z f Z λa f=>q_on 11 Z λbM w bN m bO bO=> ?_
       have br:=rd2 bN br
       have ac:=rd2 bN ac
       have⟨bP,bQ,bo⟩:=bind_some bo
       refine AM f Z call28 (Wk.l m ac bQ) λbR bS bT w bU m bV a f=> ?_
       obtain⟨bW,rfl,rfl,bX⟩:=bV
       have br:=rd2 bU br
       refine Ab ?_
       refine bO bS [] _ _ bU m ?_
       refine q_on 12 Z λbY w bZ m b0 b0=> ?_
       have br:=rd2 bZ br
       have bX:=rd1 bZ bX
       have⟨b1,b2,bo⟩:=bind_some bo
       refine AM f Z call27 (Wk.m m br bX b2) λb3 b4 b5 w b6 m b7 a f=> ?_
       obtain⟨b8,rfl,rfl,b9⟩:=b7
       refine Ab ?_
       refine b0 b4 [] _ _ b6 m ?_
       refine q_p 13 14 Z f (λ_=>Do (f.e Z)) λa f=>A2 λca w cb m=> ?_
       have b9:=rd2 cb b9
       refine Ab (An ?_)
       refine Aa f Z λa f=>Ah f Z Z Av λa f=>Ac f Z λa f=>Ab ?_
       obtain rfl:=sj bo
       exact⟨_,Z,_,_,Z,_,b8,(gt bq (gt bN (gt bU (gt bZ (gt b6 cb))))),f.k Z,m,b9⟩
      ·refine Ai f Z bz ?_
       refine Ax Z ?_
       obtain rfl:=sj bo
       obtain rfl:=bp _ rfl
       exact⟨_,Z,_,bm,bq,f.k Z,m,br⟩
     ·rintro a w ⟨bf,rfl,bg,bh,cc,f,m,cd⟩
      refine An ?_
      refine Aa f Z λa f=>Ah f Z Z Av λa f=>Ac f Z λa f=>Ab ?_
      obtain rfl:=sj aF
      exact⟨_,Z,_,_,Z,_,bh,(gt aH (gt bb cc)),f.k Z,m,cd⟩
   ·refine Ai f Z aJ ?_
    refine Ax Z ?_
    have m:Mem W aC w H:=Mem.drop (H':=[ib ad 27 [aa]]) m
    obtain rfl:=sj aF
    obtain rfl:=aG _ rfl
    exact⟨_,Z,_,aD,aH,f.k Z,m,aI⟩
  ·rintro a w ⟨aw,rfl,ax,ay,ce,f,m,cf⟩
   refine Af ?_
   refine Aa f Z λa f=>Ac f Z λa f=>Ab ?_
   refine Aq ?_
   obtain rfl:=sj hd
   exact⟨[ay],f.g Z,f.d,_,[],(gt ak (gt aq ce)),m,_,Z,Z,cf⟩
theorem Wk.t0 {x0 x1 x2:Int}(m:Mem W G w (H)){y:Bool}(hd:D.t0 x0 x1 x2=some y):
  Calls prog 89 #[(iv x0),(iv x1),(iv x2)] w (Res W G H (λ_ Ho v=>Ho=[]∧v=(.bool y))):=by
 refine As (args:=[(iv x0),(iv x1),(iv x2)]) (N:=15) [.tmp 6] func89 Z Z (lb Z) Z λa f=> ?_
 unfold D.t0 at hd
 refine Af ?_
 refine Ac f Z λa f=>Au ?_
 refine Aa f Z λa f=>Aa f Z λa f=>Ah f Z Z Cy λa f=>Aa f Z λa f=> ?_
 refine BF 4 (λa w=>∃aa,GLe G aa∧Mem W aa w (H)∧Fr a 15 [(0,(iv x0)),(1,(iv x1)),(2,(iv x2)),(7,(iv x1)),(8,(iv x0)),(9,(.bool (decide (x1≤x0)))),(10,(.bool (decide (x1≤x0)))),(14,(.bool ((decide (x1≤x0))&&(decide (x0≤x2)))))]) ?_ ?_
 ·rcases Bool.eq_false_or_eq_true (decide (x1≤x0)) with ab|ab
  ·refine AC f ab ?_
   refine Aa f Z λa f=>AC f ab ?_
   refine Aa f Z λa f=>AC f ab ?_
   refine Ah f Z Z Cy λa f=>l_o f (AZ (f.e Z) ab (f.e Z)) λa f=> ?_
   exact⟨_,gr,m,f.weak ⟨Z,Z,Z,Z,Z,Z,Z,by rw[ab];rfl,trivial⟩⟩
  ·refine AD f ab λa f=> ?_
   refine AD f ab λa f=>AD f ab λa f=>l_o f (AY (f.e Z) ab (f.e Z)) λa f=> ?_
   exact⟨_,gr,m,f.weak ⟨Z,Z,Z,Z,Z,Z,Z,by rw[ab];rfl,trivial⟩⟩
 ·rintro a w ⟨aa,ac,m,f⟩
  refine Ac f Z λa f=>Ab ?_
  refine Aq ?_
  obtain rfl:=sj hd
  exact⟨[(.bool ((decide (x1≤x0))&&(decide (x0≤x2))))],f.g Z,f.d,_,[],ac,m,Z,Z⟩
end Go.Proofs.YtjhajfcggfhbmaaDoor
