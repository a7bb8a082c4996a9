/- Parts. -/
import Derived.Test.YtmkcbhidbdggiaaDoorNi1
import Derived.Shelf.Small.Bits
import Derived.Test.YtmkcbhidbdggiaaDoorProg
import Derived.RangeFuncBox
import Derived.RangeFuncLeaves
import Derived.Shelf.Abstract
import Derived.WalkKit
import Derived.OwnWalkIn
import Derived.TacticsInMore
import Derived.LoopNIn
import Derived.LoopIn
import Derived.Maps.AppendAt
import Derived.KernelRfl
set_option linter.unusedVariables false
set_option linter.unusedSimpArgs false
namespace Go.Sx
open IntKind
noncomputable section
def D.A0 (d:LL)(b:LI)(e:Int):Option (Int):=
 (Aq (σ:=Int×Int) (ρ:=(Int)) (fun(c,a)=>cond (decide (a<(b.length:Int))) ((idx b a).bind λg=>(D.q d g e).bind λh=>(D.K h).bind λi=>some (.inl ((i64.wrap (c+i)),(i64.wrap (a+1))))) (some (.inr c))) (0,0)).bind λj=>some j
def D.F :Nat→LL→LI→LI→Option LI
 |0,_,_,_=>none
 |fuel+1,e,a,f=>cond ((decide ((0:Int)<(f.length:Int)))&&(decide ((f.length:Int)≤(a.length:Int)))) (some f) ((idx a (i64.wrap ((a.length:Int)-1))).bind λg=>(Aq (σ:=LI×Int) (ρ:=LI) (fun(b,c)=>(idx e g).bind λk=>cond (decide (c<(k.length:Int))) ((idx e g).bind λl=>(idx l c).bind λd=>(D.A0 e a d).bind λh=>(idx a 0).bind λm=>(cond (decide (d≤m)) (some true) ((D.k a d).bind λn=>some n)).bind λo=>cond o (some (.inl (b,(i64.wrap (c+1))))) (cond (h==1) ((((D.h a).bind λp=>(AP p ([d]:LI)).bind λq=>(D.F fuel e q b).bind λr=>some r:Option LI)).bind λs=>some (.inl (s,(i64.wrap (c+1))))) ((cond ((h==2)&&(decide ((3:Int)≤(a.length:Int)))) ((idx a 0).bind λt=>(D.q e t d).bind λu=>some u) (some false)).bind λv=>cond v ((D.h a).bind λw=>(AP w ([d]:LI)).bind λi=>(cond ((b.length:Int)==0) (some true) ((D.v0 i b).bind λx=>some x)).bind λy=>cond y (some (.inl (i,(i64.wrap (c+1))))) (some (.inl (b,(i64.wrap (c+1)))))) (some (.inl (b,(i64.wrap (c+1)))))))) (some (.inr b))) (f,0)).bind λz=>some z)
def D.i (a:LL)(b c:LI):Option LI:=D.F Bq a b c
def D.k0 (a:LL):Option (LI×Bool):=
 (Aq (σ:=LI×Int) (ρ:=LI) (fun(c,b)=>(D.d a).bind λf=>(cond (decide (b<f)) ((D.z a).bind λg=>some g) (some false)).bind λh=>cond h ((D.i a ([b]:LI) c).bind λi=>some (.inl (i,(i64.wrap (b+1))))) (some (.inr c))) (([]:LI),0)).bind λd=>some (d,(decide ((0:Int)<(d.length:Int))))
def D.s0 (e:LI)(b f g:Int):Option LI:=
 (D.e0 e f g).bind λc=>(idx c b).bind λm=>cond (decide (m<0)) (some ([]:LI)) ((Aq (σ:=Int×LI) (ρ:=LI) (fun(a,h)=>cond (a !=f) ((idx e a).bind λo=>(D.c (iand .u32 o g)).bind λi=>(Aq (σ:=Int) (ρ:=(Int)) (fun(d:Int)=>cond (decide (d<(i.length:Int))) ((idx i d).bind λj=>(idx c j).bind λp=>(idx c a).bind λq=>cond (p==(i64.wrap (q-1))) (some (.inr j)) (some (.inl (i64.wrap (d+1))))) (some (.inr a))) 0).bind λk=>(AP h ([k]:LI)).bind λr=>some (.inl (k,r))) (some (.inr h))) (b,([b]:LI))).bind λl=>(nonE l).bind λ_=>some l)
def D.u (a:LI)(e f g:Int):Option LI:=
 (D.p a).bind λb=>(idx a g).bind λc=>(D.b g).bind λd=>(D.v (iandNot .u32 (iandNot .u32 b c) d) e).bind λh=>(cond (!h) (some true) ((D.v (iandNot .u32 (iandNot .u32 b c) d) f).bind λi=>some (!i))).bind λj=>cond j (some ([]:LI)) ((D.s0 a e f (iandNot .u32 (iandNot .u32 b c) d)).bind λk=>some k)
def D.l0 (a:LI)(b c d:Int):Option (Bool):=
 (D.b b).bind λe=>(D.b c).bind λf=>(D.b d).bind λg=>(D.t a (ior .u32 (ior .u32 e f) g)).bind λh=>(cond (h==3) ((D.u a b c d).bind λi=>some (!i.isEmpty)) (some false)).bind λj=>(cond j ((D.u a b d c).bind λk=>some (!k.isEmpty)) (some false)).bind λl=>(cond l ((D.u a c d b).bind λm=>some (!m.isEmpty)) (some false)).bind λn=>some n
def D.N0 (a:LL)(b c:Int):Option (Bool):=
 (D.B a b).bind λd=>(cond d ((D.B a c).bind λe=>some e) (some false)).bind λf=>some f
def D.H0 (a:LI):Option LI:=
 (D.r a).bind λb=>some b
def D.t0 (d:LL)(a b c:Int):Option LI:=
 (D.N0 d a b).bind λe=>(cond (!e) (some true) ((D.B d c).bind λf=>some (!f))).bind λg=>cond (((g||(a==b))||(a==c))||(b==c)) (some ([]:LI)) ((D.n d).bind λh=>(D.u h a b c).bind λi=>(D.H0 i).bind λj=>some j)
end
end Go.Sx

namespace Go.Sx
noncomputable section
def D.D0 (F:LI)(c s:Int):Option (Bool×Int):=
 (D.c c).bind λl=>(idx l 0).bind λu=>(idx l 1).bind λv=>(idx l 2).bind λw=>(D.l0 F u v w).bind λb=>some (b,c)
def D.P (g:LL):Option (LI×Bool):=
 (D.l g).bind λb=>cond (!b) (some ([],false)) ((D.n g).bind λF=>(D.s (D.D0 F) Bq (F.length:Int) 0 3 0 0).bind λr=>cond (!r.1) (some ([],false)) ((D.y r.2).bind λl=>some (l,true)))
theorem nilW {y:LI}(h:((D.r []).bind λz=>some z)=some y):some ([]:LI)=some y:=by
 have e:D.r []=some []:=by
  unfold D.r
  have e0:Df (0:Int) 0 (([]:LI).length:Int)=some []:=rfl
  rw[e0,Option.bind_some,AQ (r:=([]:LI)) (by rfl)]
  rfl
 rw[e] at h
 exact h
end
end Go.Sx

namespace Go.Sx
open IntKind
noncomputable def D.O0 (i:LI):Option (Bool):=
 (D.X0 i).bind λk=>cond k (some true) ((D.w0 i 1008).bind λg=>(D.m0 g.1 g.2.1 g.2.2 7).bind λa=>(D.k0 a.1).bind λj=>(D.P a.1).bind λc=>(D.U a.1).bind λl=>cond (l==(j.2||c.2)) (some false) (((cond c.2 ((cond ((c.1.length:Int) !=3) (some true) ((idx c.1 0).bind λm=>(idx c.1 1).bind λn=>(D.e a.1 m n).bind λo=>some o)).bind λp=>cond p (some (.inr false)) ((Aq (σ:=Int) (ρ:=(Unit) ⊕ (Bool)) (fun(f:Int)=>cond (decide (f<3)) ((idx c.1 f).bind λh=>(idx c.1 (Int.tmod (i64.wrap (f+1)) 3)).bind λr=>(idx c.1 (Int.tmod (i64.wrap (f+2)) 3)).bind λs=>(D.t0 a.1 r s h).bind λe=>cond (decide ((e.length:Int)<3)) (some (.inr (.inr false))) ((Aq (σ:=Int) (ρ:=(Unit) ⊕ (Bool)) (fun(d:Int)=>cond (decide (d<(e.length:Int))) ((idx e d).bind λt=>(cond (t==h) (some true) ((idx e d).bind λu=>(D.e a.1 u h).bind λv=>some v)).bind λw=>(cond w (some true) ((cond (decide ((0:Int)<d)) ((idx e (i64.wrap (d-1))).bind λx=>(idx e d).bind λy=>(D.e a.1 x y).bind λaa=>some (!aa)) (some false)).bind λab=>some ab)).bind λac=>cond ac (some (.inr (.inr false))) (some (.inl (i64.wrap (d+1))))) (some (.inr (.inl ())))) 0).bind λzz=>match zz with| .inl _=>(some (.inl (i64.wrap (f+1))))| .inr z=>(some (.inr (.inr z))))) (some (.inr (.inl ())))) 0).bind λzz=>match zz with| .inl _=>(some (.inl ()))| .inr z=>(some (.inr z)))) (some (.inl ())):Option (Unit ⊕ Bool))).bind λq=>match q with| .inl _=>((D.C a.1).bind λb=>(cond b.2 ((cond ((b.1.length:Int) !=4) (some true) ((idx b.1 0).bind λad=>(idx b.1 1).bind λae=>(D.e a.1 ad ae).bind λaf=>some (!af))).bind λag=>(cond ag (some true) ((idx b.1 0).bind λah=>(idx b.1 2).bind λai=>(D.e a.1 ah ai).bind λaj=>some (!aj))).bind λak=>(cond ak (some true) ((idx b.1 0).bind λal=>(idx b.1 3).bind λam=>(D.e a.1 al am).bind λan=>some (!an))).bind λao=>(cond ao (some true) ((idx b.1 1).bind λap=>(idx b.1 2).bind λaq=>(D.e a.1 ap aq).bind λar=>some ar)).bind λau=>(cond au (some true) ((idx b.1 1).bind λav=>(idx b.1 3).bind λaw=>(D.e a.1 av aw).bind λax=>some ax)).bind λay=>(cond ay (some true) ((idx b.1 2).bind λaz=>(idx b.1 3).bind λa0=>(D.e a.1 az a0).bind λa1=>some a1)).bind λa2=>some a2) (some false)).bind λa3=>cond a3 (some false) ((D.n0 a.1).bind λa4=>some (a4==(((!b.2)&&(!j.2))&&(!c.2)))))| .inr q=>(some q)))
end Go.Sx

namespace Go.Sx
end Go.Sx

namespace Go.Sx
end Go.Sx

namespace Go.Sx
end Go.Sx

namespace Go.Sx
end Go.Sx

namespace Go.Sx
end Go.Sx

namespace Go.Sx
end Go.Sx

namespace Go.Sx
end Go.Sx

namespace Go.Proofs
open Go.Shelf
def Tryd.lays125_ren :Go.Shelf.Ren:=⟨fun|125=>161|128=>176|129=>177|n=>n,fun|46=>111|3=>3|51=>62|53=>26|4=>4|5=>5|9=>9|n=>n,fun|n=>n⟩
theorem Tryd.lays125 :Go.Proofs.Lays.n125 Tryd.prog Tryd.lays125_ren:={
 mixed:=by kernel_rfl
 f125:=Tryd.func161.trans (congrArg some (by kernel_rfl))
 f128:=Tryd.func176.trans (congrArg some (by kernel_rfl))
 f129:=Tryd.func177.trans (congrArg some (by kernel_rfl))
 t3:=Tryd.underlying3
 a3:=Tryd.isAgg3
 z3:=Tryd.sizeOf3
 v3:=Tryd.zeroValue3
 t4:=Tryd.underlying4
 a4:=Tryd.isAgg4
 z4:=Tryd.sizeOf4
 v4:=Tryd.zeroValue4
 t5:=Tryd.underlying5
 a5:=Tryd.isAgg5
 z5:=Tryd.sizeOf5
 v5:=Tryd.zeroValue5
 t9:=Tryd.underlying9
 a9:=Tryd.isAgg9
 z9:=Tryd.sizeOf9
 v9:=Tryd.zeroValue9
 t46:=Tryd.underlying111
 a46:=Tryd.isAgg111
 z46:=Tryd.sizeOf111
 v46:=Tryd.zeroValue111
 t51:=Tryd.underlying62
 a51:=Tryd.isAgg62
 z51:=Tryd.sizeOf62
 v51:=Tryd.zeroValue62
 t53:=Tryd.underlying26
 a53:=Tryd.isAgg26
 z53:=Tryd.sizeOf26
 v53:=Tryd.zeroValue26}
theorem Tryd.bits_Len (x:Int)(w:World)(h0:0≤x)(h1:x≤18446744073709551615):
  Calls Tryd.prog 161 #[.int .u64 x] w λe w'=>e= .returned (.int .i64 (Lib.bitLen x.toNat))∧w'=w:=Any.bits_Len Tryd.lays125 x w h0 h1
end Go.Proofs
namespace Go.Proofs.YtmkcbhidbdggiaaDoor
open Go Go.Sx
theorem Wk.J {W w:World}{G:GH}{H:List Itm}{x0:Int}(m:Mem W G w H){y:Int}(hd:D.J x0=some y):
  Calls Tryd.prog 161 #[(.int .u64 x0)] w (Res W G H (λ_ Ho v=>Ho=[]∧v=(.int .i64 y))):=by
 unfold D.J at hd
 split at hd
 ·rename_i h
  obtain rfl:=Option.some.inj hd
  exact(Tryd.bits_Len x0 w h.1 h.2).mono (λe w' ⟨he,hw⟩=>by subst hw;exact⟨_,he,G,[],GLe.refl G,m,rfl,rfl⟩)
 ·cases hd
end Go.Proofs.YtmkcbhidbdggiaaDoor

namespace Go.Proofs
open Go.RowKit Go.Shelf
attribute [local go_sem] Oper.semAt_some
namespace YtmkcbhidbdggiaaDoor
def Ints (n₀:Nat)(W:World)(sv:Value)(zs:List Int):Prop:=
 ((∃a c,sv= .slice a 0 c)∧zs=[])∨∃b off cap,sv= .slice (some ⟨b,off,none⟩) zs.length cap∧(zs.length=0∨b<n₀)∧∀j,j<zs.length→W.cell? ⟨b,off+j,none⟩=some (.int .i64 (zs[j]?.getD 0))
theorem Ints.below {n₀:Nat}{A B:World}(h:Below n₀ A B){sv:Value}{zs:List Int}:Ints n₀ A sv zs→Ints n₀ B sv zs
 | .inl e=> .inl e
 | .inr ⟨b,off,cap,e,hb,hc⟩=> .inr ⟨b,off,cap,e,hb,λj hj=>(h.cell (p:=⟨b,off+j,none⟩) (hb.resolve_left (by omega))).trans (hc j hj)⟩
end YtmkcbhidbdggiaaDoor
end Go.Proofs

namespace Go.Sx
theorem w64 {x:Int}(h1: -9223372036854775808≤x)(h2:x<9223372036854775808):IntKind.i64.wrap x=x:=by
 simp only[IntKind.wrap,IntKind.bits,IntKind.signed]
 have e:(2:Int)^64=18446744073709551616:=by decide
 have e':(2:Int)^(64-1)=9223372036854775808:=by decide
 simp
 omega
theorem dlt {i n:Nat}(h:i<n):decide ((i:Int)<(n:Int))=true:=by simp;omega
theorem Br {n:Nat}:decide ((n:Int)<(n:Int))=false:=by simp
theorem AB {α:Type}{xs:List α}{i:Nat}(h:i<xs.length):idx xs (i:Int)=some xs[i]:=by
 unfold idx;rw[if_pos (by omega)];simp[h]
theorem idx_int {α:Type}{xs:List α}{i:Int}(h0:0≤i)(h:i<xs.length):idx xs i=some (xs[i.toNat]'(by omega)):=by
 unfold idx;rw[if_pos h0];simp
theorem wi {i:Nat}(h:i<4611686018427387904):IntKind.i64.wrap ((i:Int)+1)=((i+1:Nat):Int):=by
 rw[w64 (by omega) (by omega)];rfl
theorem wi' {i n:Nat}(h:i<n)(hn:n≤4611686018427387904):IntKind.i64.wrap ((i:Int)+1)=((i+1:Nat):Int):=wi (by omega)
theorem AA {α:Type}{xs:List α}{i:Nat}(h:i<xs.length)(d:α):xs.getD i d=xs[i]:=by simp[h]
theorem Bm {α:Type}{xs ys:List α}(h:xs.length+ys.length≤4294967296):AP xs ys=some (xs++ys):=by
 unfold AP;rw[if_pos h]
theorem sliceD_pre {α:Type}{xs:List α}{i:Nat}(h:i≤xs.length):Ci xs 0 (i:Int)=some (xs.take i):=by
 unfold Ci;rw[if_pos ⟨by omega,by omega,by omega⟩];simp
theorem Ff {α:Type}{xs:List α}{i:Nat}(h:i≤xs.length):Ci xs (i:Int) (xs.length:Int)=some (xs.drop i):=by
 unfold Ci;rw[if_pos ⟨by omega,by omega,by omega⟩];simp
theorem makeD_ok {α:Type}{z:α}{n:Nat}{c:Int}(h:(n:Int)≤c)(h2:c≤4294967296):Df z (n:Int) c=some (List.replicate n z):=by
 unfold Df;rw[if_pos ⟨by omega,h,h2⟩];simp
theorem makeD_zero {α:Type}{z:α}{c:Int}(h:0≤c)(h2:c≤4294967296):Df z 0 c=some []:=by
 unfold Df;rw[if_pos ⟨by omega,h,h2⟩];simp
def Stp {σ ρ:Type}(I:σ→Prop)(μ:σ→Nat)(Post:ρ→Prop)(s:σ):σ ⊕ ρ→Prop
 | .inl s'=>I s'∧μ s'<μ s
 | .inr r=>Post r
theorem A3 {σ ρ β:Type}{step:σ→Option (σ ⊕ ρ)}{s:σ}{k:ρ→Option β}{Q:β→Prop}(I:σ→Prop)(μ:σ→Nat)(Post:ρ→Prop)
  (hstep:∀s,I s→∃y,step s=some y∧Stp I μ Post s y) (h0:I s) (hk:∀r,Post r→∃y,k r=some y∧Q y):∃y,(Aq step s).bind k=some y∧Q y:=by
 obtain⟨r,hr,hp⟩:=loopF_inv (step:=step) I μ Post (λs hs=>by
  obtain⟨y,hy,hq⟩:=hstep s hs
  cases y with
  |inl s'=>exact .inl ⟨s',hy,hq.1,hq.2⟩
  |inr r=>exact .inr ⟨r,hy,hq⟩) s h0
 rw[hr]
 exact hk r hp
theorem Ce {α β:Type}{e:Option α}{k:α→Option β}{Q:β→Prop}(R:α→Prop)(h:∃x,e=some x∧R x)(hk:∀x,R x→∃y,k x=some y∧Q y):∃y,e.bind k=some y∧Q y:=by
 obtain⟨x,rfl,hx⟩:=h
 exact hk x hx
theorem loop_steps {S ρ:Type}{step:S→Option (S ⊕ ρ)}(st:Nat→S)(n:Nat)(h:∀i,i<n→step (st i)=some (.inl (st (i+1)))):Aq step (st 0)=Aq step (st n):=by
 have key:∀k,k≤n→Aq step (st 0)=Aq step (st k):=by
  intro k
  induction k with
  |zero=>intro _;rfl
  |succ k ih=>intro hk;rw[ih (by omega),Bi (h k (by omega))]
 exact key n (Nat.le_refl n)
theorem CT {S ρ β:Type}{step:S→Option (S ⊕ ρ)}{k:ρ→Option β}{s0:S}(st:Nat→S)(n:Nat)(r:ρ)(h0:st 0=s0)(h:∀i,i<n→step (st i)=some (.inl (st (i+1))))(he:step (st n)=some (.inr r)):
  (Aq step s0).bind k=k r:=by
 rw[←h0,loop_steps st n h,AQ he];rfl
theorem D9 {α σ S ρ:Type}{step:S→Option (S ⊕ ρ)}(xs:List α)(enc:σ→Int→S)(f:σ→α→σ)(fin:σ→ρ)(I:σ→Prop)(s0:σ)
  (h0:I s0) (hstep:∀s (i:Nat) (h:i<xs.length),I s→step (enc s i)=some (.inl (enc (f s xs[i]) ((i+1:Nat):Int)))∧I (f s xs[i]))
  (hend:∀s,I s→step (enc s xs.length)=some (.inr (fin s))):Aq step (enc s0 0)=some (fin (xs.foldl f s0))∧I (xs.foldl f s0):=by
 have key:∀(k i:Nat) (s:σ),i+k=xs.length→I s→Aq step (enc s i)=some (fin ((xs.drop i).foldl f s))∧I ((xs.drop i).foldl f s):=by
  intro k
  induction k with
  |zero=>
   intro i s hk hs
   obtain rfl:i=xs.length:=by omega
   simp only[List.drop_length,List.foldl_nil]
   exact⟨AQ (hend s hs),hs⟩
  |succ k ih=>
   intro i s hk hs
   have hi:i<xs.length:=by omega
   obtain⟨h1,h2⟩:=hstep s i hi hs
   rw[Bi h1,List.drop_eq_getElem_cons hi,List.foldl_cons]
   exact ih (i+1) _ (by omega) h2
 have:=key xs.length 0 s0 (by omega) h0
 simpa using this
theorem loop_listb {α σ S ρ β:Type}{step:S→Option (S ⊕ ρ)}{k:ρ→Option β}(xs:List α)(enc:σ→Int→S)(f:σ→α→σ)(fin:σ→ρ)(I:σ→Prop)(s0:σ)
  (h0:I s0) (hstep:∀s (i:Nat) (h:i<xs.length),I s→step (enc s i)=some (.inl (enc (f s xs[i]) ((i+1:Nat):Int)))∧I (f s xs[i]))
  (hend:∀s,I s→step (enc s xs.length)=some (.inr (fin s))):(Aq step (enc s0 0)).bind k=k (fin (xs.foldl f s0)):=by
 rw[(D9 xs enc f fin I s0 h0 hstep hend).1];rfl
theorem loop_map {α β γ S:Type}{step:S→Option (S ⊕ List β)}{k:List β→Option γ}(xs:List α)(enc:List β→Int→S)(f:α→β)(hx:xs.length≤4294967296)
  (hstep:∀s (i:Nat) (h:i<xs.length),s.length=i→step (enc s i)=(AP s [f xs[i]]).bind λl=>some (.inl (enc l ((i+1:Nat):Int))))
  (hend:∀s,step (enc s xs.length)=some (.inr s)):(Aq step (enc [] 0)).bind k=k (xs.map f):=by
 have key:∀i,i≤xs.length→Aq step (enc [] 0)=Aq step (enc ((xs.take i).map f) i):=by
  intro i
  induction i with
  |zero=>intro _;simp
  |succ i ih=>
   intro hi
   rw[ih (by omega)]
   have h1:=hstep ((xs.take i).map f) i (by omega) (by simp;omega)
   have h2:AP ((xs.take i).map f) [f xs[i]]=some ((xs.take (i+1)).map f):=by
    unfold AP
    rw[if_pos (by simp;omega)]
    rw[List.take_succ_eq_append_getElem (show i<xs.length by omega),List.map_append];rfl
   rw[h2] at h1
   rw[Bi h1]
 rw[key xs.length (Nat.le_refl _),List.take_length,AQ (hend _)];rfl
theorem loop_nat {σ S ρ:Type}{step:S→Option (S ⊕ ρ)}(n:Nat)(enc:σ→Int→S)(f:σ→Nat→σ)(fin:σ→ρ)(I:Nat→σ→Prop)(s0:σ)
  (h0:I 0 s0) (hstep:∀s (i:Nat),i<n→I i s→step (enc s i)=some (.inl (enc (f s i) ((i+1:Nat):Int)))∧I (i+1) (f s i))
  (hend:∀s,I n s→step (enc s n)=some (.inr (fin s))):Aq step (enc s0 0)=some (fin ((List.range n).foldl f s0))∧I n ((List.range n).foldl f s0):=by
 have key:∀k,k≤n→Aq step (enc s0 0)=Aq step (enc ((List.range k).foldl f s0) k)∧I k ((List.range k).foldl f s0):=by
  intro k
  induction k with
  |zero=>intro _;exact⟨rfl,h0⟩
  |succ k ih=>
   intro hk
   obtain⟨h1,h2⟩:=ih (by omega)
   obtain⟨h3,h4⟩:=hstep _ k (by omega) h2
   rw[List.range_succ,List.foldl_append,List.foldl_cons,List.foldl_nil]
   exact⟨by rw[h1,Bi h3],h4⟩
 obtain⟨h1,h2⟩:=key n (Nat.le_refl n)
 exact⟨by rw[h1,AQ (hend _ h2)],h2⟩
theorem Dy {ρ : Type} {step : Int → Option (Int ⊕ ρ)} (n : Nat) (c : Nat → Option ρ) (fin : ρ)
    (hstep : ∀ i, i < n → step (i : Int) = match c i with | some r => some (.inr r) | none => some (.inl ((i + 1 : Nat) : Int)))
    (hend : step (n : Int) = some (.inr fin)) : Aq step 0 = some (((List.range n).findSome? c).getD fin) := by
  have key : ∀ (k i : Nat), i + k = n → Aq step (i : Int) = some (((List.range' i k).findSome? c).getD fin) := by
    intro k
    induction k with
    | zero => intro i h; obtain rfl : i = n := by omega
              simpa using AQ hend
    | succ k ih =>
      intro i h
      have h1 := hstep i (by omega)
      rw [List.range'_succ, List.findSome?_cons]
      cases hc : c i with
      | some r => rw [hc] at h1; simpa using AQ h1
      | none => rw [hc] at h1; rw [Bi h1]; exact ih (i + 1) (by omega)
  have := key n 0 (by omega)
  simpa [List.range_eq_range'] using this
theorem D6 {β:Type}{step:Int→Option (Int ⊕ (Unit ⊕ β))}{k:Unit ⊕ β→Option Bool}(n:Nat)(c:Nat→Bool)(bad:β)
  (hstep:∀i,i<n→step (i:Int)=if c i then some (.inl ((i+1:Nat):Int)) else some (.inr (.inr bad)))
  (hend:step (n:Int)=some (.inr (.inl ()))) (hk1:k (.inl ())=some true) (hk2:k (.inr bad)=some false):
  (Aq step 0).bind k=some ((List.range n).all c):=by
 rw[Dy n (λi=>if c i then none else some (.inr bad)) (.inl ()) (λi hi=>by rw[hstep i hi];cases c i<;>rfl) hend]
 simp only[bs]
 cases h:(List.range n).all c with
 |true=>
  rw[List.findSome?_eq_none_iff.2 (λx hx=>by rw[if_pos (List.all_eq_true.1 h x hx)])]
  exact hk1
 |false=>
  cases h2:(List.range n).findSome? (λi=>if c i then none else some (Sum.inr bad)) with
  |none=>
   rw[List.findSome?_eq_none_iff] at h2
   have:(List.range n).all c=true:=List.all_eq_true.2 λx hx=>by
    have:=h2 x hx
    cases hc:c x
    ·rw[hc] at this;cases this
    ·rfl
   rw[this] at h;cases h
  |some r=>
   obtain⟨x,_,hx⟩:=List.exists_of_findSome?_eq_some h2
   cases hc:c x
   ·rw[hc] at hx;simp at hx;subst hx;exact hk2
   ·rw[hc] at hx;simp at hx
theorem E4 {ρ β:Type}{step:Int→Option (Int ⊕ ρ)}{k:ρ→Option β}(n:Nat)(c:Nat→Bool)(fine bad:ρ)
  (hstep:∀i,i<n→step (i:Int)=if c i then some (.inl ((i+1:Nat):Int)) else some (.inr bad))
  (hend:step (n:Int)=some (.inr fine)):(Aq step 0).bind k=cond ((List.range n).all c) (k fine) (k bad):=by
 rw[Dy n (λi=>if c i then none else some bad) fine (λi hi=>by rw[hstep i hi];cases c i<;>rfl) hend]
 simp only[bs]
 cases h:(List.range n).all c with
 |true=>
  rw[List.findSome?_eq_none_iff.2 (λx hx=>by rw[if_pos (List.all_eq_true.1 h x hx)])]
  rfl
 |false=>
  cases h2:(List.range n).findSome? (λi=>if c i then none else some bad) with
  |none=>
   rw[List.findSome?_eq_none_iff] at h2
   have:(List.range n).all c=true:=List.all_eq_true.2 λx hx=>by
    have:=h2 x hx
    cases hc:c x
    ·rw[hc] at this;cases this
    ·rfl
   rw[this] at h;cases h
  |some r=>
   obtain⟨x,_,hx⟩:=List.exists_of_findSome?_eq_some h2
   cases hc:c x
   ·rw[hc] at hx;simp at hx;subst hx;rfl
   ·rw[hc] at hx;simp at hx
theorem loop_anyb {β:Type}{step:Int→Option (Int ⊕ (Unit ⊕ β))}{k:Unit ⊕ β→Option Bool}(n:Nat)(c:Nat→Bool)(good:β)
  (hstep:∀i,i<n→step (i:Int)=if c i then some (.inr (.inr good)) else some (.inl ((i+1:Nat):Int)))
  (hend:step (n:Int)=some (.inr (.inl ()))) (hk1:k (.inl ())=some false) (hk2:k (.inr good)=some true):
  (Aq step 0).bind k=some ((List.range n).any c):=by
 rw[Dy n (λi=>if c i then some (.inr good) else none) (.inl ()) (λi hi=>by rw[hstep i hi];cases c i<;>rfl) hend]
 simp only[bs]
 cases h:(List.range n).any c with
 |false=>
  rw[List.findSome?_eq_none_iff.2 (λx hx=>by
   have:c x=false:=by
    cases hc:c x
    ·rfl
    ·rw[List.any_eq_true.2 ⟨x,hx,hc⟩] at h;cases h
   rw[this];rfl)]
  exact hk1
 |true=>
  obtain⟨x,hx,hc⟩:=List.any_eq_true.1 h
  cases h2:(List.range n).findSome? (λi=>if c i then some (Sum.inr good) else none) with
  |none=>
   rw[List.findSome?_eq_none_iff] at h2
   have:=h2 x hx
   rw[hc] at this;cases this
  |some r=>
   obtain⟨y,_,hy⟩:=List.exists_of_findSome?_eq_some h2
   cases hc:c y
   ·rw[hc] at hy;simp at hy
   ·rw[hc] at hy;simp at hy;subst hy;exact hk2
theorem Ev {α:Type}(xs:List α)(p:α→Bool)(c:Nat→Bool)(h:∀i (hi:i<xs.length),c i=p xs[i]):(List.range xs.length).all c=xs.all p:=by
 rw[Bool.eq_iff_iff,List.all_eq_true,List.all_eq_true]
 constructor
 ·intro hh x hx
  obtain⟨i,hi,rfl⟩:=List.getElem_of_mem hx
  rw[←h i hi];exact hh i (List.mem_range.2 hi)
 ·intro hh i hi
  have hi':=List.mem_range.1 hi
  rw[h i hi'];exact hh _ (List.getElem_mem _)
theorem range_any_list {α:Type}(xs:List α)(p:α→Bool)(c:Nat→Bool)(h:∀i (hi:i<xs.length),c i=p xs[i]):(List.range xs.length).any c=xs.any p:=by
 rw[Bool.eq_iff_iff,List.any_eq_true,List.any_eq_true]
 constructor
 ·rintro⟨i,hi,hc⟩
  have hi':=List.mem_range.1 hi
  exact⟨_,List.getElem_mem hi',by rw[←h i hi'];exact hc⟩
 ·rintro⟨x,hx,hc⟩
  obtain⟨i,hi,rfl⟩:=List.getElem_of_mem hx
  exact⟨i,List.mem_range.2 hi,by rw[h i hi];exact hc⟩
theorem EC (n:Nat)(c:Nat→Bool):(List.range n).all c=true↔∀i,i<n→c i=true:=by
 rw[List.all_eq_true]
 exact⟨λh i hi=>h i (List.mem_range.2 hi),λh i hi=>h i (List.mem_range.1 hi)⟩
end Go.Sx



namespace Go.Sx
noncomputable def DG.insertionSort {α:Type}(cmp:α→α→Option Int)(x0:(List α))(x1:Int)(x2:Int):Option (((List α))):=
 (Aq (σ:=(List α)×Int) (ρ:=((List α))) (fun(s_560:(List α)×Int)=>match s_560 with|(l_563,x_566)=>cond (decide (x_566<x2)) ((Aq (σ:=(List α)×Int) (ρ:=((List α))) (fun(s_984:(List α)×Int)=>match s_984 with|(l_987,x_990)=>(cond (decide (x1<x_990)) ((idx l_987 x_990).bind λe_1079=>(idx l_987 (IntKind.i64.wrap (x_990-1))).bind λe_1085=>(cmp e_1079 e_1085).bind λy_1091=>some (decide (y_1091<0))) (some false)).bind λb_1077=>cond b_1077 ((idx l_987 (IntKind.i64.wrap (x_990-1))).bind λe_1097=>(idx l_987 x_990).bind λe_1103=>(idx l_987 x_990).bind λe_1109=>(idx (l_987.set (Int.toNat x_990) e_1097) (IntKind.i64.wrap (x_990-1))).bind λe_1117=>some (.inl (((l_987.set (Int.toNat x_990) e_1097).set (Int.toNat (IntKind.i64.wrap (x_990-1))) e_1103),(IntKind.i64.wrap (x_990-1))))) (some (.inr l_987))) (l_563,x_566)).bind λl_1056=>some (.inl (l_1056,(IntKind.i64.wrap (x_566+1))))) (some (.inr l_563))) (x0,(IntKind.i64.wrap (x1+1)))).bind λl_844=>some l_844
noncomputable def DG.siftDown {α:Type}(cmp:α→α→Option Int)(x0:(List α))(x1:Int)(x2:Int)(x3:Int):Option (((List α))):=
 (Aq (σ:=(List α)×Int) (ρ:=((List α)) ⊕ (((List α)))) (fun(s_186:(List α)×Int)=>match s_186 with|(l_189,x_192)=>cond (decide (x2≤(IntKind.i64.wrap ((IntKind.i64.wrap (2*x_192))+1)))) (some (.inr (.inl l_189))) ((cond (decide ((IntKind.i64.wrap ((IntKind.i64.wrap ((IntKind.i64.wrap (2*x_192))+1))+1))<x2)) ((idx l_189 (IntKind.i64.wrap (x3+(IntKind.i64.wrap ((IntKind.i64.wrap (2*x_192))+1))))).bind λe_307=>(idx l_189 (IntKind.i64.wrap ((IntKind.i64.wrap (x3+(IntKind.i64.wrap ((IntKind.i64.wrap (2*x_192))+1))))+1))).bind λe_313=>(cmp e_307 e_313).bind λy_319=>some (decide (y_319<0))) (some false)).bind λb_305=>((cond b_305 (some (IntKind.i64.wrap ((IntKind.i64.wrap ((IntKind.i64.wrap (2*x_192))+1))+1))) (some (IntKind.i64.wrap ((IntKind.i64.wrap (2*x_192))+1))):Option (Int))).bind λx_328=>(idx l_189 (IntKind.i64.wrap (x3+x_192))).bind λe_331=>(idx l_189 (IntKind.i64.wrap (x3+x_328))).bind λe_337=>(cmp e_331 e_337).bind λy_343=>cond (!(decide (y_343<0))) (some (.inr (.inr l_189))) ((idx l_189 (IntKind.i64.wrap (x3+x_328))).bind λe_349=>(idx l_189 (IntKind.i64.wrap (x3+x_192))).bind λe_355=>(idx l_189 (IntKind.i64.wrap (x3+x_192))).bind λe_361=>(idx (l_189.set (Int.toNat (IntKind.i64.wrap (x3+x_192))) e_349) (IntKind.i64.wrap (x3+x_328))).bind λe_369=>some (.inl (((l_189.set (Int.toNat (IntKind.i64.wrap (x3+x_192))) e_349).set (Int.toNat (IntKind.i64.wrap (x3+x_328))) e_355),x_328))))) (x0,x1)).bind λzz=>match zz with| .inl l_283=>(some l_283)| .inr z=>(some z)
noncomputable def DG.heapSort {α:Type}(cmp:α→α→Option Int)(x0:(List α))(x1:Int)(x2:Int):Option (((List α))):=
 (Aq (σ:=(List α)×Int) (ρ:=((List α))) (fun(s_30:(List α)×Int)=>match s_30 with|(l_33,x_36)=>cond (decide ((0:Int)≤x_36)) ((DG.siftDown cmp l_33 x_36 (IntKind.i64.wrap (x2-x1)) x1).bind λy_54=>some (.inl (y_54,(IntKind.i64.wrap (x_36-1))))) (some (.inr l_33))) (x0,(IntKind.i64.wrap (Int.tdiv (IntKind.i64.wrap ((IntKind.i64.wrap (x2-x1))-1)) 2)))).bind λl_49=>(Aq (σ:=(List α)×Int) (ρ:=((List α))) (fun(s_144:(List α)×Int)=>match s_144 with|(l_147,x_150)=>cond (decide ((0:Int)≤x_150)) ((idx l_147 (IntKind.i64.wrap (x1+x_150))).bind λe_194=>(idx l_147 x1).bind λe_200=>(idx l_147 x1).bind λe_206=>(idx (l_147.set (Int.toNat x1) e_194) (IntKind.i64.wrap (x1+x_150))).bind λe_214=>(DG.siftDown cmp ((l_147.set (Int.toNat x1) e_194).set (Int.toNat (IntKind.i64.wrap (x1+x_150))) e_200) 0 x_150 x1).bind λy_220=>some (.inl (y_220,(IntKind.i64.wrap (x_150-1))))) (some (.inr l_147))) (l_49,(IntKind.i64.wrap ((IntKind.i64.wrap (x2-x1))-1)))).bind λl_189=>some l_189
noncomputable def DG.breakPatterns {α:Type}(cmp:α→α→Option Int)(x0:(List α))(x1:Int)(x2:Int):Option (((List α))):=
 cond (decide ((8:Int)≤(IntKind.i64.wrap (x2-x1)))) ((D.b0 (IntKind.i64.wrap (x2-x1))).bind λy_4=>(Aq (σ:=(List α)×Int×Int) (ρ:=((List α))) (fun(s_103:(List α)×Int×Int)=>match s_103 with|(l_106,x_109,x_110)=>cond (decide (x_109≤(IntKind.i64.wrap ((IntKind.i64.wrap (x1+(IntKind.i64.wrap ((IntKind.i64.wrap (Int.tdiv (IntKind.i64.wrap (x2-x1)) 4))*2))))+1)))) ((D.g0 x_110).bind λy_159=>((cond (decide ((IntKind.i64.wrap (x2-x1))≤(IntKind.i64.wrap (iand .u64 y_159.1 (IntKind.u64.wrap (y_4-1)))))) (some (IntKind.i64.wrap ((IntKind.i64.wrap (iand .u64 y_159.1 (IntKind.u64.wrap (y_4-1))))-(IntKind.i64.wrap (x2-x1))))) (some (IntKind.i64.wrap (iand .u64 y_159.1 (IntKind.u64.wrap (y_4-1))))):Option (Int))).bind λx_170=>(idx l_106 (IntKind.i64.wrap (x1+x_170))).bind λe_173=>(idx l_106 x_109).bind λe_179=>(idx l_106 x_109).bind λe_185=>(idx (l_106.set (Int.toNat x_109) e_173) (IntKind.i64.wrap (x1+x_170))).bind λe_193=>some (.inl (((l_106.set (Int.toNat x_109) e_173).set (Int.toNat (IntKind.i64.wrap (x1+x_170))) e_179),(IntKind.i64.wrap (x_109+1)),y_159.2))) (some (.inr l_106))) (x0,(IntKind.i64.wrap ((IntKind.i64.wrap (x1+(IntKind.i64.wrap ((IntKind.i64.wrap (Int.tdiv (IntKind.i64.wrap (x2-x1)) 4))*2))))-1)),(IntKind.u64.wrap (IntKind.i64.wrap (x2-x1))))).bind λl_154=>some l_154) (some x0)
noncomputable def DG.order2 {α:Type}(cmp:α→α→Option Int)(x0:(List α))(x1:Int)(x2:Int)(x3_0:Int):Option (Int×Int×((List α))×Int):=
 (idx x0 x2).bind λe_1=>(idx x0 x1).bind λe_7=>(cmp e_1 e_7).bind λy_13=>cond (decide (y_13<0)) (some (x2,x1,x0,(IntKind.i64.wrap (x3_0+1)))) (some (x1,x2,x0,x3_0))
noncomputable def DG.median {α:Type}(cmp:α→α→Option Int)(x0:(List α))(x1:Int)(x2:Int)(x3:Int)(x4_0:Int):Option (Int×((List α))×Int):=
 (DG.order2 cmp x0 x1 x2 x4_0).bind λy_1=>(DG.order2 cmp y_1.2.2.1 y_1.2.1 x3 y_1.2.2.2).bind λy_10=>(DG.order2 cmp y_10.2.2.1 y_1.1 y_10.1 y_10.2.2.2).bind λy_19=>some (y_19.2.1,y_19.2.2.1,y_19.2.2.2)
noncomputable def DG.medianAdjacent {α:Type}(cmp:α→α→Option Int)(x0:(List α))(x1:Int)(x2_0:Int):Option (Int×((List α))×Int):=
 (DG.median cmp x0 (IntKind.i64.wrap (x1-1)) x1 (IntKind.i64.wrap (x1+1)) x2_0).bind λy_1=>some (y_1.1,y_1.2.1,y_1.2.2)
noncomputable def DG.choosePivot {α:Type}(cmp:α→α→Option Int)(x0:(List α))(x1:Int)(x2:Int):Option (Int×Int×((List α))):=
 cond (decide ((8:Int)≤(IntKind.i64.wrap (x2-x1)))) (((cond (decide ((50:Int)≤(IntKind.i64.wrap (x2-x1)))) ((DG.medianAdjacent cmp x0 (IntKind.i64.wrap (x1+(IntKind.i64.wrap ((IntKind.i64.wrap (Int.tdiv (IntKind.i64.wrap (x2-x1)) 4))*1)))) 0).bind λy_44=>(DG.medianAdjacent cmp y_44.2.1 (IntKind.i64.wrap (x1+(IntKind.i64.wrap ((IntKind.i64.wrap (Int.tdiv (IntKind.i64.wrap (x2-x1)) 4))*2)))) y_44.2.2).bind λy_53=>(DG.medianAdjacent cmp y_53.2.1 (IntKind.i64.wrap (x1+(IntKind.i64.wrap ((IntKind.i64.wrap (Int.tdiv (IntKind.i64.wrap (x2-x1)) 4))*3)))) y_53.2.2).bind λy_62=>some (y_62.2.1,y_44.1,y_53.1,y_62.1,y_62.2.2)) (some (x0,(IntKind.i64.wrap (x1+(IntKind.i64.wrap ((IntKind.i64.wrap (Int.tdiv (IntKind.i64.wrap (x2-x1)) 4))*1)))),(IntKind.i64.wrap (x1+(IntKind.i64.wrap ((IntKind.i64.wrap (Int.tdiv (IntKind.i64.wrap (x2-x1)) 4))*2)))),(IntKind.i64.wrap (x1+(IntKind.i64.wrap ((IntKind.i64.wrap (Int.tdiv (IntKind.i64.wrap (x2-x1)) 4))*3)))),0)):Option ((List α)×Int×Int×Int×Int))).bind fun(l_35,x_38,x_39,x_40,x_41)=>(DG.median cmp l_35 x_38 x_39 x_40 x_41).bind λy_71=>cond (y_71.2.2==0) (some (y_71.1,1,y_71.2.1)) (cond (y_71.2.2==12) (some (y_71.1,2,y_71.2.1)) (some (y_71.1,0,y_71.2.1)))) (cond ((0:Int)==0) (some ((IntKind.i64.wrap (x1+(IntKind.i64.wrap ((IntKind.i64.wrap (Int.tdiv (IntKind.i64.wrap (x2-x1)) 4))*2)))),1,x0)) (cond ((0:Int)==12) (some ((IntKind.i64.wrap (x1+(IntKind.i64.wrap ((IntKind.i64.wrap (Int.tdiv (IntKind.i64.wrap (x2-x1)) 4))*2)))),2,x0)) (some ((IntKind.i64.wrap (x1+(IntKind.i64.wrap ((IntKind.i64.wrap (Int.tdiv (IntKind.i64.wrap (x2-x1)) 4))*2)))),0,x0))))
noncomputable def DG.reverseRange {α:Type}(cmp:α→α→Option Int)(x0:(List α))(x1:Int)(x2:Int):Option (((List α))):=
 (Aq (σ:=(List α)×Int×Int) (ρ:=((List α))) (fun(s_65:(List α)×Int×Int)=>match s_65 with|(l_68,x_71,x_72)=>cond (decide (x_71<x_72)) ((idx l_68 x_72).bind λe_107=>(idx l_68 x_71).bind λe_113=>(idx l_68 x_71).bind λe_119=>(idx (l_68.set (Int.toNat x_71) e_107) x_72).bind λe_127=>some (.inl (((l_68.set (Int.toNat x_71) e_107).set (Int.toNat x_72) e_113),(IntKind.i64.wrap (x_71+1)),(IntKind.i64.wrap (x_72-1))))) (some (.inr l_68))) (x0,x1,(IntKind.i64.wrap (x2-1)))).bind λl_102=>some l_102
noncomputable def DG.partialInsertionSort {α:Type}(cmp:α→α→Option Int)(x0:(List α))(x1:Int)(x2:Int):Option (Bool×((List α))):=
 (Aq (σ:=(List α)×Int×Int) (ρ:=((List α)) ⊕ (Bool×((List α)))) (fun(s_1625:(List α)×Int×Int)=>match s_1625 with|(l_1628,x_1631,x_1632)=>cond (decide (x_1632<5)) ((Aq (σ:=Int) (ρ:=(Int)) (fun(x_2530:Int)=>(cond (decide (x_2530<x2)) ((idx l_1628 x_2530).bind λe_2591=>(idx l_1628 (IntKind.i64.wrap (x_2530-1))).bind λe_2597=>(cmp e_2591 e_2597).bind λy_2603=>some (!(decide (y_2603<0)))) (some false)).bind λb_2589=>cond b_2589 (some (.inl (IntKind.i64.wrap (x_2530+1)))) (some (.inr x_2530))) x_1631).bind λx_2570=>cond (x_2570==x2) (some (.inr (.inr (true,l_1628)))) (cond (decide ((IntKind.i64.wrap (x2-x1))<50)) (some (.inr (.inr (false,l_1628)))) ((idx l_1628 (IntKind.i64.wrap (x_2570-1))).bind λe_2611=>(idx l_1628 x_2570).bind λe_2617=>(idx l_1628 x_2570).bind λe_2623=>(idx (l_1628.set (Int.toNat x_2570) e_2611) (IntKind.i64.wrap (x_2570-1))).bind λe_2631=>((cond (decide ((2:Int)≤(IntKind.i64.wrap (x_2570-x1)))) ((Aq (σ:=(List α)×Int) (ρ:=((List α))) (fun(s_2947:(List α)×Int)=>match s_2947 with|(l_2950,x_2953)=>cond (decide ((1:Int)≤x_2953)) ((idx l_2950 x_2953).bind λe_3006=>(idx l_2950 (IntKind.i64.wrap (x_2953-1))).bind λe_3012=>(cmp e_3006 e_3012).bind λy_3018=>cond (!(decide (y_3018<0))) (some (.inr l_2950)) ((idx l_2950 (IntKind.i64.wrap (x_2953-1))).bind λe_3024=>(idx l_2950 x_2953).bind λe_3030=>(idx l_2950 x_2953).bind λe_3036=>(idx (l_2950.set (Int.toNat x_2953) e_3024) (IntKind.i64.wrap (x_2953-1))).bind λe_3044=>some (.inl (((l_2950.set (Int.toNat x_2953) e_3024).set (Int.toNat (IntKind.i64.wrap (x_2953-1))) e_3030),(IntKind.i64.wrap (x_2953-1)))))) (some (.inr l_2950))) (((l_1628.set (Int.toNat x_2570) e_2611).set (Int.toNat (IntKind.i64.wrap (x_2570-1))) e_2617),(IntKind.i64.wrap (x_2570-1)))).bind λl_3001=>some l_3001) (some ((l_1628.set (Int.toNat x_2570) e_2611).set (Int.toNat (IntKind.i64.wrap (x_2570-1))) e_2617)):Option ((List α)))).bind λl_2843=>cond (decide ((2:Int)≤(IntKind.i64.wrap (x2-x_2570)))) ((Aq (σ:=(List α)×Int) (ρ:=((List α))) (fun(s_3150:(List α)×Int)=>match s_3150 with|(l_3153,x_3156)=>cond (decide (x_3156<x2)) ((idx l_3153 x_3156).bind λe_3209=>(idx l_3153 (IntKind.i64.wrap (x_3156-1))).bind λe_3215=>(cmp e_3209 e_3215).bind λy_3221=>cond (!(decide (y_3221<0))) (some (.inr l_3153)) ((idx l_3153 (IntKind.i64.wrap (x_3156-1))).bind λe_3227=>(idx l_3153 x_3156).bind λe_3233=>(idx l_3153 x_3156).bind λe_3239=>(idx (l_3153.set (Int.toNat x_3156) e_3227) (IntKind.i64.wrap (x_3156-1))).bind λe_3247=>some (.inl (((l_3153.set (Int.toNat x_3156) e_3227).set (Int.toNat (IntKind.i64.wrap (x_3156-1))) e_3233),(IntKind.i64.wrap (x_3156+1)))))) (some (.inr l_3153))) (l_2843,(IntKind.i64.wrap (x_2570+1)))).bind λl_3204=>some (.inl (l_3204,x_2570,(IntKind.i64.wrap (x_1632+1))))) (some (.inl (l_2843,x_2570,(IntKind.i64.wrap (x_1632+1)))))))) (some (.inr (.inl l_1628)))) (x0,(IntKind.i64.wrap (x1+1)),0)).bind λzz=>match zz with| .inl l_2442=>(some (false,l_2442))| .inr z=>(some z)
noncomputable def DG.partitionEqual {α:Type}(cmp:α→α→Option Int)(x0:(List α))(x1:Int)(x2:Int)(x3:Int):Option (Int×((List α))):=
 (idx x0 x3).bind λe_1=>(idx x0 x1).bind λe_7=>(idx x0 x1).bind λe_13=>(idx (x0.set (Int.toNat x1) e_1) x3).bind λe_21=>(Aq (σ:=(List α)×Int×Int) (ρ:=((List α)×Int)) (fun(s_739:(List α)×Int×Int)=>match s_739 with|(l_742,x_745,x_746)=>(Aq (σ:=Int) (ρ:=(Int)) (fun(x_1188:Int)=>(cond (decide (x_1188≤x_746)) ((idx l_742 x1).bind λe_1249=>(idx l_742 x_1188).bind λe_1255=>(cmp e_1249 e_1255).bind λy_1261=>some (!(decide (y_1261<0)))) (some false)).bind λb_1247=>cond b_1247 (some (.inl (IntKind.i64.wrap (x_1188+1)))) (some (.inr x_1188))) x_745).bind λx_1228=>(Aq (σ:=Int) (ρ:=(Int)) (fun(x_1350:Int)=>(cond (decide (x_1228≤x_1350)) ((idx l_742 x1).bind λe_1411=>(idx l_742 x_1350).bind λe_1417=>(cmp e_1411 e_1417).bind λy_1423=>some (decide (y_1423<0))) (some false)).bind λb_1409=>cond b_1409 (some (.inl (IntKind.i64.wrap (x_1350-1)))) (some (.inr x_1350))) x_746).bind λx_1390=>cond (decide (x_1390<x_1228)) (some (.inr (l_742,x_1228))) ((idx l_742 x_1390).bind λe_1430=>(idx l_742 x_1228).bind λe_1436=>(idx l_742 x_1228).bind λe_1442=>(idx (l_742.set (Int.toNat x_1228) e_1430) x_1390).bind λe_1450=>some (.inl (((l_742.set (Int.toNat x_1228) e_1430).set (Int.toNat x_1390) e_1436),(IntKind.i64.wrap (x_1228+1)),(IntKind.i64.wrap (x_1390-1)))))) (((x0.set (Int.toNat x1) e_1).set (Int.toNat x3) e_7),(IntKind.i64.wrap (x1+1)),(IntKind.i64.wrap (x2-1)))).bind fun(l_1100,x_1103)=>some (x_1103,l_1100)
noncomputable def DG.partition {α:Type}(cmp:α→α→Option Int)(x0:(List α))(x1:Int)(x2:Int)(x3:Int):Option (Int×Bool×((List α))):=
 (idx x0 x3).bind λe_1=>(idx x0 x1).bind λe_7=>(idx x0 x1).bind λe_13=>(idx (x0.set (Int.toNat x1) e_1) x3).bind λe_21=>(Aq (σ:=Int) (ρ:=(Int)) (fun(x_110:Int)=>(cond (decide (x_110≤(IntKind.i64.wrap (x2-1)))) ((idx ((x0.set (Int.toNat x1) e_1).set (Int.toNat x3) e_7) x_110).bind λe_171=>(idx ((x0.set (Int.toNat x1) e_1).set (Int.toNat x3) e_7) x1).bind λe_177=>(cmp e_171 e_177).bind λy_183=>some (decide (y_183<0))) (some false)).bind λb_169=>cond b_169 (some (.inl (IntKind.i64.wrap (x_110+1)))) (some (.inr x_110))) (IntKind.i64.wrap (x1+1))).bind λx_150=>(Aq (σ:=Int) (ρ:=(Int)) (fun(x_272:Int)=>(cond (decide (x_150≤x_272)) ((idx ((x0.set (Int.toNat x1) e_1).set (Int.toNat x3) e_7) x_272).bind λe_333=>(idx ((x0.set (Int.toNat x1) e_1).set (Int.toNat x3) e_7) x1).bind λe_339=>(cmp e_333 e_339).bind λy_345=>some (!(decide (y_345<0)))) (some false)).bind λb_331=>cond b_331 (some (.inl (IntKind.i64.wrap (x_272-1)))) (some (.inr x_272))) (IntKind.i64.wrap (x2-1))).bind λx_312=>cond (decide (x_312<x_150)) ((idx ((x0.set (Int.toNat x1) e_1).set (Int.toNat x3) e_7) x1).bind λe_352=>(idx ((x0.set (Int.toNat x1) e_1).set (Int.toNat x3) e_7) x_312).bind λe_358=>(idx ((x0.set (Int.toNat x1) e_1).set (Int.toNat x3) e_7) x_312).bind λe_364=>(idx (((x0.set (Int.toNat x1) e_1).set (Int.toNat x3) e_7).set (Int.toNat x_312) e_352) x1).bind λe_372=>some (x_312,true,((((x0.set (Int.toNat x1) e_1).set (Int.toNat x3) e_7).set (Int.toNat x_312) e_352).set (Int.toNat x1) e_358))) ((idx ((x0.set (Int.toNat x1) e_1).set (Int.toNat x3) e_7) x_312).bind λe_378=>(idx ((x0.set (Int.toNat x1) e_1).set (Int.toNat x3) e_7) x_150).bind λe_384=>(idx ((x0.set (Int.toNat x1) e_1).set (Int.toNat x3) e_7) x_150).bind λe_390=>(idx (((x0.set (Int.toNat x1) e_1).set (Int.toNat x3) e_7).set (Int.toNat x_150) e_378) x_312).bind λe_398=>(Aq (σ:=(List α)×Int×Int) (ρ:=((List α)×Int)) (fun(s_1116:(List α)×Int×Int)=>match s_1116 with|(l_1119,x_1122,x_1123)=>(Aq (σ:=Int) (ρ:=(Int)) (fun(x_1565:Int)=>(cond (decide (x_1565≤x_1123)) ((idx l_1119 x_1565).bind λe_1626=>(idx l_1119 x1).bind λe_1632=>(cmp e_1626 e_1632).bind λy_1638=>some (decide (y_1638<0))) (some false)).bind λb_1624=>cond b_1624 (some (.inl (IntKind.i64.wrap (x_1565+1)))) (some (.inr x_1565))) x_1122).bind λx_1605=>(Aq (σ:=Int) (ρ:=(Int)) (fun(x_1727:Int)=>(cond (decide (x_1605≤x_1727)) ((idx l_1119 x_1727).bind λe_1788=>(idx l_1119 x1).bind λe_1794=>(cmp e_1788 e_1794).bind λy_1800=>some (!(decide (y_1800<0)))) (some false)).bind λb_1786=>cond b_1786 (some (.inl (IntKind.i64.wrap (x_1727-1)))) (some (.inr x_1727))) x_1123).bind λx_1767=>cond (decide (x_1767<x_1605)) (some (.inr (l_1119,x_1767))) ((idx l_1119 x_1767).bind λe_1807=>(idx l_1119 x_1605).bind λe_1813=>(idx l_1119 x_1605).bind λe_1819=>(idx (l_1119.set (Int.toNat x_1605) e_1807) x_1767).bind λe_1827=>some (.inl (((l_1119.set (Int.toNat x_1605) e_1807).set (Int.toNat x_1767) e_1813),(IntKind.i64.wrap (x_1605+1)),(IntKind.i64.wrap (x_1767-1)))))) (((((x0.set (Int.toNat x1) e_1).set (Int.toNat x3) e_7).set (Int.toNat x_150) e_378).set (Int.toNat x_312) e_384),(IntKind.i64.wrap (x_150+1)),(IntKind.i64.wrap (x_312-1)))).bind fun(l_1477,x_1480)=>(idx l_1477 x1).bind λe_1833=>(idx l_1477 x_1480).bind λe_1839=>(idx l_1477 x_1480).bind λe_1845=>(idx (l_1477.set (Int.toNat x_1480) e_1833) x1).bind λe_1853=>some (x_1480,false,((l_1477.set (Int.toNat x_1480) e_1833).set (Int.toNat x1) e_1839)))
noncomputable def DG.pdqsortR {α:Type}(cmp:α→α→Option Int):Nat→((List α))→Int→Int→Int→Option (((List α)))
 |0,_,_,_,_=>none
 |fuel+1,x0,x1,x2,x3=>(Aq (σ:=(List α)×Int×Int×Int×Bool×Bool) (ρ:=(((List α)))) (fun(s_398:(List α)×Int×Int×Int×Bool×Bool)=>match s_398 with|(l_401,x_404,x_405,x_406,b_407,b_408)=>cond (decide ((IntKind.i64.wrap (x_405-x_404))≤12)) ((DG.insertionSort cmp l_401 x_404 x_405).bind λy_411=>some (.inr y_411)) (cond (x_406==0) ((DG.heapSort cmp l_401 x_404 x_405).bind λy_421=>some (.inr y_421)) (((cond (!b_407) ((DG.breakPatterns cmp l_401 x_404 x_405).bind λy_449=>some (y_449,(IntKind.i64.wrap (x_406-1)))) (some (l_401,x_406)):Option ((List α)×Int))).bind fun(l_443,x_446)=>(DG.choosePivot cmp l_443 x_404 x_405).bind λy_458=>((cond (y_458.2.1==2) ((DG.reverseRange cmp y_458.2.2 x_404 x_405).bind λy_487=>some (y_487,(IntKind.i64.wrap ((IntKind.i64.wrap (x_405-1))-(IntKind.i64.wrap (y_458.1-x_404)))),1)) (some (y_458.2.2,y_458.1,y_458.2.1)):Option ((List α)×Int×Int))).bind fun(l_480,x_483,x_484)=>((cond ((b_407&&b_408)&&(x_484==1)) ((DG.partialInsertionSort cmp l_480 x_404 x_405).bind λy_521=>cond y_521.1 (some (.inr y_521.2)) (some (.inl y_521.2))) (some (.inl l_480)):Option (((List α)) ⊕ (((List α)))))).bind λq=>match q with| .inl l_516=>((cond (decide ((0:Int)<x_404)) ((idx l_516 (IntKind.i64.wrap (x_404-1))).bind λe_550=>(idx l_516 x_483).bind λe_556=>(cmp e_550 e_556).bind λy_562=>some (!(decide (y_562<0)))) (some false)).bind λb_548=>cond b_548 ((DG.partitionEqual cmp l_516 x_404 x_405 x_483).bind λy_568=>some (.inl (y_568.2,y_568.1,x_405,x_446,b_407,b_408))) ((DG.partition cmp l_516 x_404 x_405 x_483).bind λy_577=>cond (decide ((IntKind.i64.wrap (y_577.1-x_404))<(IntKind.i64.wrap (x_405-y_577.1)))) ((DG.pdqsortR cmp fuel y_577.2.2 x_404 y_577.1 x_446).bind λy_587=>some (.inl (y_587,(IntKind.i64.wrap (y_577.1+1)),x_405,x_446,(decide ((IntKind.i64.wrap (Int.tdiv (IntKind.i64.wrap (x_405-x_404)) 8))≤(IntKind.i64.wrap (y_577.1-x_404)))),y_577.2.1))) ((DG.pdqsortR cmp fuel y_577.2.2 (IntKind.i64.wrap (y_577.1+1)) x_405 x_446).bind λy_596=>some (.inl (y_596,x_404,y_577.1,x_446,(decide ((IntKind.i64.wrap (Int.tdiv (IntKind.i64.wrap (x_405-x_404)) 8))≤(IntKind.i64.wrap (x_405-y_577.1)))),y_577.2.1)))))| .inr q=>(some (.inr q))))) (x0,x1,x2,x3,true,true)).bind λz=>some z
noncomputable def DG.pdqsort {α:Type}(cmp:α→α→Option Int)(x0:(List α))(x1:Int)(x2:Int)(x3:Int):Option (((List α))):=DG.pdqsortR cmp Bq x0 x1 x2 x3
noncomputable def DG.Sort {α:Type}(cmp:α→α→Option Int)(x0:(List α)):Option (((List α))):=
 (D.J (IntKind.u64.wrap (x0.length:Int))).bind λy_1=>(DG.pdqsort cmp x0 0 (x0.length:Int) y_1).bind λy_8=>some y_8
end Go.Sx

namespace Go.Sx.Gs
class Srtd (α:Type) where
 dflt:α
 key:α→Int
 good:α→Prop
 cmp:α→α→Option Int
 law:∀x y,good x→good y→∃v,cmp x y=some v∧decide (v<0)=decide (key x<key y)
variable {α : Type} [Srtd α]
def el (l:List α)(i:Int):α:=l.getD i.toNat Srtd.dflt
def at' (l:List α)(i:Int):Int:=Srtd.key (el l i)
theorem A5 {l:List α}{i:Int}(h0:0≤i)(h1:i<l.length):idx l i=some (el l i):=by
 unfold idx el
 rw[if_pos h0]
 have:i.toNat<l.length:=by omega
 simp[this]
theorem el_set {l:List α}{i k:Int}{x:α}(h0:0≤i)(h1:i<l.length)(hk:0≤k):el (l.set i.toNat x) k=if k=i then x else el l k:=by
 unfold el
 by_cases h:k=i
 ·subst h
  have:k.toNat<l.length:=by omega
  simp[this]
 ·rw[if_neg h]
  have:i.toNat≠k.toNat:=by omega
  simp[List.getD_eq_getElem?_getD,List.getElem?_set_ne this]
def sw (l:List α)(i j:Int):List α:=(l.set i.toNat (el l j)).set j.toNat (el l i)
theorem sw_len (l:List α)(i j:Int):(sw l i j).length=l.length:=by simp[sw]
theorem Bs {l:List α}{i j k:Int}(hi:0≤i)(hi':i<l.length)(hj:0≤j)(hj':j<l.length)(hk:0≤k):
  at' (sw l i j) k=if k=j then at' l i else if k=i then at' l j else at' l k:=by
 unfold sw at'
 rw[el_set hj (by simpa using hj') hk]
 split
 ·rfl
 ·rw[el_set hi hi' hk]
  split<;>rfl
omit [Srtd α] in
theorem BF (z:α):∀(l:List α) (j:Nat),j<l.length→List.Perm (l.set j z) (z::l.eraseIdx j)
 |[],j,h=>by simp at h
 |x::l,0,_=>by simp
 |x::l,j+1,h=>by
  simp only[List.set_cons_succ,List.eraseIdx_cons_succ]
  exact((BF z l j (by simpa using h)).cons x).trans (List.Perm.swap _ _ _)
omit [Srtd α] in
theorem Dj (l:List α)(j:Nat)(h:j<l.length):List.Perm l (l[j]::l.eraseIdx j):=by
 have:=BF l[j] l j h
 rwa [List.set_getElem_self] at this
omit [Srtd α] in
theorem DX :∀(l:List α) (i j:Nat) (x y:α),l[i]? =some x→l[j]? =some y→List.Perm ((l.set i y).set j x) l
 |[],i,j,x,y,h,_=>by simp at h
 |z::l,0,0,x,y,h,h'=>by simp at h h';subst h;simp
 |z::l,0,j+1,x,y,h,h'=>by
  simp at h h'
  subst h
  simp only[List.set_cons_zero,List.set_cons_succ]
  obtain⟨hj,rfl⟩:=List.getElem?_eq_some_iff.1 h'
  have h1:=BF z l j hj
  have h2:=Dj l j hj
  exact((h1.cons _).trans (List.Perm.swap _ _ _)).trans (h2.symm.cons z)
 |z::l,i+1,0,x,y,h,h'=>by
  simp at h h'
  subst h'
  simp only[List.set_cons_zero,List.set_cons_succ]
  obtain⟨hj,rfl⟩:=List.getElem?_eq_some_iff.1 h
  have h1:=BF z l i hj
  have h2:=Dj l i hj
  exact((h1.cons _).trans (List.Perm.swap _ _ _)).trans (h2.symm.cons z)
 |z::l,i+1,j+1,x,y,h,h'=>by
  simp at h h'
  simp only[List.set_cons_succ]
  exact(DX l i j x y h h').cons z
theorem sw_perm {l:List α}{i j:Int}(hi:0≤i)(hi':i<l.length)(hj:0≤j)(hj':j<l.length):List.Perm (sw l i j) l:=by
 have h1:i.toNat<l.length:=by omega
 have h2:j.toNat<l.length:=by omega
 exact DX l i.toNat j.toNat _ _ (by simp[el,h1]) (by simp[el,h2])
structure Rg (a b:Int)(l l':List α):Prop where
 len:l'.length=l.length
 perm:List.Perm l' l
 out:∀k,0≤k→(k<a∨b≤k)→at' l' k=at' l k
 all:∀Q:Int→Prop,(∀k,a≤k→k<b→Q (at' l k))→∀k,a≤k→k<b→Q (at' l' k)
theorem Rg.refl (a b:Int)(l:List α):Rg a b l l:=⟨rfl,List.Perm.refl _,λ_ _ _=>rfl,λ_ h=>h⟩
theorem Rg.trans {a b:Int}{l l' l'':List α}(h:Rg a b l l')(h':Rg a b l' l''):Rg a b l l'':=
 ⟨h'.len.trans h.len,h'.perm.trans h.perm,λk h0 hk=>(h'.out k h0 hk).trans (h.out k h0 hk),λQ hQ=>h'.all Q (h.all Q hQ)⟩
theorem Rg.swap {a b i j:Int}{l:List α}(ha:0≤a)(hb:b≤l.length)(hi:a≤i)(hi':i<b)(hj:a≤j)(hj':j<b):Rg a b l (sw l i j):=by
 refine⟨sw_len _ _ _,sw_perm (by omega) (by omega) (by omega) (by omega),λk h0 hk=> ?_,λQ hQ k h1 h2=> ?_⟩
 ·rw[Bs (by omega) (by omega) (by omega) (by omega) h0,if_neg (by omega),if_neg (by omega)]
 ·rw[Bs (by omega) (by omega) (by omega) (by omega) (by omega)]
  split
  ·exact hQ i hi hi'
  ·split
   ·exact hQ j hj hj'
   ·exact hQ k h1 h2
theorem Rg.widen {a b a' b':Int}{l l':List α}(h:Rg a b l l')(ha:a'≤a)(hb:b≤b')(h0:0≤a'):Rg a' b' l l':=by
 refine⟨h.len,h.perm,λk h0 hk=>h.out k h0 (by omega),λQ hQ k h1 h2=> ?_⟩
 by_cases hk:a≤k∧k<b
 ·exact h.all Q (λk h3 h4=>hQ k (by omega) (by omega)) k hk.1 hk.2
 ·rw[h.out k (by omega) (by omega)];exact hQ k h1 h2
def Srt (l:List α)(a b:Int):Prop:=∀i j,a≤i→i<j→j<b→at' l i≤at' l j
def Good (l:List α):Prop:=∀x∈l,Srtd.good x
theorem Rg.good {a b:Int}{l l':List α}(h:Rg a b l l')(hg:Good l):Good l':=λx hx=>hg x (h.perm.mem_iff.1 hx)
theorem Good.el {l:List α}(h:Good l){i:Int}(h0:0≤i)(h1:i<l.length):Srtd.good (el l i):=by
 unfold Gs.el
 have:i.toNat<l.length:=by omega
 rw[AA this]
 exact h _ (List.getElem_mem this)
theorem CH {l:List α}(h:Good l){i j:Int}(h0:0≤i)(h1:i<l.length)(h2:0≤j)(h3:j<l.length):∃v,Srtd.cmp (el l i) (el l j)=some v∧decide (v<0)=decide (at' l i<at' l j):=
 Srtd.law _ _ (h.el h0 h1) (h.el h2 h3)
theorem By {l:List α}{i j:Int}{x:α}(h0:0≤i)(h1:i<l.length):idx (l.set j.toNat x) i=some (el (l.set j.toNat x) i):=A5 h0 (by simpa using h1)
end Go.Sx.Gs

namespace Go.Sx.Gs
variable {α : Type} [Srtd α]
theorem EU (l0:List α)(a b:Int)(ha:0≤a)(hab:a≤b)(hb:b≤l0.length)(hlen:l0.length≤1000000)(hG:Good l0):
  ∃l',DG.insertionSort Srtd.cmp l0 a b=some l'∧Rg a b l0 l'∧Srt l' a b:=by
 unfold DG.insertionSort
 rw[w64 (show-9223372036854775808≤a+1 by omega) (by omega)]
 refine A3 (λs=>Rg a b l0 s.1∧Srt s.1 a s.2∧a+1≤s.2∧s.2≤b+1) (λs=>(b-s.2).toNat) (λr=>Rg a b l0 r∧Srt r a b) ?_ ?_ ?_
 ·rintro⟨l,i⟩ ⟨hR,hS,h1,h2⟩
  dsimp only at hR hS h1 h2 ⊢
  have hll:=hR.len
  by_cases hi:i<b
  ·simp only[hi,decide_true,cond_true]
   rw[w64 (show-9223372036854775808≤i+1 by omega) (by omega)]
   refine A3 (λs=>Rg a b l0 s.1∧a≤s.2∧s.2≤i∧∀p q,a≤p→p<q→q≤i→q≠s.2→at' s.1 p≤at' s.1 q) (λs=>(s.2-a).toNat) (λr=>Rg a b l0 r∧Srt r a (i+1)) ?_ ?_ ?_
   ·rintro⟨m,j⟩ ⟨hR',g1,g2,hS'⟩
    dsimp only at hR' g1 g2 hS' ⊢
    have hml:=hR'.len
    rw[w64 (show-9223372036854775808≤j-1 by omega) (by omega)]
    by_cases hj:a<j
    ·have r1:idx m j=some (el m j):=A5 (by omega) (by omega)
     have r2:idx m (j-1)=some (el m (j-1)):=A5 (by omega) (by omega)
     have r3:∀x,idx (m.set j.toNat x) (j-1)=some (el (m.set j.toNat x) (j-1)):=λx=>By (by omega) (by omega)
     obtain⟨v,cv,hv⟩:=CH (hR'.good hG) (i:=j) (j:=j-1) (by omega) (by omega) (by omega) (by omega)
     by_cases hlt:at' m j<at' m (j-1)
     ·refine⟨.inl (sw m j (j-1),j-1),?_,⟨hR'.trans (Rg.swap ha (by omega) (by omega) (by omega) (by omega) (by omega)),by dsimp only;omega,by dsimp only;omega,?_⟩,by dsimp only;omega⟩
      ·simp only[r1,r2,r3,hj,cv,hv,hlt,decide_true,cond_true,bs]
       rfl
      ·intro p q k1 k2 k3 k4
       dsimp only at k4 ⊢
       rw[Bs (by omega) (by omega) (by omega) (by omega) (by omega),Bs (by omega) (by omega) (by omega) (by omega) (by omega)]
       by_cases c1:q=j
       ·subst c1
        rw[if_neg (show¬q=q-1 by omega),if_pos rfl]
        by_cases c2:p=q-1
        ·rw[if_pos c2];omega
        ·rw[if_neg c2,if_neg (by omega)]
         exact hS' p (q-1) k1 (by omega) (by omega) (by omega)
       ·rw[if_neg (show¬q=j-1 by omega),if_neg c1]
        by_cases c2:p=j-1
        ·rw[if_pos c2]
         exact hS' j q (by omega) (by omega) k3 c1
        ·rw[if_neg c2]
         by_cases c3:p=j
         ·rw[if_pos c3]
          exact hS' (j-1) q (by omega) (by omega) k3 c1
         ·rw[if_neg c3]
          exact hS' p q k1 k2 k3 c1
     ·refine⟨.inr m,?_,hR',?_⟩
      ·simp only[r1,r2,hj,cv,hv,hlt,decide_true,decide_false,cond_true,cond_false,bs]
      ·intro p q k1 k2 k3
       by_cases c1:q=j
       ·subst c1
        by_cases c2:p=q-1
        ·subst c2;omega
        ·have:=hS' p (q-1) k1 (by omega) (by omega) (by omega)
         omega
       ·exact hS' p q k1 k2 (by omega) c1
    ·refine⟨.inr m,?_,hR',?_⟩
     ·simp only[hj,decide_false,cond_false,bs]
     ·intro p q k1 k2 k3
      exact hS' p q k1 k2 (by omega) (by omega)
   ·exact⟨hR,by dsimp only;omega,Int.le_refl _,λp q k1 k2 k3 k4=>hS p q k1 k2 (by dsimp only at k4 ⊢;omega)⟩
   ·rintro r ⟨hR',hS'⟩
    exact⟨.inl (r,i+1),rfl,⟨hR',hS',by dsimp only;omega,by dsimp only;omega⟩,by dsimp only;omega⟩
  ·refine⟨.inr l,by simp only[hi,decide_false,cond_false],hR,?_⟩
   intro p q k1 k2 k3
   exact hS p q k1 k2 (by omega)
 ·exact⟨Rg.refl _ _ _,λp q k1 k2 k3=>by dsimp only at k3;omega,by dsimp only;omega,by dsimp only;omega⟩
 ·rintro r hr
  exact⟨r,rfl,hr⟩
end Go.Sx.Gs

namespace Go.Sx.Gs
variable {α : Type} [Srtd α]
theorem E7 (l0:List α)(a b:Int)(ha:0≤a)(hab:a≤b)(hb:b≤l0.length)(hlen:l0.length≤1000000):
  ∃l',DG.reverseRange Srtd.cmp l0 a b=some l'∧Rg a b l0 l':=by
 unfold DG.reverseRange
 rw[w64 (show-9223372036854775808≤b-1 by omega) (by omega)]
 refine A3 (λs=>Rg a b l0 s.1∧a≤s.2.1∧s.2.1≤b∧s.2.2<b∧a-1≤s.2.2) (λs=>(s.2.2-s.2.1).toNat) (λr=>Rg a b l0 r) ?_ ?_ ?_
 ·rintro⟨l,i,j⟩ ⟨hR,h1,h2,h3,h4⟩
  dsimp only at hR h1 h2 h3 h4 ⊢
  have hll:=hR.len
  by_cases hi:i<j
  ·have r1:idx l i=some (el l i):=A5 (by omega) (by omega)
   have r2:idx l j=some (el l j):=A5 (by omega) (by omega)
   have r3:∀x,idx (l.set i.toNat x) j=some (el (l.set i.toNat x) j):=λx=>By (by omega) (by omega)
   rw[w64 (show-9223372036854775808≤i+1 by omega) (by omega),w64 (show-9223372036854775808≤j-1 by omega) (by omega)]
   refine⟨.inl (sw l i j,i+1,j-1),?_,⟨hR.trans (Rg.swap ha (by omega) (by omega) (by omega) (by omega) (by omega)),by dsimp only;omega,by dsimp only;omega,by dsimp only;omega,by dsimp only;omega⟩,by dsimp only;omega⟩
   simp only[r1,r2,r3,hi,decide_true,cond_true,bs]
   rfl
  ·exact⟨.inr l,by simp only[hi,decide_false,cond_false],hR⟩
 ·exact⟨Rg.refl _ _ _,by dsimp only;omega,by dsimp only;omega,by dsimp only;omega,by dsimp only;omega⟩
 ·rintro r hr
  exact⟨r,rfl,hr⟩
theorem scanUp {β:Type}{k:Int→Option β}{Q:β→Prop}(l:List α)(hG:Good l)(a hi i0:Int)(ha:0≤a)(ha':a<l.length)(h0:0≤i0)(h1:i0≤hi+1)(h2:hi<l.length)(hlen:l.length≤1000000)
  (hk:∀i,i0≤i→i≤hi+1→(∀q,i0≤q→q<i→at' l q<at' l a)→(i≤hi→¬at' l i<at' l a)→∃y,k i=some y∧Q y):
  ∃y,(Aq (σ:=Int) (ρ:=(Int)) (fun(x:Int)=>(cond (decide (x≤hi)) ((idx l x).bind λe=>(idx l a).bind λe'=>(Srtd.cmp e e').bind λy=>some (decide (y<0))) (some false)).bind λb=>cond b (some (.inl (IntKind.i64.wrap (x+1)))) (some (.inr x))) i0).bind k=some y∧Q y:=by
 refine A3 (λi=>i0≤i∧i≤hi+1∧∀q,i0≤q→q<i→at' l q<at' l a) (λi=>(hi+1-i).toNat) (λi=>i0≤i∧i≤hi+1∧(∀q,i0≤q→q<i→at' l q<at' l a)∧(i≤hi→¬at' l i<at' l a)) ?_ ?_ ?_
 ·rintro i ⟨g1,g2,g3⟩
  by_cases hi':i≤hi
  ·have r1:idx l i=some (el l i):=A5 (by omega) (by omega)
   have r2:idx l a=some (el l a):=A5 (by omega) (by omega)
   obtain⟨v,cv,hv⟩:=CH hG (i:=i) (j:=a) (by omega) (by omega) (by omega) (by omega)
   by_cases hlt:at' l i<at' l a
   ·refine⟨.inl (i+1),?_,⟨by omega,by omega,λq q1 q2=> ?_⟩,by dsimp only;omega⟩
    ·simp only[r1,r2,hi',cv,hv,hlt,decide_true,cond_true,bs]
     rw[w64 (by omega) (by omega)]
    ·by_cases e:q=i
     ·rw[e];exact hlt
     ·exact g3 q q1 (by omega)
   ·exact⟨.inr i,by simp only[r1,r2,hi',cv,hv,hlt,decide_true,decide_false,cond_true,cond_false,bs],g1,g2,g3,λ_=>hlt⟩
  ·exact⟨.inr i,by simp only[hi',decide_false,cond_false,bs],g1,g2,g3,λh=>absurd h hi'⟩
 ·exact⟨Int.le_refl _,h1,λq q1 q2=>by omega⟩
 ·rintro i ⟨g1,g2,g3,g4⟩
  exact hk i g1 g2 g3 g4
theorem scanDown {β:Type}{k:Int→Option β}{Q:β→Prop}(l:List α)(hG:Good l)(a lo j0:Int)(ha:0≤a)(ha':a<l.length)(h0:0≤lo)(h1:lo≤j0+1)(h2:j0<l.length)(hlen:l.length≤1000000)
  (hk:∀j,lo≤j+1→j≤j0→(∀q,j<q→q≤j0→¬at' l q<at' l a)→(lo≤j→at' l j<at' l a)→∃y,k j=some y∧Q y):
  ∃y,(Aq (σ:=Int) (ρ:=(Int)) (fun(x:Int)=>(cond (decide (lo≤x)) ((idx l x).bind λe=>(idx l a).bind λe'=>(Srtd.cmp e e').bind λy=>some (!(decide (y<0)))) (some false)).bind λb=>cond b (some (.inl (IntKind.i64.wrap (x-1)))) (some (.inr x))) j0).bind k=some y∧Q y:=by
 refine A3 (λj=>lo≤j+1∧j≤j0∧∀q,j<q→q≤j0→¬at' l q<at' l a) (λj=>(j+1-lo).toNat) (λj=>lo≤j+1∧j≤j0∧(∀q,j<q→q≤j0→¬at' l q<at' l a)∧(lo≤j→at' l j<at' l a)) ?_ ?_ ?_
 ·rintro j ⟨g1,g2,g3⟩
  by_cases hi':lo≤j
  ·have r1:idx l j=some (el l j):=A5 (by omega) (by omega)
   have r2:idx l a=some (el l a):=A5 (by omega) (by omega)
   obtain⟨v,cv,hv⟩:=CH hG (i:=j) (j:=a) (by omega) (by omega) (by omega) (by omega)
   by_cases hlt:at' l j<at' l a
   ·exact⟨.inr j,by simp only[r1,r2,hi',cv,hv,hlt,decide_true,Bool.not_true,cond_true,cond_false,bs],g1,g2,g3,λ_=>hlt⟩
   ·refine⟨.inl (j-1),?_,⟨by omega,by omega,λq q1 q2=> ?_⟩,by dsimp only;omega⟩
    ·simp only[r1,r2,hi',cv,hv,hlt,decide_true,decide_false,Bool.not_false,cond_true,bs]
     rw[w64 (by omega) (by omega)]
    ·by_cases e:q=j
     ·rw[e];exact hlt
     ·exact g3 q (by omega) q2
  ·exact⟨.inr j,by simp only[hi',decide_false,cond_false,bs],g1,g2,g3,λh=>absurd h hi'⟩
 ·exact⟨h1,Int.le_refl _,λq q1 q2=>by omega⟩
 ·rintro j ⟨g1,g2,g3,g4⟩
  exact hk j g1 g2 g3 g4
structure Parted (l0 l':List α)(a b mid:Int):Prop where
 rg:Rg a b l0 l'
 lo:a≤mid
 hi:mid<b
 left:∀k,a≤k→k<mid→at' l' k≤at' l' mid
 right:∀k,mid<k→k<b→at' l' mid≤at' l' k
theorem partition_spec (l0:List α)(a b p:Int)(ha:0≤a)(hb:b≤l0.length)(hlen:l0.length≤1000000)(hG:Good l0)(hp:a≤p)(hp':p<b):
  ∃y,DG.partition Srtd.cmp l0 a b p=some y∧Parted l0 y.2.2 a b y.1:=by
 unfold DG.partition
 have r1:idx l0 p=some (el l0 p):=A5 (by omega) (by omega)
 have r2:idx l0 a=some (el l0 a):=A5 (by omega) (by omega)
 have r3:∀x,idx (l0.set a.toNat x) p=some (el (l0.set a.toNat x) p):=λx=>By (by omega) (by omega)
 simp only[r1,r2,r3,bs]
 rw[show (l0.set a.toNat (el l0 p)).set p.toNat (el l0 a)=sw l0 a p from rfl]
 have hR0:Rg a b l0 (sw l0 a p):=Rg.swap ha hb (by omega) (by omega) hp hp'
 generalize sw l0 a p=m0 at hR0 ⊢
 have hm0:=hR0.len
 rw[w64 (show-9223372036854775808≤b-1 by omega) (by omega),w64 (show-9223372036854775808≤a+1 by omega) (by omega)]
 refine scanUp m0 (hR0.good hG) a (b-1) (a+1) ha (by omega) (by omega) (by omega) (by omega) (by omega) (λi i1 i2 i3 i4=> ?_)
 refine scanDown m0 (hR0.good hG) a i (b-1) ha (by omega) (by omega) (by omega) (by omega) (by omega) (λj j1 j2 j3 j4=> ?_)
 have q1:idx m0 a=some (el m0 a):=A5 (by omega) (by omega)
 have q2:idx m0 j=some (el m0 j):=A5 (by omega) (by omega)
 by_cases hij:j<i
 ·have q3:∀x,idx (m0.set j.toNat x) a=some (el (m0.set j.toNat x) a):=λx=>By (by omega) (by omega)
  refine⟨(j,true,sw m0 j a),?_,⟨hR0.trans (Rg.swap ha (by omega) (by omega) (by omega) (by omega) (by omega)),by dsimp only;omega,by dsimp only;omega,λk k1 k2=> ?_,λk k1 k2=> ?_⟩⟩
  ·simp only[q1,q2,q3,hij,decide_true,cond_true,bs]
   rfl
  ·dsimp only at k1 k2 ⊢
   rw[Bs (by omega) (by omega) (by omega) (by omega) (by omega),Bs (by omega) (by omega) (by omega) (by omega) (by omega)]
   rw[if_neg (show¬j=a by omega),if_pos rfl]
   by_cases e:k=a
   ·rw[if_pos e]
    have:=i3 j (by omega) (by omega);omega
   ·rw[if_neg e,if_neg (by omega)]
    have:=i3 k (by omega) (by omega);omega
  ·dsimp only at k1 k2 ⊢
   rw[Bs (by omega) (by omega) (by omega) (by omega) (by omega),Bs (by omega) (by omega) (by omega) (by omega) (by omega)]
   rw[if_neg (show¬k=a by omega),if_neg (show¬k=j by omega)]
   have hk:=j3 k (by omega) (by omega)
   by_cases e:j=a
   ·rw[if_pos e];subst e;omega
   ·rw[if_neg e,if_pos rfl];omega
 ·have q4:idx m0 i=some (el m0 i):=A5 (by omega) (by omega)
  have q5:∀x,idx (m0.set i.toNat x) j=some (el (m0.set i.toNat x) j):=λx=>By (by omega) (by omega)
  simp only[q1,q2,q4,q5,hij,decide_false,cond_false,bs]
  rw[show (m0.set i.toNat (el m0 j)).set j.toNat (el m0 i)=sw m0 i j from rfl]
  have hia:=i4 (by omega)
  have hja:=j4 (by omega)
  have hne:i<j:=by
   rcases Int.lt_or_eq_of_le (show i≤j by omega) with h|h
   ·exact h
   ·subst h;exact absurd hja hia
  have hR1:Rg a b l0 (sw m0 i j):=hR0.trans (Rg.swap ha (by omega) (by omega) (by omega) (by omega) (by omega))
  have ea:at' (sw m0 i j) a=at' m0 a:=by rw[Bs (by omega) (by omega) (by omega) (by omega) (by omega),if_neg (by omega),if_neg (by omega)]
  have hlo:∀q,a+1≤q→q<i+1→at' (sw m0 i j) q<at' (sw m0 i j) a:=λq h1 h2=>by
   rw[ea,Bs (by omega) (by omega) (by omega) (by omega) (by omega),if_neg (by omega)]
   by_cases e:q=i
   ·rw[if_pos e];exact hja
   ·rw[if_neg e];exact i3 q h1 (by omega)
  have hhi:∀q,j-1<q→q<b→¬at' (sw m0 i j) q<at' (sw m0 i j) a:=λq h1 h2=>by
   rw[ea,Bs (by omega) (by omega) (by omega) (by omega) (by omega)]
   by_cases e:q=j
   ·rw[if_pos e];exact hia
   ·rw[if_neg e,if_neg (by omega)];exact j3 q (by omega) (by omega)
  rw[w64 (show-9223372036854775808≤i+1 by omega) (by omega),w64 (show-9223372036854775808≤j-1 by omega) (by omega)]
  generalize sw m0 i j=m1 at hR1 hlo hhi ⊢
  refine A3 (λs=>Rg a b l0 s.1∧a+1≤s.2.1∧s.2.1≤s.2.2+1∧s.2.2<b∧(∀q,a+1≤q→q<s.2.1→at' s.1 q<at' s.1 a)∧(∀q,s.2.2<q→q<b→¬at' s.1 q<at' s.1 a)) (λs=>(s.2.2+1-s.2.1).toNat)
   (λs=>Rg a b l0 s.1∧a≤s.2∧s.2<b∧(∀q,a+1≤q→q≤s.2→at' s.1 q<at' s.1 a)∧(∀q,s.2<q→q<b→¬at' s.1 q<at' s.1 a)) ?_ ?_ ?_
  ·rintro⟨m,u,v⟩ ⟨hR,g1,g2,g3,g4,g5⟩
   dsimp only at hR g1 g2 g3 g4 g5 ⊢
   have hml:=hR.len
   refine scanUp m (hR.good hG) a v u ha (by omega) (by omega) (by omega) (by omega) (by omega) (λi i1 i2 i3 i4=> ?_)
   refine scanDown m (hR.good hG) a i v ha (by omega) (by omega) (by omega) (by omega) (by omega) (λj j1 j2 j3 j4=> ?_)
   have f1:∀q,a+1≤q→q<i→at' m q<at' m a:=λq h1 h2=>by
    by_cases h:q<u
    ·exact g4 q h1 h
    ·exact i3 q (by omega) h2
   have f2:∀q,j<q→q<b→¬at' m q<at' m a:=λq h1 h2=>by
    by_cases h:q≤v
    ·exact j3 q h1 h
    ·exact g5 q (by omega) h2
   by_cases hij:j<i
   ·exact⟨.inr (m,j),by simp only[hij,decide_true,cond_true],hR,by dsimp only;omega,by dsimp only;omega,λq h1 h2=>f1 q h1 (by dsimp only at h2;omega),f2⟩
   ·have t1:idx m i=some (el m i):=A5 (by omega) (by omega)
    have t2:idx m j=some (el m j):=A5 (by omega) (by omega)
    have t3:∀x,idx (m.set i.toNat x) j=some (el (m.set i.toNat x) j):=λx=>By (by omega) (by omega)
    have hia:=i4 (by omega)
    have hja:=j4 (by omega)
    have hne:i<j:=by
     rcases Int.lt_or_eq_of_le (show i≤j by omega) with h|h
     ·exact h
     ·subst h;exact absurd hja hia
    have ea:at' (sw m i j) a=at' m a:=by rw[Bs (by omega) (by omega) (by omega) (by omega) (by omega),if_neg (by omega),if_neg (by omega)]
    rw[w64 (show-9223372036854775808≤i+1 by omega) (by omega),w64 (show-9223372036854775808≤j-1 by omega) (by omega)]
    refine⟨.inl (sw m i j,i+1,j-1),?_,⟨hR.trans (Rg.swap ha (by omega) (by omega) (by omega) (by omega) (by omega)),by dsimp only;omega,by dsimp only;omega,by dsimp only;omega,λq h1 h2=> ?_,λq h1 h2=> ?_⟩,by dsimp only;omega⟩
    ·simp only[t1,t2,t3,hij,decide_false,cond_false,bs]
     rfl
    ·dsimp only at h2 ⊢
     rw[ea,Bs (by omega) (by omega) (by omega) (by omega) (by omega),if_neg (by omega)]
     by_cases e:q=i
     ·rw[if_pos e];exact hja
     ·rw[if_neg e];exact f1 q h1 (by omega)
    ·dsimp only at h1 ⊢
     rw[ea,Bs (by omega) (by omega) (by omega) (by omega) (by omega)]
     by_cases e:q=j
     ·rw[if_pos e];exact hia
     ·rw[if_neg e,if_neg (by omega)];exact f2 q (by omega) h2
  ·exact⟨hR1,by dsimp only;omega,by dsimp only;omega,by dsimp only;omega,hlo,hhi⟩
  ·rintro⟨m,v⟩ ⟨hR,g1,g2,g3,g4⟩
   dsimp only at hR g1 g2 g3 g4 ⊢
   have hml:=hR.len
   have t1:idx m a=some (el m a):=A5 (by omega) (by omega)
   have t2:idx m v=some (el m v):=A5 (by omega) (by omega)
   have t3:∀x,idx (m.set v.toNat x) a=some (el (m.set v.toNat x) a):=λx=>By (by omega) (by omega)
   refine⟨(v,false,sw m v a),?_,⟨hR.trans (Rg.swap ha (by omega) (by omega) (by omega) (by omega) (by omega)),g1,g2,λk k1 k2=> ?_,λk k1 k2=> ?_⟩⟩
   ·simp only[t1,t2,t3,bs]
    rfl
   ·dsimp only at k1 k2 ⊢
    rw[Bs (by omega) (by omega) (by omega) (by omega) (by omega),Bs (by omega) (by omega) (by omega) (by omega) (by omega)]
    rw[if_neg (show¬v=a by omega),if_pos rfl]
    by_cases e:k=a
    ·rw[if_pos e]
     have:=g3 v (by omega) (by omega);omega
    ·rw[if_neg e,if_neg (by omega)]
     have:=g3 k (by omega) (by omega);omega
   ·dsimp only at k1 k2 ⊢
    rw[Bs (by omega) (by omega) (by omega) (by omega) (by omega),Bs (by omega) (by omega) (by omega) (by omega) (by omega)]
    rw[if_neg (show¬k=a by omega),if_neg (show¬k=v by omega)]
    have hk:=g4 k (by omega) (by omega)
    by_cases e:v=a
    ·rw[if_pos e];subst e;omega
    ·rw[if_neg e,if_pos rfl];omega
end Go.Sx.Gs

namespace Go.Sx.Gs
variable {α : Type} [Srtd α]
theorem scanUp2 {β:Type}{k:Int→Option β}{Q:β→Prop}(l:List α)(hG:Good l)(a hi i0:Int)(ha:0≤a)(ha':a<l.length)(h0:0≤i0)(h1:i0≤hi+1)(h2:hi<l.length)(hlen:l.length≤1000000)
  (hk:∀i,i0≤i→i≤hi+1→(∀q,i0≤q→q<i→¬at' l a<at' l q)→(i≤hi→at' l a<at' l i)→∃y,k i=some y∧Q y):
  ∃y,(Aq (σ:=Int) (ρ:=(Int)) (fun(x:Int)=>(cond (decide (x≤hi)) ((idx l a).bind λe=>(idx l x).bind λe'=>(Srtd.cmp e e').bind λy=>some (!(decide (y<0)))) (some false)).bind λb=>cond b (some (.inl (IntKind.i64.wrap (x+1)))) (some (.inr x))) i0).bind k=some y∧Q y:=by
 refine A3 (λi=>i0≤i∧i≤hi+1∧∀q,i0≤q→q<i→¬at' l a<at' l q) (λi=>(hi+1-i).toNat) (λi=>i0≤i∧i≤hi+1∧(∀q,i0≤q→q<i→¬at' l a<at' l q)∧(i≤hi→at' l a<at' l i)) ?_ ?_ ?_
 ·rintro i ⟨g1,g2,g3⟩
  by_cases hi':i≤hi
  ·have r1:idx l i=some (el l i):=A5 (by omega) (by omega)
   have r2:idx l a=some (el l a):=A5 (by omega) (by omega)
   obtain⟨v,cv,hv⟩:=CH hG (i:=a) (j:=i) (by omega) (by omega) (by omega) (by omega)
   by_cases hlt:at' l a<at' l i
   ·exact⟨.inr i,by simp only[r1,r2,hi',cv,hv,hlt,decide_true,Bool.not_true,cond_true,cond_false,bs],g1,g2,g3,λ_=>hlt⟩
   ·refine⟨.inl (i+1),?_,⟨by omega,by omega,λq q1 q2=> ?_⟩,by dsimp only;omega⟩
    ·simp only[r1,r2,hi',cv,hv,hlt,decide_true,decide_false,Bool.not_false,cond_true,bs]
     rw[w64 (by omega) (by omega)]
    ·by_cases e:q=i
     ·rw[e];exact hlt
     ·exact g3 q q1 (by omega)
  ·exact⟨.inr i,by simp only[hi',decide_false,cond_false,bs],g1,g2,g3,λh=>absurd h hi'⟩
 ·exact⟨Int.le_refl _,h1,λq q1 q2=>by omega⟩
 ·rintro i ⟨g1,g2,g3,g4⟩
  exact hk i g1 g2 g3 g4
theorem scanDown2 {β:Type}{k:Int→Option β}{Q:β→Prop}(l:List α)(hG:Good l)(a lo j0:Int)(ha:0≤a)(ha':a<l.length)(h0:0≤lo)(h1:lo≤j0+1)(h2:j0<l.length)(hlen:l.length≤1000000)
  (hk:∀j,lo≤j+1→j≤j0→(∀q,j<q→q≤j0→at' l a<at' l q)→(lo≤j→¬at' l a<at' l j)→∃y,k j=some y∧Q y):
  ∃y,(Aq (σ:=Int) (ρ:=(Int)) (fun(x:Int)=>(cond (decide (lo≤x)) ((idx l a).bind λe=>(idx l x).bind λe'=>(Srtd.cmp e e').bind λy=>some (decide (y<0))) (some false)).bind λb=>cond b (some (.inl (IntKind.i64.wrap (x-1)))) (some (.inr x))) j0).bind k=some y∧Q y:=by
 refine A3 (λj=>lo≤j+1∧j≤j0∧∀q,j<q→q≤j0→at' l a<at' l q) (λj=>(j+1-lo).toNat) (λj=>lo≤j+1∧j≤j0∧(∀q,j<q→q≤j0→at' l a<at' l q)∧(lo≤j→¬at' l a<at' l j)) ?_ ?_ ?_
 ·rintro j ⟨g1,g2,g3⟩
  by_cases hi':lo≤j
  ·have r1:idx l j=some (el l j):=A5 (by omega) (by omega)
   have r2:idx l a=some (el l a):=A5 (by omega) (by omega)
   obtain⟨v,cv,hv⟩:=CH hG (i:=a) (j:=j) (by omega) (by omega) (by omega) (by omega)
   by_cases hlt:at' l a<at' l j
   ·refine⟨.inl (j-1),?_,⟨by omega,by omega,λq q1 q2=> ?_⟩,by dsimp only;omega⟩
    ·simp only[r1,r2,hi',cv,hv,hlt,decide_true,cond_true,bs]
     rw[w64 (by omega) (by omega)]
    ·by_cases e:q=j
     ·rw[e];exact hlt
     ·exact g3 q (by omega) q2
   ·exact⟨.inr j,by simp only[r1,r2,hi',cv,hv,hlt,decide_true,decide_false,cond_true,cond_false,bs],g1,g2,g3,λ_=>hlt⟩
  ·exact⟨.inr j,by simp only[hi',decide_false,cond_false,bs],g1,g2,g3,λh=>absurd h hi'⟩
 ·exact⟨h1,Int.le_refl _,λq q1 q2=>by omega⟩
 ·rintro j ⟨g1,g2,g3,g4⟩
  exact hk j g1 g2 g3 g4
theorem EP (l0:List α)(a b p:Int)(ha:0≤a)(hb:b≤l0.length)(hlen:l0.length≤1000000)(hG:Good l0)(hp:a≤p)(hp':p<b):
  ∃y,DG.partitionEqual Srtd.cmp l0 a b p=some y∧Rg a b l0 y.2∧a<y.1∧y.1≤b∧(∀k,a≤k→k<y.1→at' y.2 k≤at' l0 p)∧(∀k,y.1≤k→k<b→at' l0 p<at' y.2 k):=by
 unfold DG.partitionEqual
 have r1:idx l0 p=some (el l0 p):=A5 (by omega) (by omega)
 have r2:idx l0 a=some (el l0 a):=A5 (by omega) (by omega)
 have r3:∀x,idx (l0.set a.toNat x) p=some (el (l0.set a.toNat x) p):=λx=>By (by omega) (by omega)
 simp only[r1,r2,r3,bs]
 rw[show (l0.set a.toNat (el l0 p)).set p.toNat (el l0 a)=sw l0 a p from rfl]
 have hR0:Rg a b l0 (sw l0 a p):=Rg.swap ha hb (by omega) (by omega) hp hp'
 have ep:at' (sw l0 a p) a=at' l0 p:=by
  rw[Bs (by omega) (by omega) (by omega) (by omega) (by omega)]
  by_cases e:a=p
  ·rw[if_pos e,e]
  ·rw[if_neg e,if_pos rfl]
 generalize sw l0 a p=m0 at hR0 ep ⊢
 rw[w64 (show-9223372036854775808≤b-1 by omega) (by omega),w64 (show-9223372036854775808≤a+1 by omega) (by omega)]
 refine A3 (λs=>Rg a b l0 s.1∧a+1≤s.2.1∧s.2.1≤s.2.2+1∧s.2.2<b∧at' s.1 a=at' l0 p∧(∀q,a+1≤q→q<s.2.1→¬at' s.1 a<at' s.1 q)∧(∀q,s.2.2<q→q<b→at' s.1 a<at' s.1 q)) (λs=>(s.2.2+1-s.2.1).toNat)
  (λs=>Rg a b l0 s.1∧a+1≤s.2∧s.2≤b∧at' s.1 a=at' l0 p∧(∀q,a+1≤q→q<s.2→¬at' s.1 a<at' s.1 q)∧(∀q,s.2≤q→q<b→at' s.1 a<at' s.1 q)) ?_ ?_ ?_
 ·rintro⟨m,u,v⟩ ⟨hR,g1,g2,g3,g6,g4,g5⟩
  dsimp only at hR g1 g2 g3 g4 g5 g6 ⊢
  have hml:=hR.len
  refine scanUp2 m (hR.good hG) a v u ha (by omega) (by omega) (by omega) (by omega) (by omega) (λi i1 i2 i3 i4=> ?_)
  refine scanDown2 m (hR.good hG) a i v ha (by omega) (by omega) (by omega) (by omega) (by omega) (λj j1 j2 j3 j4=> ?_)
  have f1:∀q,a+1≤q→q<i→¬at' m a<at' m q:=λq h1 h2=>by
   by_cases h:q<u
   ·exact g4 q h1 h
   ·exact i3 q (by omega) h2
  have f2:∀q,j<q→q<b→at' m a<at' m q:=λq h1 h2=>by
   by_cases h:q≤v
   ·exact j3 q h1 h
   ·exact g5 q (by omega) h2
  by_cases hij:j<i
  ·exact⟨.inr (m,i),by simp only[hij,decide_true,cond_true],hR,by dsimp only;omega,by dsimp only;omega,g6,f1,λq h1 h2=>f2 q (by dsimp only at h1;omega) h2⟩
  ·have t1:idx m i=some (el m i):=A5 (by omega) (by omega)
   have t2:idx m j=some (el m j):=A5 (by omega) (by omega)
   have t3:∀x,idx (m.set i.toNat x) j=some (el (m.set i.toNat x) j):=λx=>By (by omega) (by omega)
   have hia:=i4 (by omega)
   have hja:=j4 (by omega)
   have hne:i<j:=by
    rcases Int.lt_or_eq_of_le (show i≤j by omega) with h|h
    ·exact h
    ·subst h;exact absurd hia hja
   have ea:at' (sw m i j) a=at' m a:=by rw[Bs (by omega) (by omega) (by omega) (by omega) (by omega),if_neg (by omega),if_neg (by omega)]
   rw[w64 (show-9223372036854775808≤i+1 by omega) (by omega),w64 (show-9223372036854775808≤j-1 by omega) (by omega)]
   refine⟨.inl (sw m i j,i+1,j-1),?_,⟨hR.trans (Rg.swap ha (by omega) (by omega) (by omega) (by omega) (by omega)),by dsimp only;omega,by dsimp only;omega,by dsimp only;omega,by dsimp only;rw[ea];exact g6,λq h1 h2=> ?_,λq h1 h2=> ?_⟩,by dsimp only;omega⟩
   ·simp only[t1,t2,t3,hij,decide_false,cond_false,bs]
    rfl
   ·dsimp only at h2 ⊢
    rw[ea,Bs (by omega) (by omega) (by omega) (by omega) (by omega),if_neg (by omega)]
    by_cases e:q=i
    ·rw[if_pos e];exact hja
    ·rw[if_neg e];exact f1 q h1 (by omega)
   ·dsimp only at h1 ⊢
    rw[ea,Bs (by omega) (by omega) (by omega) (by omega) (by omega)]
    by_cases e:q=j
    ·rw[if_pos e];exact hia
    ·rw[if_neg e,if_neg (by omega)];exact f2 q (by omega) h2
 ·exact⟨hR0,by dsimp only;omega,by dsimp only;omega,by dsimp only;omega,ep,λq h1 h2=>by dsimp only at h2;omega,λq h1 h2=>by dsimp only at h1;omega⟩
 ·rintro⟨m,v⟩ ⟨hR,g1,g2,g3,g4,g5⟩
  refine⟨(v,m),rfl,hR,by dsimp only at*;omega,g2,λk k1 k2=> ?_,λk k1 k2=> ?_⟩
  ·dsimp only at*
   by_cases e:k=a
   ·rw[e,g3];exact Int.le_refl _
   ·have:=g4 k (by omega) k2;omega
  ·dsimp only at*
   have:=g5 k k1 k2;omega
theorem Eh (l:List α)(hG:Good l)(a b s:Int)(ha:0≤a)(ha':a<l.length)(hb:0≤b)(hb':b<l.length):
  ∃y,DG.order2 Srtd.cmp l a b s=some y∧y.2.2.1=l∧((y.1=a∧y.2.1=b)∨(y.1=b∧y.2.1=a)):=by
 have r1:idx l a=some (el l a):=A5 ha ha'
 have r2:idx l b=some (el l b):=A5 hb hb'
 unfold DG.order2
 obtain⟨v,cv,hv⟩:=CH hG (i:=b) (j:=a) hb hb' ha ha'
 simp only[r1,r2,cv,hv,bs]
 by_cases h:at' l b<at' l a
 ·simp only[h,decide_true,cond_true];exact⟨_,rfl,rfl,.inr ⟨rfl,rfl⟩⟩
 ·simp only[h,decide_false,cond_false];exact⟨_,rfl,rfl,.inl ⟨rfl,rfl⟩⟩
theorem Fc (l:List α)(hG:Good l)(a b c s:Int)(ha:0≤a)(ha':a<l.length)(hb:0≤b)(hb':b<l.length)(hc:0≤c)(hc':c<l.length):
  ∃y,DG.median Srtd.cmp l a b c s=some y∧y.2.1=l∧(y.1=a∨y.1=b∨y.1=c):=by
 unfold DG.median
 obtain⟨y1,h1,e1,c1⟩:=Eh l hG a b s ha ha' hb hb'
 rw[h1,bs,e1]
 have b1:0≤y1.2.1∧y1.2.1<l.length∧0≤y1.1∧y1.1<l.length:=by rcases c1 with⟨c,d⟩|⟨c,d⟩<;>rw[c,d]<;>exact⟨by assumption,by assumption,by assumption,by assumption⟩
 obtain⟨y2,h2,e2,c2⟩:=Eh l hG y1.2.1 c y1.2.2.2 b1.1 b1.2.1 hc hc'
 rw[h2,bs,e2]
 have b2:0≤y2.1∧y2.1<l.length:=by rcases c2 with⟨c,d⟩|⟨c,d⟩<;>rw[c]<;>exact⟨by omega,by omega⟩
 obtain⟨y3,h3,e3,c3⟩:=Eh l hG y1.1 y2.1 y2.2.2.2 b1.2.2.1 b1.2.2.2 b2.1 b2.2
 rw[h3,bs]
 refine⟨_,rfl,e3,?_⟩
 dsimp only
 omega
theorem Do (l:List α)(hG:Good l)(p s:Int)(h0:1≤p)(h1:p+1<l.length)(hlen:l.length≤1000000):
  ∃y,DG.medianAdjacent Srtd.cmp l p s=some y∧y.2.1=l∧p-1≤y.1∧y.1≤p+1:=by
 unfold DG.medianAdjacent
 rw[w64 (show-9223372036854775808≤p-1 by omega) (by omega),w64 (show-9223372036854775808≤p+1 by omega) (by omega)]
 obtain⟨y,h,e,c⟩:=Fc l hG (p-1) p (p+1) s (by omega) (by omega) (by omega) (by omega) (by omega) (by omega)
 rw[h,bs]
 exact⟨_,rfl,e,by dsimp only;omega,by dsimp only;omega⟩
theorem Fg (l:List α)(hG:Good l)(a b:Int)(ha:0≤a)(hb:b≤l.length)(h8:8≤b-a)(hlen:l.length≤1000000):
  ∃y,DG.choosePivot Srtd.cmp l a b=some y∧y.2.2=l∧a≤y.1∧y.1<b:=by
 unfold DG.choosePivot
 rw[w64 (show-9223372036854775808≤b-a by omega) (by omega)]
 have e4:(b-a).tdiv 4=(b-a)/4:=Int.tdiv_eq_ediv_of_nonneg (by omega)
 rw[e4,w64 (show-9223372036854775808≤(b-a)/4 by omega) (by omega)]
 rw[w64 (show-9223372036854775808≤(b-a)/4*1 by omega) (by omega),w64 (show-9223372036854775808≤(b-a)/4*2 by omega) (by omega),w64 (show-9223372036854775808≤(b-a)/4*3 by omega) (by omega)]
 rw[w64 (show-9223372036854775808≤a+(b-a)/4*1 by omega) (by omega),w64 (show-9223372036854775808≤a+(b-a)/4*2 by omega) (by omega),w64 (show-9223372036854775808≤a+(b-a)/4*3 by omega) (by omega)]
 simp only[h8,decide_true,cond_true]
 refine Ce (λq:List α×Int×Int×Int×Int=>q.1=l∧(a≤q.2.1∧q.2.1<b)∧(a≤q.2.2.1∧q.2.2.1<b)∧(a≤q.2.2.2.1∧q.2.2.2.1<b)) ?_ ?_
 ·by_cases h50:50≤b-a
  ·simp only[h50,decide_true,cond_true]
   obtain⟨y1,h1,e1,c1⟩:=Do l hG (a+(b-a)/4*1) 0 (by omega) (by omega) hlen
   rw[h1,bs,e1]
   obtain⟨y2,h2,e2,c2⟩:=Do l hG (a+(b-a)/4*2) y1.2.2 (by omega) (by omega) hlen
   rw[h2,bs,e2]
   obtain⟨y3,h3,e3,c3⟩:=Do l hG (a+(b-a)/4*3) y2.2.2 (by omega) (by omega) hlen
   rw[h3,bs]
   exact⟨_,rfl,e3,⟨by dsimp only;omega,by dsimp only;omega⟩,⟨by dsimp only;omega,by dsimp only;omega⟩,⟨by dsimp only;omega,by dsimp only;omega⟩⟩
  ·simp only[h50,decide_false,cond_false]
   exact⟨_,rfl,rfl,⟨by dsimp only;omega,by dsimp only;omega⟩,⟨by dsimp only;omega,by dsimp only;omega⟩,⟨by dsimp only;omega,by dsimp only;omega⟩⟩
 ·rintro⟨q,i,j,k,sw⟩ ⟨rfl,g1,g2,g3⟩
  dsimp only at g1 g2 g3 hb hlen ⊢
  obtain⟨y,h1,e1,c1⟩:=Fc q hG i j k sw (by omega) (by omega) (by omega) (by omega) (by omega) (by omega)
  rw[h1,bs,e1]
  have hy:a≤y.1∧y.1<b:=by omega
  cases (y.2.2==0)
  ·cases (y.2.2==12)
   ·exact⟨_,rfl,rfl,hy⟩
   ·exact⟨_,rfl,rfl,hy⟩
  ·exact⟨_,rfl,rfl,hy⟩
end Go.Sx.Gs

namespace Go.Sx
def at' (l:LI)(i:Int):Int:=l.getD i.toNat 0
theorem at_set {l:LI}{i k x:Int}(h0:0≤i)(h1:i<l.length)(hk:0≤k):at' (l.set i.toNat x) k=if k=i then x else at' l k:=by
 unfold at'
 by_cases h:k=i
 ·subst h
  have:k.toNat<l.length:=by omega
  simp[this]
 ·rw[if_neg h]
  have:i.toNat≠k.toNat:=by omega
  simp[List.getD_eq_getElem?_getD,List.getElem?_set_ne this]
def sw (l:LI)(i j:Int):LI:=(l.set i.toNat (at' l j)).set j.toNat (at' l i)
theorem sw_len (l:LI)(i j:Int):(sw l i j).length=l.length:=by simp[sw]
theorem Bs {l:LI}{i j k:Int}(hi:0≤i)(hi':i<l.length)(hj:0≤j)(hj':j<l.length)(hk:0≤k):
  at' (sw l i j) k=if k=j then at' l i else if k=i then at' l j else at' l k:=by
 unfold sw
 rw[at_set hj (by simpa using hj') hk]
 split
 ·rfl
 ·rw[at_set hi hi' hk]
theorem BF (z:Int):∀(l:LI) (j:Nat),j<l.length→List.Perm (l.set j z) (z::l.eraseIdx j)
 |[],j,h=>by simp at h
 |x::l,0,_=>by simp
 |x::l,j+1,h=>by
  simp only[List.set_cons_succ,List.eraseIdx_cons_succ]
  exact((BF z l j (by simpa using h)).cons x).trans (List.Perm.swap _ _ _)
theorem Dj (l:LI)(j:Nat)(h:j<l.length):List.Perm l (l[j]::l.eraseIdx j):=by
 have:=BF l[j] l j h
 rwa [List.set_getElem_self] at this
theorem DX :∀(l:LI) (i j:Nat) (x y:Int),l[i]? =some x→l[j]? =some y→List.Perm ((l.set i y).set j x) l
 |[],i,j,x,y,h,_=>by simp at h
 |z::l,0,0,x,y,h,h'=>by simp at h h';subst h;simp
 |z::l,0,j+1,x,y,h,h'=>by
  simp at h h'
  subst h
  simp only[List.set_cons_zero,List.set_cons_succ]
  obtain⟨hj,rfl⟩:=List.getElem?_eq_some_iff.1 h'
  have h1:=BF z l j hj
  have h2:=Dj l j hj
  exact((h1.cons _).trans (List.Perm.swap _ _ _)).trans (h2.symm.cons z)
 |z::l,i+1,0,x,y,h,h'=>by
  simp at h h'
  subst h'
  simp only[List.set_cons_zero,List.set_cons_succ]
  obtain⟨hj,rfl⟩:=List.getElem?_eq_some_iff.1 h
  have h1:=BF z l i hj
  have h2:=Dj l i hj
  exact((h1.cons _).trans (List.Perm.swap _ _ _)).trans (h2.symm.cons z)
 |z::l,i+1,j+1,x,y,h,h'=>by
  simp at h h'
  simp only[List.set_cons_succ]
  exact(DX l i j x y h h').cons z
theorem sw_perm {l:LI}{i j:Int}(hi:0≤i)(hi':i<l.length)(hj:0≤j)(hj':j<l.length):List.Perm (sw l i j) l:=by
 have h1:i.toNat<l.length:=by omega
 have h2:j.toNat<l.length:=by omega
 exact DX l i.toNat j.toNat _ _ (by simp[at',h1]) (by simp[at',h2])
structure Rg (a b:Int)(l l':LI):Prop where
 len:l'.length=l.length
 perm:List.Perm l' l
 out:∀k,0≤k→(k<a∨b≤k)→at' l' k=at' l k
 all:∀Q:Int→Prop,(∀k,a≤k→k<b→Q (at' l k))→∀k,a≤k→k<b→Q (at' l' k)
theorem Rg.refl (a b:Int)(l:LI):Rg a b l l:=⟨rfl,List.Perm.refl _,λ_ _ _=>rfl,λ_ h=>h⟩
theorem Rg.trans {a b:Int}{l l' l'':LI}(h:Rg a b l l')(h':Rg a b l' l''):Rg a b l l'':=
 ⟨h'.len.trans h.len,h'.perm.trans h.perm,λk h0 hk=>(h'.out k h0 hk).trans (h.out k h0 hk),λQ hQ=>h'.all Q (h.all Q hQ)⟩
theorem Rg.swap {a b i j:Int}{l:LI}(ha:0≤a)(hb:b≤l.length)(hi:a≤i)(hi':i<b)(hj:a≤j)(hj':j<b):Rg a b l (sw l i j):=by
 refine⟨sw_len _ _ _,sw_perm (by omega) (by omega) (by omega) (by omega),λk h0 hk=> ?_,λQ hQ k h1 h2=> ?_⟩
 ·rw[Bs (by omega) (by omega) (by omega) (by omega) h0,if_neg (by omega),if_neg (by omega)]
 ·rw[Bs (by omega) (by omega) (by omega) (by omega) (by omega)]
  split
  ·exact hQ i hi hi'
  ·split
   ·exact hQ j hj hj'
   ·exact hQ k h1 h2
structure Parted (l0 l':LI)(a b mid:Int):Prop where
 rg:Rg a b l0 l'
 lo:a≤mid
 hi:mid<b
 left:∀k,a≤k→k<mid→at' l' k≤at' l' mid
 right:∀k,mid<k→k<b→at' l' mid≤at' l' k
theorem iand_small (y m:Int)(h0:0≤m)(h1:m<4294967296):0≤iand .u64 y m∧iand .u64 y m≤m:=by
 unfold iand
 have e:(BitVec.ofInt IntKind.u64.bits y&&&BitVec.ofInt IntKind.u64.bits m).toNat≤(BitVec.ofInt IntKind.u64.bits m).toNat:=by
  rw[BitVec.toNat_and];exact Nat.and_le_right
 have e2:(BitVec.ofInt IntKind.u64.bits m).toNat=m.toNat:=by
  rw[BitVec.toNat_ofInt]
  show (m%(2^64:Nat)).toNat=m.toNat
  congr 1
  omega
 rw[e2] at e
 generalize (BitVec.ofInt IntKind.u64.bits y&&&BitVec.ofInt IntKind.u64.bits m).toNat=t at e
 have:IntKind.u64.wrap (t:Int)=t:=by
  simp only[IntKind.wrap,IntKind.bits,IntKind.signed]
  simp
  omega
 rw[this]
 omega
theorem wu64 {x:Int}(h1:0≤x)(h2:x<18446744073709551616):IntKind.u64.wrap x=x:=by
 simp only[IntKind.wrap,IntKind.bits,IntKind.signed]
 simp
 omega
end Go.Sx

namespace Go.Sx.Gs
variable {α : Type} [Srtd α]
theorem Es (l0:List α)(hG:Good l0)(a b:Int)(ha:0≤a)(hab:a<b)(hb:b≤l0.length)(hlen:l0.length≤1000000)
  (hpre:0<a→∀k,a≤k→k<b→at' l0 (a-1)≤at' l0 k):
  ∃y,DG.partialInsertionSort Srtd.cmp l0 a b=some y∧Rg a b l0 y.2∧(y.1=true→Srt y.2 a b):=by
 unfold DG.partialInsertionSort
 rw[w64 (show-9223372036854775808≤a+1 by omega) (by omega),w64 (show-9223372036854775808≤b-a by omega) (by omega)]
 refine A3 (λs=>Rg a b l0 s.1∧a+1≤s.2.1∧s.2.1≤b∧Srt s.1 a s.2.1∧0≤s.2.2∧s.2.2≤5) (λs=>(5-s.2.2).toNat)
  (λr=>match r with| .inl l=>Rg a b l0 l| .inr y=>Rg a b l0 y.2∧(y.1=true→Srt y.2 a b)) ?_ ⟨Rg.refl _ _ _,by dsimp only;omega,by dsimp only;omega,λp q k1 k2 k3=>by dsimp only at k3;omega,by dsimp only;omega,by dsimp only;omega⟩ ?_
 ·rintro⟨l,i,j⟩ ⟨hR,g1,g2,g3,g4,g5⟩
  dsimp only at hR g1 g2 g3 g4 g5 ⊢
  have hll:=hR.len
  by_cases hj:j<5
  ·simp only[hj,decide_true,cond_true]
   refine A3 (λi=>a+1≤i∧i≤b∧Srt l a i) (λi=>(b-i).toNat) (λi=>a+1≤i∧i≤b∧Srt l a i∧(i<b→at' l i<at' l (i-1))) ?_ ⟨g1,g2,g3⟩ ?_
   ·rintro i ⟨g1,g2,g3⟩
    by_cases hi:i<b
    ·have r1:idx l i=some (el l i):=A5 (by omega) (by omega)
     have r2:idx l (i-1)=some (el l (i-1)):=A5 (by omega) (by omega)
     have e1:IntKind.i64.wrap (i-1)=i-1:=w64 (by omega) (by omega)
     obtain⟨v,cv,hv⟩:=CH (hR.good hG) (i:=i) (j:=i-1) (by omega) (by omega) (by omega) (by omega)
     by_cases hlt:at' l i<at' l (i-1)
     ·exact⟨.inr i,by simp only[r1,r2,e1,hi,cv,hv,hlt,decide_true,Bool.not_true,cond_true,cond_false,bs],g1,g2,g3,λ_=>hlt⟩
     ·refine⟨.inl (i+1),?_,⟨by omega,by omega,λp q k1 k2 k3=> ?_⟩,by dsimp only;omega⟩
      ·simp only[r1,r2,e1,hi,cv,hv,hlt,decide_true,decide_false,Bool.not_false,cond_true,bs]
       rw[w64 (by omega) (by omega)]
      ·by_cases e:q=i
       ·subst e
        by_cases e2:p=q-1
        ·subst e2;omega
        ·have:=g3 p (q-1) k1 (by omega) (by omega);omega
       ·exact g3 p q k1 k2 (by omega)
    ·exact⟨.inr i,by simp only[hi,decide_false,cond_false,bs],g1,g2,g3,λh=>absurd h hi⟩
   ·rintro i ⟨g1,g2,g3,g6⟩
    by_cases he:i=b
    ·have:(i==b)=true:=by simp[he]
     simp only[this,cond_true]
     exact⟨_,rfl,hR,λ_=>by rw[←he];exact g3⟩
    ·have:(i==b)=false:=by simp[he]
     simp only[this,cond_false]
     by_cases h50:b-a<50
     ·simp only[h50,decide_true,cond_true]
      exact⟨_,rfl,hR,λh=>by cases h⟩
     ·simp only[h50,decide_false,cond_false]
      have hib:i<b:=by omega
      have hlt:=g6 hib
      have e1:IntKind.i64.wrap (i-1)=i-1:=w64 (by omega) (by omega)
      have r1:idx l i=some (el l i):=A5 (by omega) (by omega)
      have r2:idx l (i-1)=some (el l (i-1)):=A5 (by omega) (by omega)
      have r3:∀x,idx (l.set i.toNat x) (i-1)=some (el (l.set i.toNat x) (i-1)):=λx=>By (by omega) (by omega)
      simp only[e1,r1,r2,r3,bs]
      rw[show (l.set i.toNat (el l (i-1))).set (i-1).toNat (el l i)=sw l i (i-1) from rfl]
      have hR1:Rg a b l0 (sw l i (i-1)):=hR.trans (Rg.swap ha (by omega) (by omega) (by omega) (by omega) (by omega))
      have hS1:∀p q,a≤p→p<q→q≤i-1→q≠i-1→at' (sw l i (i-1)) p≤at' (sw l i (i-1)) q:=λp q k1 k2 k3 k4=>by
       rw[Bs (by omega) (by omega) (by omega) (by omega) (by omega),Bs (by omega) (by omega) (by omega) (by omega) (by omega)]
       rw[if_neg (by omega),if_neg (by omega),if_neg (by omega),if_neg (by omega)]
       exact g3 p q k1 k2 (by omega)
      generalize sw l i (i-1)=m at hR1 hS1 ⊢
      have hml:=hR1.len
      have hpre':∀m',Rg a b l0 m'→0<a→∀k,a≤k→k<b→at' m' (a-1)≤at' m' k:=λm' hr h0 k k1 k2=>by
       rw[hr.out (a-1) (by omega) (.inl (by omega))]
       exact hr.all (λx=>at' l0 (a-1)≤x) (hpre h0) k k1 k2
      rw[w64 (show-9223372036854775808≤i-a by omega) (by omega),w64 (show-9223372036854775808≤b-i by omega) (by omega),w64 (show-9223372036854775808≤i+1 by omega) (by omega),w64 (show-9223372036854775808≤j+1 by omega) (by omega)]
      refine Ce (λm=>Rg a b l0 m∧Srt m a i) ?_ ?_
      ·by_cases h2:2≤i-a
       ·simp only[h2,decide_true,cond_true]
        refine A3 (λs=>Rg a b l0 s.1∧a≤s.2∧s.2≤i-1∧∀p q,a≤p→p<q→q≤i-1→q≠s.2→at' s.1 p≤at' s.1 q) (λs=>s.2.toNat) (λr=>Rg a b l0 r∧Srt r a i) ?_ ⟨hR1,by dsimp only;omega,Int.le_refl _,hS1⟩ (λr hr=>⟨r,rfl,hr⟩)
        rintro⟨m,j⟩ ⟨hR',q1,q2,hS'⟩
        dsimp only at hR' q1 q2 hS' ⊢
        have hml:=hR'.len
        by_cases hj1:1≤j
        ·have f1:idx m j=some (el m j):=A5 (by omega) (by omega)
         have f2:idx m (j-1)=some (el m (j-1)):=A5 (by omega) (by omega)
         have f3:∀x,idx (m.set j.toNat x) (j-1)=some (el (m.set j.toNat x) (j-1)):=λx=>By (by omega) (by omega)
         have e2:IntKind.i64.wrap (j-1)=j-1:=w64 (by omega) (by omega)
         obtain⟨v,cv,hv⟩:=CH (hR'.good hG) (i:=j) (j:=j-1) (by omega) (by omega) (by omega) (by omega)
         by_cases hlt:at' m j<at' m (j-1)
         ·have hja:a<j:=by
           rcases Int.lt_or_eq_of_le q1 with h|h
           ·exact h
           ·subst h
            have:=hpre' m hR' (by omega) a (Int.le_refl _) hab
            omega
          refine⟨.inl (sw m j (j-1),j-1),?_,⟨hR'.trans (Rg.swap ha (by omega) (by omega) (by omega) (by omega) (by omega)),by dsimp only;omega,by dsimp only;omega,?_⟩,by dsimp only;omega⟩
          ·simp only[hj1,decide_true,cond_true,e2,f1,f2,f3,cv,hv,hlt,Bool.not_true,cond_false,bs]
           rfl
          ·intro p q k1 k2 k3 k4
           dsimp only at k4 ⊢
           rw[Bs (by omega) (by omega) (by omega) (by omega) (by omega),Bs (by omega) (by omega) (by omega) (by omega) (by omega)]
           by_cases c1:q=j
           ·subst c1
            rw[if_neg (show¬q=q-1 by omega),if_pos rfl]
            by_cases c2:p=q-1
            ·rw[if_pos c2];omega
            ·rw[if_neg c2,if_neg (by omega)]
             exact hS' p (q-1) k1 (by omega) (by omega) (by omega)
           ·rw[if_neg (show¬q=j-1 by omega),if_neg c1]
            by_cases c2:p=j-1
            ·rw[if_pos c2]
             exact hS' j q (by omega) (by omega) k3 c1
            ·rw[if_neg c2]
             by_cases c3:p=j
             ·rw[if_pos c3]
              exact hS' (j-1) q (by omega) (by omega) k3 c1
             ·rw[if_neg c3]
              exact hS' p q k1 k2 k3 c1
         ·refine⟨.inr m,?_,hR',?_⟩
          ·simp only[hj1,decide_true,cond_true,e2,f1,f2,cv,hv,hlt,decide_false,Bool.not_false,bs]
          ·intro p q k1 k2 k3
           by_cases c1:q=j
           ·subst c1
            by_cases c2:p=q-1
            ·subst c2;omega
            ·have:=hS' p (q-1) k1 (by omega) (by omega) (by omega)
             omega
           ·exact hS' p q k1 k2 (by omega) c1
        ·refine⟨.inr m,?_,hR',?_⟩
         ·simp only[hj1,decide_false,cond_false]
         ·intro p q k1 k2 k3
          exact hS' p q k1 k2 (by omega) (by omega)
       ·simp only[h2,decide_false,cond_false]
        exact⟨_,rfl,hR1,λp q k1 k2 k3=>by omega⟩
      ·rintro m1 ⟨hR2,hS2⟩
       have hm1:=hR2.len
       by_cases h2:2≤b-i
       ·simp only[h2,decide_true,cond_true]
        refine A3 (λs=>Rg a b l0 s.1∧Srt s.1 a i∧i+1≤s.2∧s.2≤b) (λs=>(b-s.2).toNat) (λr=>Rg a b l0 r∧Srt r a i) ?_ ⟨hR2,hS2,by dsimp only;omega,by dsimp only;omega⟩ ?_
        ·rintro⟨m,q⟩ ⟨hR',hS',q1,q2⟩
         dsimp only at hR' hS' q1 q2 ⊢
         have hml:=hR'.len
         by_cases hq:q<b
         ·have f1:idx m q=some (el m q):=A5 (by omega) (by omega)
          have f2:idx m (q-1)=some (el m (q-1)):=A5 (by omega) (by omega)
          have f3:∀x,idx (m.set q.toNat x) (q-1)=some (el (m.set q.toNat x) (q-1)):=λx=>By (by omega) (by omega)
          have e2:IntKind.i64.wrap (q-1)=q-1:=w64 (by omega) (by omega)
          have e3:IntKind.i64.wrap (q+1)=q+1:=w64 (by omega) (by omega)
          obtain⟨v,cv,hv⟩:=CH (hR'.good hG) (i:=q) (j:=q-1) (by omega) (by omega) (by omega) (by omega)
          by_cases hlt:at' m q<at' m (q-1)
          ·refine⟨.inl (sw m q (q-1),q+1),?_,⟨hR'.trans (Rg.swap ha (by omega) (by omega) (by omega) (by omega) (by omega)),λp r k1 k2 k3=> ?_,by dsimp only;omega,by dsimp only;omega⟩,by dsimp only;omega⟩
           ·simp only[hq,decide_true,cond_true,e2,e3,f1,f2,f3,cv,hv,hlt,Bool.not_true,cond_false,bs]
            rfl
           ·dsimp only
            rw[Bs (by omega) (by omega) (by omega) (by omega) (by omega),Bs (by omega) (by omega) (by omega) (by omega) (by omega)]
            rw[if_neg (by omega),if_neg (by omega),if_neg (by omega),if_neg (by omega)]
            exact hS' p r k1 k2 k3
          ·refine⟨.inr m,?_,hR',hS'⟩
           simp only[hq,decide_true,cond_true,e2,f1,f2,cv,hv,hlt,decide_false,Bool.not_false,bs]
         ·exact⟨.inr m,by simp only[hq,decide_false,cond_false],hR',hS'⟩
        ·rintro m2 ⟨hR3,hS3⟩
         exact⟨_,rfl,⟨hR3,g1,g2,hS3,by dsimp only;omega,by dsimp only;omega⟩,by dsimp only;omega⟩
       ·simp only[h2,decide_false,cond_false]
        exact⟨_,rfl,⟨hR2,g1,g2,hS2,by dsimp only;omega,by dsimp only;omega⟩,by dsimp only;omega⟩
  ·simp only[hj,decide_false,cond_false]
   exact⟨_,rfl,hR⟩
 ·rintro(l|y) h
  ·exact⟨_,rfl,h,λh=>by cases h⟩
  ·exact⟨_,rfl,h⟩
theorem Fa :∀x:Nat,1≤x→x<2^64→x<2^(Lib.bitLen x)∧2^(Lib.bitLen x)≤2*x:=by
 intro x
 induction x using Nat.strongRecOn with
 |ind x ih=>
  intro h1 h2
  rw[Lib.bitLen_half x (by omega) h2]
  by_cases h:x=1
  ·subst h;decide
  ·obtain⟨a,b⟩:=ih (x/2) (by omega) (by omega) (by omega)
   rw[Nat.add_comm,Nat.pow_succ]
   generalize 2^Lib.bitLen (x/2)=p at a b
   omega
theorem pow2_spec (n:Int)(h1:8≤n)(h2:n≤1000000):∃y,D.b0 n=some y∧n<y∧y≤2*n:=by
 obtain⟨m,rfl⟩:∃m:Nat,n=(m:Int):=⟨n.toNat,by omega⟩
 obtain⟨k1,k2⟩:=Fa m (by omega) (by omega)
 have hb:Lib.bitLen m<22:=by
  apply Classical.byContradiction
  intro hc
  have:2^22≤2^Lib.bitLen m:=Nat.pow_le_pow_right (by omega) (by omega)
  omega
 unfold D.b0
 rw[wu64 (by omega) (by omega)]
 unfold D.J
 rw[if_pos (by omega),bs]
 have:decide (((Lib.bitLen m:Nat):Int)<0)=false:=by simp
 rw[Int.toNat_natCast,this,cond_false]
 have e:ishl .u64 1 ((Lib.bitLen m:Nat):Int)=((2^Lib.bitLen m:Nat):Int):=by
  show IntKind.u64.wrap (1*2^(min (((Lib.bitLen m:Nat):Int)).toNat 64))=_
  rw[Int.toNat_natCast,show min (Lib.bitLen m) 64=Lib.bitLen m by omega,Int.one_mul]
  have e':((2^Lib.bitLen m:Nat):Int)=(2:Int)^Lib.bitLen m:=by simp
  rw[←e',wu64 (by omega) (by omega)]
 rw[e]
 exact⟨_,rfl,by omega,by omega⟩
theorem EW (l0:List α)(a b:Int)(ha:0≤a)(hb:b≤l0.length)(h8:8≤b-a)(hlen:l0.length≤1000000):
  ∃l',DG.breakPatterns Srtd.cmp l0 a b=some l'∧Rg a b l0 l':=by
 unfold DG.breakPatterns
 rw[w64 (show-9223372036854775808≤b-a by omega) (by omega)]
 have e4:(b-a).tdiv 4=(b-a)/4:=Int.tdiv_eq_ediv_of_nonneg (by omega)
 rw[e4,w64 (show-9223372036854775808≤(b-a)/4 by omega) (by omega)]
 rw[w64 (show-9223372036854775808≤(b-a)/4*2 by omega) (by omega)]
 rw[w64 (show-9223372036854775808≤a+(b-a)/4*2 by omega) (by omega)]
 rw[w64 (show-9223372036854775808≤a+(b-a)/4*2+1 by omega) (by omega),w64 (show-9223372036854775808≤a+(b-a)/4*2-1 by omega) (by omega)]
 simp only[h8,decide_true,cond_true]
 obtain⟨y,hy,g1,g2⟩:=pow2_spec (b-a) h8 (by omega)
 rw[hy,bs,wu64 (show 0≤y-1 by omega) (by omega)]
 refine A3 (λs=>Rg a b l0 s.1∧a+(b-a)/4*2-1≤s.2.1∧s.2.1≤a+(b-a)/4*2+2) (λs=>(a+(b-a)/4*2+2-s.2.1).toNat) (λr=>Rg a b l0 r) ?_ ?_ ?_
 ·rintro⟨l,i,z⟩ ⟨hR,k1,k2⟩
  dsimp only at hR k1 k2 ⊢
  have hll:=hR.len
  by_cases hi:i≤a+(b-a)/4*2+1
  ·simp only[hi,decide_true,cond_true,D.g0,bs]
   obtain⟨t1,t2⟩:=iand_small (Bd .u64 (Bd .u64 (Bd .u64 z (ishl .u64 z 13)) (Bz .u64 (Bd .u64 z (ishl .u64 z 13)) 7)) (ishl .u64 (Bd .u64 (Bd .u64 z (ishl .u64 z 13)) (Bz .u64 (Bd .u64 z (ishl .u64 z 13)) 7)) 17)) (y-1) (by omega) (by omega)
   revert t1 t2
   generalize iand .u64 (Bd .u64 (Bd .u64 (Bd .u64 z (ishl .u64 z 13)) (Bz .u64 (Bd .u64 z (ishl .u64 z 13)) 7)) (ishl .u64 (Bd .u64 (Bd .u64 z (ishl .u64 z 13)) (Bz .u64 (Bd .u64 z (ishl .u64 z 13)) 7)) 17)) (y-1)=t
   generalize (Bd .u64 (Bd .u64 (Bd .u64 z (ishl .u64 z 13)) (Bz .u64 (Bd .u64 z (ishl .u64 z 13)) 7)) (ishl .u64 (Bd .u64 (Bd .u64 z (ishl .u64 z 13)) (Bz .u64 (Bd .u64 z (ishl .u64 z 13)) 7)) 17))=z'
   intro t1 t2
   rw[w64 (show-9223372036854775808≤t by omega) (by omega),w64 (show-9223372036854775808≤t-(b-a) by omega) (by omega)]
   have hc:∃o,(bif decide (b-a≤t) then some (t-(b-a)) else some t)=some o∧0≤o∧o<b-a:=by
    by_cases h:b-a≤t
    ·exact⟨t-(b-a),by simp[h],by omega,by omega⟩
    ·exact⟨t,by simp[h],by omega,by omega⟩
   obtain⟨o,ho,o1,o2⟩:=hc
   rw[ho,bs,w64 (show-9223372036854775808≤a+o by omega) (by omega),w64 (show-9223372036854775808≤i+1 by omega) (by omega)]
   have r1:idx l i=some (el l i):=A5 (by omega) (by omega)
   have r2:idx l (a+o)=some (el l (a+o)):=A5 (by omega) (by omega)
   have r3:∀x,idx (l.set i.toNat x) (a+o)=some (el (l.set i.toNat x) (a+o)):=λx=>By (by omega) (by omega)
   refine⟨.inl (sw l i (a+o),i+1,z'),?_,⟨hR.trans (Rg.swap ha (by omega) (by omega) (by omega) (by omega) (by omega)),by dsimp only;omega,by dsimp only;omega⟩,by dsimp only;omega⟩
   simp only[r1,r2,r3,bs]
   rfl
  ·exact⟨.inr l,by simp only[hi,decide_false,cond_false],hR⟩
 ·exact⟨Rg.refl _ _ _,by dsimp only;omega,by dsimp only;omega⟩
 ·rintro r hr
  exact⟨r,rfl,hr⟩
end Go.Sx.Gs

namespace Go.Sx.Gs
variable {α : Type} [Srtd α]
def kid (i c:Int):Prop:=c=2*i+1∨c=2*i+2
theorem EN (l0:List α)(hG:Good l0)(lo hi f:Int)(h0:0≤lo)(hf:0≤f)(hlh:lo≤hi)(hb:f+hi≤l0.length)(hlen:l0.length≤1000000)
  (hH:∀i c,lo<i→kid i c→c<hi→at' l0 (f+c)≤at' l0 (f+i)):
  ∃l',DG.siftDown Srtd.cmp l0 lo hi f=some l'∧Rg (f+lo) (f+hi) l0 l'∧∀i c,lo≤i→kid i c→c<hi→at' l' (f+c)≤at' l' (f+i):=by
 unfold DG.siftDown
 refine A3 (λs=>Rg (f+lo) (f+hi) l0 s.1∧lo≤s.2∧s.2≤hi∧(∀i c,lo≤i→i≠s.2→kid i c→c<hi→at' s.1 (f+c)≤at' s.1 (f+i))∧(∀p c,lo≤p→kid p s.2→kid s.2 c→c<hi→at' s.1 (f+c)≤at' s.1 (f+p)))
  (λs=>(hi-s.2).toNat)
  (λr=>match r with| .inl l'=>Rg (f+lo) (f+hi) l0 l'∧∀i c,lo≤i→kid i c→c<hi→at' l' (f+c)≤at' l' (f+i)| .inr l'=>Rg (f+lo) (f+hi) l0 l'∧∀i c,lo≤i→kid i c→c<hi→at' l' (f+c)≤at' l' (f+i)) ?_
  ⟨Rg.refl _ _ _,Int.le_refl _,hlh,λi c h1 h2 h3 h4=>hH i c (by dsimp only at h2;omega) h3 h4,λp c h1 h2 h3 h4=>by unfold kid at h2;dsimp only at h2;omega⟩ ?_
 ·rintro⟨l,r⟩ ⟨hR,g1,g2,g3,g4⟩
  dsimp only at hR g1 g2 g3 g4 ⊢
  have hll:=hR.len
  rw[w64 (show-9223372036854775808≤2*r by omega) (by omega),w64 (show-9223372036854775808≤2*r+1 by omega) (by omega)]
  rw[w64 (show-9223372036854775808≤2*r+1+1 by omega) (by omega),w64 (show-9223372036854775808≤f+(2*r+1) by omega) (by omega),w64 (show-9223372036854775808≤f+(2*r+1)+1 by omega) (by omega),w64 (show-9223372036854775808≤f+r by omega) (by omega)]
  by_cases hc:hi≤2*r+1
  ·simp only[hc,decide_true,cond_true]
   refine⟨_,rfl,hR,λi c h1 h2 h3=> ?_⟩
   by_cases e:i=r
   ·subst e;unfold kid at h2;omega
   ·exact g3 i c h1 e h2 h3
  ·simp only[hc,decide_false,cond_false]
   refine Ce (λb:Bool=>(b=true→2*r+2<hi∧at' l (f+(2*r+1))<at' l (f+(2*r+2)))∧(b=false→2*r+2<hi→at' l (f+(2*r+2))≤at' l (f+(2*r+1)))) ?_ ?_
   ·by_cases h2:2*r+1+1<hi
    ·have r1:idx l (f+(2*r+1))=some (el l (f+(2*r+1))):=A5 (by omega) (by omega)
     have r2:idx l (f+(2*r+1)+1)=some (el l (f+(2*r+1)+1)):=A5 (by omega) (by omega)
     obtain⟨v,cv,hv⟩:=CH (hR.good hG) (i:=f+(2*r+1)) (j:=f+(2*r+1)+1) (by omega) (by omega) (by omega) (by omega)
     simp only[h2,decide_true,cond_true,r1,r2,cv,hv,bs]
     rw[show f+(2*r+1)+1=f+(2*r+2) by omega]
     refine⟨_,rfl,λh=>⟨by omega,of_decide_eq_true h⟩,λh _=> ?_⟩
     have:=of_decide_eq_false h
     omega
    ·simp only[h2,decide_false,cond_false]
     exact⟨_,rfl,(λh=>by cases h),(λ_ h=>by omega)⟩
   ·rintro b ⟨hbb,hbf⟩
    have hch:∃c,(bif b then some (2*r+1+1) else some (2*r+1))=some c∧(b=true→c=2*r+2)∧(b=false→c=2*r+1):=by
     cases b
     ·exact⟨2*r+1,rfl,by simp,by simp⟩
     ·exact⟨2*r+2,by simp;omega,by simp,by simp⟩
    obtain⟨c,ec,c1,c2⟩:=hch
    have hkc:kid r c:=by unfold kid;cases b<;>simp at c1 c2<;>omega
    have hchi:c<hi:=by
     cases b
     ·have:=c2 rfl;omega
     ·have:=c1 rfl;have:=hbb rfl;omega
    rw[ec,bs,w64 (show-9223372036854775808≤f+c by unfold kid at hkc;omega) (by omega)]
    have hcr:r<c:=by unfold kid at hkc;omega
    have t1:idx l (f+r)=some (el l (f+r)):=A5 (by omega) (by omega)
    have t2:idx l (f+c)=some (el l (f+c)):=A5 (by omega) (by omega)
    have t3:∀x,idx (l.set (f+r).toNat x) (f+c)=some (el (l.set (f+r).toNat x) (f+c)):=λx=>By (by omega) (by omega)
    obtain⟨v,cv,hv⟩:=CH (hR.good hG) (i:=f+r) (j:=f+c) (by omega) (by omega) (by omega) (by omega)
    have hbest:∀d,kid r d→d<hi→at' l (f+d)≤at' l (f+c):=λd hd hdh=>by
     cases b
     ·have e:=c2 rfl
      subst e
      rcases hd with rfl|rfl
      ·exact Int.le_refl _
      ·exact hbf rfl hdh
     ·have e:=c1 rfl
      subst e
      rcases hd with rfl|rfl
      ·have:=(hbb rfl).2;omega
      ·exact Int.le_refl _
    by_cases hlt:at' l (f+r)<at' l (f+c)
    ·refine⟨.inl (sw l (f+r) (f+c),c),?_,⟨hR.trans (Rg.swap (by omega) (by omega) (by omega) (by omega) (by omega) (by omega)),by dsimp only;omega,by dsimp only;omega,λi d h1 h2 h3 h4=> ?_,λp d h1 h2 h3 h4=> ?_⟩,by dsimp only;omega⟩
     ·simp only[t1,t2,t3,cv,hv,hlt,decide_true,Bool.not_true,cond_false,bs]
      rfl
     ·dsimp only at h2 ⊢
      have hd0:i<d:=by unfold kid at h3;omega
      rw[Bs (by omega) (by omega) (by omega) (by omega) (by omega),Bs (by omega) (by omega) (by omega) (by omega) (by omega)]
      rw[if_neg (show¬f+i=f+c by omega)]
      by_cases e:i=r
      ·subst e
       rw[if_pos rfl]
       by_cases e2:d=c
       ·subst e2;rw[if_pos rfl];omega
       ·rw[if_neg (show¬f+d=f+c by omega),if_neg (show¬f+d=f+i by omega)]
        exact hbest d h3 h4
      ·rw[if_neg (show¬f+i=f+r by omega)]
       have e2:d≠c:=λe2=>by subst e2;unfold kid at h3 hkc;omega
       rw[if_neg (show¬f+d=f+c by omega)]
       by_cases e3:d=r
       ·subst e3
        rw[if_pos rfl]
        exact g4 i c h1 h3 hkc hchi
       ·rw[if_neg (show¬f+d=f+r by omega)]
        exact g3 i d h1 e h3 h4
     ·dsimp only at h2 h3 ⊢
      have e:p=r:=by unfold kid at h2 hkc;omega
      subst e
      have hd0:c<d:=by unfold kid at h3;omega
      rw[Bs (by omega) (by omega) (by omega) (by omega) (by omega),Bs (by omega) (by omega) (by omega) (by omega) (by omega)]
      rw[if_neg (show¬f+d=f+c by omega),if_neg (show¬f+d=f+p by omega),if_neg (show¬f+p=f+c by omega),if_pos rfl]
      exact g3 c d (by omega) (by omega) h3 h4
    ·refine⟨.inr (.inr l),?_,hR,λi d h1 h2 h3=> ?_⟩
     ·simp only[t1,t2,cv,hv,hlt,decide_false,Bool.not_false,cond_true,bs]
     ·by_cases e:i=r
      ·subst e
       have:=hbest d h2 h3
       omega
      ·exact g3 i d h1 e h2 h3
 ·rintro(l|l) h
  ·exact⟨_,rfl,h⟩
  ·exact⟨_,rfl,h⟩
theorem heap_root {l:List α}{f hi:Int}(hH:∀i c,0≤i→kid i c→c<hi→at' l (f+c)≤at' l (f+i)):∀(n:Nat) (k:Int),k.toNat≤n→0≤k→k<hi→at' l (f+k)≤at' l (f+0):=by
 intro n
 induction n with
 |zero=>intro k h1 h2 h3;rw[show k=0 by omega];exact Int.le_refl _
 |succ n ih=>
  intro k h1 h2 h3
  by_cases h:k=0
  ·subst h;exact Int.le_refl _
  ·have hk:kid ((k-1)/2) k:=by unfold kid;omega
   have a:=hH ((k-1)/2) k (by omega) hk h3
   have b:=ih ((k-1)/2) (by omega) (by omega) (by omega)
   omega
theorem heapSort_spec (l0:List α)(hG:Good l0)(a b:Int)(ha:0≤a)(hab:a≤b)(hb:b≤l0.length)(hlen:l0.length≤1000000):
  ∃l',DG.heapSort Srtd.cmp l0 a b=some l'∧Rg a b l0 l'∧Srt l' a b:=by
 unfold DG.heapSort
 rw[w64 (show-9223372036854775808≤b-a by omega) (by omega),w64 (show-9223372036854775808≤b-a-1 by omega) (by omega)]
 have e2: -1≤(b-a-1).tdiv 2∧(b-a-1).tdiv 2≤b-a∧b-a≤2*(b-a-1).tdiv 2+2:=by
  by_cases h:1≤b-a
  ·rw[Int.tdiv_eq_ediv_of_nonneg (by omega)];omega
  ·have:b-a-1= -1:=by omega
   have e:(-1:Int).tdiv 2=0:=by decide
   rw[this,e];omega
 rw[w64 (show-9223372036854775808≤(b-a-1).tdiv 2 by omega) (by omega)]
 generalize (b-a-1).tdiv 2=st at e2
 refine A3 (λs=>Rg a b l0 s.1∧-1≤s.2∧s.2≤b-a∧∀i c,s.2<i→kid i c→c<b-a→at' s.1 (a+c)≤at' s.1 (a+i)) (λs=>(s.2+1).toNat)
  (λr=>Rg a b l0 r∧∀i c,0≤i→kid i c→c<b-a→at' r (a+c)≤at' r (a+i)) ?_ ⟨Rg.refl _ _ _,by dsimp only;omega,by dsimp only;omega,λi c h1 h2 h3=>by unfold kid at h2;dsimp only at h1;omega⟩ ?_
 ·rintro⟨l,i⟩ ⟨hR,g1,g2,g3⟩
  dsimp only at hR g1 g2 g3 ⊢
  have hll:=hR.len
  by_cases hi:0≤i
  ·simp only[hi,decide_true,cond_true]
   obtain⟨l',e,r1,r2⟩:=EN l (hR.good hG) i (b-a) a hi ha (by omega) (by omega) (by omega) g3
   rw[e,bs,w64 (show-9223372036854775808≤i-1 by omega) (by omega)]
   exact⟨_,rfl,⟨hR.trans (r1.widen (by omega) (by omega) ha),by dsimp only;omega,by dsimp only;omega,λp c h1 h2 h3=>r2 p c (by dsimp only at h1;omega) h2 h3⟩,by dsimp only;omega⟩
  ·simp only[hi,decide_false,cond_false]
   exact⟨_,rfl,hR,λp c h1 h2 h3=>g3 p c (by omega) h2 h3⟩
 ·rintro l1 ⟨hR1,hH1⟩
  refine A3 (λs=>Rg a b l0 s.1∧-1≤s.2∧s.2<b-a∧(∀i c,0≤i→kid i c→c≤s.2→at' s.1 (a+c)≤at' s.1 (a+i))∧(∀p q,s.2<p→p<q→q<b-a→at' s.1 (a+p)≤at' s.1 (a+q))∧(∀p q,0≤p→p≤s.2→s.2<q→q<b-a→at' s.1 (a+p)≤at' s.1 (a+q))) (λs=>(s.2+1).toNat)
   (λr=>Rg a b l0 r∧Srt r a b) ?_ ⟨hR1,by dsimp only;omega,by dsimp only;omega,λi c h1 h2 h3=>hH1 i c h1 h2 (by dsimp only at h3;omega),λp q h1 h2 h3=>by dsimp only at h1;omega,λp q h1 h2 h3 h4=>by dsimp only at h3;omega⟩ (λr hr=>⟨r,rfl,hr⟩)
  rintro⟨l,i⟩ ⟨hR,g1,g2,g3,g4,g5⟩
  dsimp only at hR g1 g2 g3 g4 g5 ⊢
  have hll:=hR.len
  by_cases hi:0≤i
  ·rw[w64 (show-9223372036854775808≤a+i by omega) (by omega)]
   have t1:idx l a=some (el l a):=A5 (by omega) (by omega)
   have t2:idx l (a+i)=some (el l (a+i)):=A5 (by omega) (by omega)
   have t3:∀x,idx (l.set a.toNat x) (a+i)=some (el (l.set a.toNat x) (a+i)):=λx=>By (by omega) (by omega)
   simp only[hi,decide_true,cond_true,t1,t2,t3,bs]
   rw[show (l.set a.toNat (el l (a+i))).set (a+i).toNat (el l a)=sw l a (a+i) from rfl]
   have hRs:Rg a (a+(i+1)) l (sw l a (a+i)):=Rg.swap ha (by omega) (by omega) (by omega) (by omega) (by omega)
   have sat:∀k,0≤k→at' (sw l a (a+i)) (a+k)=if k=i then at' l a else if k=0 then at' l (a+i) else at' l (a+k):=λk hk=>by
    rw[Bs (by omega) (by omega) (by omega) (by omega) (by omega)]
    by_cases c1:k=i
    ·subst c1;simp
    ·rw[if_neg (show¬a+k=a+i by omega),if_neg c1]
     by_cases c2:k=0
     ·subst c2;simp
     ·rw[if_neg (show¬a+k=a by omega),if_neg c2]
   have hroot:∀k,0≤k→k≤i→at' l (a+k)≤at' l a:=λk k1 k2=>by
    have:=heap_root (hi:=i+1) (λp c h1 h2 h3=>g3 p c h1 h2 (by omega)) k.toNat k (Nat.le_refl _) k1 (by omega)
    rwa [Int.add_zero] at this
   have hsl:(sw l a (a+i)).length=l.length:=sw_len _ _ _
   obtain⟨l',e,r1,r2⟩:=EN (sw l a (a+i)) (hRs.good (hR.good hG)) 0 i a (Int.le_refl _) ha hi (by omega) (by omega) (λp c h1 h2 h3=>by
    have hc:p<c:=by unfold kid at h2;omega
    rw[sat c (by omega),sat p (by omega),if_neg (by omega),if_neg (by omega),if_neg (by omega),if_neg (by omega)]
    exact g3 p c (by omega) h2 (by omega))
   rw[e,bs,w64 (show-9223372036854775808≤i-1 by omega) (by omega)]
   rw[Int.add_zero] at r1
   have same:∀k,i≤k→at' l' (a+k)=at' (sw l a (a+i)) (a+k):=λk hk=>r1.out (a+k) (by omega) (.inr (by omega))
   have big:∀k,i<k→k<b-a→at' l' (a+k)=at' l (a+k):=λk hk hk2=>by
    rw[same k (by omega),sat k (by omega),if_neg (by omega),if_neg (by omega)]
   have ati:at' l' (a+i)=at' l a:=by rw[same i (Int.le_refl _),sat i hi,if_pos rfl]
   have low:∀Q:Int→Prop,(∀k,0≤k→k≤i→Q (at' l (a+k)))→∀k,0≤k→k<i→Q (at' l' (a+k)):=λQ hQ k k1 k2=>
    r1.all Q (λm m1 m2=>by
     have h1:=sat (m-a) (by omega)
     rw[show a+(m-a)=m by omega] at h1
     rw[h1]
     split
     ·have:=hQ 0 (by omega) hi;rwa [Int.add_zero] at this
     ·split
      ·exact hQ i hi (Int.le_refl _)
      ·have:=hQ (m-a) (by omega) (by omega);rwa [show a+(m-a)=m by omega] at this) (a+k) (by omega) (by omega)
   refine⟨_,rfl,⟨hR.trans ((hRs.widen (Int.le_refl a) (by omega) ha).trans (r1.widen (Int.le_refl a) (by omega) ha)),by dsimp only;omega,by dsimp only;omega,λp c h1 h2 h3=> ?_,λp q h1 h2 h3=> ?_,λp q h1 h2 h3 h4=> ?_⟩,by dsimp only;omega⟩
   ·dsimp only at h3 ⊢;exact r2 p c h1 h2 (by omega)
   ·dsimp only at h1 ⊢
    by_cases c1:p=i
    ·subst c1
     rw[ati,big q h2 h3]
     have:=g5 0 q (Int.le_refl _) hi h2 h3
     rwa [Int.add_zero] at this
    ·rw[big p (by omega) (by omega),big q (by omega) h3]
     exact g4 p q (by omega) h2 h3
   ·dsimp only at h2 h3 ⊢
    by_cases c1:q=i
    ·subst c1
     rw[ati]
     exact low (λx=>x≤at' l a) hroot p h1 (by omega)
    ·rw[big q (by omega) h4]
     exact low (λx=>x≤at' l (a+q)) (λk k1 k2=>g5 k q k1 k2 (by omega) h4) p h1 (by omega)
  ·simp only[hi,decide_false,cond_false]
   refine⟨_,rfl,hR,λp q h1 h2 h3=> ?_⟩
   have:=g4 (p-a) (q-a) (by omega) (by omega) (by omega)
   rwa [show a+(p-a)=p by omega,show a+(q-a)=q by omega] at this
end Go.Sx.Gs

namespace Go.Sx.Gs
variable {α : Type} [Srtd α]
def Out (l:List α)(a0 b0 a b:Int):Prop:=∀i j,a0≤i→i<j→j<b0→¬(a≤i∧j<b)→at' l i≤at' l j
theorem Out.keep {a0 a b b0:Int}{l l':List α}(h:Rg a b l l')(h0:0≤a0)(ha:a0≤a)(hb:b≤b0)(c:Out l a0 b0 a b):Out l' a0 b0 a b:=by
 intro i j h1 h2 h3 h4
 by_cases hi:a≤i∧i<b
 ·rw[h.out j (by omega) (by omega)]
  exact h.all (λx=>x≤at' l j) (λk k1 k2=>c k j (by omega) (by omega) h3 (by omega)) i hi.1 hi.2
 ·rw[h.out i (by omega) (by omega)]
  by_cases hj:a≤j∧j<b
  ·exact h.all (λx=>at' l i≤x) (λk k1 k2=>c i k (by omega) (by omega) (by omega) (by omega)) j hj.1 hj.2
  ·rw[h.out j (by omega) (by omega)];exact c i j h1 h2 h3 h4
theorem pdqsort_spec :∀(n:Nat) (l0:List α) (a0 b0 lim:Int),0≤a0→a0≤b0→b0≤l0.length→l0.length≤1000000→Good l0→0≤lim→lim≤64→
  (0<a0→∀k,a0≤k→k<b0→at' l0 (a0-1)≤at' l0 k)→b0-a0<n→∃l',DG.pdqsortR Srtd.cmp n l0 a0 b0 lim=some l'∧Rg a0 b0 l0 l'∧Srt l' a0 b0:=by
 intro n
 induction n with
 |zero=>intro l0 a0 b0 lim h1 h2 h3 h4 hG h7 h8 h9 h10;omega
 |succ n ih=>
  intro l0 a0 b0 lim h1 h2 h3 h4 hG h7 h8 h9 h10
  unfold DG.pdqsortR
  refine A3 (λs=>Rg a0 b0 l0 s.1∧Out s.1 a0 b0 s.2.1 s.2.2.1∧a0≤s.2.1∧s.2.1≤s.2.2.1∧s.2.2.1≤b0∧0≤s.2.2.2.1∧s.2.2.2.1≤64∧(0<s.2.1→∀k,s.2.1≤k→k<s.2.2.1→at' s.1 (s.2.1-1)≤at' s.1 k))
   (λs=>(s.2.2.1-s.2.1).toNat) (λr=>Rg a0 b0 l0 r∧Srt r a0 b0) ?_ ?_ ?_
  ·rintro⟨l,a,b,lm,bal,par⟩ ⟨hR,hO,g1,g2,g3,g5,g6,g7⟩
   dsimp only at hR hO g1 g2 g3 g5 g6 g7 ⊢
   have hll:=hR.len
   have fin:∀l',Rg a b l l'→Srt l' a b→Rg a0 b0 l0 l'∧Srt l' a0 b0:=λl' hr hs=>
    ⟨hR.trans (hr.widen g1 g3 h1),λi j k1 k2 k3=>by
     by_cases hc:a≤i∧j<b
     ·exact hs i j hc.1 k2 hc.2
     ·exact(hO.keep hr h1 g1 g3) i j k1 k2 k3 hc⟩
   rw[w64 (show-9223372036854775808≤b-a by omega) (by omega)]
   by_cases hs:b-a≤12
   ·obtain⟨l',e,r1,r2⟩:=EU l a b (by omega) g2 (by omega) (by omega) (hR.good hG)
    refine⟨.inr l',?_,fin l' r1 r2⟩
    simp only[hs,decide_true,cond_true,e,bs]
   ·simp only[hs,decide_false,cond_false]
    by_cases hlm:lm=0
    ·have hl0:(lm==0)=true:=by simp[hlm]
     obtain⟨l',e,r1,r2⟩:=heapSort_spec l (hR.good hG) a b (by omega) g2 (by omega) (by omega)
     refine⟨.inr l',?_,fin l' r1 r2⟩
     simp only[hl0,cond_true,e,bs]
    have hl0:(lm==0)=false:=by simp[hlm]
    simp only[hl0,cond_false]
    refine Ce (λq:List α×Int=>Rg a b l q.1∧0≤q.2∧q.2≤64) ?_ ?_
    ·cases bal
     ·obtain⟨l1,e,r1⟩:=EW l a b (by omega) (by omega) (by omega) (by omega)
      refine⟨(l1,lm-1),?_,r1,by dsimp only;omega,by dsimp only;omega⟩
      simp only[Bool.not_false,cond_true,e,bs]
      rw[w64 (by omega) (by omega)]
     ·exact⟨(l,lm),rfl,Rg.refl _ _ _,by dsimp only;omega,by dsimp only;omega⟩
    rintro⟨l1,lm1⟩ ⟨hr1,k2,k3⟩
    dsimp only at hr1 k2 k3 ⊢
    have hl1:=hr1.len
    obtain⟨y,ey,c1,c2,c3⟩:=Fg l1 ((hR.trans (hr1.widen g1 g3 h1)).good hG) a b (by omega) (by omega) (by omega) (by omega)
    rw[ey,bs]
    refine Ce (λq:List α×Int×Int=>Rg a b l q.1∧a≤q.2.1∧q.2.1<b) ?_ ?_
    ·cases (y.2.1==2)
     ·exact⟨_,rfl,by dsimp only;rw[c1];exact hr1,c2,c3⟩
     ·obtain⟨l2,e2,r2⟩:=E7 l1 a b (by omega) (by omega) (by omega) (by omega)
      rw[c1]
      simp only[cond_true,e2,bs]
      rw[w64 (show-9223372036854775808≤b-1 by omega) (by omega),w64 (show-9223372036854775808≤y.1-a by omega) (by omega),w64 (show-9223372036854775808≤b-1-(y.1-a) by omega) (by omega)]
      exact⟨_,rfl,hr1.trans r2,by dsimp only;omega,by dsimp only;omega⟩
    rintro⟨l2,p,hint⟩ ⟨hr2,p1,p2⟩
    dsimp only at hr2 p1 p2 ⊢
    have hl2:=hr2.len
    refine Ce (λq:List α ⊕ List α=>match q with| .inl q=>Rg a b l q| .inr q=>Rg a b l q∧Srt q a b) ?_ ?_
    ·cases ((bal&&par)&&(hint==1))
     ·exact⟨.inl l2,rfl,hr2⟩
     ·obtain⟨y2,e2,d1,d2⟩:=Es l2 ((hR.trans (hr2.widen g1 g3 h1)).good hG) a b (by omega) (by omega) (by omega) (by omega) (λha k m1 m2=>by
       rw[hr2.out (a-1) (by omega) (.inl (by omega))]
       exact hr2.all (λx=>at' l (a-1)≤x) (g7 ha) k m1 m2)
      simp only[cond_true,e2,bs]
      cases hy:y2.1
      ·exact⟨.inl y2.2,rfl,hr2.trans d1⟩
      ·exact⟨.inr y2.2,rfl,hr2.trans d1,d2 hy⟩
    rintro(q|q) hq
    case inr=>
     exact⟨.inr q,rfl,fin q hq.1 hq.2⟩
    dsimp only at hq ⊢
    clear hr2 hl2
    have hr2:Rg a b l q:=hq
    have hl2:=hr2.len
    have hGq:Good q:=(hR.trans (hr2.widen g1 g3 h1)).good hG
    have hO2:=hO.keep hr2 h1 g1 g3
    have g7':0<a→∀k,a≤k→k<b→at' q (a-1)≤at' q k:=λha k m1 m2=>by
     rw[hr2.out (a-1) (by omega) (.inl (by omega))]
     exact hr2.all (λx=>at' l (a-1)≤x) (g7 ha) k m1 m2
    refine Ce (λc:Bool=>c=true→0<a∧at' q p≤at' q (a-1)) ?_ ?_
    ·by_cases ha:0<a
     ·have r1:idx q (a-1)=some (el q (a-1)):=A5 (by omega) (by omega)
      have r2:idx q p=some (el q p):=A5 (by omega) (by omega)
      rw[w64 (show-9223372036854775808≤a-1 by omega) (by omega)]
      obtain⟨v,cv,hv⟩:=CH hGq (i:=a-1) (j:=p) (by omega) (by omega) (by omega) (by omega)
      simp only[ha,decide_true,cond_true,r1,r2,cv,hv,bs]
      exact⟨_,rfl,λh=>⟨by trivial,by simpa using h⟩⟩
     ·simp only[ha,decide_false,cond_false]
      exact⟨_,rfl,λh=>by cases h⟩
    intro c hc
    cases c
    ·
     simp only[cond_false]
     obtain⟨⟨mid,par',l3⟩,e3,P⟩:=partition_spec q a b p (by omega) (by omega) (by omega) hGq p1 p2
     rw[e3,bs]
     obtain⟨hr3,m1,m2,m3,m4⟩:=P
     dsimp only at hr3 m1 m2 m3 m4 ⊢
     have hl3:=hr3.len
     have hO3:=hO2.keep hr3 h1 g1 g3
     have g7'':0<a→∀k,a≤k→k<b→at' l3 (a-1)≤at' l3 k:=λha k n1 n2=>by
      rw[hr3.out (a-1) (by omega) (.inl (by omega))]
      exact hr3.all (λx=>at' q (a-1)≤x) (g7' ha) k n1 n2
     have hR3:Rg a0 b0 l0 l3:=hR.trans ((hr2.trans hr3).widen g1 g3 h1)
     rw[w64 (show-9223372036854775808≤mid-a by omega) (by omega),w64 (show-9223372036854775808≤b-mid by omega) (by omega),w64 (show-9223372036854775808≤mid+1 by omega) (by omega)]
     by_cases hside:mid-a<b-mid
     ·simp only[hside,decide_true,cond_true]
      obtain⟨l4,e4,r4,s4⟩:=ih l3 a mid lm1 (by omega) m1 (by omega) (by omega) (hR3.good hG) k2 k3 (λha k n1 n2=>g7'' ha k n1 (by omega)) (by omega)
      rw[e4,bs]
      have hl4:=r4.len
      have em:∀k,mid≤k→at' l4 k=at' l3 k:=λk hk=>r4.out k (by omega) (.inr hk)
      have lf:∀k,a≤k→k<mid→at' l4 k≤at' l4 mid:=λk n1 n2=>by
       rw[em mid (Int.le_refl _)];exact r4.all (λx=>x≤at' l3 mid) m3 k n1 n2
      refine⟨.inl _,rfl,⟨hR3.trans (r4.widen g1 (by omega) h1),?_,by dsimp only;omega,by dsimp only;omega,g3,k2,k3,?_⟩,by dsimp only;omega⟩
      ·have hO4:=hO3.keep (r4.widen (Int.le_refl a) (by omega) (by omega)) h1 g1 g3
       intro i j n1 n2 n3 n4
       dsimp only at n4 ⊢
       by_cases hin:a≤i∧j<b
       ·by_cases hj:j<mid
        ·exact s4 i j hin.1 n2 hj
        ·have hi:i≤mid:=by omega
         have e1:at' l4 i≤at' l4 mid:=by
          by_cases e:i=mid
          ·rw[e];exact Int.le_refl _
          ·exact lf i hin.1 (by omega)
         have e2:at' l4 mid≤at' l4 j:=by
          by_cases e:j=mid
          ·rw[e];exact Int.le_refl _
          ·rw[em mid (Int.le_refl _),em j (by omega)];exact m4 j (by omega) hin.2
         omega
       ·exact hO4 i j n1 n2 n3 hin
      ·intro _ k n1 n2
       dsimp only at n1 n2 ⊢
       rw[show mid+1-1=mid by omega,em mid (Int.le_refl _),em k (by omega)]
       exact m4 k (by omega) n2
     ·simp only[hside,decide_false,cond_false]
      obtain⟨l4,e4,r4,s4⟩:=ih l3 (mid+1) b lm1 (by omega) (by omega) (by omega) (by omega) (hR3.good hG) k2 k3 (λ_ k n1 n2=>by rw[show mid+1-1=mid by omega];exact m4 k (by omega) n2) (by omega)
      rw[e4,bs]
      have hl4:=r4.len
      have em:∀k,0≤k→k≤mid→at' l4 k=at' l3 k:=λk h0 hk=>r4.out k h0 (.inl (by omega))
      have rt:∀k,mid<k→k<b→at' l4 mid≤at' l4 k:=λk n1 n2=>by
       rw[em mid (by omega) (Int.le_refl _)];exact r4.all (λx=>at' l3 mid≤x) (λk q1 q2=>m4 k (by omega) q2) k (by omega) n2
      refine⟨.inl _,rfl,⟨hR3.trans (r4.widen (by omega) g3 h1),?_,g1,m1,by dsimp only;omega,k2,k3,?_⟩,by dsimp only;omega⟩
      ·have hO4:=hO3.keep (r4.widen (by omega) (Int.le_refl b) (by omega)) h1 g1 g3
       intro i j n1 n2 n3 n4
       dsimp only at n4 ⊢
       by_cases hin:a≤i∧j<b
       ·by_cases hi:mid<i
        ·exact s4 i j (by omega) n2 hin.2
        ·have hj:mid≤j:=by omega
         have e1:at' l4 i≤at' l4 mid:=by
          by_cases e:i=mid
          ·rw[e];exact Int.le_refl _
          ·rw[em i (by omega) (by omega),em mid (by omega) (Int.le_refl _)];exact m3 i hin.1 (by omega)
         have e2:at' l4 mid≤at' l4 j:=by
          by_cases e:j=mid
          ·rw[e];exact Int.le_refl _
          ·exact rt j (by omega) hin.2
         omega
       ·exact hO4 i j n1 n2 n3 hin
      ·intro ha k n1 n2
       dsimp only at ha n1 n2 ⊢
       rw[em (a-1) (by omega) (by omega),em k (by omega) (by omega)]
       exact g7'' ha k n1 (by omega)
    ·
     simp only[cond_true]
     obtain⟨hc1,hc2⟩:=hc rfl
     obtain⟨⟨mid,l3⟩,e3,hr3,m1,m2,m3,m4⟩:=EP q a b p (by omega) (by omega) (by omega) hGq p1 p2
     rw[e3,bs]
     dsimp only at hr3 m1 m2 m3 m4 ⊢
     have hl3:=hr3.len
     have hO3:=hO2.keep hr3 h1 g1 g3
     have lw:∀k,a≤k→k<b→at' q p≤at' l3 k:=λk n1 n2=>
      hr3.all (λx=>at' q p≤x) (λk q1 q2=>Int.le_trans hc2 (g7' hc1 k q1 q2)) k n1 n2
     refine⟨.inl _,rfl,⟨hR.trans ((hr2.trans hr3).widen g1 g3 h1),?_,by dsimp only;omega,m2,g3,k2,k3,?_⟩,by dsimp only;omega⟩
     ·intro i j n1 n2 n3 n4
      dsimp only at n4 ⊢
      by_cases hin:a≤i∧j<b
      ·have:=m3 i hin.1 (by omega)
       have:=lw j (by omega) hin.2
       omega
      ·exact hO3 i j n1 n2 n3 hin
     ·intro _ k n1 n2
      dsimp only at n1 n2 ⊢
      have:=m3 (mid-1) (by omega) (by omega)
      have:=m4 k n1 n2
      omega
  ·exact⟨Rg.refl _ _ _,λi j n1 n2 n3 n4=>by dsimp only at n4;omega,Int.le_refl _,h2,Int.le_refl _,h7,h8,h9⟩
  ·rintro r hr
   exact⟨r,rfl,hr⟩
theorem sort_spec (l:List α)(hG:Good l)(hlen:l.length≤1000000):∃l',DG.Sort Srtd.cmp l=some l'∧List.Perm l' l∧Srt l' 0 l'.length:=by
 unfold DG.Sort
 rw[wu64 (by omega) (by omega)]
 unfold D.J
 rw[if_pos (by omega),bs]
 have hb:Lib.bitLen l.length≤64:=by
  by_cases h:1≤l.length
  ·obtain⟨_,k2⟩:=Fa l.length h (by omega)
   apply Classical.byContradiction
   intro hc
   have:2^22≤2^Lib.bitLen l.length:=Nat.pow_le_pow_right (by omega) (by omega)
   omega
  ·have:l.length=0:=by omega
   rw[this];decide
 have hf:=Ef
 obtain⟨l',e,r,s⟩:=pdqsort_spec Bq l 0 (l.length:Int) ((Lib.bitLen l.length:Nat):Int) (Int.le_refl _) (by omega) (Int.le_refl _) (by omega) hG (by omega) (by omega) (λh=>by omega) (by omega)
 unfold DG.pdqsort
 rw[Int.toNat_natCast,e]
 refine⟨l',rfl,r.perm,?_⟩
 rw[r.len];exact s
end Go.Sx.Gs

namespace Go.Sx
theorem list2 {l:LI}(h:l.length=2):∃a b,l=[a,b]:=by
 match l,h with
 |[a,b],_=>exact⟨a,b,rfl⟩
theorem row_inj {x y:LI}(hx:rowGood x)(hy:rowGood y)(h:rowKey x=rowKey y):x=y:=by
 obtain⟨h1,h2,h3,h4,h5⟩:=hx
 obtain⟨k1,k2,k3,k4,k5⟩:=hy
 obtain⟨a,b,rfl⟩:=list2 h1
 obtain⟨c,d,rfl⟩:=list2 k1
 unfold rowKey at h
 simp only[List.getD_cons_zero,List.getD_cons_succ] at*
 have:a=c:=by omega
 subst this
 have:b=d:=by omega
 subst this
 rfl
end Go.Sx

set_option maxRecDepth 100000
namespace Go.Proofs.YtmkcbhidbdggiaaDoor
open Go Go.Sx
open Go.Proofs.Tryd Go.Proofs.YtmkcbhidbdggiaaDoor.Tryd IntKind
variable {W w : World} {G : GH} {H : List Itm}
theorem AI :prog.follows .mixedOrders=true:=by kernel_rfl
theorem Pl2 :BT prog 2:=isAgg2
theorem T31 :SlT prog 31 2 1 8 (iv 0):=⟨underlying31,Tryd.t2,by kernel_rfl,by kernel_rfl,by kernel_rfl,by kernel_rfl⟩
theorem Pl5 :BT prog 5:=isAgg5
theorem Pl172 :BT prog 172:=isAgg172
theorem Pl3 :BT prog 3:=isAgg3
theorem T65 :SlT prog 65 3 1 8 (iv 0):=⟨underlying65,Tryd.t3,by kernel_rfl,by kernel_rfl,by kernel_rfl,by kernel_rfl⟩
theorem Wk.U0 {v0:Value}{x0:LI}{x1:Int}(m:Mem W G w (H))(h0:R1 G v0 x0){y:Int}(hd:D.U0 x0 x1=some y):
  Calls prog 148 #[v0,(iv x1)] w (Res W G H (λ_ Ho v=>Ho=[]∧v=(iv y))):=by
 refine As (args:=[v0,(iv x1)]) (N:=19) [.tmp 4] func148 Z Z (lb Z) Z λa f=> ?_
 unfold D.U0 at hd
 refine Af ?_
 refine Ac f Z λa f=>Ab (Ah (Af ?_))
 refine Aa f Z λa f=>Be underlying31 f Z Z h0 λa f=>Aa f Z λa f=>Ab ?_
 have⟨aa,ab,hd⟩:=bind_some hd
 refine AL (λa w=>∃q_19':Unit,aa= .inl q_19'∧∃(ac:GH),GLe G ac∧Fr a 19 []∧Mem W ac w (H)) ?_ ?_
 ·refine An ?_
  refine AJ (λad a w=>∃ae:Int,ae=ad∧∃(af:GH),GLe G af∧Fr a 19 [(0,v0),(1,(iv x1)),(7,(iv (x0.length:Int))),(8,(iv ae))]∧Mem W af w (H)) ab ⟨_,Z,_,gr,f.k Z,m⟩ ?_
  clear ab f m
  rintro ad ag ah ai a w ⟨ae,rfl,af,aj,f,m⟩
  have h0:=rd1 aj h0
  refine Af ?_
  refine Ai f Z Z AM λa f=>Ab (Ah ?_)
  rcases Ae ah with⟨ak,ah⟩|⟨ak,ah⟩
  ·refine Am f Z ak ?_
   refine Ao ?_
   refine Ah (An (Af ?_))
   refine Aa f Z λa f=>Ac f Z λa f=>Ay ?_
   refine Aa f Z λa f=>Aa f Z λa f=>Aa f Z λa f=> ?_
   have⟨al,am,ah⟩:=bind_some ah
   refine BG T31 f Z Z Z h0 am λan ao a ap aq f=> ?_
   subst aq
   refine AZ m Pl2 f Z Z ap λa f=>Ai f Z Z BE λa f=>Ab ?_
   rcases Ae ah with⟨ar,ah⟩|⟨ar,ah⟩
   ·refine Am f Z ar ?_
    refine Af ?_
    refine Aa f Z λa f=>Ac f Z λa f=>Ab ?_
    refine Ar ?_
    obtain rfl:=sj ah
    obtain rfl:=ai _ rfl
    obtain rfl:=sj hd
    exact⟨[(iv ae)],f.g Z,f.d,_,[],aj,m,Z,Z⟩
   ·refine Aj f Z ar ?_
    refine Ao ?_
    refine Ap ?_
    refine Ai f Z Z Ax λa f=>Aa f Z λa f=>Ab ?_
    obtain rfl:=sj ah
    exact⟨_,Z,_,Z,_,aj,f.k Z,m⟩
  ·refine Aj f Z ak ?_
   refine AF Z ?_
   obtain rfl:=sj ah
   obtain rfl:=ai _ rfl
   exact⟨_,Z,_,aj,f.weak trivial,m⟩
 ·rintro a w ⟨_,rfl,ac,au,f,m⟩
  refine Af ?_
  refine Ac f Z λa f=>Ab ?_
  refine Ar ?_
  obtain rfl:=sj hd
  exact⟨[(iv (-1))],f.g Z,f.d,_,[],au,m,Z,Z⟩
theorem Wk.S {v0:Value}{x0:LI}{x1:Int}(m:Mem W G w (H))(h0:R1 G v0 x0){y:Bool}(hd:D.S x0 x1=some y):
  Calls prog 119 #[v0,(iv x1)] w (Res W G H (λ_ Ho v=>Ho=[]∧v=(.bool y))):=by
 refine As (args:=[v0,(iv x1)]) (N:=9) [.tmp 4] func119 Z Z (lb Z) Z λa f=> ?_
 unfold D.S at hd
 refine Af ?_
 refine Ac f Z λa f=>Ay ?_
 refine Aa f Z λa f=>Aa f Z λa f=> ?_
 have⟨aa,ab,hd⟩:=bind_some hd
 refine Ba f Z call148 (Wk.U0 m h0 ab) λac w ad m a f=>Ai f Z Z Cm λa f=>Ac f Z λa f=>Ab ?_
 refine Ar ?_
 obtain rfl:=sj hd
 exact⟨[(.bool (decide ((0:Int)≤aa)))],f.g Z,f.d,_,[],ad,m,Z,Z⟩
theorem Wk.V0 {x0:Int}(hW:Bw W)(m:Mem W G w (H)){y:Int}(hd:D.V0 x0=some y):
  Calls prog 149 #[(.int .u32 x0)] w (Res W G H (λ_ Ho v=>Ho=[]∧v=(iv y))):=by
 refine As (args:=[(.int .u32 x0)]) (N:=14) [.tmp 2] func149 Z Z (lb Z) Z λa f=> ?_
 unfold D.V0 at hd
 refine Af ?_
 refine Ac f Z λa f=>Ab (Ah (Af ?_))
 refine Aa f Z λa f=>Ai f Z Z BE λa f=>Ab ?_
 rcases Ae hd with⟨aa,hd⟩|⟨aa,hd⟩
 ·refine Am f Z aa ?_
  refine Af ?_
  refine Ac f Z λa f=>Ab ?_
  refine Ar ?_
  obtain rfl:=sj hd
  exact⟨[(iv 32)],f.g Z,f.d,_,[],gr,m,Z,Z⟩
 ·refine Aj f Z aa ?_
  refine Ao ?_
  refine Af ?_
  refine Aa f Z λa f=>Aa f Z λa f=>l_o f (r_neg (f.e Z)) λa f=>Ai f Z Z CP λa f=>Ai f Z Z Dr λa f=>l_o f (r_shr (f.e Z) (f.e Z) (by decide)) λa f=> ?_
  have⟨ab,ac,hd⟩:=bind_some hd
  refine l_tab hW m underlying149 sizeOf5 f Z Z ac λad a ae f=>AZ m Pl5 f Z Z ae λa f=>l_o f (CX (f.e Z) ⟨_,underlying5⟩ underlying3) λa f=>Ac f Z λa f=>Ab ?_
  refine Ar ?_
  obtain rfl:=sj hd
  exact⟨[(iv (i64.wrap ab))],f.g Z,f.d,_,[],gr,m,Z,Z⟩
theorem Wk.B0 {x0:Int}(m:Mem W G w (H)){y:Int}(hd:D.B0 x0=some y):
  Calls prog 128 #[(.int .u32 x0)] w (Res W G H (λ_ Ho v=>Ho=[]∧v=(iv y))):=by
 refine As (args:=[(.int .u32 x0)]) (N:=21) [.tmp 2] func128 Z Z (lb Z) Z λa f=> ?_
 unfold D.B0 at hd
 refine Af ?_
 refine Ac f Z λa f=>Ab (Ah ?_)
 refine Bf 19 AI (by kernel_rfl) m ?_
 refine Ag 0 19 Z f Z λa f=>q_p 1 19 Z f (λ_=>r_shr (f.e Z) (f.e Z) (by decide)) λa f=> ?_
 have⟨aa,ab,hd⟩:=bind_some hd
 refine q_p 2 19 Z f (λ_=>E2 (f.e Z) (f.e Z) underlying9 ab) λa f=>Ag 3 19 Z f Z λa f=>q_p 4 19 Z f (λ_=>r_shr (f.e Z) (f.e Z) (by decide)) λa f=>q_p 5 19 Z f (λ_=>Az (f.e Z) (f.e Z) CP) λa f=> ?_
 have⟨ac,ad,hd⟩:=bind_some hd
 refine q_p 6 19 Z f (λ_=>E2 (f.e Z) (f.e Z) underlying9 ad) λa f=>q_p 7 19 Z f (λ_=>Az (f.e Z) (f.e Z) Ax) λa f=>Ag 8 19 Z f Z λa f=>q_p 9 19 Z f (λ_=>r_shr (f.e Z) (f.e Z) (by decide)) λa f=>q_p 10 19 Z f (λ_=>Az (f.e Z) (f.e Z) CP) λa f=> ?_
 have⟨ae,af,hd⟩:=bind_some hd
 refine q_p 11 19 Z f (λ_=>E2 (f.e Z) (f.e Z) underlying9 af) λa f=>q_p 12 19 Z f (λ_=>Az (f.e Z) (f.e Z) Ax) λa f=>Ag 13 19 Z f Z λa f=>q_p 14 19 Z f (λ_=>Az (f.e Z) (f.e Z) CP) λa f=> ?_
 have⟨ag,ah,hd⟩:=bind_some hd
 refine q_p 15 19 Z f (λ_=>E2 (f.e Z) (f.e Z) underlying9 ah) λa f=>q_p 16 19 Z f (λ_=>Az (f.e Z) (f.e Z) Ax) λa f=>q_p 17 19 Z f (λ_=>CX (f.e Z) ⟨_,underlying5⟩ underlying3) λa f=>q_p 18 19 Z f (λ_=>CD (f.e Z)) λa f=>A4 λai w aj m=>Ab ?_
 refine Ar ?_
 obtain rfl:=sj hd
 exact⟨[(iv (i64.wrap (IntKind.u8.wrap ((IntKind.u8.wrap ((IntKind.u8.wrap (aa+ac))+ae))+ag))))],f.g Z,f.d,_,[],aj,m,Z,Z⟩
theorem Wk.b0 {x0:Int}(m:Mem W G w (H)){y:Int}(hd:D.b0 x0=some y):
  Calls prog 190 #[(iv x0)] w (Res W G H (λ_ Ho v=>Ho=[]∧v=(.int .u64 y))):=by
 refine As (args:=[(iv x0)]) (N:=7) [.tmp 2] func190 Z Z (lb Z) Z λa f=> ?_
 unfold D.b0 at hd
 refine Af ?_
 refine Ac f Z λa f=>Ay ?_
 refine Aa f Z λa f=>l_o f (CX (f.e Z) ⟨_,underlying3⟩ underlying111) λa f=> ?_
 have⟨aa,ab,hd⟩:=bind_some hd
 refine AK f Z call161 (Wk.J m ab) λac ad ae w af m ag a f=> ?_
 obtain⟨rfl,rfl⟩:=ag
 obtain⟨ah,hd⟩:=C9 hd
 refine l_o f (r_shl (f.e Z) (f.e Z) ah) λa f=>Ac f Z λa f=>Ab ?_
 refine Ar ?_
 obtain rfl:=sj hd
 exact⟨[(.int .u64 (ishl .u64 1 aa))],f.g Z,f.d,_,[],af,m,Z,Z⟩
theorem Wk.g0 {b0:Nat}{aa:Int}(m:Mem W G w (ib b0 172 [(.int .u64 aa)]::H)){y:Int×Int}(hd:D.g0 aa=some y):
  Calls prog 191 #[(pb b0)] w (Res W G H (λ_ Ho v=>Ho=[ib b0 172 [(.int .u64 y.2)]]∧v=(.int .u64 y.1))):=by
 refine As (args:=[(pb b0)]) (N:=33) [.tmp 2] func191 Z Z (lb Z) Z λa f=> ?_
 unfold D.g0 at hd
 refine Af ?_
 refine Ac f Z λa f=>Ab (Ah ?_)
 refine Bf 9 AI (by kernel_rfl) m ?_
 refine Ag 0 9 Z f Z λa f=>q_p 1 9 Z f (λ_=>AX (f.e Z)) λa f=>CM 2 9 0 Pl172 Z Z Z f Z λa f=>Ag 3 9 Z f Z λa f=>q_p 4 9 Z f (λ_=>AX (f.e Z)) λa f=>CM 5 9 0 Pl172 Z Z Z f Z λa f=>q_p 6 9 Z f (λ_=>r_shl (f.e Z) (f.e Z) (by decide)) λa f=>q_p 7 9 Z f (λ_=>Az (f.e Z) (f.e Z) b_xor) λa f=>q_p 8 9 Z f (λ_=>AX (f.e Z)) λa f=>A4 λab w ac m=>A6 0 0 (ds:=[(.int .u64 (Bd .u64 aa (ishl .u64 aa 13)))]) m sizeOf172 f Z Z Z (Bb Z Bh) Z (lb Z) Z λw m=>Ab (Ah ?_)
 refine Bf 9 AI (by kernel_rfl) m ?_
 refine Ag 0 9 Z f Z λa f=>q_p 1 9 Z f (λ_=>AX (f.e Z)) λa f=>CM 2 9 0 Pl172 Z Z Z f Z λa f=>Ag 3 9 Z f Z λa f=>q_p 4 9 Z f (λ_=>AX (f.e Z)) λa f=>CM 5 9 0 Pl172 Z Z Z f Z λa f=>q_p 6 9 Z f (λ_=>r_shr (f.e Z) (f.e Z) (by decide)) λa f=>q_p 7 9 Z f (λ_=>Az (f.e Z) (f.e Z) b_xor) λa f=>q_p 8 9 Z f (λ_=>AX (f.e Z)) λa f=>A4 λad w ae m=>A6 0 0 (ds:=[(.int .u64 (Bd .u64 (Bd .u64 aa (ishl .u64 aa 13)) (Bz .u64 (Bd .u64 aa (ishl .u64 aa 13)) 7)))]) m sizeOf172 f Z Z Z (Bb Z Bh) Z (lb Z) Z λw m=>Ab (Ah ?_)
 refine Bf 9 AI (by kernel_rfl) m ?_
 refine Ag 0 9 Z f Z λa f=>q_p 1 9 Z f (λ_=>AX (f.e Z)) λa f=>CM 2 9 0 Pl172 Z Z Z f Z λa f=>Ag 3 9 Z f Z λa f=>q_p 4 9 Z f (λ_=>AX (f.e Z)) λa f=>CM 5 9 0 Pl172 Z Z Z f Z λa f=>q_p 6 9 Z f (λ_=>r_shl (f.e Z) (f.e Z) (by decide)) λa f=>q_p 7 9 Z f (λ_=>Az (f.e Z) (f.e Z) b_xor) λa f=>q_p 8 9 Z f (λ_=>AX (f.e Z)) λa f=>A4 λaf w ag m=>A6 0 0 (ds:=[(.int .u64 (Bd .u64 (Bd .u64 (Bd .u64 aa (ishl .u64 aa 13)) (Bz .u64 (Bd .u64 aa (ishl .u64 aa 13)) 7)) (ishl .u64 (Bd .u64 (Bd .u64 aa (ishl .u64 aa 13)) (Bz .u64 (Bd .u64 aa (ishl .u64 aa 13)) 7)) 17)))]) m sizeOf172 f Z Z Z (Bb Z Bh) Z (lb Z) Z λw m=>Ay ?_
 refine Aa f Z λa f=>l_o f (AX (f.e Z)) λa f=>AR 0 0 m Pl172 f Z Z Z Z λa f=>Ac f Z λa f=>Ab ?_
 refine Ar ?_
 obtain rfl:=sj hd
 exact⟨[(.int .u64 (Bd .u64 (Bd .u64 (Bd .u64 aa (ishl .u64 aa 13)) (Bz .u64 (Bd .u64 aa (ishl .u64 aa 13)) 7)) (ishl .u64 (Bd .u64 (Bd .u64 aa (ishl .u64 aa 13)) (Bz .u64 (Bd .u64 aa (ishl .u64 aa 13)) 7)) 17)))],f.g Z,f.d,_,[ib b0 172 [(.int .u64 (Bd .u64 (Bd .u64 (Bd .u64 aa (ishl .u64 aa 13)) (Bz .u64 (Bd .u64 aa (ishl .u64 aa 13)) 7)) (ishl .u64 (Bd .u64 (Bd .u64 aa (ishl .u64 aa 13)) (Bz .u64 (Bd .u64 aa (ishl .u64 aa 13)) 7)) 17)))]],(gt ac (gt ae ag)),m,Z,Z⟩
theorem Wk.Y {x0:Int}(m:Mem W G w (H)){y:Bool}(hd:D.Y x0=some y):
  Calls prog 211 #[(iv x0)] w (Res W G H (λ_ Ho v=>Ho=[]∧v=(.bool y))):=by
 refine As (args:=[(iv x0)]) (N:=6) [.tmp 2] func211 Z Z (lb Z) Z λa f=> ?_
 unfold D.Y at hd
 refine Af ?_
 refine Ac f Z λa f=>Ay ?_
 refine Aa f Z λa f=>Aa f Z λa f=>Ai f Z Z C4 λa f=>Ac f Z λa f=>Ab ?_
 refine Ar ?_
 obtain rfl:=sj hd
 exact⟨[(.bool (x0 !=x0))],f.g Z,f.d,_,[],gr,m,Z,Z⟩
theorem Wk.c0 {x0 x1:Int}(m:Mem W G w (H)){y:Int}(hd:D.c0 x0 x1=some y):
  Calls prog 202 #[(iv x0),(iv x1)] w (Res W G H (λ_ Ho v=>Ho=[]∧v=(iv y))):=by
 refine As (args:=[(iv x0),(iv x1)]) (N:=20) [.tmp 4] func202 Z Z (lb Z) Z λa f=> ?_
 unfold D.c0 at hd
 refine Af ?_
 refine Ac f Z λa f=>Ay ?_
 refine Aa f Z λa f=> ?_
 have⟨aa,ab,hd⟩:=bind_some hd
 refine Ba f Z call211 (Wk.Y m ab) λac w ad m a f=>Ac f Z λa f=>Ay ?_
 refine Aa f Z λa f=> ?_
 have⟨ae,af,hd⟩:=bind_some hd
 refine Ba f Z call211 (Wk.Y m af) λag w ah m a f=>Ac f Z λa f=>Ab (Ah (Af ?_))
 refine Aa f Z λa f=>Ab ?_
 rcases Ae hd with⟨ai,hd⟩|⟨ai,hd⟩
 ·refine Am f Z ai ?_
  refine Ah (Af ?_)
  refine Aa f Z λa f=>Ab ?_
  rcases Ae hd with⟨aj,hd⟩|⟨aj,hd⟩
  ·refine Am f Z aj ?_
   refine Af ?_
   refine Ac f Z λa f=>Ab ?_
   refine Ar ?_
   obtain rfl:=sj hd
   exact⟨[(iv 0)],f.g Z,f.d,_,[],(gt ad ah),m,Z,Z⟩
  ·refine Aj f Z aj ?_
   refine Ao ?_
   refine Af ?_
   refine Ac f Z λa f=>Ab ?_
   refine Ar ?_
   obtain rfl:=sj hd
   exact⟨[(iv (-1))],f.g Z,f.d,_,[],(gt ad ah),m,Z,Z⟩
 ·refine Aj f Z ai ?_
  refine Ao ?_
  refine Ah (Af ?_)
  refine Aa f Z λa f=>Ab ?_
  rcases Ae hd with⟨ak,hd⟩|⟨ak,hd⟩
  ·refine Am f Z ak ?_
   refine Af ?_
   refine Ac f Z λa f=>Ab ?_
   refine Ar ?_
   obtain rfl:=sj hd
   exact⟨[(iv 1)],f.g Z,f.d,_,[],(gt ad ah),m,Z,Z⟩
  ·refine Aj f Z ak ?_
   refine Ao ?_
   refine Ah (Af ?_)
   refine Aa f Z λa f=>Aa f Z λa f=>Ai f Z Z AM λa f=>Ab ?_
   rcases Ae hd with⟨al,hd⟩|⟨al,hd⟩
   ·refine Am f Z al ?_
    refine Af ?_
    refine Ac f Z λa f=>Ab ?_
    refine Ar ?_
    obtain rfl:=sj hd
    exact⟨[(iv (-1))],f.g Z,f.d,_,[],(gt ad ah),m,Z,Z⟩
   ·refine Aj f Z al ?_
    refine Ao ?_
    refine Ah (Af ?_)
    refine Aa f Z λa f=>Aa f Z λa f=>Ai f Z Z CF λa f=>Ab ?_
    rcases Ae hd with⟨am,hd⟩|⟨am,hd⟩
    ·refine Am f Z am ?_
     refine Af ?_
     refine Ac f Z λa f=>Ab ?_
     refine Ar ?_
     obtain rfl:=sj hd
     exact⟨[(iv 1)],f.g Z,f.d,_,[],(gt ad ah),m,Z,Z⟩
    ·refine Aj f Z am ?_
     refine Ao ?_
     refine Af ?_
     refine Ac f Z λa f=>Ab ?_
     refine Ar ?_
     obtain rfl:=sj hd
     exact⟨[(iv 0)],f.g Z,f.d,_,[],(gt ad ah),m,Z,Z⟩
theorem Wk.z0 {v0 v1:Value}{x0 x1:LI}(m:Mem W G w (H))(h0:R1 G v0 x0)(h1:R1 G v1 x1){y:Int}(hd:D.z0 x0 x1=some y):
  Calls prog 179 #[v0,v1] w (Res W G H (λ_ Ho v=>Ho=[]∧v=(iv y))):=by
 refine As (args:=[v0,v1]) (N:=36) [.tmp 4] func179 Z Z (lb Z) Z λa f=> ?_
 unfold D.z0 at hd
 refine Af ?_
 refine Ac f Z λa f=>Ab (Ah (Af ?_))
 refine Aa f Z λa f=>Be underlying65 f Z Z h0 λa f=>Aa f Z λa f=>Ab ?_
 have⟨aa,ab,hd⟩:=bind_some hd
 refine AL (λa w=>∃q_47':Unit,aa= .inl q_47'∧∃(ac:GH),GLe G ac∧Fr a 36 [(0,v0),(1,v1)]∧Mem W ac w (H)) ?_ ?_
 ·refine An ?_
  refine AJ (λad a w=>∃ae:Int,ae=ad∧∃(af:GH),GLe G af∧Fr a 36 [(0,v0),(1,v1),(9,v0),(10,(iv (x0.length:Int))),(11,(iv ae))]∧Mem W af w (H)) ab ⟨_,Z,_,gr,f.k Z,m⟩ ?_
  clear ab f m
  rintro ad ag ah ai a w ⟨ae,rfl,af,aj,f,m⟩
  have h0:=rd1 aj h0
  have h1:=rd1 aj h1
  refine Af ?_
  refine Ai f Z Z AM λa f=>Ab (Ah ?_)
  rcases Ae ah with⟨ak,ah⟩|⟨ak,ah⟩
  ·refine Am f Z ak ?_
   refine Ao ?_
   refine Ah (An (Af ?_))
   refine Aa f Z λa f=> ?_
   have⟨al,am,ah⟩:=bind_some ah
   refine BG T65 f Z Z Z h0 am λan ao a ap aq f=> ?_
   subst aq
   refine AZ m Pl3 f Z Z ap λa f=>Ac f Z λa f=>Ac f Z λa f=>Ab (Ah (Af ?_))
   refine Aa f Z λa f=>Aa f Z λa f=>Be underlying65 f Z Z h1 λa f=>Ai f Z Z Cm λa f=>Ab ?_
   rcases Ae ah with⟨ar,ah⟩|⟨ar,ah⟩
   ·refine Am f Z ar ?_
    refine Af ?_
    refine Ac f Z λa f=>Ab ?_
    refine Ar ?_
    obtain rfl:=sj ah
    obtain rfl:=ai _ rfl
    obtain rfl:=sj hd
    exact⟨[(iv 1)],f.g Z,f.d,_,[],aj,m,Z,Z⟩
   ·refine Aj f Z ar ?_
    refine Ao ?_
    refine Af ?_
    refine Aa f Z λa f=>Aa f Z λa f=> ?_
    have⟨au,av,ah⟩:=bind_some ah
    refine BG T65 f Z Z Z h1 av λaw ax a ay az f=> ?_
    subst az
    refine AZ m Pl3 f Z Z ay λa f=>Ac f Z λa f=>Ay ?_
    refine Aa f Z λa f=>Aa f Z λa f=> ?_
    have⟨aA,aB,ah⟩:=bind_some ah
    refine Ba f Z call202 (Wk.c0 m aB) λaC w aD m a f=>Ac f Z λa f=>Ay ?_
    refine Aa f Z λa f=>Ai f Z Z C4 λa f=>Ab ?_
    rcases Ae ah with⟨aE,ah⟩|⟨aE,ah⟩
    ·refine Am f Z aE ?_
     refine Af ?_
     refine Aa f Z λa f=>Ac f Z λa f=>Ab ?_
     refine Ar ?_
     obtain rfl:=sj ah
     obtain rfl:=ai _ rfl
     obtain rfl:=sj hd
     exact⟨[(iv aA)],f.g Z,f.d,_,[],(gt aj aD),m,Z,Z⟩
    ·refine Aj f Z aE ?_
     refine Ao ?_
     refine Ap ?_
     refine Ai f Z Z Ax λa f=>Aa f Z λa f=>Ab ?_
     obtain rfl:=sj ah
     exact⟨_,Z,_,Z,_,(gt aj aD),f.k Z,m⟩
  ·refine Aj f Z ak ?_
   refine AF Z ?_
   obtain rfl:=sj ah
   obtain rfl:=ai _ rfl
   exact⟨_,Z,_,aj,f.k Z,m⟩
 ·rintro a w ⟨_,rfl,ac,aF,f,m⟩
  have h0:=rd1 aF h0
  have h1:=rd1 aF h1
  refine Ah (Af ?_)
  refine Aa f Z λa f=>Be underlying65 f Z Z h0 λa f=>Aa f Z λa f=>Be underlying65 f Z Z h1 λa f=>Ai f Z Z AM λa f=>Ab ?_
  rcases Ae hd with⟨aG,hd⟩|⟨aG,hd⟩
  ·refine Am f Z aG ?_
   refine Af ?_
   refine Ac f Z λa f=>Ab ?_
   refine Ar ?_
   obtain rfl:=sj hd
   exact⟨[(iv (-1))],f.g Z,f.d,_,[],aF,m,Z,Z⟩
  ·refine Aj f Z aG ?_
   refine Ao ?_
   refine Af ?_
   refine Ac f Z λa f=>Ab ?_
   refine Ar ?_
   obtain rfl:=sj hd
   exact⟨[(iv 0)],f.g Z,f.d,_,[],aF,m,Z,Z⟩
end Go.Proofs.YtmkcbhidbdggiaaDoor

set_option maxRecDepth 100000
namespace Go.Proofs.YtmkcbhidbdggiaaDoor
open Go Go.Sx
open Go.Proofs.Tryd Go.Proofs.YtmkcbhidbdggiaaDoor.Tryd IntKind
variable {W w : World} {G : GH} {H : List Itm}
theorem T22 :SlT prog 22 5 1 1 (.int .u8 0):=⟨underlying22,Tryd.t5,by kernel_rfl,by kernel_rfl,by kernel_rfl,by kernel_rfl⟩
theorem Pl26 :BT prog 26:=isAgg26
theorem Pl22 :BT prog 22:=isAgg22
theorem T27 :SlT prog 27 31 1 24 sn:=⟨underlying27,Tryd.t31,by kernel_rfl,by kernel_rfl,by kernel_rfl,by kernel_rfl⟩
theorem Cx :BT prog 27:=isAgg27
theorem Bj :Agg prog 29 1:=⟨isAgg29,sizeOf29⟩
theorem CN :BT prog 31:=isAgg31
theorem Wk.X0 {v0:Value}{x0:LI}(m:Mem W G w (H))(h0:RSl (RI .u8) G v0 x0){y:Bool}(hd:D.X0 x0=some y):
  Calls prog 7 #[v0] w (Res W G H (λ_ Ho v=>Ho=[]∧v=(.bool y))):=by
 refine As (args:=[v0]) (N:=6) [.tmp 2] func7 Z Z (lb Z) Z λa f=> ?_
 unfold D.X0 at hd
 refine Af ?_
 refine Ac f Z λa f=>Ay ?_
 refine Aa f Z λa f=>Be underlying22 f Z Z h0 λa f=>Ai f Z Z CF λa f=>Ac f Z λa f=>Ab ?_
 refine Ar ?_
 obtain rfl:=sj hd
 exact⟨[(.bool (decide ((4096:Int)<(x0.length:Int))))],f.g Z,f.d,_,[],gr,m,Z,Z⟩
theorem Wk.w0 {v0:Value}{x0:LI}{x1:Int}(m:Mem W G w (H))(h0:RSl (RI .u8) G v0 x0){y:(LI)×Int×Int}(hd:D.w0 x0 x1=some y):
  Calls prog 8 #[v0,(.int .u64 x1)] w (Res W G H (λG' Ho v=>∃r0:Value,∃c1:Nat,Ho=[ib c1 55 [r0,(iv y.2.1),(.int .u64 y.2.2)]]∧v=(pb c1)∧RSl (RI .u8) G' r0 y.1)):=by
 refine As (args:=[v0,(.int .u64 x1)]) (N:=38) [.tmp 4] func8 Z Z (lb Z) Z λa f=> ?_
 unfold D.w0 at hd
 refine Af ?_
 refine Ac f Z λa f=>Ay ?_
 refine Aa f Z λa f=>Aa f Z λa f=>Ai f Z Z Dr λa f=>Aa f Z λa f=>Be underlying22 f Z Z h0 λa f=>l_o f (CX (f.e Z) ⟨_,underlying3⟩ underlying26) λa f=>Ai f Z Z Ax λa f=> ?_
 have aa:∀w,(Instr.build 55 #[(0,v0),(2,(.int .u64 (IntKind.u64.wrap ((IntKind.u64.wrap (x1*7919))+(IntKind.u64.wrap (x0.length:Int))))))]).run prog w= .ok (.agg #[v0,(iv 0),(.int .u64 (IntKind.u64.wrap ((IntKind.u64.wrap (x1*7919))+(IntKind.u64.wrap (x0.length:Int)))))]) w:=by intro w;simp[Instr.build,Instr.fill,h0.cells,Ea,DJ,Di,Dt,C7,DA]
 refine Ek f Z Z aa λa f=>B3 (cs:=[v0,(iv 0),(.int .u64 (IntKind.u64.wrap ((IntKind.u64.wrap (x1*7919))+(IntKind.u64.wrap (x0.length:Int)))))]) m f Z Z Z λab w a m f=>Ac f Z λa f=>Ab (Ah (Af ?_))
 refine Ac f Z λa f=>Ab ?_
 have⟨ac,ad,hd⟩:=bind_some hd
 refine AL (λa w=>∃ae:Int,ae=ac∧∃(af:GH),GLe G af∧Fr a 38 [(5,(pb ab))]∧Mem W af w (ib ab 55 [v0,(iv 0),(.int .u64 ae)]::H)) ?_ ?_
 ·refine An ?_
  refine AJ (λag a w=>∃ah:Int,∃ai:Int,(ah,ai)=ag∧∃(aj:GH),GLe G aj∧Fr a 38 [(0,v0),(5,(pb ab)),(6,(iv ah))]∧Mem W aj w (ib ab 55 [v0,(iv 0),(.int .u64 ai)]::H)) ad ⟨_,_,Z,_,gr,f.k Z,m⟩ ?_
  clear ad f m
  rintro ag ak al am a w ⟨ah,ai,rfl,aj,an,f,m⟩
  have h0:=rd1 an h0
  refine Ah (Af ?_)
  refine Aa f Z λa f=>Aa f Z λa f=>Be underlying22 f Z Z h0 λa f=>Ai f Z Z AM λa f=>Ab ?_
  rcases Ae al with⟨ao,al⟩|⟨ao,al⟩
  ·refine Am f Z ao ?_
   refine Ao ?_
   refine Ah (An ?_)
   refine Bf 15 AI (by kernel_rfl) m ?_
   refine Ag 0 15 Z f Z λa f=>Ag 1 15 Z f Z λa f=>q_p 2 15 Z f (λ_=>AX (f.e Z)) λa f=>DC 3 15 underlying55 Z sizeOf26 Z f Z λa f=>CM 4 15 0 Pl26 Z Z Z f Z λa f=>q_p 5 15 Z f (λ_=>Az (f.e Z) (f.e Z) Dr) λa f=>Ag 6 15 Z f Z λa f=>Ag 7 15 Z f Z λa f=> ?_
   have⟨ap,aq,al⟩:=bind_some al
   refine B8 8 15 T22 h0 aq Z f Z Z λar au a av aw f=> ?_
   subst aw
   refine Ca 9 15 Pl5 av Z f Z λa f=>q_p 10 15 Z f (λ_=>CX (f.e Z) ⟨_,underlying5⟩ underlying26) λa f=>q_p 11 15 Z f (λ_=>Az (f.e Z) (f.e Z) Ax) λa f=>q_p 12 15 Z f (λ_=>Az (f.e Z) (f.e Z) Ax) λa f=>q_p 13 15 Z f (λ_=>AX (f.e Z)) λa f=>DC 14 15 underlying55 Z sizeOf26 Z f Z λa f=>A4 λax w ay m=>A6 0 2 (ds:=[(.int .u64 (IntKind.u64.wrap ((IntKind.u64.wrap ((IntKind.u64.wrap (ai*1099511628211))+(IntKind.u64.wrap ap)))+3)))]) m sizeOf26 f Z Z Z (Bb Z Bh) Z (lb Z) Z λw m=>Ab (Ap ?_)
   refine Aa f Z λa f=>Ai f Z Z Ax λa f=>Ac f Z λa f=>Ab ?_
   obtain rfl:=sj al
   exact⟨_,Z,_,_,Z,_,(gt an ay),f.k Z,m⟩
  ·refine Aj f Z ao ?_
   refine AF Z ?_
   obtain rfl:=sj al
   obtain rfl:=am _ rfl
   exact⟨_,Z,_,an,f.k Z,m⟩
 ·rintro a w ⟨ae,rfl,af,az,f,m⟩
  have h0:=rd1 az h0
  refine Af ?_
  refine Aa f Z λa f=>Ac f Z λa f=>Ab ?_
  refine Ar ?_
  obtain rfl:=sj hd
  exact⟨[(pb ab)],f.g Z,f.d,_,[ib ab 55 [v0,(iv 0),(.int .u64 ae)]],az,m,_,_,Z,Z,h0⟩
theorem Wk.x {aa:Value}{b0:Nat}{ab:LI}{ac ad x1:Int}(m:Mem W G w (ib b0 55 [aa,(iv ac),(.int .u64 ad)]::H))(ae:RSl (RI .u8) G aa ab){y:Int×(LI)×Int×Int}(hd:D.x ab ac ad x1=some y):
  Calls prog 45 #[(pb b0),(iv x1)] w (Res W G H (λG' Ho v=>∃r0:Value,Ho=[ib b0 55 [r0,(iv y.2.2.1),(.int .u64 y.2.2.2)]]∧v=(iv y.1)∧RSl (RI .u8) G' r0 y.2.1)):=by
 refine As (args:=[(pb b0),(iv x1)]) (N:=56) [.tmp 4] func45 Z Z (lb Z) Z λa f=> ?_
 unfold D.x at hd
 refine Af ?_
 refine Ac f Z λa f=>Ay ?_
 refine Aa f Z λa f=>Aa f Z λa f=>l_o f (AX (f.e Z)) λa f=>B9 underlying55 Z sizeOf26 f Z λa f=>AR 0 2 m Pl26 f Z Z Z Z λa f=>Ai f Z Z Dr λa f=>Ai f Z Z Ax λa f=>l_o f (AX (f.e Z)) λa f=>B9 underlying55 Z sizeOf26 f Z λa f=>A6 0 2 (ds:=[(.int .u64 (IntKind.u64.wrap ((IntKind.u64.wrap (ad*6364136223846793005))+1442695040888963407)))]) m sizeOf26 f Z Z Z (Bb Z Bh) Z (lb Z) Z λw m=>Ay ?_
 refine Aa f Z λa f=>l_o f (AX (f.e Z)) λa f=>B9 underlying55 Z sizeOf26 f Z λa f=>AR 0 2 m Pl26 f Z Z Z Z λa f=>l_o f (r_shr (f.e Z) (f.e Z) (by decide)) λa f=>Ai f Z Z CP λa f=>l_o f (CX (f.e Z) ⟨_,underlying26⟩ underlying2) λa f=>Ac f Z λa f=>Ab (Ah (Ah ?_))
 refine Bf 10 AI (by kernel_rfl) m ?_
 refine Ag 0 10 Z f Z λa f=>q_p 1 10 Z f (λ_=>AX (f.e Z)) λa f=>DC 2 10 underlying55 Z sizeOf3 Z f Z λa f=>CM 3 10 0 Pl3 Z Z Z f Z λa f=>Ag 4 10 Z f Z λa f=>q_p 5 10 Z f (λ_=>AX (f.e Z)) λa f=>DC 6 10 underlying55 Z sizeOf22 Z f Z λa f=>CM 7 10 0 Pl22 Z Z Z f Z λa f=>q_len (i:=8) 10 underlying22 ae Z (by kernel_rfl) Z f Z Z Z λa f=>q_p 9 10 Z f (λ_=>Az (f.e Z) (f.e Z) AM) λa f=>A4 λaf w ag m=> ?_
 have ae:=rd1 ag ae
 refine Ab ?_
 rcases Ae hd with⟨ah,hd⟩|⟨ah,hd⟩
 ·refine Am f Z ah ?_
  refine Ah ?_
  refine Bf 14 AI (by kernel_rfl) m ?_
  refine Ag 0 14 Z f Z λa f=>Ag 1 14 Z f Z λa f=>q_p 2 14 Z f (λ_=>AX (f.e Z)) λa f=>DC 3 14 underlying55 Z sizeOf22 Z f Z λa f=>CM 4 14 0 Pl22 Z Z Z f Z λa f=>Ag 5 14 Z f Z λa f=>q_p 6 14 Z f (λ_=>AX (f.e Z)) λa f=>DC 7 14 underlying55 Z sizeOf3 Z f Z λa f=>CM 8 14 0 Pl3 Z Z Z f Z λa f=> ?_
  have⟨ai,aj,hd⟩:=bind_some hd
  refine B8 9 14 T22 ae aj Z f Z Z λak al a am an f=> ?_
  subst an
  refine Ca 10 14 Pl5 am Z f Z λa f=>q_p 11 14 Z f (λ_=>CX (f.e Z) ⟨_,underlying5⟩ underlying2) λa f=>q_p 12 14 Z f (λ_=>Az (f.e Z) (f.e Z) Ax) λa f=>q_p 13 14 Z f (λ_=>CD (f.e Z)) λa f=>A4 λao w ap m=> ?_
  have ae:=rd1 ap ae
  refine Ab (Ap ?_)
  refine Aa f Z λa f=>Aa f Z λa f=>l_o f (AX (f.e Z)) λa f=>B9 underlying55 Z sizeOf3 f Z λa f=>AR 0 1 m Pl3 f Z Z Z Z λa f=>Ai f Z Z Ax λa f=>l_o f (AX (f.e Z)) λa f=>B9 underlying55 Z sizeOf3 f Z λa f=>A6 0 1 (ds:=[(iv (i64.wrap (ac+1)))]) m sizeOf3 f Z Z Z (Bb Z Bh) Z (lb Z) Z λw m=>Ay ?_
  refine Aa f Z λa f=>Aa f Z λa f=> ?_
  obtain⟨aq,hd⟩:=C9 hd
  refine Ai f Z Z (b_rem aq) λa f=>Ac f Z λa f=>Ab ?_
  refine Ar ?_
  obtain rfl:=sj hd
  exact⟨[(iv (Int.tmod (i64.wrap ((i64.wrap (iand .u64 (Bz .u64 (IntKind.u64.wrap ((IntKind.u64.wrap (ad*6364136223846793005))+1442695040888963407)) 33) 16777215))+(i64.wrap ai))) x1))],f.g Z,f.d,_,[ib b0 55 [aa,(iv (i64.wrap (ac+1))),(.int .u64 (IntKind.u64.wrap ((IntKind.u64.wrap (ad*6364136223846793005))+1442695040888963407)))]],(gt ag ap),m,_,Z,Z,ae⟩
 ·refine Aj f Z ah ?_
  refine Ao ?_
  refine Af ?_
  refine Aa f Z λa f=>Aa f Z λa f=> ?_
  obtain⟨ar,hd⟩:=C9 hd
  refine Ai f Z Z (b_rem ar) λa f=>Ac f Z λa f=>Ab ?_
  refine Ar ?_
  obtain rfl:=sj hd
  exact⟨[(iv (Int.tmod (i64.wrap (iand .u64 (Bz .u64 (IntKind.u64.wrap ((IntKind.u64.wrap (ad*6364136223846793005))+1442695040888963407)) 33) 16777215)) x1))],f.g Z,f.d,_,[ib b0 55 [aa,(iv ac),(.int .u64 (IntKind.u64.wrap ((IntKind.u64.wrap (ad*6364136223846793005))+1442695040888963407)))]],ag,m,_,Z,Z,ae⟩
theorem Wk.f {x0 x1 x2:Int}(m:Mem W G w (H)){y:Bool}(hd:D.f x0 x1 x2=some y):
  Calls prog 105 #[(iv x0),(iv x1),(iv x2)] w (Res W G H (λ_ Ho v=>Ho=[]∧v=(.bool y))):=by
 refine As (args:=[(iv x0),(iv x1),(iv x2)]) (N:=15) [.tmp 6] func105 Z Z (lb Z) Z λa f=> ?_
 unfold D.f at hd
 refine Af ?_
 refine Ac f Z λa f=>Ay ?_
 refine Aa f Z λa f=>Aa f Z λa f=>Ai f Z Z Cm λa f=>Aa f Z λa f=> ?_
 refine Bu 4 (λa w=>∃aa,GLe G aa∧Mem W aa w (H)∧Fr a 15 [(0,(iv x0)),(1,(iv x1)),(2,(iv x2)),(7,(iv x0)),(8,(iv x1)),(9,(.bool (decide (x1≤x0)))),(10,(.bool (decide (x1≤x0)))),(14,(.bool ((decide (x1≤x0))&&(decide (x0≤x2)))))]) ?_ ?_
 ·rcases Bool.eq_false_or_eq_true (decide (x1≤x0)) with ab|ab
  ·refine Au f ab ?_
   refine Aa f Z λa f=>Au f ab ?_
   refine Aa f Z λa f=>Au f ab ?_
   refine Ai f Z Z CO λa f=>l_o f (AD (f.e Z) ab (f.e Z)) λa f=> ?_
   exact⟨_,gr,m,f.weak ⟨Z,Z,Z,Z,Z,Z,Z,by rw[ab];rfl,trivial⟩⟩
  ·refine Aw f ab λa f=> ?_
   refine Aw f ab λa f=>Aw f ab λa f=>l_o f (AC (f.e Z) ab (f.e Z)) λa f=> ?_
   exact⟨_,gr,m,f.weak ⟨Z,Z,Z,Z,Z,Z,Z,by rw[ab];rfl,trivial⟩⟩
 ·rintro a w ⟨aa,ac,m,f⟩
  refine Ac f Z λa f=>Ab ?_
  refine Ar ?_
  obtain rfl:=sj hd
  exact⟨[(.bool ((decide (x1≤x0))&&(decide (x0≤x2))))],f.g Z,f.d,_,[],ac,m,Z,Z⟩
theorem Wk.C0 {x0:Int}(m:Mem W G w (H)){y:(LL)}(hd:D.C0 x0=some y):
  Calls prog 112 #[(iv x0)] w (Res W G H (λG' Ho v=>∃r0:Value,∃i0:Itm,Ho=[i0]∧v=(.agg #[r0])∧Ow R1 31 G' i0 r0 y)):=by
 refine As (args:=[(iv x0)]) (N:=18) [.cell 2 29] func112 Z Z (lb Z) Z λa f=> ?_
 unfold D.C0 at hd
 refine Af ?_
 refine BX (cs:=[sn]) zeroValue29 m f Z Z λaa w a m f=>Ay ?_
 have ab:∀w,(Instr.build 29 #[]).run prog w= .ok (.agg #[sn]) w:=by intro w;simp[Instr.build,Instr.fill,Ea,DJ,Di,Dt,C7,DA]
 refine Ek f Z Z ab λa f=>BX (cs:=[sn]) zeroValue29 m f Z Z λac w a m f=>A6 0 0 (ds:=[sn]) m sizeOf29 f Z Z Z (Bb Z Bh) Z (lb Z) Z λw m=>Ab (Ah (Af ?_))
 refine Ac f Z λa f=>Ab ?_
 obtain⟨ad,m,ae⟩:=Ow.nil R1 31 m
 have⟨af,ag,hd⟩:=bind_some hd
 refine AL (λa w=>∃ah:LL,ah=af∧∃(ai:GH) (aj:Value) (ak:Itm),GLe G ai∧Fr a 18 [(2,(pb aa)),(3,(pb ac))]∧Mem W ai w (ib aa 29 [sn]::ib ac 29 [aj]::ak::H)∧Ow R1 31 ai ak aj ah) ?_ ?_
 ·refine An ?_
  have m:=m.fr 1
  have m:=m.fr 2
  refine AJ (λal a w=>∃am:Int,∃an:LL,(am,an)=al∧∃(ao:GH) (ap:Value) (aq:Itm),GLe G ao∧Fr a 18 [(0,(iv x0)),(2,(pb aa)),(3,(pb ac)),(4,(iv am))]∧Mem W ao w (ib aa 29 [sn]::ib ac 29 [ap]::aq::H)∧Ow R1 31 ao aq ap an) ag ⟨_,_,Z,_,sn,ad,gr,f.k Z,m,ae⟩ ?_
  clear ag f m
  rintro al ar au av a w ⟨am,an,rfl,ao,ap,aq,aw,f,m,ax⟩
  refine Ah (Af ?_)
  refine Aa f Z λa f=>Aa f Z λa f=>Ai f Z Z AM λa f=>Ab ?_
  rcases Ae au with⟨ay,au⟩|⟨ay,au⟩
  ·refine Am f Z ay ?_
   refine Ao ?_
   refine Ah (An (Ap ?_))
   refine B9 underlying29 Z sizeOf27 f Z λa f=>AR 1 0 m Cx f Z Z Z Z λa f=>BC (R:=R0) (xs:=([]:LI)) (RI.one _) m T31 f Z Z Z (by decide) (All2.nil _) λaz aA w a m aB f=> ?_
   obtain⟨aC,aD,m,aE⟩:=Ow.stamp (RI.mono _) aB m
   have ax:=Ow.mono (RSl.mono (RI.mono _)) aD ax
   refine BC (R:=R1) (xs:=([([]:LI)]:LL)) (RSl.one _) m T27 f Z Z Z (by decide) (All2.cons aE (All2.nil _)) λaF aG w a m aH f=> ?_
   have⟨aI,aJ,au⟩:=bind_some au
   refine BJ (RSl.one _) 3 m ax Z T27 Z (by decide) f Z Z Z (Ow.src (j:=0) aH m Z) aJ λaK aL w a m aM f=>B9 underlying29 Z sizeOf27 f Z λa f=>A6 2 0 (ds:=[aL]) m sizeOf27 f Z Z (Ow.cells 3 m aM Z) (Bb (Ow.one1 3 m aM Z) Bh) Z (lb Z) Z λw m=>Ab (Ap ?_)
   refine Aa f Z λa f=>Ai f Z Z Ax λa f=>Ac f Z λa f=>Ab ?_
   have m:=m.fr 3
   have m:=m.fr 3
   have m:Mem W aC w (ib aa 29 [sn]::ib ac 29 [aL]::aK::aF::H):=m.fr 3
   have m:=m.eraseAt 3
   obtain rfl:=sj au
   exact⟨_,Z,_,_,Z,_,aL,aK,(gt aw aD),f.k Z,m,aM⟩
  ·refine Aj f Z ay ?_
   refine AF Z ?_
   obtain rfl:=sj au
   obtain rfl:=av _ rfl
   exact⟨_,Z,_,ap,aq,aw,f.k Z,m,ax⟩
 ·rintro a w ⟨ah,rfl,ai,aj,ak,aN,f,m,aO⟩
  refine Af ?_
  refine A7 1 0 (ds:=[aj]) m Bj f Z Z Z Z Z λa f=>A6 0 0 (ds:=[aj]) m sizeOf29 f Z Z Z (Bb (Ow.one1 2 m aO Z) Bh) Z (lb Z) Z λw m=>Ab ?_
  refine Ar ?_
  have aP:=Em (P:=prog) 0 m Bj f (s:=2) rfl rfl rfl
  have m:=m.fr 2
  have m:=m.eraseAt 2
  have m:=m.eraseAt 1
  obtain rfl:=sj hd
  exact⟨[(.agg #[aj])],⟨aP,trivial⟩,f.d,_,[ak],aN,m,_,_,Z,Z,aO⟩
theorem Wk.M {v0:Value}{x0:LI}{x1:Int}(m:Mem W G w (H))(h0:R1 G v0 x0){y:Bool}(hd:D.M x0 x1=some y):
  Calls prog 113 #[v0,(iv x1)] w (Res W G H (λ_ Ho v=>Ho=[]∧v=(.bool y))):=by
 refine As (args:=[v0,(iv x1)]) (N:=40) [.tmp 4] func113 Z Z (lb Z) Z λa f=> ?_
 unfold D.M at hd
 refine Af ?_
 refine Ac f Z λa f=>Ab (Ah (Af ?_))
 refine Aa f Z λa f=>Be underlying31 f Z Z h0 λa f=>Aa f Z λa f=>Ai f Z Z CF λa f=>Ab ?_
 rcases Ae hd with⟨aa,hd⟩|⟨aa,hd⟩
 ·refine Am f Z aa ?_
  refine Af ?_
  refine Ac f Z λa f=>Ab ?_
  refine Ar ?_
  obtain rfl:=sj hd
  exact⟨[(.bool false)],f.g Z,f.d,_,[],gr,m,Z,Z⟩
 ·refine Aj f Z aa ?_
  refine Ao ?_
  refine Ah (Af ?_)
  refine Ac f Z λa f=>Ab ?_
  have⟨ab,ac,hd⟩:=bind_some hd
  refine AL (λa w=>∃q_150':Unit,ab= .inl q_150'∧∃(ad:GH),GLe G ad∧Fr a 40 []∧Mem W ad w (H)) ?_ ?_
  ·refine An ?_
   refine AJ (λae a w=>∃af:Int,af=ae∧∃(ag:GH),GLe G ag∧Fr a 40 [(0,v0),(1,(iv x1)),(5,(iv af))]∧Mem W ag w (H)) ac ⟨_,Z,_,gr,f.k Z,m⟩ ?_
   clear ac f m
   rintro ae ah ai aj a w ⟨af,rfl,ag,ak,f,m⟩
   have h0:=rd1 ak h0
   refine Ah (Af ?_)
   refine Aa f Z λa f=>Aa f Z λa f=>Be underlying31 f Z Z h0 λa f=>Ai f Z Z AM λa f=>Ab ?_
   rcases Ae ai with⟨al,ai⟩|⟨al,ai⟩
   ·refine Am f Z al ?_
    refine Ao ?_
    refine Ah (An (Ah ?_))
    refine Bf 24 AI (by kernel_rfl) m ?_
    refine Ag 0 24 Z f Z λa f=>Ag 1 24 Z f Z λa f=> ?_
    have⟨am,an,ai⟩:=bind_some ai
    refine B8 2 24 T31 h0 an Z f Z Z λao ap a aq ar f=> ?_
    subst ar
    refine Ca 3 24 Pl2 aq Z f Z λa f=>Ag 4 24 Z f Z λa f=>q_p 5 24 Z f (λ_=>Az (f.e Z) (f.e Z) AT) λa f=> ?_
    have⟨au,av,ai⟩:=bind_some ai
    refine BP (i:=6) 24 Z (by kernel_rfl) Z f Z Z Z call105 (λ_ _ w aw m=>Wk.f m av) λa f=>q_p 7 24 Z f (λ_=>Bv (f.e Z)) λa f=>Ag 8 24 Z f Z λa f=> ?_
    have⟨ax,ay,ai⟩:=bind_some ai
    refine BN (fuel':=0) (listed':= #[true,true,true,true,true,true,true,true,true,true,true,true,true,true,true,true,true,true,true,true,true,true,true,true]) (λa=>Fr a 40 [(0,v0),(1,(iv x1)),(5,(iv af)),(13,(.bool (decide (af<(x0.length:Int))))),(16,v0),(17,(iv af)),(18,ao),(19,(iv am)),(20,(iv x1)),(21,(iv (i64.wrap (x1-1)))),(22,(.bool au)),(23,(.bool (!au))),(24,(.bool (!au))),(39,(.bool ax))]) ?_ ?_
    ·intro a f
     refine A4 λaz w aA m=>Ab ?_
     rcases Ae ai with⟨aB,ai⟩|⟨aB,ai⟩
     ·refine Am f Z aB ?_
      refine Af ?_
      refine Ac f Z λa f=>Ab ?_
      refine Ar ?_
      obtain rfl:=sj ai
      obtain rfl:=aj _ rfl
      obtain rfl:=sj hd
      exact⟨[(.bool false)],f.g Z,f.d,_,[],(gt ak aA),m,Z,Z⟩
     ·refine Aj f Z aB ?_
      refine Ao ?_
      refine Ap ?_
      refine Aa f Z λa f=>Ai f Z Z Ax λa f=>Ac f Z λa f=>Ab ?_
      obtain rfl:=sj ai
      exact⟨_,Z,_,Z,_,(gt ak aA),f.k Z,m⟩
    ·intro aC
     rcases Ae ay with⟨aD,ay⟩|⟨aD,ay⟩
     ·refine Ak 9 24 Z f aD λa f=> ?_
      refine Ak 10 24 Z f aD λa f=>Ak 11 24 Z f aD λa f=>AW 12 24 Z f λa f=>AW 13 24 Z f λa f=>AW 14 24 Z f λa f=>AW 15 24 Z f λa f=>AW 16 24 Z f λa f=>AW 17 24 Z f λa f=>AW 18 24 Z f λa f=>AW 19 24 Z f λa f=>AW 20 24 Z f λa f=>AW 21 24 Z f λa f=>Ak 22 24 Z f aD λa f=>q_p 23 24 Z f (λ_=>AD (f.e Z) aD (f.e Z)) λa f=> ?_
      obtain rfl:=sj ay
      exact aC _ (f.k Z)
     ·refine Ag (hw:=wo f aD) 9 24 Z f Z λa f=> ?_
      refine q_p (hw:=wo f aD) 10 24 Z f (λ_=>Az (f.e Z) (f.e Z) CF) λa f=>Ag (hw:=wo f aD) 11 24 Z f Z λa f=> ?_
      have⟨aE,aF,ay⟩:=bind_some ay
      refine BN (fuel':=1) (listed':= #[true,true,true,true,true,true,true,true,true,true,true,true,true,true,true,true,true,true,true,true,true,true,true,false]) (λa=>Fr a 40 [(0,v0),(1,(iv x1)),(5,(iv af)),(13,(.bool (decide (af<(x0.length:Int))))),(16,v0),(17,(iv af)),(18,ao),(19,(iv am)),(20,(iv x1)),(21,(iv (i64.wrap (x1-1)))),(22,(.bool au)),(23,(.bool (!au))),(24,(.bool (!au))),(25,(iv af)),(26,(.bool (decide ((0:Int)<af)))),(27,(.bool (decide ((0:Int)<af)))),(38,(.bool aE))]) ?_ ?_
      ·intro a f
       refine q_p 23 24 Z f (λ_=>AC (f.e Z) aD (f.e Z)) λa f=> ?_
       obtain rfl:=sj ay
       exact aC _ (f.k Z)
      ·intro aG
       rcases Ae aF with⟨aH,aF⟩|⟨aH,aF⟩
       ·refine Ag (hw:=wo f aH) 12 24 Z f Z λa f=> ?_
        refine Ag (hw:=wo f aH) 13 24 Z f Z λa f=> ?_
        have⟨aI,aJ,aF⟩:=bind_some aF
        refine B8 (hw:=wo f aH) 14 24 T31 h0 aJ Z f Z Z λaK aL a aM aN f=> ?_
        subst aN
        refine Ca (hw:=wo f aH) 15 24 Pl2 aM Z f Z λa f=>Ag (hw:=wo f aH) 16 24 Z f Z λa f=>Ag (hw:=wo f aH) 17 24 Z f Z λa f=>q_p (hw:=wo f aH) 18 24 Z f (λ_=>Az (f.e Z) (f.e Z) AT) λa f=> ?_
        have⟨aO,aP,aF⟩:=bind_some aF
        refine B8 (hw:=wo f aH) 19 24 T31 h0 aP Z f Z Z λaQ aR a aS aT f=> ?_
        subst aT
        refine Ca (hw:=wo f aH) 20 24 Pl2 aS Z f Z λa f=>q_p (hw:=wo f aH) 21 24 Z f (λ_=>Az (f.e Z) (f.e Z) CO) λa f=>q_p (hw:=wo f aD) 22 24 Z f (λ_=>AD (f.e Z) aH (f.e Z)) λa f=> ?_
        obtain rfl:=sj aF
        exact aG _ (f.k Z)
       ·refine Ak 12 24 Z f aH λa f=> ?_
        refine Ak 13 24 Z f aH λa f=>Ak 14 24 Z f aH λa f=>Ak 15 24 Z f aH λa f=>Ak 16 24 Z f aH λa f=>Ak 17 24 Z f aH λa f=>Ak 18 24 Z f aH λa f=>Ak 19 24 Z f aH λa f=>Ak 20 24 Z f aH λa f=>Ak 21 24 Z f aH λa f=>q_p (hw:=wo f aD) 22 24 Z f (λ_=>AC (f.e Z) aH (f.e Z)) λa f=> ?_
        obtain rfl:=sj aF
        exact aG _ (f.k Z)
   ·refine Aj f Z al ?_
    refine AF Z ?_
    obtain rfl:=sj ai
    obtain rfl:=aj _ rfl
    exact⟨_,Z,_,ak,f.weak trivial,m⟩
  ·rintro a w ⟨_,rfl,ad,aU,f,m⟩
   refine Af ?_
   refine Ac f Z λa f=>Ab ?_
   refine Ar ?_
   obtain rfl:=sj hd
   exact⟨[(.bool true)],f.g Z,f.d,_,[],aU,m,Z,Z⟩
theorem Wk.h {v0:Value}{x0:LI}(m:Mem W G w (H))(h0:R1 G v0 x0){y:(LI)}(hd:D.h x0=some y):
  Calls prog 117 #[v0] w (Res W G H (λG' Ho v=>∃r0:Value,∃i0:Itm,Ho=[i0]∧r0=v∧Ow R0 2 G' i0 r0 y)):=by
 refine As (args:=[v0]) (N:=6) [.tmp 2] func117 Z Z (lb Z) Z λa f=> ?_
 unfold D.h at hd
 refine Af ?_
 refine Ac f Z λa f=>Ay ?_
 refine BC (R:=R0) (xs:=([]:LI)) (RI.one _) m T31 f Z Z Z (by decide) (All2.nil _) λaa ab w a m ac f=>Aa f Z λa f=> ?_
 have⟨ad,ae,hd⟩:=bind_some hd
 refine BJ (RI.one _) 0 m ac Z T31 Z (by decide) f Z Z Z (h0.src m) ae λaf ag w a m ah f=>Ac f Z λa f=>Ab ?_
 refine Ar ?_
 obtain rfl:=sj hd
 exact⟨[ag],f.g Z,f.d,_,[af],gr,m,_,_,Z,Z,ah⟩
theorem Wk.R {v0:Value}{x0:LI}{x1:Int}(m:Mem W G w (H))(h0:R1 G v0 x0){y:(LI)}(hd:D.R x0 x1=some y):
  Calls prog 90 #[v0,(iv x1)] w (Res W G H (λG' Ho v=>∃r0:Value,Ho=[]∧r0=v∧R1 G' r0 y)):=by
 refine As (args:=[v0,(iv x1)]) (N:=46) [.tmp 4] func90 Z Z (lb Z) Z λa f=> ?_
 unfold D.R at hd
 refine Af ?_
 refine Ac f Z λa f=>Ay ?_
 refine Ac f Z λa f=>Ab (Ah ?_)
 have⟨aa,ab,hd⟩:=bind_some hd
 refine AL (λa w=>∃ac:Int,ac=aa∧∃(ad:GH),GLe G ad∧Fr a 46 [(0,v0),(1,(iv x1)),(5,(iv ac))]∧Mem W ad w (H)) ?_ ?_
 ·refine An ?_
  refine AJ (λae a w=>∃af:Int,af=ae∧∃(ag:GH),GLe G ag∧Fr a 46 [(0,v0),(1,(iv x1)),(5,(iv af))]∧Mem W ag w (H)) ab ⟨_,Z,_,gr,f.k Z,m⟩ ?_
  clear ab f m
  rintro ae ah ai aj a w ⟨af,rfl,ag,ak,f,m⟩
  have h0:=rd1 ak h0
  refine Ah (Af ?_)
  refine Aa f Z λa f=>Aa f Z λa f=>Be underlying31 f Z Z h0 λa f=>Ai f Z Z AM λa f=>Aa f Z λa f=> ?_
  have⟨al,am,ai⟩:=bind_some ai
  refine Bu 7 (λa w=>∃an,GLe ag an∧Mem W an w (H)∧Fr a 46 [(0,v0),(1,(iv x1)),(5,(iv af)),(7,(iv af)),(8,v0),(9,(iv (x0.length:Int))),(10,(.bool (decide (af<(x0.length:Int))))),(11,(.bool (decide (af<(x0.length:Int))))),(18,(.bool al))]) ?_ ?_
  ·rcases Ae am with⟨ao,am⟩|⟨ao,am⟩
   ·refine Au f ao ?_
    refine Aa f Z λa f=>Au f ao ?_
    refine Aa f Z λa f=>Au f ao ?_
    have⟨ap,aq,am⟩:=bind_some am
    refine BG T31 f Z Z Z h0 aq λar au a av aw f=> ?_
    subst aw
    refine Au f ao ?_
    refine AZ m Pl2 f Z Z av λa f=>Au f ao ?_
    refine Aa f Z λa f=>Au f ao ?_
    refine Ai f Z Z AM λa f=>l_o f (AD (f.e Z) ao (f.e Z)) λa f=> ?_
    obtain rfl:=sj am
    exact⟨_,gr,m,f.k Z⟩
   ·refine Aw f ao λa f=> ?_
    refine Aw f ao λa f=>Aw f ao λa f=>Aw f ao λa f=>Aw f ao λa f=>Aw f ao λa f=>l_o f (AC (f.e Z) ao (f.e Z)) λa f=> ?_
    obtain rfl:=sj am
    exact⟨_,gr,m,f.k Z⟩
  ·rintro a w ⟨an,ax,m,f⟩
   refine Ab ?_
   rcases Ae ai with⟨ay,ai⟩|⟨ay,ai⟩
   ·refine Am f Z ay ?_
    refine Ao ?_
    refine An (Ap ?_)
    refine Aa f Z λa f=>Ai f Z Z Ax λa f=>Ac f Z λa f=>Ab ?_
    obtain rfl:=sj ai
    exact⟨_,Z,_,Z,_,(gt ak ax),f.k Z,m⟩
   ·refine Aj f Z ay ?_
    refine AF Z ?_
    obtain rfl:=sj ai
    obtain rfl:=aj _ rfl
    exact⟨_,Z,_,(gt ak ax),f.k Z,m⟩
 ·rintro a w ⟨ac,rfl,ad,az,f,m⟩
  have h0:=rd1 az h0
  refine Ah (Af ?_)
  refine Aa f Z λa f=>Aa f Z λa f=>Be underlying31 f Z Z h0 λa f=>Ai f Z Z AM λa f=>Aa f Z λa f=> ?_
  have⟨aA,aB,hd⟩:=bind_some hd
  refine Bu 7 (λa w=>∃aC,GLe ad aC∧Mem W aC w (H)∧Fr a 46 [(0,v0),(1,(iv x1)),(5,(iv ac)),(21,(iv ac)),(22,v0),(23,(iv (x0.length:Int))),(24,(.bool (decide (ac<(x0.length:Int))))),(25,(.bool (decide (ac<(x0.length:Int))))),(32,(.bool aA))]) ?_ ?_
  ·rcases Ae aB with⟨aD,aB⟩|⟨aD,aB⟩
   ·refine Au f aD ?_
    refine Aa f Z λa f=>Au f aD ?_
    refine Aa f Z λa f=>Au f aD ?_
    have⟨aE,aF,aB⟩:=bind_some aB
    refine BG T31 f Z Z Z h0 aF λaG aH a aI aJ f=> ?_
    subst aJ
    refine Au f aD ?_
    refine AZ m Pl2 f Z Z aI λa f=>Au f aD ?_
    refine Aa f Z λa f=>Au f aD ?_
    refine Ai f Z Z BE λa f=>l_o f (AD (f.e Z) aD (f.e Z)) λa f=> ?_
    obtain rfl:=sj aB
    exact⟨_,gr,m,f.k Z⟩
   ·refine Aw f aD λa f=> ?_
    refine Aw f aD λa f=>Aw f aD λa f=>Aw f aD λa f=>Aw f aD λa f=>Aw f aD λa f=>l_o f (AC (f.e Z) aD (f.e Z)) λa f=> ?_
    obtain rfl:=sj aB
    exact⟨_,gr,m,f.k Z⟩
  ·rintro a w ⟨aC,aK,m,f⟩
   have h0:=rd1 aK h0
   refine Ab ?_
   rcases Ae hd with⟨aL,hd⟩|⟨aL,hd⟩
   ·refine Am f Z aL ?_
    refine Af ?_
    refine Aa f Z λa f=>Ac f Z λa f=>Ab ?_
    refine Ar ?_
    obtain rfl:=sj hd
    exact⟨[v0],f.g Z,f.d,_,[],(gt az aK),m,_,Z,Z,h0⟩
   ·refine Aj f Z aL ?_
    refine Ao ?_
    refine Af ?_
    refine Aa f Z λa f=>Aa f Z λa f=> ?_
    have⟨aM,aN,hd⟩:=bind_some hd
    refine l_slice T31 f Z Z h0 (.inl ⟨Z,Z⟩) (.inr ⟨_,_,Z,Z⟩) aN λaO a aP f=> ?_
    have⟨aQ,aR,hd⟩:=bind_some hd
    refine AK f Z call117 (Wk.h m aP aR) λaS aT aU w aV m aW a f=> ?_
    obtain⟨aX,aY,rfl,rfl,aZ⟩:=aW
    have h0:=rd1 aV h0
    refine Aa f Z λa f=>BC (R:=R0) (xs:=([x1]:LI)) (RI.one _) m T31 f Z Z Z (by decide) (All2.cons Z (All2.nil _)) λa0 a1 w a m a2 f=> ?_
    have⟨a3,a4,hd⟩:=bind_some hd
    refine BJ (RI.one _) 1 m aZ Z T31 Z (by decide) f Z Z Z (Ow.src (j:=0) a2 m Z) a4 λa5 a6 w a m a7 f=>Ac f Z λa f=>Ay ?_
    refine Aa f Z λa f=>Aa f Z λa f=>Aa f Z λa f=> ?_
    have⟨a8,a9,hd⟩:=bind_some hd
    refine l_slice T31 f Z Z h0 (.inr ⟨_,_,Z,Z⟩) (.inl ⟨Z,Z⟩) a9 λba a bb f=> ?_
    have⟨bc,bd,hd⟩:=bind_some hd
    refine BJ (RI.one _) 1 m a7 Z T31 Z (by decide) f Z Z Z (bb.src m) bd λbe bf w a m bg f=>Ac f Z λa f=>Ab ?_
    refine Ar ?_
    have m:=m.fr 1
    obtain⟨bh,bi,m,bj⟩:=Ow.stamp (RI.mono _) bg m
    have m:Mem W bh w H:=Mem.drop (H':=[a0]) m
    obtain rfl:=sj hd
    exact⟨[bf],f.g Z,f.d,_,[],(gt az (gt aK (gt aV bi))),m,_,Z,Z,bj⟩
theorem Wk.a0 {aa:Value}{ab:Itm}{ac:LL}{x1 x2:Int}(m:Mem W G w (ab::H))(ad:Ow R1 31 G ab aa ac){y:(LL)}(hd:D.a0 ac x1 x2=some y):
  Calls prog 114 #[(.agg #[aa]),(iv x1),(iv x2)] w (Res W G H (λG' Ho v=>∃i0:Itm,Ho=[i0]∧v=(.agg #[aa])∧Ow R1 31 G' i0 aa y)):=by
 refine As (args:=[(.agg #[aa]),(iv x1),(iv x2)]) (N:=30) [.cell 6 29] func114 Z Z (lb Z) Z λa f=> ?_
 unfold D.a0 at hd
 refine Af ?_
 refine B3 (cs:=[aa]) m f Z Z Z λae w a m f=>BX (cs:=[sn]) zeroValue29 m f Z Z λaf w a m f=>Ab (Ah ?_)
 refine Bf 11 AI (by kernel_rfl) m ?_
 refine DC 0 11 underlying29 Z sizeOf27 Z f Z λa f=>CM 1 11 1 Cx Z Z Z f Z λa f=>Ag 2 11 Z f Z λa f=>DC 3 11 underlying29 Z sizeOf27 Z f Z λa f=>CM 4 11 1 Cx Z Z Z f Z λa f=>Ag 5 11 Z f Z λa f=> ?_
 have⟨ag,ah,hd⟩:=bind_some hd
 refine AG 6 11 2 m ad T27 ah Z f Z Z λai a aj f=>AO 7 11 2 ad CN aj ah Z f Z λak a al f=>Ag 8 11 Z f Z λa f=>q_on 9 Z λam w an m ao ao=> ?_
 have al:=rd1 an al
 have ad:=Ow.mono (RSl.mono (RI.mono _)) an ad
 have⟨ap,aq,hd⟩:=bind_some hd
 refine AK f Z call90 (Wk.R m al aq) λar au av w aw m ax a f=> ?_
 obtain⟨ay,rfl,rfl,az⟩:=ax
 have ad:=Ow.mono (RSl.mono (RI.mono _)) aw ad
 refine Ab ?_
 refine ao au [] _ _ aw m ?_
 have⟨aA,aB,hd⟩:=bind_some hd
 refine AG 10 11 2 m ad T27 aB Z f Z Z λaC a aD f=>A4 λaE w aF m=> ?_
 have az:=rd1 aF az
 have ad:=Ow.mono (RSl.mono (RI.mono _)) aF ad
 refine AH 2 m ad Z sizeOf31 f Z Z aD aB az.cells az.one1 az λaG w m aH=>Ab (Ah ?_)
 refine Bf 11 AI (by kernel_rfl) m ?_
 refine DC 0 11 underlying29 Z sizeOf27 Z f Z λa f=>CM 1 11 1 Cx Z Z Z f Z λa f=>Ag 2 11 Z f Z λa f=>DC 3 11 underlying29 Z sizeOf27 Z f Z λa f=>CM 4 11 1 Cx Z Z Z f Z λa f=>Ag 5 11 Z f Z λa f=> ?_
 have⟨aI,aJ,hd⟩:=bind_some hd
 refine AG 6 11 2 m aH T27 aJ Z f Z Z λaK a aL f=>AO 7 11 2 aH CN aL aJ Z f Z λaM a aN f=>Ag 8 11 Z f Z λa f=>q_on 9 Z λaO w aP m aQ aQ=> ?_
 have aN:=rd1 aP aN
 have aH:=Ow.mono (RSl.mono (RI.mono _)) aP aH
 have⟨aR,aS,hd⟩:=bind_some hd
 refine AK f Z call90 (Wk.R m aN aS) λaT aU aV w aW m aX a f=> ?_
 obtain⟨aY,rfl,rfl,aZ⟩:=aX
 have aH:=Ow.mono (RSl.mono (RI.mono _)) aW aH
 refine Ab ?_
 refine aQ aU [] _ _ aW m ?_
 have⟨a0,a1,hd⟩:=bind_some hd
 refine AG 10 11 2 m aH T27 a1 Z f Z Z λa2 a a3 f=>A4 λa4 w a5 m=> ?_
 have aZ:=rd1 a5 aZ
 have aH:=Ow.mono (RSl.mono (RI.mono _)) a5 aH
 refine AH 2 m aH Z sizeOf31 f Z Z a3 a1 aZ.cells aZ.one1 aZ λa6 w m a7=>Ay ?_
 refine A7 1 0 (ds:=[aa]) m Bj f Z Z Z Z Z λa f=>A6 0 0 (ds:=[aa]) m sizeOf29 f Z Z Z (Bb (Ow.one1 2 m a7 Z) Bh) Z (lb Z) Z λw m=>Ab ?_
 refine Ar ?_
 have a8:=Em (P:=prog) 0 m Bj f (s:=6) rfl rfl rfl
 have m:=m.fr 2
 have m:=m.eraseAt 2
 have m:=m.eraseAt 1
 obtain rfl:=sj hd
 exact⟨[(.agg #[aa])],⟨a8,trivial⟩,f.d,_,[a6],(gt an (gt aw (gt aF (gt aP (gt aW a5))))),m,_,Z,Z,a7⟩
theorem Wk.q0 {v1:Value}{x0:Int}{x1:LL}(m:Mem W G w (H))(h1:R2 G v1 x1){y:(LL)×Bool}(hd:D.q0 x0 x1=some y):
  Calls prog 46 #[(iv x0),v1] w (Res W G H (λG' Ho v=>∃r0:Value,∃i0:Itm,Ho=[i0]∧v= .tuple #[(.agg #[r0]),(.bool y.2)]∧Ow R1 31 G' i0 r0 y.1)):=by
 refine As (args:=[(iv x0),v1]) (N:=56) [.cell 4 29,.tmp 5] func46 Z Z (lb Z) Z λa f=> ?_
 unfold D.q0 at hd
 refine Af ?_
 refine BX (cs:=[sn]) zeroValue29 m f Z Z λaa w a m f=>Ac f Z λa f=>Ab (Ah (Af ?_))
 refine Aa f Z λa f=> ?_
 have⟨ab,ac,hd⟩:=bind_some hd
 refine Ba f Z call105 (Wk.f m ac) λad w ae m a f=> ?_
 have h1:=rd2 ae h1
 refine l_o f (Bv (f.e Z)) λa f=>Aa f Z λa f=> ?_
 refine Bu 4 (λa w=>∃af,GLe ad af∧Mem W af w (ib aa 29 [sn]::H)∧Fr a 56 [(0,(iv x0)),(1,v1),(4,(pb aa)),(8,(iv x0)),(9,(.bool ab)),(10,(.bool (!ab))),(11,(.bool (!ab))),(15,(.bool ((!ab)||(decide ((120:Int)<(x1.length:Int))))))]) ?_ ?_
 ·rcases Bool.eq_false_or_eq_true (!ab) with ag|ag
  ·refine Aw f ag λa f=> ?_
   refine Aw f ag λa f=>Aw f ag λa f=>l_o f (AD (f.e Z) ag (f.e Z)) λa f=> ?_
   exact⟨_,gr,m,f.weak ⟨Z,Z,Z,Z,Z,Z,Z,by rw[ag];rfl,trivial⟩⟩
  ·refine Au f ag ?_
   refine Aa f Z λa f=>Au f ag ?_
   refine Be underlying27 f Z Z h1 λa f=>Au f ag ?_
   refine Ai f Z Z CF λa f=>l_o f (AC (f.e Z) ag (f.e Z)) λa f=> ?_
   exact⟨_,gr,m,f.weak ⟨Z,Z,Z,Z,Z,Z,Z,by rw[ag];rfl,trivial⟩⟩
 ·rintro a w ⟨af,ah,m,f⟩
  have h1:=rd2 ah h1
  refine Ab ?_
  rcases Ae hd with⟨ai,hd⟩|⟨ai,hd⟩
  ·refine Am f Z ai ?_
   refine Af ?_
   have aj:∀w,(Instr.build 29 #[]).run prog w= .ok (.agg #[sn]) w:=by intro w;simp[Instr.build,Instr.fill,Ea,DJ,Di,Dt,C7,DA]
   refine Ek f Z Z aj λa f=>A6 0 0 (ds:=[sn]) m sizeOf29 f Z Z Z (Bb Z Bh) Z (lb Z) Z λw m=>Ac f Z λa f=>Ab ?_
   refine Ar ?_
   obtain⟨ak,m,al⟩:=Ow.nil R1 31 m
   have am:=Em (P:=prog) 1 m Bj f (s:=4) rfl rfl rfl
   have m:=m.eraseAt 1
   obtain rfl:=sj hd
   exact⟨[(.agg #[sn]),(.bool false)],⟨am,f.get _ _ Z,trivial⟩,f.d,_,[ak],(gt ae ah),m,_,_,Z,Z,al⟩
  ·refine Aj f Z ai ?_
   refine Ao ?_
   refine Af ?_
   refine Aa f Z λa f=> ?_
   have⟨an,ao,hd⟩:=bind_some hd
   refine AK f Z call112 (Wk.C0 m ao) λap aq ar w au m av a f=> ?_
   obtain⟨aw,ax,rfl,rfl,ay⟩:=av
   have h1:=rd2 au h1
   refine BX (cs:=[sn]) zeroValue29 m f Z Z λaz w a m f=>A6 0 0 (ds:=[aw]) m sizeOf29 f Z Z Z (Bb (Ow.one1 1 m ay Z) Bh) Z (lb Z) Z λw m=>Ab (Ah (Af ?_))
   refine Ac f Z λa f=>Ab ?_
   have⟨aA,aB,hd⟩:=bind_some hd
   refine AL (λa w=>∃q_213':LL,aA= .inl q_213'∧∃aC:LL,aC=q_213'∧∃(aD:GH) (aE:Itm),GLe aq aD∧Fr a 56 [(4,(pb aa)),(6,(pb az))]∧Mem W aD w (ib aa 29 [sn]::ib az 29 [aw]::aE::H)∧Ow R1 31 aD aE aw aC) ?_ ?_
   ·refine An ?_
    have m:=m.fr 2
    refine AJ (λaF a w=>∃aG:Int,∃aH:LL,(aG,aH)=aF∧∃(aI:GH) (aJ:Itm),GLe aq aI∧Fr a 56 [(0,(iv x0)),(1,v1),(4,(pb aa)),(6,(pb az)),(7,(iv aG))]∧Mem W aI w (ib aa 29 [sn]::ib az 29 [aw]::aJ::H)∧Ow R1 31 aI aJ aw aH) aB ⟨_,_,Z,_,ax,gr,f.k Z,m,ay⟩ ?_
    clear aB f m
    rintro aF aK aL aM a w ⟨aG,aH,rfl,aI,aJ,aN,f,m,aO⟩
    have h1:=rd2 aN h1
    refine Ah (Af ?_)
    refine Aa f Z λa f=>Aa f Z λa f=>Be underlying27 f Z Z h1 λa f=>Ai f Z Z AM λa f=>Ab ?_
    rcases Ae aL with⟨aP,aL⟩|⟨aP,aL⟩
    ·refine Am f Z aP ?_
     refine Ao ?_
     refine Ah (An (Ah (Af ?_)))
     refine Aa f Z λa f=>Aa f Z λa f=> ?_
     have⟨aQ,aR,aL⟩:=bind_some aL
     refine BG T27 f Z Z Z h1 aR λaS aT a aU aV f=>AZ m CN f Z Z aU λa f=>Be underlying31 f Z Z aV λa f=>Ai f Z Z C4 λa f=>Aa f Z λa f=> ?_
     have⟨aW,aX,aL⟩:=bind_some aL
     refine Bu 8 (λa w=>∃aY,GLe aI aY∧Mem W aY w (ib aa 29 [sn]::ib az 29 [aw]::aJ::H)∧Fr a 56 [(0,(iv x0)),(1,v1),(4,(pb aa)),(6,(pb az)),(7,(iv aG)),(22,(.bool (decide (aG<(x1.length:Int))))),(25,v1),(26,(iv aG)),(27,aS),(28,aT),(29,(iv (aQ.length:Int))),(30,(.bool ((aQ.length:Int) !=2))),(31,(.bool ((aQ.length:Int) !=2))),(39,(.bool aW))]) ?_ ?_
     ·rcases Ae aX with⟨aZ,aX⟩|⟨aZ,aX⟩
      ·refine Aw f aZ λa f=> ?_
       refine Aw f aZ λa f=>Aw f aZ λa f=>Aw f aZ λa f=>Aw f aZ λa f=>Aw f aZ λa f=>Aw f aZ λa f=>l_o f (AD (f.e Z) aZ (f.e Z)) λa f=> ?_
       obtain rfl:=sj aX
       exact⟨_,gr,m,f.k Z⟩
      ·refine Au f aZ ?_
       refine Aa f Z λa f=>Au f aZ ?_
       refine Aa f Z λa f=>Au f aZ ?_
       have⟨a0,a1,aX⟩:=bind_some aX
       refine BG T27 f Z Z Z h1 a1 λa2 a3 a a4 a5 f=>Au f aZ ?_
       refine AZ m CN f Z Z a4 λa f=>Au f aZ ?_
       refine Aa f Z λa f=>Au f aZ ?_
       have⟨a6,a7,aX⟩:=bind_some aX
       refine Ba f Z call113 (Wk.M m a5 a7) λa8 w a9 m a f=>Au f aZ ?_
       refine l_o f (Bv (f.e Z)) λa f=>l_o f (AC (f.e Z) aZ (f.e Z)) λa f=> ?_
       obtain rfl:=sj aX
       exact⟨_,a9,m,f.k Z⟩
     ·rintro a w ⟨aY,ba,m,f⟩
      have h1:=rd2 ba h1
      have aO:=Ow.mono (RSl.mono (RI.mono _)) ba aO
      refine Ab ?_
      rcases Ae aL with⟨bb,aL⟩|⟨bb,aL⟩
      ·refine Am f Z bb ?_
       refine Af ?_
       have bc:∀w,(Instr.build 29 #[]).run prog w= .ok (.agg #[sn]) w:=by intro w;simp[Instr.build,Instr.fill,Ea,DJ,Di,Dt,C7,DA]
       refine Ek f Z Z bc λa f=>A6 0 0 (ds:=[sn]) m sizeOf29 f Z Z Z (Bb Z Bh) Z (lb Z) Z λw m=>Ac f Z λa f=>Ab ?_
       refine Ar ?_
       obtain⟨bd,m,be⟩:=Ow.nil R1 31 m
       have bf:=Em (P:=prog) 1 m Bj f (s:=4) rfl rfl rfl
       have m:=m.fr 3
       have m:=m.fr 1
       have m:Mem W aY w (bd::aJ::ib aa 29 [sn]::H):=m.eraseAt 3
       have m:=m.eraseAt 2
       have m:=m.eraseAt 1
       obtain rfl:=sj aL
       obtain rfl:=aM _ rfl
       obtain rfl:=sj hd
       exact⟨[(.agg #[sn]),(.bool false)],⟨bf,f.get _ _ Z,trivial⟩,f.d,_,[bd],(gt ae (gt ah (gt au (gt aN ba)))),m,_,_,Z,Z,be⟩
      ·refine Aj f Z bb ?_
       refine Ao ?_
       refine Bf 13 AI (by kernel_rfl) m ?_
       refine BR (i:=0) (ds:=[aw]) 13 1 Bj Z Z Z Z (by kernel_rfl) Z f Z Z Z λa f=>Ag 1 13 Z f Z λa f=>Ag 2 13 Z f Z λa f=> ?_
       have⟨bg,bh,aL⟩:=bind_some aL
       refine B8 3 13 T27 h1 bh Z f Z Z λbi bj a bk bl f=>Ca 4 13 CN bk Z f Z λa f=> ?_
       have⟨bm,bn,aL⟩:=bind_some aL
       refine B8 5 13 T31 bl bn Z f Z Z λbo bp a bq br f=> ?_
       subst br
       refine Ca 6 13 Pl2 bq Z f Z λa f=>Ag 7 13 Z f Z λa f=>Ag 8 13 Z f Z λa f=> ?_
       have⟨bs,bt,aL⟩:=bind_some aL
       refine B8 9 13 T27 h1 bt Z f Z Z λbu bv a bw bx f=>Ca 10 13 CN bw Z f Z λa f=> ?_
       have⟨bz,bA,aL⟩:=bind_some aL
       refine B8 11 13 T31 bx bA Z f Z Z λbB bC a bD bE f=> ?_
       subst bE
       refine Ca 12 13 Pl2 bD Z f Z λa f=>A4 λbF w bG m=> ?_
       have aO:=Ow.mono (RSl.mono (RI.mono _)) bG aO
       have m:Mem W bF w (aJ::ib aa 29 [sn]::ib az 29 [aw]::H):=m.fr 2
       have⟨bH,bI,aL⟩:=bind_some aL
       refine AK f Z call114 (Wk.a0 m aO bI) λbJ bK bL w bM m bN a f=> ?_
       obtain⟨bO,rfl,rfl,bP⟩:=bN
       refine A6 2 0 (ds:=[aw]) m sizeOf29 f Z Z Z (Bb (Ow.one1 0 m bP Z) Bh) Z (lb Z) Z λw m=>Ab (Ap ?_)
       refine Aa f Z λa f=>Ai f Z Z Ax λa f=>Ac f Z λa f=>Ab ?_
       have m:=m.fr 2
       have m:Mem W bK w (ib aa 29 [sn]::ib az 29 [aw]::bO::H):=m.fr 2
       obtain rfl:=sj aL
       exact⟨_,Z,_,_,Z,_,bO,(gt aN (gt ba (gt bG bM))),f.k Z,m,bP⟩
    ·refine Aj f Z aP ?_
     refine AF Z ?_
     obtain rfl:=sj aL
     obtain rfl:=aM _ rfl
     exact⟨_,Z,_,Z,_,aJ,aN,f.k Z,m,aO⟩
   ·rintro a w ⟨_,rfl,aC,rfl,aD,aE,bQ,f,m,bR⟩
    refine Af ?_
    refine A7 1 0 (ds:=[aw]) m Bj f Z Z Z Z Z λa f=>A6 0 0 (ds:=[aw]) m sizeOf29 f Z Z Z (Bb (Ow.one1 2 m bR Z) Bh) Z (lb Z) Z λw m=>Ac f Z λa f=>Ab ?_
    refine Ar ?_
    have bS:=Em (P:=prog) 0 m Bj f (s:=4) rfl rfl rfl
    have m:=m.fr 2
    have m:=m.eraseAt 2
    have m:=m.eraseAt 1
    obtain rfl:=sj hd
    exact⟨[(.agg #[aw]),(.bool true)],⟨bS,f.get _ _ Z,trivial⟩,f.d,_,[aE],(gt ae (gt ah (gt au bQ))),m,_,_,Z,Z,bR⟩
theorem Wk.m0 {aa:Value}{b0:Nat}{ab:LI}{ac ad x1:Int}(m:Mem W G w (ib b0 55 [aa,(iv ac),(.int .u64 ad)]::H))(ae:RSl (RI .u8) G aa ab){y:(LL)×(LI)×Int×Int}(hd:D.m0 ab ac ad x1=some y):
  Calls prog 9 #[(pb b0),(iv x1)] w (Res W G H (λG' Ho v=>∃r0:Value,∃i0:Itm,∃r2:Value,Ho=[i0,ib b0 55 [r2,(iv y.2.2.1),(.int .u64 y.2.2.2)]]∧v=(.agg #[r0])∧Ow R1 31 G' i0 r0 y.1∧RSl (RI .u8) G' r2 y.2.1)):=by
 refine As (args:=[(pb b0),(iv x1)]) (N:=47) [.cell 4 29] func9 Z Z (lb Z) Z λa f=> ?_
 unfold D.m0 at hd
 refine Af ?_
 refine BX (cs:=[sn]) zeroValue29 m f Z Z λaf w a m f=>Ay ?_
 refine Aa f Z λa f=>Aa f Z λa f=> ?_
 have m:Mem W G w (ib b0 55 [aa,(iv ac),(.int .u64 ad)]::ib af 29 [sn]::H):=m.fr 1
 have⟨ag,ah,hd⟩:=bind_some hd
 refine AK f Z call45 (Wk.x m ae ah) λai aj ak w al m am a f=> ?_
 obtain⟨an,rfl,rfl,ao⟩:=am
 refine Ai f Z Z Ax λa f=>Ac f Z λa f=>Ay ?_
 refine Aa f Z λa f=> ?_
 have⟨ap,aq,hd⟩:=bind_some hd
 refine AK f Z call45 (Wk.x m ao aq) λar au av w aw m ax a f=> ?_
 obtain⟨ay,rfl,rfl,az⟩:=ax
 refine Ai f Z Z Ax λa f=>Ac f Z λa f=>Ay ?_
 refine BC (R:=R1) (xs:=([]:LL)) (RSl.one _) m T27 f Z Z Z (by decide) (All2.nil _) λaA aB w a m aC f=>Ac f Z λa f=>Ab (Ah (Af ?_))
 refine Ac f Z λa f=>Ab ?_
 have⟨aD,aE,hd⟩:=bind_some hd
 refine AL (λa w=>∃aF:LL,∃aG:LI,∃aH:Int,∃aI:Int,(aF,aG,aH,aI)=aD∧∃(aJ:GH) (aK:Value) (aL:Itm) (aM:Value),GLe au aJ∧Fr a 47 [(4,(pb af)),(5,(iv (i64.wrap (1+ag.1)))),(7,aK)]∧Mem W aJ w (ib af 29 [sn]::ib b0 55 [aM,(iv aH),(.int .u64 aI)]::aL::H)∧Ow R1 31 aJ aL aK aF∧RSl (RI .u8) aJ aM aG) ?_ ?_
 ·refine An ?_
  have m:=m.fr 2
  have m:Mem W au w (ib b0 55 [ay,(iv ap.2.2.1),(.int .u64 ap.2.2.2)]::ib af 29 [sn]::aA::H):=m.fr 2
  refine AJ (λaN a w=>∃aO:LL,∃aP:Int,∃aQ:LI,∃aR:Int,∃aS:Int,(aO,aP,aQ,aR,aS)=aN∧∃(aT:GH) (aU:Value) (aV:Itm) (aW:Value),GLe au aT∧Fr a 47 [(0,(pb b0)),(4,(pb af)),(5,(iv (i64.wrap (1+ag.1)))),(6,(iv (i64.wrap (1+ap.1)))),(7,aU),(8,(iv aP))]∧Mem W aT w (ib b0 55 [aW,(iv aR),(.int .u64 aS)]::ib af 29 [sn]::aV::H)∧Ow R1 31 aT aV aU aO∧RSl (RI .u8) aT aW aQ) aE ⟨_,_,_,_,_,Z,_,aB,aA,ay,gr,f.k Z,m,aC,az⟩ ?_
  clear aE f m
  rintro aN aX aY aZ a w ⟨aO,aP,aQ,aR,aS,rfl,aT,aU,aV,aW,a0,f,m,a1,a2⟩
  refine Ah (Af ?_)
  refine Aa f Z λa f=>Aa f Z λa f=>Ai f Z Z AM λa f=>Ab ?_
  rcases Ae aY with⟨a3,aY⟩|⟨a3,aY⟩
  ·refine Am f Z a3 ?_
   refine Ao ?_
   refine Ah (An (Af ?_))
   refine Ac f Z λa f=>Ab ?_
   have⟨a4,a5,aY⟩:=bind_some aY
   refine AL (λa w=>∃a6:LL,∃a7:LI,∃a8:Int,∃a9:Int,(a6,a7,a8,a9)=a4∧∃(ba:GH) (bb:Value) (bc:Itm) (bd:Value),GLe aT ba∧Fr a 47 [(0,(pb b0)),(4,(pb af)),(5,(iv (i64.wrap (1+ag.1)))),(6,(iv (i64.wrap (1+ap.1)))),(7,bb),(8,(iv aP))]∧Mem W ba w (ib b0 55 [bd,(iv a8),(.int .u64 a9)]::ib af 29 [sn]::bc::H)∧Ow R1 31 ba bc bb a6∧RSl (RI .u8) ba bd a7) ?_ ?_
   ·refine An ?_
    refine AJ (λbe a w=>∃bf:LL,∃bg:Int,∃bh:LI,∃bi:Int,∃bj:Int,(bf,bg,bh,bi,bj)=be∧∃(bk:GH) (bl:Value) (bm:Itm) (bn:Value),GLe aT bk∧Fr a 47 [(0,(pb b0)),(4,(pb af)),(5,(iv (i64.wrap (1+ag.1)))),(6,(iv (i64.wrap (1+ap.1)))),(7,bl),(8,(iv aP)),(9,(iv bg))]∧Mem W bk w (ib b0 55 [bn,(iv bi),(.int .u64 bj)]::ib af 29 [sn]::bm::H)∧Ow R1 31 bk bm bl bf∧RSl (RI .u8) bk bn bh) a5 ⟨_,_,_,_,_,Z,_,aU,aV,aW,gr,f.k Z,m,a1,a2⟩ ?_
    clear a5 f m
    rintro be bo bp bq a w ⟨bf,bg,bh,bi,bj,rfl,bk,bl,bm,bn,br,f,m,bs,bt⟩
    refine Ah (Af ?_)
    refine Aa f Z λa f=>Aa f Z λa f=>Ai f Z Z AM λa f=>Ab ?_
    rcases Ae bp with⟨bu,bp⟩|⟨bu,bp⟩
    ·refine Am f Z bu ?_
     refine Ao ?_
     refine Ah (An (Af ?_))
     refine Aa f Z λa f=> ?_
     have⟨bv,bw,bp⟩:=bind_some bp
     refine AK f Z call45 (Wk.x m bt bw) λbx bz bA w bB m bC a f=> ?_
     obtain⟨bD,rfl,rfl,bE⟩:=bC
     have bs:=Ow.mono (RSl.mono (RI.mono _)) bB bs
     refine Aa f Z λa f=>Ai f Z Z AM λa f=>Ab ?_
     rcases Ae bp with⟨bF,bp⟩|⟨bF,bp⟩
     ·refine Am f Z bF ?_
      refine Ap ?_
      refine Aa f Z λa f=>Aa f Z λa f=>Aa f Z λa f=>BC (R:=R0) (xs:=([bg,aP]:LI)) (RI.one _) m T31 f Z Z Z (by decide) (All2.cons Z (All2.cons Z (All2.nil _))) λbG bH w a m bI f=> ?_
      obtain⟨bJ,bK,m,bL⟩:=Ow.stamp (RI.mono _) bI m
      have bE:=rd1 bK bE
      have bs:=Ow.mono (RSl.mono (RI.mono _)) bK bs
      refine BC (R:=R1) (xs:=([([bg,aP]:LI)]:LL)) (RSl.one _) m T27 f Z Z Z (by decide) (All2.cons bL (All2.nil _)) λbM bN w a m bO f=> ?_
      have⟨bP,bQ,bp⟩:=bind_some bp
      refine BJ (RSl.one _) 3 m bs Z T27 Z (by decide) f Z Z Z (Ow.src (j:=0) bO m Z) bQ λbR bS w a m bT f=>Ac f Z λa f=>Ab (Ap ?_)
      refine Aa f Z λa f=>Ai f Z Z Ax λa f=>Ac f Z λa f=>Ab ?_
      have m:=m.fr 3
      have m:=m.fr 3
      have m:Mem W bJ w (ib b0 55 [bD,(iv bv.2.2.1),(.int .u64 bv.2.2.2)]::ib af 29 [sn]::bR::bM::H):=m.fr 3
      have m:Mem W bJ w (ib b0 55 [bD,(iv bv.2.2.1),(.int .u64 bv.2.2.2)]::ib af 29 [sn]::bR::H):=m.eraseAt 3
      obtain rfl:=sj bp
      exact⟨_,Z,_,_,_,_,_,Z,_,bS,bR,bD,(gt br (gt bB bK)),f.k Z,m,bT,bE⟩
     ·refine Aj f Z bF ?_
      refine Ao ?_
      refine Ap ?_
      refine Aa f Z λa f=>Ai f Z Z Ax λa f=>Ac f Z λa f=>Ab ?_
      obtain rfl:=sj bp
      exact⟨_,Z,_,_,_,_,_,Z,_,bl,bm,bD,(gt br bB),f.k Z,m,bs,bE⟩
    ·refine Aj f Z bu ?_
     refine AF Z ?_
     obtain rfl:=sj bp
     obtain rfl:=bq _ rfl
     exact⟨_,_,_,_,Z,_,bl,bm,bn,br,f.k Z,m,bs,bt⟩
   ·rintro a w ⟨a6,a7,a8,a9,rfl,ba,bb,bc,bd,bU,f,m,bV,bW⟩
    refine Ap ?_
    refine Aa f Z λa f=>Ai f Z Z Ax λa f=>Ac f Z λa f=>Ab ?_
    obtain rfl:=sj aY
    exact⟨_,Z,_,_,_,_,_,Z,_,bb,bc,bd,(gt a0 bU),f.k Z,m,bV,bW⟩
  ·refine Aj f Z a3 ?_
   refine AF Z ?_
   have m:Mem W aT w (ib af 29 [sn]::ib b0 55 [aW,(iv aR),(.int .u64 aS)]::aV::H):=m.fr 1
   obtain rfl:=sj aY
   obtain rfl:=aZ _ rfl
   exact⟨_,_,_,_,Z,_,aU,aV,aW,a0,f.k Z,m,a1,a2⟩
 ·rintro a w ⟨aF,aG,aH,aI,rfl,aJ,aK,aL,aM,bX,f,m,bY,bZ⟩
  refine Af ?_
  refine Aa f Z λa f=>Aa f Z λa f=> ?_
  have m:Mem W aJ w (aL::ib af 29 [sn]::ib b0 55 [aM,(iv aH),(.int .u64 aI)]::H):=m.fr 2
  obtain⟨b1,b2,m,b3⟩:=Ow.stamp (RSl.mono (RI.mono _)) bY m
  have bZ:=rd1 b2 bZ
  have⟨b4,b5,hd⟩:=bind_some hd
  refine AK f Z call46 (Wk.q0 m b3 b5) λb6 b7 b8 w b9 m ca a f=> ?_
  obtain⟨cb,cc,rfl,rfl,cd⟩:=ca
  have bZ:=rd1 b9 bZ
  refine Aa f Z λa f=>l_o f (Bg (f.e Z) Z) λa f=>l_o f (Bg (f.e Z) Z) λa f=>BX (cs:=[sn]) zeroValue29 m f Z Z λce w a m f=>A6 0 0 (ds:=[cb]) m sizeOf29 f Z Z Z (Bb (Ow.one1 1 m cd Z) Bh) Z (lb Z) Z λw m=>Ac f Z λa f=>Ay ?_
  refine A7 0 0 (ds:=[cb]) m Bj f Z Z Z Z Z λa f=>A6 2 0 (ds:=[cb]) m sizeOf29 f Z Z Z (Bb (Ow.one1 1 m cd Z) Bh) Z (lb Z) Z λw m=>Ab ?_
  refine Ar ?_
  have cf:=Em (P:=prog) 2 m Bj f (s:=4) rfl rfl rfl
  have m:=m.fr 3
  have m:=m.fr 2
  have m:Mem W b7 w (cc::ib b0 55 [aM,(iv aH),(.int .u64 aI)]::ib ce 29 [cb]::H):=m.eraseAt 3
  have m:=m.eraseAt 2
  obtain rfl:=sj hd
  exact⟨[(.agg #[cb])],⟨cf,trivial⟩,f.d,_,[cc,ib b0 55 [aM,(iv aH),(.int .u64 aI)]],(gt al (gt aw (gt bX (gt b2 b9)))),m,_,_,_,Z,Z,cd,bZ⟩
theorem Wk.d {aa:Value}{ab:LL}(m:Mem W G w (H))(ac:R2 G aa ab){y:Int}(hd:D.d ab=some y):
  Calls prog 47 #[(.agg #[aa])] w (Res W G H (λ_ Ho v=>Ho=[]∧v=(iv y))):=by
 refine As (args:=[(.agg #[aa])]) (N:=6) [.tmp 2] func47 Z Z (lb Z) Z λa f=> ?_
 unfold D.d at hd
 refine Af ?_
 refine B3 (cs:=[aa]) m f Z Z Z λad w a m f=>Ac f Z λa f=>Ay ?_
 refine B9 underlying29 Z sizeOf27 f Z λa f=>AR 0 0 m Cx f Z Z Z Z λa f=>Be underlying27 f Z Z ac λa f=>Ac f Z λa f=>Ab ?_
 refine Ar ?_
 have m:Mem W G w H:=Mem.drop (H':=[ib ad 29 [aa]]) m
 obtain rfl:=sj hd
 exact⟨[(iv (ab.length:Int))],f.g Z,f.d,_,[],gr,m,Z,Z⟩
theorem Wk.k {v0:Value}{x0:LI}{x1:Int}(m:Mem W G w (H))(h0:R1 G v0 x0){y:Bool}(hd:D.k x0 x1=some y):
  Calls prog 115 #[v0,(iv x1)] w (Res W G H (λ_ Ho v=>Ho=[]∧v=(.bool y))):=by
 refine As (args:=[v0,(iv x1)]) (N:=18) [.tmp 4] func115 Z Z (lb Z) Z λa f=> ?_
 unfold D.k at hd
 refine Af ?_
 refine Ac f Z λa f=>Ab (Ah (Af ?_))
 refine Ac f Z λa f=>Ab ?_
 have⟨aa,ab,hd⟩:=bind_some hd
 refine AL (λa w=>∃q_19':Unit,aa= .inl q_19'∧∃(ac:GH),GLe G ac∧Fr a 18 []∧Mem W ac w (H)) ?_ ?_
 ·refine An ?_
  refine AJ (λad a w=>∃ae:Int,ae=ad∧∃(af:GH),GLe G af∧Fr a 18 [(0,v0),(1,(iv x1)),(5,(iv ae))]∧Mem W af w (H)) ab ⟨_,Z,_,gr,f.k Z,m⟩ ?_
  clear ab f m
  rintro ad ag ah ai a w ⟨ae,rfl,af,aj,f,m⟩
  have h0:=rd1 aj h0
  refine Ah (Af ?_)
  refine Aa f Z λa f=>Aa f Z λa f=>Be underlying31 f Z Z h0 λa f=>Ai f Z Z AM λa f=>Ab ?_
  rcases Ae ah with⟨ak,ah⟩|⟨ak,ah⟩
  ·refine Am f Z ak ?_
   refine Ao ?_
   refine Ah (An (Af ?_))
   refine Aa f Z λa f=>Aa f Z λa f=> ?_
   have⟨al,am,ah⟩:=bind_some ah
   refine BG T31 f Z Z Z h0 am λan ao a ap aq f=> ?_
   subst aq
   refine AZ m Pl2 f Z Z ap λa f=>Aa f Z λa f=>Ai f Z Z BE λa f=>Ab ?_
   rcases Ae ah with⟨ar,ah⟩|⟨ar,ah⟩
   ·refine Am f Z ar ?_
    refine Af ?_
    refine Ac f Z λa f=>Ab ?_
    refine Ar ?_
    obtain rfl:=sj ah
    obtain rfl:=ai _ rfl
    obtain rfl:=sj hd
    exact⟨[(.bool true)],f.g Z,f.d,_,[],aj,m,Z,Z⟩
   ·refine Aj f Z ar ?_
    refine Ao ?_
    refine Ap ?_
    refine Aa f Z λa f=>Ai f Z Z Ax λa f=>Ac f Z λa f=>Ab ?_
    obtain rfl:=sj ah
    exact⟨_,Z,_,Z,_,aj,f.k Z,m⟩
  ·refine Aj f Z ak ?_
   refine AF Z ?_
   obtain rfl:=sj ah
   obtain rfl:=ai _ rfl
   exact⟨_,Z,_,aj,f.weak trivial,m⟩
 ·rintro a w ⟨_,rfl,ac,au,f,m⟩
  refine Af ?_
  refine Ac f Z λa f=>Ab ?_
  refine Ar ?_
  obtain rfl:=sj hd
  exact⟨[(.bool false)],f.g Z,f.d,_,[],au,m,Z,Z⟩
theorem Wk.z {aa:Value}{ab:LL}(m:Mem W G w (H))(ac:R2 G aa ab){y:Bool}(hd:D.z ab=some y):
  Calls prog 48 #[(.agg #[aa])] w (Res W G H (λ_ Ho v=>Ho=[]∧v=(.bool y))):=by
 refine As (args:=[(.agg #[aa])]) (N:=64) [.tmp 2] func48 Z Z (lb Z) Z λa f=> ?_
 unfold D.z at hd
 refine Af ?_
 refine B3 (cs:=[aa]) m f Z Z Z λad w a m f=>Ac f Z λa f=>Ay ?_
 refine A7 0 0 (ds:=[aa]) m Bj f Z Z Z Z Z λa f=> ?_
 have⟨ae,af,hd⟩:=bind_some hd
 refine Ba f Z call47 (Wk.d m ac af) λag w ah m a f=> ?_
 have ac:=rd2 ah ac
 refine Ac f Z λa f=>Ab (Ah (Af ?_))
 refine Aa f Z λa f=> ?_
 have⟨ai,aj,hd⟩:=bind_some hd
 refine Ba f Z call105 (Wk.f m aj) λak w al m a f=> ?_
 have ac:=rd2 al ac
 refine l_o f (Bv (f.e Z)) λa f=>Ab ?_
 rcases Ae hd with⟨am,hd⟩|⟨am,hd⟩
 ·refine Am f Z am ?_
  refine Af ?_
  refine Ac f Z λa f=>Ab ?_
  refine Ar ?_
  have m:Mem W ak w H:=Mem.drop (H':=[ib ad 29 [aa]]) m
  obtain rfl:=sj hd
  exact⟨[(.bool false)],f.g Z,f.d,_,[],(gt ah al),m,Z,Z⟩
 ·refine Aj f Z am ?_
  refine Ao ?_
  refine Ah (Af ?_)
  refine Ac f Z λa f=>Ab ?_
  have⟨an,ao,hd⟩:=bind_some hd
  refine AL (λa w=>∃q_138':Unit,an= .inl q_138'∧∃(ap:GH),GLe ak ap∧Fr a 64 [(1,(pb ad)),(3,(iv ae))]∧Mem W ap w (ib ad 29 [aa]::H)) ?_ ?_
  ·refine An ?_
   refine AJ (λaq a w=>∃ar:Int,ar=aq∧∃(au:GH),GLe ak au∧Fr a 64 [(1,(pb ad)),(3,(iv ae)),(4,(iv ar))]∧Mem W au w (ib ad 29 [aa]::H)) ao ⟨_,Z,_,gr,f.k Z,m⟩ ?_
   clear ao f m
   rintro aq av aw ax a w ⟨ar,rfl,au,ay,f,m⟩
   have ac:=rd2 ay ac
   refine Ah (Af ?_)
   refine Aa f Z λa f=>Aa f Z λa f=>Ai f Z Z AM λa f=>Ab ?_
   rcases Ae aw with⟨az,aw⟩|⟨az,aw⟩
   ·refine Am f Z az ?_
    refine Ao ?_
    refine Ah (An (Af ?_))
    refine B9 underlying29 Z sizeOf27 f Z λa f=>AR 0 0 m Cx f Z Z Z Z λa f=>Aa f Z λa f=> ?_
    have⟨aA,aB,aw⟩:=bind_some aw
    refine BG T27 f Z Z Z ac aB λaC aD a aE aF f=>AZ m CN f Z Z aE λa f=>Aa f Z λa f=> ?_
    have⟨aG,aH,aw⟩:=bind_some aw
    refine Ba f Z call113 (Wk.M m aF aH) λaI w aJ m a f=> ?_
    have ac:=rd2 aJ ac
    refine l_o f (Bv (f.e Z)) λa f=>Aa f Z λa f=> ?_
    have⟨aK,aL,aw⟩:=bind_some aw
    refine Bu 8 (λa w=>∃aM,GLe aI aM∧Mem W aM w (ib ad 29 [aa]::H)∧Fr a 64 [(1,(pb ad)),(3,(iv ae)),(4,(iv ar)),(14,(.bool (decide (ar<ae)))),(17,(pb ad)),(18,aa),(19,(iv ar)),(20,aC),(21,aD),(22,(iv ae)),(23,(.bool aG)),(24,(.bool (!aG))),(25,(.bool (!aG))),(33,(.bool aK))]) ?_ ?_
    ·rcases Ae aL with⟨aN,aL⟩|⟨aN,aL⟩
     ·refine Aw f aN λa f=> ?_
      refine Aw f aN λa f=>Aw f aN λa f=>Aw f aN λa f=>Aw f aN λa f=>Aw f aN λa f=>Aw f aN λa f=>l_o f (AD (f.e Z) aN (f.e Z)) λa f=> ?_
      obtain rfl:=sj aL
      exact⟨_,gr,m,f.k Z⟩
     ·refine Au f aN ?_
      refine B9 underlying29 Z sizeOf27 f Z λa f=>Au f aN ?_
      refine AR 0 0 m Cx f Z Z Z Z λa f=>Au f aN ?_
      refine Aa f Z λa f=>Au f aN ?_
      have⟨aO,aP,aL⟩:=bind_some aL
      refine BG T27 f Z Z Z ac aP λaQ aR a aS aT f=>Au f aN ?_
      refine AZ m CN f Z Z aS λa f=>Au f aN ?_
      refine Aa f Z λa f=>Au f aN ?_
      have⟨aU,aV,aL⟩:=bind_some aL
      refine Ba f Z call115 (Wk.k m aT aV) λaW w aX m a f=>l_o f (AC (f.e Z) aN (f.e Z)) λa f=> ?_
      obtain rfl:=sj aL
      exact⟨_,aX,m,f.k Z⟩
    ·rintro a w ⟨aM,aY,m,f⟩
     refine Ab ?_
     rcases Ae aw with⟨aZ,aw⟩|⟨aZ,aw⟩
     ·refine Am f Z aZ ?_
      refine Af ?_
      refine Ac f Z λa f=>Ab ?_
      refine Ar ?_
      have m:Mem W aM w H:=Mem.drop (H':=[ib ad 29 [aa]]) m
      obtain rfl:=sj aw
      obtain rfl:=ax _ rfl
      obtain rfl:=sj hd
      exact⟨[(.bool false)],f.g Z,f.d,_,[],(gt ah (gt al (gt ay (gt aJ aY)))),m,Z,Z⟩
     ·refine Aj f Z aZ ?_
      refine Ao ?_
      refine Ap ?_
      refine Aa f Z λa f=>Ai f Z Z Ax λa f=>Ac f Z λa f=>Ab ?_
      obtain rfl:=sj aw
      exact⟨_,Z,_,Z,_,(gt ay (gt aJ aY)),f.k Z,m⟩
   ·refine Aj f Z az ?_
    refine AF Z ?_
    obtain rfl:=sj aw
    obtain rfl:=ax _ rfl
    exact⟨_,Z,_,ay,f.k Z,m⟩
  ·rintro a w ⟨_,rfl,ap,a0,f,m⟩
   have ac:=rd2 a0 ac
   refine Ah (Af ?_)
   refine Ac f Z λa f=>Ab ?_
   have⟨a1,a2,hd⟩:=bind_some hd
   refine AL (λa w=>∃q_545':Unit,a1= .inl q_545'∧∃(a3:GH),GLe ap a3∧Fr a 64 []∧Mem W a3 w (H)) ?_ ?_
   ·refine An ?_
    refine AJ (λa4 a w=>∃a5:Int,a5=a4∧∃(a6:GH),GLe ap a6∧Fr a 64 [(1,(pb ad)),(3,(iv ae)),(5,(iv a5))]∧Mem W a6 w (ib ad 29 [aa]::H)) a2 ⟨_,Z,_,gr,f.k Z,m⟩ ?_
    clear a2 f m
    rintro a4 a7 a8 a9 a w ⟨a5,rfl,a6,ba,f,m⟩
    have ac:=rd2 ba ac
    refine Ah (Af ?_)
    refine Aa f Z λa f=>Aa f Z λa f=>Ai f Z Z AM λa f=>Ab ?_
    rcases Ae a8 with⟨bb,a8⟩|⟨bb,a8⟩
    ·refine Am f Z bb ?_
     refine Ao ?_
     refine Ah (An (Af ?_))
     refine Ac f Z λa f=>Ab ?_
     have⟨bc,bd,a8⟩:=bind_some a8
     refine AL (λa w=>∃q_759':Unit,bc= .inl q_759'∧∃(be:GH),GLe a6 be∧Fr a 64 [(1,(pb ad)),(3,(iv ae)),(5,(iv a5))]∧Mem W be w (ib ad 29 [aa]::H)) ?_ ?_
     ·refine An ?_
      refine AJ (λbf a w=>∃bg:Int,bg=bf∧∃(bh:GH),GLe a6 bh∧Fr a 64 [(1,(pb ad)),(3,(iv ae)),(5,(iv a5)),(6,(iv bg))]∧Mem W bh w (ib ad 29 [aa]::H)) bd ⟨_,Z,_,gr,f.k Z,m⟩ ?_
      clear bd f m
      rintro bf bi bj bk a w ⟨bg,rfl,bh,bl,f,m⟩
      have ac:=rd2 bl ac
      refine Ah (Af ?_)
      refine Aa f Z λa f=>B9 underlying29 Z sizeOf27 f Z λa f=>AR 0 0 m Cx f Z Z Z Z λa f=>Aa f Z λa f=> ?_
      have⟨bm,bn,bj⟩:=bind_some bj
      refine BG T27 f Z Z Z ac bn λbo bp a bq br f=>AZ m CN f Z Z bq λa f=>Be underlying31 f Z Z br λa f=>Ai f Z Z AM λa f=>Ab ?_
      rcases Ae bj with⟨bs,bj⟩|⟨bs,bj⟩
      ·refine Am f Z bs ?_
       refine Ao ?_
       refine Ah (An (Ah ?_))
       refine Bf 15 AI (by kernel_rfl) m ?_
       refine DC 0 15 underlying29 Z sizeOf27 Z f Z λa f=>CM 1 15 0 Cx Z Z Z f Z λa f=>DC 2 15 underlying29 Z sizeOf27 Z f Z λa f=>CM 3 15 0 Cx Z Z Z f Z λa f=>Ag 4 15 Z f Z λa f=> ?_
       have⟨bt,bu,bj⟩:=bind_some bj
       refine B8 5 15 T27 ac bu Z f Z Z λbv bw a bx bz f=>Ca 6 15 CN bx Z f Z λa f=>Ag 7 15 Z f Z λa f=> ?_
       have⟨bA,bB,bj⟩:=bind_some bj
       refine B8 8 15 T31 bz bB Z f Z Z λbC bD a bE bF f=> ?_
       subst bF
       refine Ca 9 15 Pl2 bE Z f Z λa f=> ?_
       have⟨bG,bH,bj⟩:=bind_some bj
       refine B8 10 15 T27 ac bH Z f Z Z λbI bJ a bK bL f=>Ca 11 15 CN bK Z f Z λa f=>Ag 12 15 Z f Z λa f=> ?_
       have⟨bM,bN,bj⟩:=bind_some bj
       refine BP (i:=13) 15 Z (by kernel_rfl) Z f Z Z Z call115 (λ_ _ w bO m=>Wk.k m (rd1 bO bL) bN) λa f=>q_p 14 15 Z f (λ_=>Bv (f.e Z)) λa f=>A4 λbP w bQ m=>Ab ?_
       rcases Ae bj with⟨bR,bj⟩|⟨bR,bj⟩
       ·refine Am f Z bR ?_
        refine Af ?_
        refine Ac f Z λa f=>Ab ?_
        refine Ar ?_
        have m:Mem W bP w H:=Mem.drop (H':=[ib ad 29 [aa]]) m
        obtain rfl:=sj bj
        obtain rfl:=bk _ rfl
        obtain rfl:=sj a8
        obtain rfl:=a9 _ rfl
        obtain rfl:=sj hd
        exact⟨[(.bool false)],f.g Z,f.d,_,[],(gt ah (gt al (gt a0 (gt ba (gt bl bQ))))),m,Z,Z⟩
       ·refine Aj f Z bR ?_
        refine Ao ?_
        refine Ap ?_
        refine Aa f Z λa f=>Ai f Z Z Ax λa f=>Ac f Z λa f=>Ab ?_
        obtain rfl:=sj bj
        exact⟨_,Z,_,Z,_,(gt bl bQ),f.k Z,m⟩
      ·refine Aj f Z bs ?_
       refine AF Z ?_
       obtain rfl:=sj bj
       obtain rfl:=bk _ rfl
       exact⟨_,Z,_,bl,f.k Z,m⟩
     ·rintro a w ⟨_,rfl,be,bS,f,m⟩
      refine Ap ?_
      refine Aa f Z λa f=>Ai f Z Z Ax λa f=>Ac f Z λa f=>Ab ?_
      obtain rfl:=sj a8
      exact⟨_,Z,_,Z,_,(gt ba bS),f.k Z,m⟩
    ·refine Aj f Z bb ?_
     refine AF Z ?_
     have m:Mem W a6 w H:=Mem.drop (H':=[ib ad 29 [aa]]) m
     obtain rfl:=sj a8
     obtain rfl:=a9 _ rfl
     exact⟨_,Z,_,ba,f.weak trivial,m⟩
   ·rintro a w ⟨_,rfl,a3,bT,f,m⟩
    refine Af ?_
    refine Ac f Z λa f=>Ab ?_
    refine Ar ?_
    obtain rfl:=sj hd
    exact⟨[(.bool true)],f.g Z,f.d,_,[],(gt ah (gt al (gt a0 bT))),m,Z,Z⟩
theorem Wk.q {aa:Value}{ab:LL}{x1 x2:Int}(m:Mem W G w (H))(ac:R2 G aa ab){y:Bool}(hd:D.q ab x1 x2=some y):
  Calls prog 59 #[(.agg #[aa]),(iv x1),(iv x2)] w (Res W G H (λ_ Ho v=>Ho=[]∧v=(.bool y))):=by
 refine As (args:=[(.agg #[aa]),(iv x1),(iv x2)]) (N:=14) [.tmp 6] func59 Z Z (lb Z) Z λa f=> ?_
 unfold D.q at hd
 refine Af ?_
 refine B3 (cs:=[aa]) m f Z Z Z λad w a m f=>Ac f Z λa f=>Ay ?_
 refine B9 underlying29 Z sizeOf27 f Z λa f=>AR 0 0 m Cx f Z Z Z Z λa f=>Aa f Z λa f=> ?_
 have⟨ae,af,hd⟩:=bind_some hd
 refine BG T27 f Z Z Z ac af λag ah a ai aj f=>AZ m CN f Z Z ai λa f=>Aa f Z λa f=> ?_
 have⟨ak,al,hd⟩:=bind_some hd
 refine Ba f Z call115 (Wk.k m aj al) λam w an m a f=>Ac f Z λa f=>Ab ?_
 refine Ar ?_
 have m:Mem W am w H:=Mem.drop (H':=[ib ad 29 [aa]]) m
 obtain rfl:=sj hd
 exact⟨[(.bool ak)],f.g Z,f.d,_,[],an,m,Z,Z⟩
theorem Wk.K {x0:Bool}(m:Mem W G w (H)){y:Int}(hd:D.K x0=some y):
  Calls prog 129 #[(.bool x0)] w (Res W G H (λ_ Ho v=>Ho=[]∧v=(iv y))):=by
 refine As (args:=[(.bool x0)]) (N:=4) [.tmp 2] func129 Z Z (lb Z) Z λa f=> ?_
 unfold D.K at hd
 refine Af ?_
 refine Ac f Z λa f=>Ab (Ah (Af ?_))
 refine Aa f Z λa f=>Ab ?_
 rcases Ae hd with⟨aa,hd⟩|⟨aa,hd⟩
 ·refine Am f Z aa ?_
  refine Af ?_
  refine Ac f Z λa f=>Ab ?_
  refine Ar ?_
  obtain rfl:=sj hd
  exact⟨[(iv 1)],f.g Z,f.d,_,[],gr,m,Z,Z⟩
 ·refine Aj f Z aa ?_
  refine Ao ?_
  refine Af ?_
  refine Ac f Z λa f=>Ab ?_
  refine Ar ?_
  obtain rfl:=sj hd
  exact⟨[(iv 0)],f.g Z,f.d,_,[],gr,m,Z,Z⟩
theorem Wk.A0 {aa v1:Value}{ab:LL}{x1:LI}{x2:Int}(m:Mem W G w (H))(ac:R2 G aa ab)(h1:R1 G v1 x1){y:Int}(hd:D.A0 ab x1 x2=some y):
  Calls prog 116 #[(.agg #[aa]),v1,(iv x2)] w (Res W G H (λ_ Ho v=>Ho=[]∧v=(iv y))):=by
 refine As (args:=[(.agg #[aa]),v1,(iv x2)]) (N:=26) [.tmp 6] func116 Z Z (lb Z) Z λa f=> ?_
 unfold D.A0 at hd
 refine Af ?_
 refine B3 (cs:=[aa]) m f Z Z Z λad w a m f=>Ac f Z λa f=>Ay ?_
 refine Ac f Z λa f=>Ab (Ah (Af ?_))
 refine Ac f Z λa f=>Ab ?_
 have⟨ae,af,hd⟩:=bind_some hd
 refine AL (λa w=>∃ag:Int,ag=ae∧∃(ah:GH),GLe G ah∧Fr a 26 [(7,(iv ag))]∧Mem W ah w (H)) ?_ ?_
 ·refine An ?_
  refine AJ (λai a w=>∃aj:Int,∃ak:Int,(aj,ak)=ai∧∃(al:GH),GLe G al∧Fr a 26 [(1,v1),(2,(iv x2)),(3,(pb ad)),(7,(iv aj)),(8,(iv ak))]∧Mem W al w (ib ad 29 [aa]::H)) af ⟨_,_,Z,_,gr,f.k Z,m⟩ ?_
  clear af f m
  rintro ai am an ao a w ⟨aj,ak,rfl,al,ap,f,m⟩
  have h1:=rd1 ap h1
  have ac:=rd2 ap ac
  refine Ah (Af ?_)
  refine Aa f Z λa f=>Aa f Z λa f=>Be underlying31 f Z Z h1 λa f=>Ai f Z Z AM λa f=>Ab ?_
  rcases Ae an with⟨aq,an⟩|⟨aq,an⟩
  ·refine Am f Z aq ?_
   refine Ao ?_
   refine Ah (An ?_)
   refine Bf 11 AI (by kernel_rfl) m ?_
   refine Ag 0 11 Z f Z λa f=>BR (i:=1) (ds:=[aa]) 11 0 Bj Z Z Z Z (by kernel_rfl) Z f Z Z Z λa f=>Ag 2 11 Z f Z λa f=>Ag 3 11 Z f Z λa f=> ?_
   have⟨ar,au,an⟩:=bind_some an
   refine B8 4 11 T31 h1 au Z f Z Z λav aw a ax ay f=> ?_
   subst ay
   refine Ca 5 11 Pl2 ax Z f Z λa f=>Ag 6 11 Z f Z λa f=> ?_
   have⟨az,aA,an⟩:=bind_some an
   refine BP (i:=7) 11 Z (by kernel_rfl) Z f Z Z Z call59 (λ_ _ w aB m=>Wk.q m (rd2 aB ac) aA) λa f=> ?_
   have⟨aC,aD,an⟩:=bind_some an
   refine BP (i:=8) 11 Z (by kernel_rfl) Z f Z Z Z call129 (λ_ _ w aE m=>Wk.K m aD) λa f=>q_p 9 11 Z f (λ_=>Az (f.e Z) (f.e Z) Ax) λa f=>q_p 10 11 Z f (λ_=>CD (f.e Z)) λa f=>A4 λaF w aG m=>Ab (Ap ?_)
   refine Aa f Z λa f=>Ai f Z Z Ax λa f=>Ac f Z λa f=>Ab ?_
   obtain rfl:=sj an
   exact⟨_,Z,_,_,Z,_,(gt ap aG),f.k Z,m⟩
  ·refine Aj f Z aq ?_
   refine AF Z ?_
   have m:Mem W al w H:=Mem.drop (H':=[ib ad 29 [aa]]) m
   obtain rfl:=sj an
   obtain rfl:=ao _ rfl
   exact⟨_,Z,_,ap,f.k Z,m⟩
 ·rintro a w ⟨ag,rfl,ah,aH,f,m⟩
  refine Af ?_
  refine Aa f Z λa f=>Ac f Z λa f=>Ab ?_
  refine Ar ?_
  obtain rfl:=sj hd
  exact⟨[(iv ag)],f.g Z,f.d,_,[],aH,m,Z,Z⟩
theorem Wk.v0 {v0 v1:Value}{x0 x1:LI}(m:Mem W G w (H))(h0:R1 G v0 x0)(h1:R1 G v1 x1){y:Bool}(hd:D.v0 x0 x1=some y):
  Calls prog 118 #[v0,v1] w (Res W G H (λ_ Ho v=>Ho=[]∧v=(.bool y))):=by
 refine As (args:=[v0,v1]) (N:=40) [.tmp 4] func118 Z Z (lb Z) Z λa f=> ?_
 unfold D.v0 at hd
 refine Af ?_
 refine Ac f Z λa f=>Ab (Ah (Af ?_))
 refine Aa f Z λa f=>Be underlying31 f Z Z h0 λa f=>Aa f Z λa f=>Be underlying31 f Z Z h1 λa f=>Ai f Z Z C4 λa f=>Ab ?_
 rcases Ae hd with⟨aa,hd⟩|⟨aa,hd⟩
 ·refine Am f Z aa ?_
  refine Af ?_
  refine Aa f Z λa f=>Be underlying31 f Z Z h0 λa f=>Aa f Z λa f=>Be underlying31 f Z Z h1 λa f=>Ai f Z Z AM λa f=>Ac f Z λa f=>Ab ?_
  refine Ar ?_
  obtain rfl:=sj hd
  exact⟨[(.bool (decide ((x0.length:Int)<(x1.length:Int))))],f.g Z,f.d,_,[],gr,m,Z,Z⟩
 ·refine Aj f Z aa ?_
  refine Ao ?_
  refine Ah (Af ?_)
  refine Ac f Z λa f=>Ab ?_
  have⟨ab,ac,hd⟩:=bind_some hd
  refine AL (λa w=>∃q_64':Unit,ab= .inl q_64'∧∃(ad:GH),GLe G ad∧Fr a 40 []∧Mem W ad w (H)) ?_ ?_
  ·refine An ?_
   refine AJ (λae a w=>∃af:Int,af=ae∧∃(ag:GH),GLe G ag∧Fr a 40 [(0,v0),(1,v1),(5,(iv af))]∧Mem W ag w (H)) ac ⟨_,Z,_,gr,f.k Z,m⟩ ?_
   clear ac f m
   rintro ae ah ai aj a w ⟨af,rfl,ag,ak,f,m⟩
   have h0:=rd1 ak h0
   have h1:=rd1 ak h1
   refine Ah (Af ?_)
   refine Aa f Z λa f=>Aa f Z λa f=>Be underlying31 f Z Z h0 λa f=>Ai f Z Z AM λa f=>Ab ?_
   rcases Ae ai with⟨al,ai⟩|⟨al,ai⟩
   ·refine Am f Z al ?_
    refine Ao ?_
    refine Ah (An (Ah ?_))
    refine Bf 9 AI (by kernel_rfl) m ?_
    refine Ag 0 9 Z f Z λa f=>Ag 1 9 Z f Z λa f=> ?_
    have⟨am,an,ai⟩:=bind_some ai
    refine B8 2 9 T31 h0 an Z f Z Z λao ap a aq ar f=> ?_
    subst ar
    refine Ca 3 9 Pl2 aq Z f Z λa f=>Ag 4 9 Z f Z λa f=>Ag 5 9 Z f Z λa f=> ?_
    have⟨au,av,ai⟩:=bind_some ai
    refine B8 6 9 T31 h1 av Z f Z Z λaw ax a ay az f=> ?_
    subst az
    refine Ca 7 9 Pl2 ay Z f Z λa f=>q_p 8 9 Z f (λ_=>Az (f.e Z) (f.e Z) C4) λa f=>A4 λaA w aB m=> ?_
    have h0:=rd1 aB h0
    have h1:=rd1 aB h1
    refine Ab ?_
    rcases Ae ai with⟨aC,ai⟩|⟨aC,ai⟩
    ·refine Am f Z aC ?_
     refine Ah ?_
     refine Bf 10 AI (by kernel_rfl) m ?_
     refine Ag 0 10 Z f Z λa f=>Ag 1 10 Z f Z λa f=> ?_
     have⟨aD,aE,ai⟩:=bind_some ai
     refine B8 2 10 T31 h0 aE Z f Z Z λaF aG a aH aI f=> ?_
     subst aI
     refine Ca 3 10 Pl2 aH Z f Z λa f=>Ag 4 10 Z f Z λa f=>Ag 5 10 Z f Z λa f=> ?_
     have⟨aJ,aK,ai⟩:=bind_some ai
     refine B8 6 10 T31 h1 aK Z f Z Z λaL aM a aN aO f=> ?_
     subst aO
     refine Ca 7 10 Pl2 aN Z f Z λa f=>q_p 8 10 Z f (λ_=>Az (f.e Z) (f.e Z) AM) λa f=>q_p 9 10 Z f (λ_=>CD (f.e Z)) λa f=>A4 λaP w aQ m=>Ab ?_
     refine Ar ?_
     obtain rfl:=sj ai
     obtain rfl:=aj _ rfl
     obtain rfl:=sj hd
     exact⟨[(.bool (decide (aD<aJ)))],f.g Z,f.d,_,[],(gt ak (gt aB aQ)),m,Z,Z⟩
    ·refine Aj f Z aC ?_
     refine Ao ?_
     refine Ap ?_
     refine Aa f Z λa f=>Ai f Z Z Ax λa f=>Ac f Z λa f=>Ab ?_
     obtain rfl:=sj ai
     exact⟨_,Z,_,Z,_,(gt ak aB),f.k Z,m⟩
   ·refine Aj f Z al ?_
    refine AF Z ?_
    obtain rfl:=sj ai
    obtain rfl:=aj _ rfl
    exact⟨_,Z,_,ak,f.weak trivial,m⟩
  ·rintro a w ⟨_,rfl,ad,aR,f,m⟩
   refine Af ?_
   refine Ac f Z λa f=>Ab ?_
   refine Ar ?_
   obtain rfl:=sj hd
   exact⟨[(.bool false)],f.g Z,f.d,_,[],aR,m,Z,Z⟩
theorem Wk.F {W:World}(n:Nat):∀{w:World} {G:GH} {H:List Itm} {aa v1 v2:Value} {ab:LL} {x1 x2:LI} (m:Mem W G w (H)) (ac:R2 G aa ab) (h1:R1 G v1 x1) (h2:R1 G v2 x2) {y:(LI)} (hd:D.F n ab x1 x2=some y),
  Calls prog 49 #[(.agg #[aa]),v1,v2] w (Res W G H (λG' Ho v=>∃r0:Value,Ho=[]∧r0=v∧R1 G' r0 y)):=by
 induction n with
 |zero=>intros;rename_i hd;simp[D.F] at hd
 |succ fuel ih=>
  intro w G H aa v1 v2 ab x1 x2 m ac h1 h2 y hd
  refine As (args:=[(.agg #[aa]),v1,v2]) (N:=104) [.tmp 6] func49 Z Z (lb Z) Z λa f=> ?_
  unfold D.F at hd
  refine Af ?_
  refine B3 (cs:=[aa]) m f Z Z Z λad w a m f=>Ac f Z λa f=>Ab (Ah (Af ?_))
  refine Aa f Z λa f=>Be underlying31 f Z Z h2 λa f=>Ai f Z Z CF λa f=>Aa f Z λa f=> ?_
  refine Bu 6 (λa w=>∃ae,GLe G ae∧Mem W ae w (ib ad 29 [aa]::H)∧Fr a 104 [(0,(.agg #[aa])),(1,v1),(2,v2),(3,(pb ad)),(12,v2),(13,(iv (x2.length:Int))),(14,(.bool (decide ((0:Int)<(x2.length:Int))))),(15,(.bool (decide ((0:Int)<(x2.length:Int))))),(21,(.bool ((decide ((0:Int)<(x2.length:Int)))&&(decide ((x2.length:Int)≤(x1.length:Int))))))]) ?_ ?_
  ·rcases Bool.eq_false_or_eq_true (decide ((0:Int)<(x2.length:Int))) with af|af
   ·refine Au f af ?_
    refine Aa f Z λa f=>Au f af ?_
    refine Be underlying31 f Z Z h1 λa f=>Au f af ?_
    refine Aa f Z λa f=>Au f af ?_
    refine Be underlying31 f Z Z h2 λa f=>Au f af ?_
    refine Ai f Z Z Cm λa f=>l_o f (AD (f.e Z) af (f.e Z)) λa f=> ?_
    exact⟨_,gr,m,f.weak ⟨Z,Z,Z,Z,Z,Z,Z,Z,by rw[af];rfl,trivial⟩⟩
   ·refine Aw f af λa f=> ?_
    refine Aw f af λa f=>Aw f af λa f=>Aw f af λa f=>Aw f af λa f=>l_o f (AC (f.e Z) af (f.e Z)) λa f=> ?_
    exact⟨_,gr,m,f.weak ⟨Z,Z,Z,Z,Z,Z,Z,Z,by rw[af];rfl,trivial⟩⟩
  ·rintro a w ⟨ae,ag,m,f⟩
   have ac:=rd2 ag ac
   have h1:=rd1 ag h1
   have h2:=rd1 ag h2
   refine Ab ?_
   rcases Ae hd with⟨ah,hd⟩|⟨ah,hd⟩
   ·refine Am f Z ah ?_
    refine Af ?_
    refine Aa f Z λa f=>Ac f Z λa f=>Ab ?_
    refine Ar ?_
    have m:Mem W ae w H:=Mem.drop (H':=[ib ad 29 [aa]]) m
    obtain rfl:=sj hd
    exact⟨[v2],f.g Z,f.d,_,[],ag,m,_,Z,Z,h2⟩
   ·refine Aj f Z ah ?_
    refine Ao ?_
    refine Af ?_
    refine Aa f Z λa f=>Aa f Z λa f=>Be underlying31 f Z Z h1 λa f=>Ai f Z Z AT λa f=> ?_
    have⟨ai,aj,hd⟩:=bind_some hd
    refine BG T31 f Z Z Z h1 aj λak al a am an f=> ?_
    subst an
    refine AZ m Pl2 f Z Z am λa f=>Ac f Z λa f=>Ab (Ah (Af ?_))
    refine Ac f Z λa f=>Ab ?_
    have⟨ao,ap,hd⟩:=bind_some hd
    refine AL (λa w=>∃aq:LI,aq=ao∧∃(ar:GH) (au:Value),GLe ae ar∧Fr a 104 [(2,au)]∧Mem W ar w (H)∧R1 ar au aq) ?_ ?_
    ·refine An ?_
     refine AJ (λav a w=>∃aw:LI,∃ax:Int,(aw,ax)=av∧∃(ay:GH) (az:Value),GLe ae ay∧Fr a 104 [(1,v1),(2,az),(3,(pb ad)),(7,(iv ai)),(8,(iv ax))]∧Mem W ay w (ib ad 29 [aa]::H)∧R1 ay az aw) ap ⟨_,_,Z,_,v2,gr,f.k Z,m,h2⟩ ?_
     clear ap f m
     rintro av aA aB aC a w ⟨aw,ax,rfl,ay,az,aD,f,m,aE⟩
     have h1:=rd1 aD h1
     have ac:=rd2 aD ac
     refine Ah (Af ?_)
     refine Aa f Z λa f=>B9 underlying29 Z sizeOf27 f Z λa f=>AR 0 0 m Cx f Z Z Z Z λa f=>Aa f Z λa f=> ?_
     have⟨aF,aG,aB⟩:=bind_some aB
     refine BG T27 f Z Z Z ac aG λaH aI a aJ aK f=>AZ m CN f Z Z aJ λa f=>Be underlying31 f Z Z aK λa f=>Ai f Z Z AM λa f=>Ab ?_
     rcases Ae aB with⟨aL,aB⟩|⟨aL,aB⟩
     ·refine Am f Z aL ?_
      refine Ao ?_
      refine Ah (An (Af ?_))
      refine B9 underlying29 Z sizeOf27 f Z λa f=>AR 0 0 m Cx f Z Z Z Z λa f=>Aa f Z λa f=> ?_
      have⟨aM,aN,aB⟩:=bind_some aB
      refine BG T27 f Z Z Z ac aN λaO aP a aQ aR f=>AZ m CN f Z Z aQ λa f=>Aa f Z λa f=> ?_
      have⟨aS,aT,aB⟩:=bind_some aB
      refine BG T31 f Z Z Z aR aT λaU aV a aW aX f=> ?_
      subst aX
      refine AZ m Pl2 f Z Z aW λa f=>Ac f Z λa f=>Ay ?_
      refine A7 0 0 (ds:=[aa]) m Bj f Z Z Z Z Z λa f=>Aa f Z λa f=>Aa f Z λa f=> ?_
      have⟨aY,aZ,aB⟩:=bind_some aB
      refine Ba f Z call116 (Wk.A0 m ac h1 aZ) λa0 w a1 m a f=> ?_
      have h1:=rd1 a1 h1
      have aE:=rd1 a1 aE
      have ac:=rd2 a1 ac
      refine Ac f Z λa f=>Ab (An (Af ?_))
      refine Aa f Z λa f=>Aa f Z λa f=> ?_
      have⟨a2,a3,aB⟩:=bind_some aB
      refine BG T31 f Z Z Z h1 a3 λa4 a5 a a6 a7 f=> ?_
      subst a7
      refine AZ m Pl2 f Z Z a6 λa f=>Ai f Z Z CO λa f=>Aa f Z λa f=> ?_
      have⟨a8,a9,aB⟩:=bind_some aB
      refine Bu 4 (λa w=>∃ba,GLe a0 ba∧Mem W ba w (ib ad 29 [aa]::H)∧Fr a 104 [(1,v1),(2,az),(3,(pb ad)),(7,(iv ai)),(8,(iv ax)),(9,(iv aS)),(10,(iv aY)),(52,(iv aS)),(53,v1),(54,a4),(55,(iv a2)),(56,(.bool (decide (aS≤a2)))),(57,(.bool (decide (aS≤a2)))),(61,(.bool a8))]) ?_ ?_
      ·rcases Ae a9 with⟨bb,a9⟩|⟨bb,a9⟩
       ·refine Aw f bb λa f=> ?_
        refine Aw f bb λa f=>Aw f bb λa f=>l_o f (AD (f.e Z) bb (f.e Z)) λa f=> ?_
        obtain rfl:=sj a9
        exact⟨_,gr,m,f.k Z⟩
       ·refine Au f bb ?_
        refine Aa f Z λa f=>Au f bb ?_
        refine Aa f Z λa f=>Au f bb ?_
        have⟨bc,bd,a9⟩:=bind_some a9
        refine Ba f Z call115 (Wk.k m h1 bd) λbe w bf m a f=>l_o f (AC (f.e Z) bb (f.e Z)) λa f=> ?_
        obtain rfl:=sj a9
        exact⟨_,bf,m,f.k Z⟩
      ·rintro a w ⟨ba,bg,m,f⟩
       have h1:=rd1 bg h1
       have aE:=rd1 bg aE
       have ac:=rd2 bg ac
       refine Ac f Z λa f=>Ab ?_
       rcases Ae aB with⟨bh,aB⟩|⟨bh,aB⟩
       ·refine Am f Z bh ?_
        refine Ao ?_
        refine Ap ?_
        refine Aa f Z λa f=>Ai f Z Z Ax λa f=>Ac f Z λa f=>Ab ?_
        obtain rfl:=sj aB
        exact⟨_,Z,_,_,Z,_,az,(gt aD (gt a1 bg)),f.k Z,m,aE⟩
       ·refine Aj f Z bh ?_
        refine Af ?_
        refine Aa f Z λa f=>Ai f Z Z BE λa f=>Ac f Z λa f=>Ab ?_
        rcases Ae aB with⟨bi,aB⟩|⟨bi,aB⟩
        ·refine Am f Z bi ?_
         have⟨bj,bk,aB⟩:=bind_some aB
         refine AL (λa w=>∃bl:LI,bl=bj∧∃(bm:GH) (bn:Value),GLe ba bm∧Fr a 104 [(1,v1),(2,bn),(3,(pb ad)),(7,(iv ai)),(8,(iv ax))]∧Mem W bm w (ib ad 29 [aa]::H)∧R1 bm bn bl) ?_ ?_
         ·refine Bf 7 AI (by kernel_rfl) m ?_
          refine BR (i:=0) (ds:=[aa]) 7 0 Bj Z Z Z Z (by kernel_rfl) Z f Z Z Z λa f=>Ag 1 7 Z f Z λa f=>Ag 3 7 Z f Z λa f=>Ag 6 7 Z f Z λa f=>q_two (i:=2) (j:=4) (l1:= #[true,true,true,true,false,false,true,false,false]) (l2:= #[true,true,false,true,true,false,true,false,false]) Z Z (by kernel_rfl) Z Z ?_ ?_
          ·intro bo w bp m bq bq
           have h1:=rd1 bp h1
           have aE:=rd1 bp aE
           have ac:=rd2 bp ac
           have⟨br,bs,bk⟩:=bind_some bk
           refine AK f Z call117 (Wk.h m h1 bs) λbt bu bv w bw m bx a f=> ?_
           obtain⟨bz,bA,rfl,rfl,bB⟩:=bx
           have aE:=rd1 bw aE
           have ac:=rd2 bw ac
           refine Ab ?_
           refine bq bu [bA] _ _ bw m ?_
           refine q_on 4 Z λbC w bD m bE bE=> ?_
           have aE:=rd1 bD aE
           have ac:=rd2 bD ac
           have bB:=od1 bD bB
           refine BC (R:=R0) (xs:=([aS]:LI)) (RI.one _) m T31 f Z Z Z (by decide) (All2.cons Z (All2.nil _)) λbF bG w a m bH f=>Ab ?_
           refine bE bC [bF,bA] _ _ gr m ?_
           refine q_on 5 Z λbI w bJ m bK bK=> ?_
           have aE:=rd1 bJ aE
           have ac:=rd2 bJ ac
           have bH:=od1 bJ bH
           have bB:=od1 bJ bB
           have⟨bL,bM,bk⟩:=bind_some bk
           refine BJ (RI.one _) 1 m bB Z T31 Z (by decide) f Z Z Z (Ow.src (j:=0) bH m Z) bM λbN bO w a m bP f=>Ab ?_
           refine bK bI [bF,bN] _ _ gr m ?_
           refine A4 λbQ w bR m=> ?_
           have aE:=rd1 bR aE
           have ac:=rd2 bR ac
           have bP:=od1 bR bP
           have m:=m.fr 1
           obtain⟨bS,bT,m,bU⟩:=Ow.stamp (RI.mono _) bP m
           have aE:=rd1 bT aE
           have ac:=rd2 bT ac
           have⟨bV,bW,bk⟩:=bind_some bk
           refine AK f Z call49 (ih m ac bU aE bW) λbX bY bZ w b0 m b1 a f=> ?_
           obtain⟨b2,rfl,rfl,b3⟩:=b1
           refine Ac f Z λa f=>Ab ?_
           have m:=m.fr 1
           have m:=m.eraseAt 1
           obtain rfl:=sj bk
           exact⟨_,Z,_,b2,(gt bp (gt bw (gt bD (gt bJ (gt bR (gt bT b0)))))),f.k Z,m,b3⟩
          ·intro bC w bD m bE bE
           have⟨br,bs,bk⟩:=bind_some bk
           have⟨bL,bM,bk⟩:=bind_some bk
           have⟨bV,bW,bk⟩:=bind_some bk
           have h1:=rd1 bD h1
           have aE:=rd1 bD aE
           have ac:=rd2 bD ac
           refine BC (R:=R0) (xs:=([aS]:LI)) (RI.one _) m T31 f Z Z Z (by decide) (All2.cons Z (All2.nil _)) λbF bG w a m bH f=>Ab ?_
           refine bE bC [bF] _ _ gr m ?_
           refine q_on 2 Z λbo w bp m bq bq=> ?_
           have h1:=rd1 bp h1
           have aE:=rd1 bp aE
           have ac:=rd2 bp ac
           have bH:=od1 bp bH
           refine AK f Z call117 (Wk.h m h1 bs) λbt bu bv w bw m bx a f=> ?_
           obtain⟨bz,bA,rfl,rfl,bB⟩:=bx
           have aE:=rd1 bw aE
           have ac:=rd2 bw ac
           have bH:=od1 bw bH
           refine Ab ?_
           refine bq bu [bA,bF] _ _ bw m ?_
           refine q_on 5 Z λbI w bJ m bK bK=> ?_
           have aE:=rd1 bJ aE
           have ac:=rd2 bJ ac
           have bB:=od1 bJ bB
           have bH:=od1 bJ bH
           refine BJ (RI.one _) 0 m bB Z T31 Z (by decide) f Z Z Z (Ow.src (j:=1) bH m Z) bM λbN bO w a m bP f=>Ab ?_
           refine bK bI [bN,bF] _ _ gr m ?_
           refine A4 λbQ w bR m=> ?_
           have aE:=rd1 bR aE
           have ac:=rd2 bR ac
           have bP:=od1 bR bP
           obtain⟨bS,bT,m,bU⟩:=Ow.stamp (RI.mono _) bP m
           have aE:=rd1 bT aE
           have ac:=rd2 bT ac
           refine AK f Z call49 (ih m ac bU aE bW) λbX bY bZ w b0 m b1 a f=> ?_
           obtain⟨b2,rfl,rfl,b3⟩:=b1
           refine Ac f Z λa f=>Ab ?_
           have m:=m.fr 1
           have m:=m.eraseAt 1
           obtain rfl:=sj bk
           exact⟨_,Z,_,b2,(gt bD (gt bp (gt bw (gt bJ (gt bR (gt bT b0)))))),f.k Z,m,b3⟩
         ·rintro a w ⟨bl,rfl,bm,bn,b4,f,m,b5⟩
          refine Ap ?_
          refine Aa f Z λa f=>Ai f Z Z Ax λa f=>Ac f Z λa f=>Ab ?_
          obtain rfl:=sj aB
          exact⟨_,Z,_,_,Z,_,bn,(gt aD (gt a1 (gt bg b4))),f.k Z,m,b5⟩
        ·refine Aj f Z bi ?_
         refine Ah ?_
         refine Bf 16 AI (by kernel_rfl) m ?_
         refine Ag 0 16 Z f Z λa f=>q_p 1 16 Z f (λ_=>Az (f.e Z) (f.e Z) BE) λa f=>Ag 2 16 Z f Z λa f=>BN (fuel':=9) (listed':= #[true,true,true,true,true,true,true,false,false,false,false,false,false,false,false,false]) (λa=>Fr a 104 [(1,v1),(2,az),(3,(pb ad)),(7,(iv ai)),(8,(iv ax)),(9,(iv aS)),(10,(iv aY)),(62,(.bool (aY==1))),(74,(iv aY)),(75,(.bool (aY==2))),(76,(.bool (aY==2))),(80,(.bool ((aY==2)&&(decide ((3:Int)≤(x1.length:Int))))))]) ?_ ?_
         ·intro a f
          refine Ag 7 16 Z f Z λa f=> ?_
          have⟨b6,b7,aB⟩:=bind_some aB
          refine BN (fuel':=1) (listed':= #[true,true,true,true,true,true,true,true,true,true,true,true,true,true,true,false]) (λa=>Fr a 104 [(1,v1),(2,az),(3,(pb ad)),(7,(iv ai)),(8,(iv ax)),(9,(iv aS)),(10,(iv aY)),(62,(.bool (aY==1))),(74,(iv aY)),(75,(.bool (aY==2))),(76,(.bool (aY==2))),(80,(.bool ((aY==2)&&(decide ((3:Int)≤(x1.length:Int)))))),(81,(.bool ((aY==2)&&(decide ((3:Int)≤(x1.length:Int)))))),(88,(.bool b6))]) ?_ ?_
          ·intro a f
           refine q_p 15 16 Z f (λ_=>CD (f.e Z)) λa f=>A4 λb8 w b9 m=> ?_
           have h1:=rd1 b9 h1
           have aE:=rd1 b9 aE
           refine Ab ?_
           rcases Ae aB with⟨ca,aB⟩|⟨ca,aB⟩
           ·refine Am f Z ca ?_
            refine Af ?_
            refine Aa f Z λa f=> ?_
            have⟨cb,cc,aB⟩:=bind_some aB
            refine AK f Z call117 (Wk.h m h1 cc) λcd ce cf w cg m ch a f=> ?_
            obtain⟨ci,cj,rfl,rfl,ck⟩:=ch
            have aE:=rd1 cg aE
            refine Aa f Z λa f=>BC (R:=R0) (xs:=([aS]:LI)) (RI.one _) m T31 f Z Z Z (by decide) (All2.cons Z (All2.nil _)) λcl cm w a m cn f=> ?_
            have⟨co,cp,aB⟩:=bind_some aB
            refine BJ (RI.one _) 1 m ck Z T31 Z (by decide) f Z Z Z (Ow.src (j:=0) cn m Z) cp λcq cr w a m ct f=>Ac f Z λa f=>Ay ?_
            refine Aa f Z λa f=>Be underlying31 f Z Z aE λa f=>Ai f Z Z BE λa f=>Aa f Z λa f=> ?_
            have⟨cu,cv,aB⟩:=bind_some aB
            refine Bu 4 (λa w=>∃cw,GLe ce cw∧Mem W cw w (cl::cq::ib ad 29 [aa]::H)∧Fr a 104 [(1,v1),(2,az),(3,(pb ad)),(7,(iv ai)),(8,(iv ax)),(9,(iv aS)),(10,(iv aY)),(11,cr),(94,az),(95,(iv (aw.length:Int))),(96,(.bool ((aw.length:Int)==0))),(97,(.bool ((aw.length:Int)==0))),(101,(.bool cu))]) ?_ ?_
            ·rcases Ae cv with⟨cx,cv⟩|⟨cx,cv⟩
             ·refine Aw f cx λa f=> ?_
              refine Aw f cx λa f=>Aw f cx λa f=>l_o f (AD (f.e Z) cx (f.e Z)) λa f=> ?_
              obtain rfl:=sj cv
              exact⟨_,gr,m,f.k Z⟩
             ·refine Au f cx ?_
              refine Aa f Z λa f=>Au f cx ?_
              refine Aa f Z λa f=>Au f cx ?_
              have⟨cy,cz,cv⟩:=bind_some cv
              refine AK f Z call118 (Ow.lendCall (RI.mono _) 1 ct m Z (λcA cB m cC=>Wk.v0 m cC (rd1 cB aE) cz) (λ_ _ _ _ h=>h)) λcD cE cF w cG m cH a f=> ?_
              obtain⟨rfl,rfl⟩:=cH
              refine l_o f (AC (f.e Z) cx (f.e Z)) λa f=> ?_
              obtain rfl:=sj cv
              exact⟨_,cG,m,f.k Z⟩
            ·rintro a w ⟨cw,cI,m,f⟩
             have aE:=rd1 cI aE
             have ct:=od1 cI ct
             refine Ab ?_
             rcases Ae aB with⟨cJ,aB⟩|⟨cJ,aB⟩
             ·refine Am f Z cJ ?_
              refine Ap ?_
              refine Aa f Z λa f=>Ac f Z λa f=>Ab (Ap ?_)
              refine Aa f Z λa f=>Ai f Z Z Ax λa f=>Ac f Z λa f=>Ab ?_
              have m:=m.fr 1
              obtain⟨cK,cL,m,cM⟩:=Ow.stamp (RI.mono _) ct m
              have m:=m.fr 1
              have m:=m.eraseAt 1
              obtain rfl:=sj aB
              exact⟨_,Z,_,_,Z,_,cr,(gt aD (gt a1 (gt bg (gt b9 (gt cg (gt cI cL)))))),f.k Z,m,cM⟩
             ·refine Aj f Z cJ ?_
              refine Ao ?_
              refine Ap ?_
              refine Aa f Z λa f=>Ai f Z Z Ax λa f=>Ac f Z λa f=>Ab ?_
              have m:=m.fr 2
              have m:=m.eraseAt 2
              have m:=m.eraseAt 1
              obtain rfl:=sj aB
              exact⟨_,Z,_,_,Z,_,az,(gt aD (gt a1 (gt bg (gt b9 (gt cg cI))))),f.k Z,m,aE⟩
           ·refine Aj f Z ca ?_
            refine Ao ?_
            refine Ap ?_
            refine Aa f Z λa f=>Ai f Z Z Ax λa f=>Ac f Z λa f=>Ab ?_
            obtain rfl:=sj aB
            exact⟨_,Z,_,_,Z,_,az,(gt aD (gt a1 (gt bg b9))),f.k Z,m,aE⟩
          ·intro cN
           rcases Ae b7 with⟨cO,b7⟩|⟨cO,b7⟩
           ·refine BR (i:=8) (ds:=[aa]) 16 0 Bj Z Z Z Z (by kernel_rfl) Z f (AS f Z Z Z cO) Z Z λa f=> ?_
            refine Ag (hw:=wo f cO) 9 16 Z f Z λa f=> ?_
            have⟨cP,cQ,b7⟩:=bind_some b7
            refine B8 (hw:=wo f cO) 10 16 T31 h1 cQ Z f Z Z λcR cS a cT cU f=> ?_
            subst cU
            refine Ca (hw:=wo f cO) 11 16 Pl2 cT Z f Z λa f=>Ag (hw:=wo f cO) 12 16 Z f Z λa f=> ?_
            have⟨cV,cW,b7⟩:=bind_some b7
            refine BP (i:=13) 16 Z (by kernel_rfl) Z f (AS f Z Z Z cO) Z Z call59 (λ_ _ w cX m=>Wk.q m (rd2 cX ac) cW) λa f=>q_p 14 16 Z f (λ_=>AD (f.e Z) cO (f.e Z)) λa f=> ?_
            obtain rfl:=sj b7
            exact cN _ (f.k Z)
           ·refine Ak 8 16 Z f cO λa f=> ?_
            refine Ak 9 16 Z f cO λa f=>Ak 10 16 Z f cO λa f=>Ak 11 16 Z f cO λa f=>Ak 12 16 Z f cO λa f=>Ak 13 16 Z f cO λa f=>q_p 14 16 Z f (λ_=>AC (f.e Z) cO (f.e Z)) λa f=> ?_
            obtain rfl:=sj b7
            exact cN _ (f.k Z)
         ·intro cY
          rcases Bool.eq_false_or_eq_true (aY==2) with cZ|cZ
          ·refine Ag (hw:=wo f cZ) 3 16 Z f Z λa f=> ?_
           refine q_len (i:=4) 16 underlying31 h1 Z (by kernel_rfl) Z f (AS f Z Z Z cZ) Z Z λa f=>q_p (hw:=wo f cZ) 5 16 Z f (λ_=>Az (f.e Z) (f.e Z) Cm) λa f=>q_p 6 16 Z f (λ_=>AD (f.e Z) cZ (f.e Z)) λa f=> ?_
           exact cY _ (f.weak ⟨Z,Z,Z,Z,Z,Z,Z,Z,Z,Z,Z,by rw[cZ];rfl,trivial⟩)
          ·refine Ak 3 16 Z f cZ λa f=> ?_
           refine Ak 4 16 Z f cZ λa f=>Ak 5 16 Z f cZ λa f=>q_p 6 16 Z f (λ_=>AC (f.e Z) cZ (f.e Z)) λa f=> ?_
           exact cY _ (f.weak ⟨Z,Z,Z,Z,Z,Z,Z,Z,Z,Z,Z,by rw[cZ];rfl,trivial⟩)
     ·refine Aj f Z aL ?_
      refine AF Z ?_
      have m:Mem W ay w H:=Mem.drop (H':=[ib ad 29 [aa]]) m
      obtain rfl:=sj aB
      obtain rfl:=aC _ rfl
      exact⟨_,Z,_,az,aD,f.k Z,m,aE⟩
    ·rintro a w ⟨aq,rfl,ar,au,c0,f,m,c1⟩
     refine Af ?_
     refine Aa f Z λa f=>Ac f Z λa f=>Ab ?_
     refine Ar ?_
     obtain rfl:=sj hd
     exact⟨[au],f.g Z,f.d,_,[],(gt ag c0),m,_,Z,Z,c1⟩
theorem Wk.i {aa v1 v2:Value}{ab:LL}{x1 x2:LI}(m:Mem W G w (H))(ac:R2 G aa ab)(h1:R1 G v1 x1)(h2:R1 G v2 x2){y:(LI)}(hd:D.i ab x1 x2=some y):
  Calls prog 49 #[(.agg #[aa]),v1,v2] w (Res W G H (λG' Ho v=>∃r0:Value,Ho=[]∧r0=v∧R1 G' r0 y)):=by
 exact Wk.F Bq m ac h1 h2 hd
theorem Wk.k0 {aa:Value}{ab:LL}(m:Mem W G w (H))(ac:R2 G aa ab){y:(LI)×Bool}(hd:D.k0 ab=some y):
  Calls prog 10 #[(.agg #[aa])] w (Res W G H (λG' Ho v=>∃r0:Value,Ho=[]∧v= .tuple #[r0,(.bool y.2)]∧R1 G' r0 y.1)):=by
 refine As (args:=[(.agg #[aa])]) (N:=26) [.tmp 2,.tmp 3] func10 Z Z (lb Z) Z λa f=> ?_
 unfold D.k0 at hd
 refine Af ?_
 refine B3 (cs:=[aa]) m f Z Z Z λad w a m f=>Ac f Z λa f=>Ac f Z λa f=>Ay ?_
 refine BC (R:=R0) (xs:=([]:LI)) (RI.one _) m T31 f Z Z Z (by decide) (All2.nil _) λae af w a m ag f=>Ac f Z λa f=>Ab (Ah (Af ?_))
 refine Ac f Z λa f=>Ab ?_
 obtain⟨ah,ai,m,aj⟩:=Ow.stamp (RI.mono _) ag m
 have ac:=rd2 ai ac
 have⟨ak,al,hd⟩:=bind_some hd
 refine AL (λa w=>∃am:LI,am=ak∧∃(an:GH) (ao:Value),GLe ah an∧Fr a 26 [(4,ao)]∧Mem W an w (H)∧R1 an ao am) ?_ ?_
 ·refine An ?_
  refine AJ (λap a w=>∃aq:LI,∃ar:Int,(aq,ar)=ap∧∃(au:GH) (av:Value),GLe ah au∧Fr a 26 [(1,(pb ad)),(4,av),(5,(iv ar))]∧Mem W au w (ib ad 29 [aa]::H)∧R1 au av aq) al ⟨_,_,Z,_,af,gr,f.k Z,m,aj⟩ ?_
  clear al f m
  rintro ap aw ax ay a w ⟨aq,ar,rfl,au,av,az,f,m,aA⟩
  have ac:=rd2 az ac
  refine Ah (Af ?_)
  refine Aa f Z λa f=>A7 0 0 (ds:=[aa]) m Bj f Z Z Z Z Z λa f=> ?_
  have⟨aB,aC,ax⟩:=bind_some ax
  refine Ba f Z call47 (Wk.d m ac aC) λaD w aE m a f=> ?_
  have aA:=rd1 aE aA
  have ac:=rd2 aE ac
  refine Ai f Z Z AM λa f=>Aa f Z λa f=> ?_
  have⟨aF,aG,ax⟩:=bind_some ax
  refine Bu 3 (λa w=>∃aH,GLe aD aH∧Mem W aH w (ib ad 29 [aa]::H)∧Fr a 26 [(1,(pb ad)),(4,av),(5,(iv ar)),(7,(iv ar)),(8,(.agg #[aa])),(9,(iv aB)),(10,(.bool (decide (ar<aB)))),(11,(.bool (decide (ar<aB)))),(14,(.bool aF))]) ?_ ?_
  ·rcases Ae aG with⟨aI,aG⟩|⟨aI,aG⟩
   ·refine Au f aI ?_
    refine A7 0 0 (ds:=[aa]) m Bj f Z Z Z Z Z λa f=>Au f aI ?_
    have⟨aJ,aK,aG⟩:=bind_some aG
    refine Ba f Z call48 (Wk.z m ac aK) λaL w aM m a f=>l_o f (AD (f.e Z) aI (f.e Z)) λa f=> ?_
    obtain rfl:=sj aG
    exact⟨_,aM,m,f.k Z⟩
   ·refine Aw f aI λa f=> ?_
    refine Aw f aI λa f=>l_o f (AC (f.e Z) aI (f.e Z)) λa f=> ?_
    obtain rfl:=sj aG
    exact⟨_,gr,m,f.k Z⟩
  ·rintro a w ⟨aH,aN,m,f⟩
   have aA:=rd1 aN aA
   have ac:=rd2 aN ac
   refine Ab ?_
   rcases Ae ax with⟨aO,ax⟩|⟨aO,ax⟩
   ·refine Am f Z aO ?_
    refine Ao ?_
    refine Ah (An (Ap ?_))
    refine A7 0 0 (ds:=[aa]) m Bj f Z Z Z Z Z λa f=>Aa f Z λa f=>BC (R:=R0) (xs:=([ar]:LI)) (RI.one _) m T31 f Z Z Z (by decide) (All2.cons Z (All2.nil _)) λaP aQ w a m aR f=>Aa f Z λa f=> ?_
    obtain⟨aS,aT,m,aU⟩:=Ow.stamp (RI.mono _) aR m
    have aA:=rd1 aT aA
    have ac:=rd2 aT ac
    have⟨aV,aW,ax⟩:=bind_some ax
    refine AK f Z call49 (Wk.i m ac aU aA aW) λaX aY aZ w a0 m a1 a f=> ?_
    obtain⟨a2,rfl,rfl,a3⟩:=a1
    refine Ac f Z λa f=>Ab (Ap ?_)
    refine Aa f Z λa f=>Ai f Z Z Ax λa f=>Ac f Z λa f=>Ab ?_
    obtain rfl:=sj ax
    exact⟨_,Z,_,_,Z,_,a2,(gt az (gt aE (gt aN (gt aT a0)))),f.k Z,m,a3⟩
   ·refine Aj f Z aO ?_
    refine AF Z ?_
    have m:Mem W aH w H:=Mem.drop (H':=[ib ad 29 [aa]]) m
    obtain rfl:=sj ax
    obtain rfl:=ay _ rfl
    exact⟨_,Z,_,av,(gt az (gt aE aN)),f.k Z,m,aA⟩
 ·rintro a w ⟨am,rfl,an,ao,a4,f,m,a5⟩
  refine Af ?_
  refine Aa f Z λa f=>Aa f Z λa f=>Be underlying31 f Z Z a5 λa f=>Ai f Z Z CF λa f=>Ac f Z λa f=>Ac f Z λa f=>Ab ?_
  refine Ar ?_
  obtain rfl:=sj hd
  exact⟨[ao,(.bool (decide ((0:Int)<(am.length:Int))))],⟨f.get _ _ Z,f.get _ _ Z,trivial⟩,f.d,_,[],(gt ai a4),m,_,Z,Z,a5⟩
theorem Wk.d0 {x0 x1 x2:Int}(m:Mem W G w (H)){y:Bool}(hd:D.d0 x0 x1 x2=some y):
  Calls prog 123 #[(iv x0),(iv x1),(iv x2)] w (Res W G H (λ_ Ho v=>Ho=[]∧v=(.bool y))):=by
 refine As (args:=[(iv x0),(iv x1),(iv x2)]) (N:=15) [.tmp 6] func123 Z Z (lb Z) Z λa f=> ?_
 unfold D.d0 at hd
 refine Af ?_
 refine Ac f Z λa f=>Ay ?_
 refine Aa f Z λa f=>Aa f Z λa f=>Ai f Z Z CO λa f=>Aa f Z λa f=> ?_
 refine Bu 4 (λa w=>∃aa,GLe G aa∧Mem W aa w (H)∧Fr a 15 [(0,(iv x0)),(1,(iv x1)),(2,(iv x2)),(7,(iv x1)),(8,(iv x0)),(9,(.bool (decide (x1≤x0)))),(10,(.bool (decide (x1≤x0)))),(14,(.bool ((decide (x1≤x0))&&(decide (x0≤x2)))))]) ?_ ?_
 ·rcases Bool.eq_false_or_eq_true (decide (x1≤x0)) with ab|ab
  ·refine Au f ab ?_
   refine Aa f Z λa f=>Au f ab ?_
   refine Aa f Z λa f=>Au f ab ?_
   refine Ai f Z Z CO λa f=>l_o f (AD (f.e Z) ab (f.e Z)) λa f=> ?_
   exact⟨_,gr,m,f.weak ⟨Z,Z,Z,Z,Z,Z,Z,by rw[ab];rfl,trivial⟩⟩
  ·refine Aw f ab λa f=> ?_
   refine Aw f ab λa f=>Aw f ab λa f=>l_o f (AC (f.e Z) ab (f.e Z)) λa f=> ?_
   exact⟨_,gr,m,f.weak ⟨Z,Z,Z,Z,Z,Z,Z,by rw[ab];rfl,trivial⟩⟩
 ·rintro a w ⟨aa,ac,m,f⟩
  refine Ac f Z λa f=>Ab ?_
  refine Ar ?_
  obtain rfl:=sj hd
  exact⟨[(.bool ((decide (x1≤x0))&&(decide (x0≤x2))))],f.g Z,f.d,_,[],ac,m,Z,Z⟩
theorem Wk.h0 {v0:Value}{x0:LI}{x1:Int}(m:Mem W G w (H))(h0:R1 G v0 x0){y:Bool}(hd:D.h0 x0 x1=some y):
  Calls prog 103 #[v0,(iv x1)] w (Res W G H (λ_ Ho v=>Ho=[]∧v=(.bool y))):=by
 refine As (args:=[v0,(iv x1)]) (N:=33) [.tmp 4] func103 Z Z (lb Z) Z λa f=> ?_
 unfold D.h0 at hd
 refine Af ?_
 refine Ac f Z λa f=>Ab (Ah (Af ?_))
 refine Aa f Z λa f=>Be underlying31 f Z Z h0 λa f=>Aa f Z λa f=>Ab ?_
 have⟨aa,ab,hd⟩:=bind_some hd
 refine AL (λa w=>∃q_181':Unit,aa= .inl q_181'∧∃(ac:GH),GLe G ac∧Fr a 33 []∧Mem W ac w (H)) ?_ ?_
 ·refine An ?_
  refine AJ (λad a w=>∃ae:Int,ae=ad∧∃(af:GH),GLe G af∧Fr a 33 [(0,v0),(1,(iv x1)),(7,v0),(8,(iv (x0.length:Int))),(9,(iv ae))]∧Mem W af w (H)) ab ⟨_,Z,_,gr,f.k Z,m⟩ ?_
  clear ab f m
  rintro ad ag ah ai a w ⟨ae,rfl,af,aj,f,m⟩
  have h0:=rd1 aj h0
  refine Af ?_
  refine Ai f Z Z AM λa f=>Ab (Ah ?_)
  rcases Ae ah with⟨ak,ah⟩|⟨ak,ah⟩
  ·refine Am f Z ak ?_
   refine Ao ?_
   refine Ah (An (Af ?_))
   refine Aa f Z λa f=> ?_
   have⟨al,am,ah⟩:=bind_some ah
   refine BG T31 f Z Z Z h0 am λan ao a ap aq f=> ?_
   subst aq
   refine AZ m Pl2 f Z Z ap λa f=>Ac f Z λa f=>Ac f Z λa f=>Ay ?_
   refine Aa f Z λa f=>Aa f Z λa f=>Ai f Z Z AT λa f=> ?_
   have⟨ar,au,ah⟩:=bind_some ah
   refine Ba f Z call123 (Wk.d0 m au) λav w aw m a f=> ?_
   have h0:=rd1 aw h0
   refine l_o f (Bv (f.e Z)) λa f=>Aa f Z λa f=> ?_
   have⟨ax,ay,ah⟩:=bind_some ah
   refine Bu 12 (λa w=>∃az,GLe av az∧Mem W az w (H)∧Fr a 33 [(0,v0),(1,(iv x1)),(5,(iv ae)),(6,(iv al)),(7,v0),(8,(iv (x0.length:Int))),(9,(iv ae)),(14,(iv al)),(15,(iv x1)),(16,(iv (i64.wrap (x1-1)))),(17,(.bool ar)),(18,(.bool (!ar))),(19,(.bool (!ar))),(31,(.bool ax))]) ?_ ?_
   ·rcases Ae ay with⟨aA,ay⟩|⟨aA,ay⟩
    ·refine Aw f aA λa f=> ?_
     refine Aw f aA λa f=>Aw f aA λa f=>DZ f Z Z Z λa f=>DZ f Z Z Z λa f=>DZ f Z Z Z λa f=>DZ f Z Z Z λa f=>DZ f Z Z Z λa f=>DZ f Z Z Z λa f=>DZ f Z Z Z λa f=>Aw f aA λa f=>l_o f (AD (f.e Z) aA (f.e Z)) λa f=> ?_
     obtain rfl:=sj ay
     exact⟨_,gr,m,f.k Z⟩
    ·refine Au f aA ?_
     refine Aa f Z λa f=>Au f aA ?_
     refine Ai f Z Z CF λa f=>Au f aA ?_
     refine Aa f Z λa f=> ?_
     have⟨aB,aC,ay⟩:=bind_some ay
     refine Bu 8 (λa w=>∃aD,GLe av aD∧Mem W aD w (H)∧Fr a 33 [(0,v0),(1,(iv x1)),(5,(iv ae)),(6,(iv al)),(7,v0),(8,(iv (x0.length:Int))),(9,(iv ae)),(14,(iv al)),(15,(iv x1)),(16,(iv (i64.wrap (x1-1)))),(17,(.bool ar)),(18,(.bool (!ar))),(19,(.bool (!ar))),(20,(iv ae)),(21,(.bool (decide ((0:Int)<ae)))),(22,(.bool (decide ((0:Int)<ae)))),(30,(.bool aB))]) ?_ ?_
     ·rcases Ae aC with⟨aE,aC⟩|⟨aE,aC⟩
      ·refine Au f aE ?_
       refine Aa f Z λa f=>Au f aE ?_
       refine Aa f Z λa f=>Au f aE ?_
       refine Ai f Z Z AT λa f=>Au f aE ?_
       have⟨aF,aG,aC⟩:=bind_some aC
       refine BG T31 f Z Z Z h0 aG λaH aI a aJ aK f=> ?_
       subst aK
       refine Au f aE ?_
       refine AZ m Pl2 f Z Z aJ λa f=>Au f aE ?_
       refine Aa f Z λa f=>Au f aE ?_
       refine Ai f Z Z Cm λa f=>Au f aA ?_
       refine l_o f (AD (f.e Z) aE (f.e Z)) λa f=> ?_
       obtain rfl:=sj aC
       exact⟨_,gr,m,f.k Z⟩
      ·refine Aw f aE λa f=> ?_
       refine Aw f aE λa f=>Aw f aE λa f=>Aw f aE λa f=>Aw f aE λa f=>Aw f aE λa f=>Aw f aE λa f=>Au f aA ?_
       refine l_o f (AC (f.e Z) aE (f.e Z)) λa f=> ?_
       obtain rfl:=sj aC
       exact⟨_,gr,m,f.k Z⟩
     ·rintro a w ⟨aD,aL,m,f⟩
      refine l_o f (AC (f.e Z) aA (f.e Z)) λa f=> ?_
      obtain rfl:=sj ay
      exact⟨_,aL,m,f.k Z⟩
   ·rintro a w ⟨az,aM,m,f⟩
    refine Ab ?_
    rcases Ae ah with⟨aN,ah⟩|⟨aN,ah⟩
    ·refine Am f Z aN ?_
     refine Af ?_
     refine Ac f Z λa f=>Ab ?_
     refine Ar ?_
     obtain rfl:=sj ah
     obtain rfl:=ai _ rfl
     obtain rfl:=sj hd
     exact⟨[(.bool false)],f.g Z,f.d,_,[],(gt aj (gt aw aM)),m,Z,Z⟩
    ·refine Aj f Z aN ?_
     refine Ao ?_
     refine Ap ?_
     refine Ai f Z Z Ax λa f=>Aa f Z λa f=>Ab ?_
     obtain rfl:=sj ah
     exact⟨_,Z,_,Z,_,(gt aj (gt aw aM)),f.k Z,m⟩
  ·refine Aj f Z ak ?_
   refine AF Z ?_
   obtain rfl:=sj ah
   obtain rfl:=ai _ rfl
   exact⟨_,Z,_,aj,f.weak trivial,m⟩
 ·rintro a w ⟨_,rfl,ac,aO,f,m⟩
  refine Af ?_
  refine Ac f Z λa f=>Ab ?_
  refine Ar ?_
  obtain rfl:=sj hd
  exact⟨[(.bool true)],f.g Z,f.d,_,[],aO,m,Z,Z⟩
end Go.Proofs.YtmkcbhidbdggiaaDoor
