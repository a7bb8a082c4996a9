/- Parts. -/
import Derived.Test.YtblebdlmoffmjaaDoorNg4
set_option linter.unusedVariables false
set_option linter.unusedSimpArgs false
set_option linter.unusedSectionVars false
namespace Go.Sx
def fr1 (L:LI)(x:Fct):Int:=
 if x.1=1∨x.1=2 then ior .u32 (ishl .u32 1 x.2.1) (ishl .u32 1 x.2.2)
 else if x.1=3 then ior .u32 (ishl .u32 1 x.2.1) (ishl .u32 1 (3+x.2.2))
 else if x.1=4 then L.getD x.2.1.toNat 0
 else if x.1=5∨x.1=6 then ior .u32 (L.getD x.2.1.toNat 0) (L.getD x.2.2.toNat 0)
 else if x.1=7 then iandNot .u32 (L.getD x.2.2.toNat 0) (ishl .u32 1 x.2.1)
 else if x.1=8 then iandNot .u32 (L.getD x.2.2.toNat 0) (ishl .u32 1 (3+x.2.1))
 else 0
def frN (f:List Fct):Nat→LI
 |0=>[]
 |n+1=>frN f n++[fr1 (frN f n) (f.getD n (0,0,0))]
theorem Cp (f:List Fct):∀n,(frN f n).length=n
 |0=>rfl
 |n+1=>by rw[frN,List.length_append,Cp f n];rfl
theorem Ec (f:List Fct){j:Nat}:∀n,j<n→(frN f n).getD j 0=fr1 (frN f j) (f.getD j (0,0,0))
 |0,h=>by omega
 |n+1,h=>by
  rw[frN]
  by_cases hj:j<n
  ·rw[←Ec f n hj]
   simp only[List.getD_eq_getElem?_getD]
   rw[List.getElem?_append_left (by rw[Cp];exact hj)]
  ·obtain rfl:j=n:=by omega
   simp only[List.getD_eq_getElem?_getD]
   rw[List.getElem?_append_right (by rw[Cp];omega),Cp,Nat.sub_self];rfl
def fre (f:List Fct)(i:Nat):Int:=fr1 (frN f i) (f.getD i (0,0,0))
theorem Cr (f:List Fct){j n:Nat}(h:j<n):(frN f n).getD j 0=fre f j:=Ec f n h
theorem fr1_vs {L:LI}(hL:∀j,VS (L.getD j 0))(x:Fct):VS (fr1 L x):=by
 unfold fr1
 split
 ·exact VS.ior _ _
 split
 ·exact VS.ior _ _
 split
 ·exact hL _
 split
 ·exact VS.ior _ _
 split
 ·exact VS.iandNot _ _
 split
 ·exact VS.iandNot _ _
 ·exact VS.zero
theorem CE (f:List Fct):∀n j,VS ((frN f n).getD j 0)
 |0,j=>by simpa [frN] using VS.zero
 |n+1,j=>by
  by_cases hj:j<n+1
  ·rw[Ec f _ hj]
   by_cases hjn:j<n
   ·rw[←Ec f n hjn];exact CE f n j
   ·obtain rfl:j=n:=by omega
    exact fr1_vs (CE f j) _
  ·have:(frN f (n+1)).getD j 0=0:=by
    rw[List.getD_eq_getElem?_getD,List.getElem?_eq_none (by rw[Cp];omega)];rfl
   rw[this];exact VS.zero
theorem fre_vs (f:List Fct)(i:Nat):VS (fre f i):=fr1_vs (CE f i) _
def fq (f:List Fct)(i q:Nat):Bool:=has (fre f i) q
theorem BR {x:Int}{n:Nat}(h:inr x n=true):∃m:Nat,x=(m:Int)∧m<n:=by
 obtain⟨h0,h1⟩:=inr_iff.1 h
 obtain⟨m,rfl⟩:=Int.eq_ofNat_of_zero_le h0
 exact⟨m,rfl,by omega⟩
theorem fq_eq {f:List Fct}{i:Nat}(hx:okF i (f.getD i (0,0,0))=true)(q:Nat):
  let x:=f.getD i (0,0,0)
  fq f i q=if x.1=1∨x.1=2 then decide (q=x.2.1.toNat)||decide (q=x.2.2.toNat)
   else if x.1=3 then decide (q=x.2.1.toNat)||decide (q=3+x.2.2.toNat)
   else if x.1=4 then fq f x.2.1.toNat q
   else if x.1=5∨x.1=6 then fq f x.2.1.toNat q||fq f x.2.2.toNat q
   else if x.1=7 then fq f x.2.2.toNat q&& !decide (q=x.2.1.toNat)
   else fq f x.2.2.toNat q&& !decide (q=3+x.2.1.toNat):=by
 unfold fq
 rw[show fre f i=fr1 (frN f i) (f.getD i (0,0,0)) from rfl]
 generalize f.getD i (0,0,0)=x at hx ⊢
 obtain⟨k,a,b⟩:=x
 unfold okF at hx
 unfold fr1
 dsimp only at hx ⊢
 rcases CY k with rfl|rfl|rfl|rfl|rfl|rfl|rfl|rfl|⟨h1,h2,h3,h4,h5,h6,h7,h8⟩
 ·have hx:(inr a 3&&inr b 3)=true:=hx
  rw[Bool.and_eq_true] at hx
  obtain⟨a,rfl,ha⟩:=BR hx.1
  obtain⟨b,rfl,hb⟩:=BR hx.2
  show has (ior .u32 (ishl .u32 1 (a:Int)) (ishl .u32 1 (b:Int))) q=(decide (q=a)||decide (q=b))
  rw[C4 (VS.ishl _ _) (VS.ishl _ _),Co (by omega),Co (by omega)]
 ·have hx:(inr a 3&&inr b 3)=true:=hx
  rw[Bool.and_eq_true] at hx
  obtain⟨a,rfl,ha⟩:=BR hx.1
  obtain⟨b,rfl,hb⟩:=BR hx.2
  show has (ior .u32 (ishl .u32 1 (a:Int)) (ishl .u32 1 (b:Int))) q=(decide (q=a)||decide (q=b))
  rw[C4 (VS.ishl _ _) (VS.ishl _ _),Co (by omega),Co (by omega)]
 ·have hx:(inr a 3&&inr b 2)=true:=hx
  rw[Bool.and_eq_true] at hx
  obtain⟨a,rfl,ha⟩:=BR hx.1
  obtain⟨b,rfl,hb⟩:=BR hx.2
  show has (ior .u32 (ishl .u32 1 (a:Int)) (ishl .u32 1 (3+(b:Int)))) q=(decide (q=a)||decide (q=3+b))
  rw[show (3+(b:Int))=((3+b:Nat):Int) by omega,C4 (VS.ishl _ _) (VS.ishl _ _),Co (by omega),Co (by omega)]
 ·have hx:(inr a i&&b==0)=true:=hx
  rw[Bool.and_eq_true] at hx
  show has ((frN f i).getD a.toNat 0) q=has (fre f a.toNat) q
  rw[Cr f (AJ hx.1)]
 ·have hx:(inr a i&&inr b i)=true:=hx
  rw[Bool.and_eq_true] at hx
  show has (ior .u32 ((frN f i).getD a.toNat 0) ((frN f i).getD b.toNat 0)) q=(has (fre f a.toNat) q||has (fre f b.toNat) q)
  rw[C4 (CE _ _ _) (CE _ _ _),Cr f (AJ hx.1),Cr f (AJ hx.2)]
 ·have hx:(inr a i&&inr b i)=true:=hx
  rw[Bool.and_eq_true] at hx
  show has (ior .u32 ((frN f i).getD a.toNat 0) ((frN f i).getD b.toNat 0)) q=(has (fre f a.toNat) q||has (fre f b.toNat) q)
  rw[C4 (CE _ _ _) (CE _ _ _),Cr f (AJ hx.1),Cr f (AJ hx.2)]
 ·have hx:(inr a 3&&inr b i)=true:=hx
  rw[Bool.and_eq_true] at hx
  obtain⟨a,rfl,ha⟩:=BR hx.1
  show has (iandNot .u32 ((frN f i).getD b.toNat 0) (ishl .u32 1 (a:Int))) q=(has (fre f b.toNat) q&& !decide (q=a))
  rw[Dx (CE _ _ _) (VS.ishl _ _),Cr f (AJ hx.2),Co (by omega)]
 ·have hx:(inr a 2&&inr b i)=true:=hx
  rw[Bool.and_eq_true] at hx
  obtain⟨a,rfl,ha⟩:=BR hx.1
  show has (iandNot .u32 ((frN f i).getD b.toNat 0) (ishl .u32 1 (3+(a:Int)))) q=(has (fre f b.toNat) q&& !decide (q=3+a))
  rw[show (3+(a:Int))=((3+a:Nat):Int) by omega,Dx (CE _ _ _) (VS.ishl _ _),Cr f (AJ hx.2),Co (by omega)]
 ·simp[h1,h2,h3,h4,h5,h6,h7,h8] at hx
theorem B1 {f:List Fct}{i:Nat}{a:Int}(h:inr a i=true):idx (frN f i) a=some ((frN f i).getD a.toNat 0):=by
 obtain⟨m,rfl,hm⟩:=BR h
 have hl:m<(frN f i).length:=by rw[Cp];exact hm
 rw[A8 hl]
 exact congrArg some (Bj hl 0).symm
theorem freeIn_eq {f:List Fct}(hf:frm f=true):D.L f=some (frN f f.length):=by
 obtain⟨hf1,hf40,hok⟩:=frm_iff.1 hf
 unfold D.L
 refine Ck (λi=>(frN f i,(i:Int))) f.length _ rfl (λi hi=> ?_) ?_
 ·dsimp only
  rw[dlt hi,cond_true,A8 hi,bs,←Bj hi (0,0,0),wi (by omega)]
  have hx:=hok i hi
  rw[show frN f (i+1)=frN f i++[fr1 (frN f i) (f.getD i (0,0,0))] from rfl]
  have happ:∀x:Int,AB (frN f i) [x]=some (frN f i++[x]):=λx=>Bf (by rw[Cp];simp;omega)
  generalize f.getD i (0,0,0)=x at hx ⊢
  obtain⟨k,a,b⟩:=x
  unfold okF at hx
  unfold fr1
  dsimp only at hx ⊢
  rcases CY k with rfl|rfl|rfl|rfl|rfl|rfl|rfl|rfl|⟨h1,h2,h3,h4,h5,h6,h7,h8⟩
  ·have hx:(inr a 3&&inr b 3)=true:=hx
   rw[Bool.and_eq_true] at hx
   show (D.e a).bind _=_
   rw[BP (inr_iff.1 hx.1).1,bs,BP (inr_iff.1 hx.2).1,bs,happ,bs];rfl
  ·have hx:(inr a 3&&inr b 3)=true:=hx
   rw[Bool.and_eq_true] at hx
   show (D.e a).bind _=_
   rw[BP (inr_iff.1 hx.1).1,bs,BP (inr_iff.1 hx.2).1,bs,happ,bs];rfl
  ·have hx:(inr a 3&&inr b 2)=true:=hx
   rw[Bool.and_eq_true] at hx
   obtain⟨b0,b1⟩:=inr_iff.1 hx.2
   show (D.e a).bind _=_
   rw[BP (inr_iff.1 hx.1).1,bs,w64 (by omega) (by omega),BP (by omega),bs,happ,bs];rfl
  ·have hx:(inr a i&&b==0)=true:=hx
   rw[Bool.and_eq_true] at hx
   show (idx (frN f i) a).bind _=_
   rw[B1 hx.1,bs,happ,bs];rfl
  ·have hx:(inr a i&&inr b i)=true:=hx
   rw[Bool.and_eq_true] at hx
   show (idx (frN f i) a).bind _=_
   rw[B1 hx.1,bs,B1 hx.2,bs,happ,bs];rfl
  ·have hx:(inr a i&&inr b i)=true:=hx
   rw[Bool.and_eq_true] at hx
   show (idx (frN f i) a).bind _=_
   rw[B1 hx.1,bs,B1 hx.2,bs,happ,bs];rfl
  ·have hx:(inr a 3&&inr b i)=true:=hx
   rw[Bool.and_eq_true] at hx
   show (idx (frN f i) b).bind _=_
   rw[B1 hx.2,bs,BP (inr_iff.1 hx.1).1,bs,happ,bs];rfl
  ·have hx:(inr a 2&&inr b i)=true:=hx
   rw[Bool.and_eq_true] at hx
   obtain⟨a0,a1⟩:=inr_iff.1 hx.1
   show (idx (frN f i) b).bind _=_
   rw[B1 hx.2,bs,w64 (by omega) (by omega),BP (by omega),bs,happ,bs];rfl
  ·simp[h1,h2,h3,h4,h5,h6,h7,h8] at hx
 ·dsimp only
  rw[By,cond_false]
theorem l30Free_eq {f:List Fct}(hf:frm f=true):D.K0 f=some (fre f (f.length-1)):=by
 obtain⟨hf1,hf40,hok⟩:=frm_iff.1 hf
 unfold D.K0
 have sh:∀{a:Int} {n:Nat},inr a n=true→n≤32→IntKind.u64.wrap a=a∧decide (a<0)=false∧ishl .i64 1 a=ishl .u32 1 a:=fun{a n} h hn=>by
  obtain⟨m,rfl,hm⟩:=BR h
  exact⟨uw (by omega),C5 m,shl64 (by omega)⟩
 have sh3:∀{a:Int},inr a 2=true→IntKind.u64.wrap (IntKind.i64.wrap (3+a))=3+a∧decide (3+a<0)=false∧ishl .i64 1 (3+a)=ishl .u32 1 (3+a):=fun{a} h=>by
  obtain⟨m,rfl,hm⟩:=BR h
  rw[w64 (by omega) (by omega),show (3+(m:Int))=((3+m:Nat):Int) by omega]
  exact⟨uw (by omega),C5 _,shl64 (by omega)⟩
 refine(Ck (λi=>(frN f i,(i:Int))) f.length (frN f f.length) rfl (λi hi=> ?_) ?_).trans ?_
 ·dsimp only
  rw[dlt hi,cond_true,A8 hi,bs,←Bj hi (0,0,0),wi (by omega)]
  have hx:=hok i hi
  rw[show frN f (i+1)=frN f i++[fr1 (frN f i) (f.getD i (0,0,0))] from rfl]
  have happ:∀x:Int,AB (frN f i) [x]=some (frN f i++[x]):=λx=>Bf (by rw[Cp];simp;omega)
  have hvs:=CE f i
  generalize f.getD i (0,0,0)=x at hx ⊢
  obtain⟨k,a,b⟩:=x
  unfold okF at hx
  unfold fr1
  dsimp only at hx ⊢
  rcases CY k with rfl|rfl|rfl|rfl|rfl|rfl|rfl|rfl|⟨h1,h2,h3,h4,h5,h6,h7,h8⟩
  ·have hx:(inr a 3&&inr b 3)=true:=hx
   rw[Bool.and_eq_true] at hx
   obtain⟨a1,a2,a3⟩:=sh hx.1 (by omega)
   obtain⟨b1,b2,b3⟩:=sh hx.2 (by omega)
   rw[a1,b1,a2,b2,a3,b3,Dn (VS.ishl _ _) (VS.ishl _ _),happ];rfl
  ·have hx:(inr a 3&&inr b 3)=true:=hx
   rw[Bool.and_eq_true] at hx
   obtain⟨a1,a2,a3⟩:=sh hx.1 (by omega)
   obtain⟨b1,b2,b3⟩:=sh hx.2 (by omega)
   rw[a1,b1,a2,b2,a3,b3,Dn (VS.ishl _ _) (VS.ishl _ _),happ];rfl
  ·have hx:(inr a 3&&inr b 2)=true:=hx
   rw[Bool.and_eq_true] at hx
   obtain⟨a1,a2,a3⟩:=sh hx.1 (by omega)
   obtain⟨b1,b2,b3⟩:=sh3 hx.2
   show (cond (decide (IntKind.u64.wrap a<0)) none (cond (decide (IntKind.u64.wrap (IntKind.i64.wrap (3+b))<0)) none ((AB (frN f i) [ior .i64 (ishl .i64 1 (IntKind.u64.wrap a)) (ishl .i64 1 (IntKind.u64.wrap (IntKind.i64.wrap (3+b))))]).bind _)))=_
   rw[a1,b1,a2,b2,a3,b3,Dn (VS.ishl _ _) (VS.ishl _ _),happ];rfl
  ·have hx:(inr a i&&b==0)=true:=hx
   rw[Bool.and_eq_true] at hx
   show (idx (frN f i) a).bind _=_
   rw[B1 hx.1,bs,happ,bs];rfl
  ·have hx:(inr a i&&inr b i)=true:=hx
   rw[Bool.and_eq_true] at hx
   show (idx (frN f i) a).bind _=_
   rw[B1 hx.1,bs,B1 hx.2,bs,Dn (hvs _) (hvs _),happ,bs];rfl
  ·have hx:(inr a i&&inr b i)=true:=hx
   rw[Bool.and_eq_true] at hx
   show (idx (frN f i) a).bind _=_
   rw[B1 hx.1,bs,B1 hx.2,bs,Dn (hvs _) (hvs _),happ,bs];rfl
  ·have hx:(inr a 3&&inr b i)=true:=hx
   rw[Bool.and_eq_true] at hx
   obtain⟨a1,a2,a3⟩:=sh hx.1 (by omega)
   show (idx (frN f i) b).bind _=_
   rw[B1 hx.2,bs,a1,a2,a3,cond_false,andnot64 (hvs _) (VS.ishl _ _),happ,bs];rfl
  ·have hx:(inr a 2&&inr b i)=true:=hx
   rw[Bool.and_eq_true] at hx
   obtain⟨a1,a2,a3⟩:=sh3 hx.1
   show (idx (frN f i) b).bind _=_
   rw[B1 hx.2,bs,a1,a2,a3,cond_false,andnot64 (hvs _) (VS.ishl _ _),happ,bs];rfl
  ·simp[h1,h2,h3,h4,h5,h6,h7,h8] at hx
 ·dsimp only
  rw[By,cond_false]
 ·rw[Cp,show IntKind.i64.wrap ((f.length:Int)-1)=((f.length-1:Nat):Int) by rw[w64 (by omega) (by omega)];omega,B1 (inr_iff.2 ⟨by omega,by omega⟩),bs]
  exact congrArg some (Cr f (show ((f.length-1:Nat):Int).toNat<f.length by omega))
theorem fq_lt {f:List Fct}(hf:frm f=true){q:Nat}:∀i,i<f.length→fq f i q=true→q<5:=by
 obtain⟨hf1,hf40,hok⟩:=frm_iff.1 hf
 intro i
 induction i using Nat.strongRecOn with
 |ind i ih=>
  intro hi h
  have hx:=hok i hi
  rw[fq_eq hx] at h
  generalize f.getD i (0,0,0)=x at hx h
  obtain⟨k,a,b⟩:=x
  unfold okF at hx
  dsimp only at hx h
  rcases CY k with rfl|rfl|rfl|rfl|rfl|rfl|rfl|rfl|⟨h1,h2,h3,h4,h5,h6,h7,h8⟩
  ·have hx:(inr a 3&&inr b 3)=true:=hx
   rw[Bool.and_eq_true] at hx
   have:=AJ hx.1;have:=AJ hx.2
   have h:(decide (q=a.toNat)||decide (q=b.toNat))=true:=h
   rw[Bool.or_eq_true,decide_eq_true_eq,decide_eq_true_eq] at h;omega
  ·have hx:(inr a 3&&inr b 3)=true:=hx
   rw[Bool.and_eq_true] at hx
   have:=AJ hx.1;have:=AJ hx.2
   have h:(decide (q=a.toNat)||decide (q=b.toNat))=true:=h
   rw[Bool.or_eq_true,decide_eq_true_eq,decide_eq_true_eq] at h;omega
  ·have hx:(inr a 3&&inr b 2)=true:=hx
   rw[Bool.and_eq_true] at hx
   have:=AJ hx.1;have:=AJ hx.2
   have h:(decide (q=a.toNat)||decide (q=3+b.toNat))=true:=h
   rw[Bool.or_eq_true,decide_eq_true_eq,decide_eq_true_eq] at h;omega
  ·have hx:(inr a i&&b==0)=true:=hx
   rw[Bool.and_eq_true] at hx
   exact ih _ (AJ hx.1) (by have:=AJ hx.1;omega) h
  ·have hx:(inr a i&&inr b i)=true:=hx
   rw[Bool.and_eq_true] at hx
   have h:(fq f a.toNat q||fq f b.toNat q)=true:=h
   rw[Bool.or_eq_true] at h
   have:=AJ hx.1;have:=AJ hx.2
   rcases h with h|h
   ·exact ih _ (AJ hx.1) (by omega) h
   ·exact ih _ (AJ hx.2) (by omega) h
  ·have hx:(inr a i&&inr b i)=true:=hx
   rw[Bool.and_eq_true] at hx
   have h:(fq f a.toNat q||fq f b.toNat q)=true:=h
   rw[Bool.or_eq_true] at h
   have:=AJ hx.1;have:=AJ hx.2
   rcases h with h|h
   ·exact ih _ (AJ hx.1) (by omega) h
   ·exact ih _ (AJ hx.2) (by omega) h
  ·have hx:(inr a 3&&inr b i)=true:=hx
   rw[Bool.and_eq_true] at hx
   have h:(fq f b.toNat q&& !decide (q=a.toNat))=true:=h
   rw[Bool.and_eq_true] at h
   exact ih _ (AJ hx.2) (by have:=AJ hx.2;omega) h.1
  ·have hx:(inr a 2&&inr b i)=true:=hx
   rw[Bool.and_eq_true] at hx
   have h:(fq f b.toNat q&& !decide (q=3+a.toNat))=true:=h
   rw[Bool.and_eq_true] at h
   exact ih _ (AJ hx.2) (by have:=AJ hx.2;omega) h.1
  ·simp[h1,h2,h3,h4,h5,h6,h7,h8] at hx
theorem fre_s16 {f:List Fct}(hf:frm f=true){i:Nat}(hi:i<f.length):S16 (fre f i):=
 In.s16 (n:=5) ⟨fre_vs f i,λw h=>fq_lt hf i hi h⟩ (by omega)
theorem Ei {f:List Fct}(hf:frm f=true):D.m0 f=some (Bq (fre f (f.length-1))):=by
 obtain⟨hf1,hf40,hok⟩:=frm_iff.1 hf
 unfold D.m0
 rw[CC,bs,hf,Bool.not_true,cond_false,freeIn_eq hf,bs,Cp,show IntKind.i64.wrap ((f.length:Int)-1)=((f.length-1:Nat):Int) by rw[w64 (by omega) (by omega)];omega,B1 (inr_iff.2 ⟨by omega,by omega⟩),bs,Int.toNat_natCast,Cr f (by omega),numbers_eq _ (fre_vs f _)]
 rfl
theorem Ej {f:List Fct}(hf:frm f=true):D.r0 f=some (Bq (fre f (f.length-1))):=by
 obtain⟨hf1,_⟩:=frm_iff.1 hf
 unfold D.r0
 rw[Cc,bs,hf,Bool.not_true,cond_false,l30Free_eq hf,bs,l25Set_eq (fre_s16 hf (by omega))]
 rfl
def Lik (f:List Fct)(i:Nat)(v s v' s':LI):Prop:=(∀q,q<3→fq f i q=true→v.getD q 0=v'.getD q 0)∧∀q,q<2→fq f i (3+q)=true→s.getD q 0=s'.getD q 0
theorem Cg {l:LI}{a:Nat}(u:Int)(q:Nat)(ha:a<l.length):(l.set a u).getD q 0=if q=a then u else l.getD q 0:=by
 rw[List.getD_eq_getElem?_getD,List.getElem?_set]
 by_cases h:a=q
 ·subst h;rw[if_pos rfl,if_pos ha,if_pos rfl];rfl
 ·rw[if_neg h,if_neg (λe=>h e.symm),List.getD_eq_getElem?_getD]
theorem sem_free {F:LI}{f:List Fct}(hf:frm f=true):∀i,i<f.length→∀v s v' s',v.length=3→s.length=2→v'.length=3→s'.length=2→Lik f i v s v' s'→sem F f i v s=sem F f i v' s':=by
 obtain⟨hf1,hf40,hok⟩:=frm_iff.1 hf
 intro i
 induction i using Nat.strongRecOn with
 |ind i ih=>
  intro hi v s v' s' hv hs hv' hs' hl
  have hx:=hok i hi
  have hq:=fq_eq hx
  rw[Da hf hi,Da hf hi]
  obtain⟨l1,l2⟩:=hl
  generalize f.getD i (0,0,0)=x at hx hq ⊢
  obtain⟨k,a,b⟩:=x
  unfold okF at hx
  unfold Dc atN
  dsimp only at hx hq ⊢
  have sub:∀j,j<i→∀v s v' s',v.length=3→s.length=2→v'.length=3→s'.length=2→Lik f j v s v' s'→sem F f j v s=sem F f j v' s':=λj hj=>ih j hj (by omega)
  rcases CY k with rfl|rfl|rfl|rfl|rfl|rfl|rfl|rfl|⟨h1,h2,h3,h4,h5,h6,h7,h8⟩
  ·have hx:(inr a 3&&inr b 3)=true:=hx
   rw[Bool.and_eq_true] at hx
   have hq:∀q,fq f i q=(decide (q=a.toNat)||decide (q=b.toNat)):=hq
   have e1:=l1 a.toNat (AJ hx.1) (by rw[hq];simp)
   have e2:=l1 b.toNat (AJ hx.2) (by rw[hq];simp)
   show has (F.getD (v.getD a.toNat 0).toNat 0) (v.getD b.toNat 0).toNat=has (F.getD (v'.getD a.toNat 0).toNat 0) (v'.getD b.toNat 0).toNat
   rw[e1,e2]
  ·have hx:(inr a 3&&inr b 3)=true:=hx
   rw[Bool.and_eq_true] at hx
   have hq:∀q,fq f i q=(decide (q=a.toNat)||decide (q=b.toNat)):=hq
   have e1:=l1 a.toNat (AJ hx.1) (by rw[hq];simp)
   have e2:=l1 b.toNat (AJ hx.2) (by rw[hq];simp)
   show (v.getD a.toNat 0==v.getD b.toNat 0)=(v'.getD a.toNat 0==v'.getD b.toNat 0)
   rw[e1,e2]
  ·have hx:(inr a 3&&inr b 2)=true:=hx
   rw[Bool.and_eq_true] at hx
   have hq:∀q,fq f i q=(decide (q=a.toNat)||decide (q=3+b.toNat)):=hq
   have e1:=l1 a.toNat (AJ hx.1) (by rw[hq];simp)
   have e2:=l2 b.toNat (AJ hx.2) (by rw[hq];simp)
   show has (s.getD b.toNat 0) (v.getD a.toNat 0).toNat=has (s'.getD b.toNat 0) (v'.getD a.toNat 0).toNat
   rw[e1,e2]
  ·have hx:(inr a i&&b==0)=true:=hx
   rw[Bool.and_eq_true] at hx
   have hq:∀q,fq f i q=fq f a.toNat q:=hq
   show (!_)=(!_)
   rw[sub _ (AJ hx.1) v s v' s' hv hs hv' hs' ⟨λq h3 h=>l1 q h3 (by rw[hq];exact h),λq h2 h=>l2 q h2 (by rw[hq];exact h)⟩]
  ·have hx:(inr a i&&inr b i)=true:=hx
   rw[Bool.and_eq_true] at hx
   have hq:∀q,fq f i q=(fq f a.toNat q||fq f b.toNat q):=hq
   show (_&&_)=(_&&_)
   rw[sub _ (AJ hx.1) v s v' s' hv hs hv' hs' ⟨λq h3 h=>l1 q h3 (by rw[hq,h,Bool.true_or]),λq h2 h=>l2 q h2 (by rw[hq,h,Bool.true_or])⟩,
    sub _ (AJ hx.2) v s v' s' hv hs hv' hs' ⟨λq h3 h=>l1 q h3 (by rw[hq,h,Bool.or_true]),λq h2 h=>l2 q h2 (by rw[hq,h,Bool.or_true])⟩]
  ·have hx:(inr a i&&inr b i)=true:=hx
   rw[Bool.and_eq_true] at hx
   have hq:∀q,fq f i q=(fq f a.toNat q||fq f b.toNat q):=hq
   show (_||_)=(_||_)
   rw[sub _ (AJ hx.1) v s v' s' hv hs hv' hs' ⟨λq h3 h=>l1 q h3 (by rw[hq,h,Bool.true_or]),λq h2 h=>l2 q h2 (by rw[hq,h,Bool.true_or])⟩,
    sub _ (AJ hx.2) v s v' s' hv hs hv' hs' ⟨λq h3 h=>l1 q h3 (by rw[hq,h,Bool.or_true]),λq h2 h=>l2 q h2 (by rw[hq,h,Bool.or_true])⟩]
  ·have hx:(inr a 3&&inr b i)=true:=hx
   rw[Bool.and_eq_true] at hx
   have ha:=AJ hx.1
   have hq:∀q,fq f i q=(fq f b.toNat q&& !decide (q=a.toNat)):=hq
   show (List.range F.length).any _=(List.range F.length).any _
   congr 1
   funext u
   refine sub _ (AJ hx.2) _ _ _ _ (by rw[List.length_set,hv]) hs (by rw[List.length_set,hv']) hs' ⟨λq h3 h=> ?_,λq h2 h=>l2 q h2 (by rw[hq,h,decide_eq_false (by omega)];rfl)⟩
   rw[Cg _ _ (by omega),Cg _ _ (by omega)]
   by_cases hqa:q=a.toNat
   ·rw[if_pos hqa,if_pos hqa]
   ·rw[if_neg hqa,if_neg hqa]
    exact l1 q h3 (by rw[hq,h,decide_eq_false hqa];rfl)
  ·have hx:(inr a 2&&inr b i)=true:=hx
   rw[Bool.and_eq_true] at hx
   have ha:=AJ hx.1
   have hq:∀q,fq f i q=(fq f b.toNat q&& !decide (q=3+a.toNat)):=hq
   show (List.range _).any _=(List.range _).any _
   congr 1
   funext u
   refine sub _ (AJ hx.2) _ _ _ _ hv (by rw[List.length_set,hs]) hv' (by rw[List.length_set,hs']) ⟨λq h3 h=>l1 q h3 (by rw[hq,h,decide_eq_false (by omega)];rfl),λq h2 h=> ?_⟩
   rw[Cg _ _ (by omega),Cg _ _ (by omega)]
   by_cases hqa:q=a.toNat
   ·rw[if_pos hqa,if_pos hqa]
   ·rw[if_neg hqa,if_neg hqa]
    exact l2 q h2 (by rw[hq,h,decide_eq_false (by omega)];rfl)
  ·simp[h1,h2,h3,h4,h5,h6,h7,h8] at hx
theorem says_any {F:LI}{f:List Fct}(hf:frm f=true)(h0:∀q,fq f (f.length-1) q=false){v s v' s':LI}(hv:v.length=3)(hs:s.length=2)(hv':v'.length=3)(hs':s'.length=2):CT F f v s=CT F f v' s':=by
 have hf1:=(frm_iff.1 hf).1
 exact sem_free hf _ (by omega) _ _ _ _ hv hs hv' hs' ⟨λq _ h=>(by rw[h0] at h;cases h),λq _ h=>(by rw[h0] at h;cases h)⟩
theorem smK_app {F:LI}{f t:List Fct}(hf:frm f=true):∀k i,i<f.length→∀v s,smK F (f++t) k i v s=smK F f k i v s
 |0,_,_,_,_=>rfl
 |k+1,i,hi,v,s=>by
  show Dc F (smK F (f++t) k) ((f++t).getD i (0,0,0)) v s=Dc F (smK F f k) (f.getD i (0,0,0)) v s
  have e:(f++t).getD i (0,0,0)=f.getD i (0,0,0):=by
   rw[List.getD_eq_getElem?_getD,List.getElem?_append_left hi,←List.getD_eq_getElem?_getD]
  rw[e]
  exact DE ((frm_iff.1 hf).2.2 i hi) (λj hj v s=>smK_app hf k j (by omega) v s) v s
def neg (f:List Fct):List Fct:=f++[(4,((f.length-1:Nat):Int),0)]
theorem neg_frm {f:List Fct}(hf:frm f=true)(h:f.length<40):frm (neg f)=true:=by
 obtain⟨hf1,hf40,hok⟩:=frm_iff.1 hf
 have hl:(neg f).length=f.length+1:=by unfold neg;simp
 refine frm_iff.2 ⟨by omega,by omega,λi hi=> ?_⟩
 by_cases hlt:i<f.length
 ·unfold neg
  rw[List.getD_eq_getElem?_getD,List.getElem?_append_left hlt,←List.getD_eq_getElem?_getD]
  exact hok i hlt
 ·obtain rfl:i=f.length:=by omega
  unfold neg
  rw[List.getD_eq_getElem?_getD,List.getElem?_append_right (by omega),Nat.sub_self]
  show (inr ((f.length-1:Nat):Int) f.length&&((0:Int)==0))=true
  rw[inr_iff.2 ⟨by omega,by omega⟩];rfl
theorem neg_says {F:LI}{f:List Fct}(hf:frm f=true)(h:f.length<40)(v s:LI):CT F (neg f) v s= !(CT F f v s):=by
 obtain⟨hf1,hf40,hok⟩:=frm_iff.1 hf
 have hl:(neg f).length=f.length+1:=by unfold neg;simp
 unfold CT
 rw[hl,Nat.add_sub_cancel,Da (neg_frm hf h) (by omega)]
 have e:(neg f).getD f.length (0,0,0)=(4,((f.length-1:Nat):Int),0):=by
  unfold neg
  rw[List.getD_eq_getElem?_getD,List.getElem?_append_right (by omega),Nat.sub_self];rfl
 rw[e]
 show (!sem F (neg f) ((f.length-1:Nat):Int).toNat v s)=_
 rw[Int.toNat_natCast]
 unfold sem neg
 rw[smK_app hf _ _ (by omega)]
theorem Eh {f:List Fct}(hl:f.length≤41):D.B0 f=some (if frm f&&decide (f.length<40) then(neg f,true) else([],false)):=by
 unfold D.B0
 rw[CC,bs]
 cases hf:frm f with
 |false=>rfl
 |true=>
  obtain⟨hf1,hf40,hok⟩:=frm_iff.1 hf
  rw[Bool.not_true,Bool.false_or,Bool.true_and]
  by_cases h:f.length<40
  ·rw[beq_false_of_ne (show (f.length:Int)≠40 by omega),cond_false,decide_eq_true h,if_pos rfl]
   unfold D.V0
   rw[Bf (by simp;omega),bs,bs,List.nil_append,Bf (by simp;omega),bs,show IntKind.i64.wrap ((f.length:Int)-1)=((f.length-1:Nat):Int) by rw[w64 (by omega) (by omega)];omega]
   rfl
  ·rw[show ((f.length:Int)==40)=true by rw[beq_iff_eq];omega,cond_true,decide_eq_false h];rfl
abbrev B3 :Type:=List (K6×Bool)
theorem mdGet_snoc (M:B3)(k k':K6)(y:Bool):BN (M++[(k,y)]) k'=(BN M k').or (if k=k' then some y else none):=by
 unfold BN
 rw[List.find?_append]
 cases h:M.find? λkv=>kv.1==k' with
 |some z=>rfl
 |none=>
  rw[Option.none_or,List.find?_cons]
  by_cases hk:k=k'
  ·rw[show (k==k')=true from beq_iff_eq.2 hk,if_pos hk];rfl
  ·rw[show (k==k')=false from beq_eq_false_iff_ne.2 hk,if_neg hk];rfl
def MOk (F:LI)(f:List Fct)(M:B3):Prop:=∀(j:Nat) (a b c d e:Int) (y:Bool),BN M ((j:Int),a,b,c,d,e)=some y→y=sem F f j [a,b,c] [d,e]
def MSame (i:Int)(M0 M:B3):Prop:=∀k:K6,i≤k.1→BN M k=BN M0 k
theorem MSame.refl (i:Int)(M:B3):MSame i M M:=λ_ _=>rfl
theorem MSame.trans {i j:Int}{M0 M1 M2:B3}(h1:MSame i M0 M1)(h2:MSame j M1 M2)(hi:i≤j)(hji:j≤i):MSame i M0 M2:=λk hk=>by
 rw[h2 k (by omega),h1 k hk]
theorem MSame.le {i j:Int}{M0 M1:B3}(h:MSame i M0 M1)(hij:i≤j):MSame j M0 M1:=λk hk=>h k (by omega)
theorem upd3 {a:Int}(ha:inr a 3=true)(u x y z:Int):[upd a 0 u x,upd a 1 u y,upd a 2 u z]=[x,y,z].set a.toNat u:=by
 obtain⟨m,rfl,hm⟩:=BR ha
 exact updL_set (y:=[x,y,z][m]) u (A8 (xs:=[x,y,z]) (by simpa using hm))
theorem upd2 {a:Int}(ha:inr a 2=true)(u x y:Int):[upd a 0 u x,upd a 1 u y]=[x,y].set a.toNat u:=by
 obtain⟨m,rfl,hm⟩:=BR ha
 exact updL_set (y:=[x,y][m]) u (A8 (xs:=[x,y]) (by simpa using hm))
theorem upd_upd (a:Int)(n:Nat)(u w x:Int):upd a n u (upd a n w x)=upd a n u x:=by
 unfold upd;split<;>rfl
theorem loop_memo {S ρ:Type}{step:S→Option (S ⊕ ρ)}(I:B3→Prop)(enc:Nat→B3→S)(n:Nat)(c:Nat→Bool)(good fin:B3→ρ)
  (h:∀u,u<n→∀M,I M→∃M',I M'∧step (enc u M)=if c u then some (.inr (good M')) else some (.inl (enc (u+1) M'))) (he:∀M,I M→step (enc n M)=some (.inr (fin M))):
  ∀M,I M→∃M',I M'∧AF step (enc 0 M)=some (if(List.range n).any c then good M' else fin M'):=by
 have key:∀d a,a+d=n→∀M,I M→∃M',I M'∧AF step (enc a M)=some (if(List.range' a d).any c then good M' else fin M'):=by
  intro d
  induction d with
  |zero=>
   intro a ha M hM
   obtain rfl:a=n:=by omega
   exact⟨M,hM,by rw[Ba (he M hM)];rfl⟩
  |succ d ih=>
   intro a ha M hM
   obtain⟨M',h1,h2⟩:=h a (by omega) M hM
   rw[List.range'_succ,List.any_cons]
   cases hc:c a
   ·rw[hc,if_neg (by simp)] at h2
    obtain⟨M2,h3,h4⟩:=ih (a+1) (by omega) M' h1
    exact⟨M2,h3,by rw[AW h2,h4,Bool.false_or]⟩
   ·rw[hc,if_pos rfl] at h2
    exact⟨M',h1,by rw[Ba h2,Bool.true_or,if_pos rfl]⟩
 intro M hM
 rw[List.range_eq_range']
 exact key n 0 (by omega) M hM
section
variable {F : LI} (hF : Nets F) {f : List Fct} (hf : frm f = true) {B : List Bool}
def Jdg (F:LI)(f:List Fct)(B:List Bool)(i:Nat)(rec:LI→List Fct→LI→List Bool→B3→Int→Int→Int→Int→Int→Int→Option (Bool×B3)):Prop:=
 ∀(j:Nat),j<i→∀M a b c d e,MOk F f M→Nam F.length [a,b,c] [d,e]→∃M',rec F f (frN f f.length) B M (j:Int) a b c d e=some (sem F f j [a,b,c] [d,e],M')∧MOk F f M'∧MSame ((j:Int)+1) M M'
include hF hf
theorem some_eq {i:Nat}(hi:i<f.length){rec:LI→List Fct→LI→List Bool→B3→Int→Int→Int→Int→Int→Int→Option (Bool×B3)}(hr:Jdg F f B i rec){M:B3}{a b c d e:Int}(hM:MOk F f M)(hN:Nam F.length [a,b,c] [d,e])
  {x:Fct} (hx:f.getD i (0,0,0)=x) (h78:x.1=7∨x.1=8):
  ∃M',D.c0 rec F f (frN f f.length) B M x.1 x.2.1 x.2.2 a b c d e=some (sem F f i [a,b,c] [d,e],M')∧MOk F f M'∧MSame (i:Int) M M':=by
 have h8:=hF.n8
 have hok:=(frm_iff.1 hf).2.2 i hi
 rw[Da hf hi]
 rw[hx] at hok ⊢
 obtain⟨k,p,q⟩:=x
 dsimp only at h78 hok ⊢
 unfold D.c0
 have sub:∀(M:B3) (a b c d e:Int),inr q i=true→(MOk F f M∧MSame (i:Int) M M)→Nam F.length [a,b,c] [d,e]→∃M',rec F f (frN f f.length) B M q a b c d e=some (sem F f q.toNat [a,b,c] [d,e],M')∧MOk F f M'∧MSame (i:Int) M M':=λM a b c d e hq hM hN=>by
  obtain⟨m,rfl,hm⟩:=BR hq
  obtain⟨M',h1,h2,h3⟩:=hr m hm M a b c d e hM.1 hN
  exact⟨M',h1,h2,h3.le (by omega)⟩
 rcases h78 with rfl|rfl
 ·have hx:(inr p 3&&inr q i)=true:=hok
  rw[Bool.and_eq_true] at hx
  obtain⟨p0,p1⟩:=inr_iff.1 hx.1
  show∃M',(cond ((7:Int)==7) _ _)=some ((List.range F.length).any λu=>sem F f q.toNat ([a,b,c].set p.toNat (u:Int)) [d,e],M')∧_
  rw[show ((7:Int)==7)=true from rfl,cond_true]
  obtain⟨M',⟨k1,k2⟩,k3⟩:=loop_memo (ρ:=B3 ⊕ (Bool×B3)) (λM'=>MOk F f M'∧MSame (i:Int) M M')
   (λu M=>((u:Int),M,(if u=0 then a else upd p 0 ((u-1:Nat):Int) a),(if u=0 then b else upd p 1 ((u-1:Nat):Int) b),(if u=0 then c else upd p 2 ((u-1:Nat):Int) c)))
   F.length (λu=>sem F f q.toNat ([a,b,c].set p.toNat (u:Int)) [d,e]) (λM=> .inr (true,M)) (λM=> .inl M) (step:=(fun(s_50:Int×(List (K6×Bool))×Int×Int×Int)=>match s_50 with|(x_53,l_54,x_59,x_60,x_61)=>cond (decide (x_53<(F.length:Int))) ((idx ([x_59,x_60,x_61]:LI) p).bind λe_86=>(rec F f (frN f f.length) B l_54 q (upd p 0 x_53 x_59) (upd p 1 x_53 x_60) (upd p 2 x_53 x_61) d e).bind λy_88=>cond y_88.1 (some (.inr (.inr (true,y_88.2)))) (some (.inl ((IntKind.i64.wrap (x_53+1)),y_88.2,(upd p 0 x_53 x_59),(upd p 1 x_53 x_60),(upd p 2 x_53 x_61))))) (some (.inr (.inl l_54)))))
   (λu hu M1 hM1=>by
    dsimp only
    have e1:∀(n:Nat) (x:Int),upd p n (u:Int) (if u=0 then x else upd p n ((u-1:Nat):Int) x)=upd p n (u:Int) x:=λn x=>by
     split
     ·rfl
     ·exact upd_upd _ _ _ _ _
    have hN':Nam F.length [upd p 0 (u:Int) a,upd p 1 (u:Int) b,upd p 2 (u:Int) c] [d,e]:=by rw[upd3 hx.1];exact hN.setv _ hu
    obtain⟨M2,j1,j2,j3⟩:=sub M1 _ _ _ d e hx.2 ⟨hM1.1,MSame.refl _ _⟩ hN'
    refine⟨M2,⟨j2,hM1.2.trans j3 (by omega) (by omega)⟩,?_⟩
    rw[dlt hu,cond_true,B4 p0 (by simpa using p1),bs,e1,e1,e1,j1,bs,upd3 hx.1,wi (by omega),if_neg (show¬u+1=0 by omega),if_neg (show¬u+1=0 by omega),if_neg (show¬u+1=0 by omega),Nat.add_sub_cancel]
    cases sem F f q.toNat ([a,b,c].set p.toNat (u:Int)) [d,e]<;>rfl)
   (λM1 _=>by dsimp only;rw[By,cond_false]) M ⟨hM,MSame.refl _ _⟩
  refine⟨M',?_,k1,k2⟩
  refine(congrArg (λo=>Option.bind o _) k3).trans ?_
  rw[bs]
  cases (List.range F.length).any λu=>sem F f q.toNat ([a,b,c].set p.toNat (u:Int)) [d,e]<;>rfl
 ·have hx:(inr p 2&&inr q i)=true:=hok
  rw[Bool.and_eq_true] at hx
  obtain⟨p0,p1⟩:=inr_iff.1 hx.1
  have hp:=pow8 h8
  have hp1:1≤2^F.length:=Nat.one_le_two_pow
  have hfull:D.R F=some (((2^F.length-1:Nat):Int)):=by rw[nets_all_full,pow_full (by omega)]
  show∃M',(cond ((8:Int)==7) _ _)=some ((List.range (2^F.length)).any λu=>sem F f q.toNat [a,b,c] ([d,e].set p.toNat (u:Int)),M')∧_
  rw[show ((8:Int)==7)=false from rfl,cond_false]
  obtain⟨M',⟨k1,k2⟩,k3⟩:=loop_memo (ρ:=B3 ⊕ (Bool×B3)) (λM'=>MOk F f M'∧MSame (i:Int) M M')
   (λu M=>((u:Int),M,(if u=0 then d else upd p 0 ((u-1:Nat):Int) d),(if u=0 then e else upd p 1 ((u-1:Nat):Int) e)))
   (2^F.length) (λu=>sem F f q.toNat [a,b,c] ([d,e].set p.toNat (u:Int))) (λM=> .inr (true,M)) (λM=> .inl M) (step:=(fun(s_157:Int×(List (K6×Bool))×Int×Int)=>match s_157 with|(x_160,l_161,x_166,x_167)=>(D.R F).bind λy_198=>cond (decide (x_160≤y_198)) ((idx ([x_166,x_167]:LI) p).bind λe_206=>(rec F f (frN f f.length) B l_161 q a b c (upd p 0 x_160 x_166) (upd p 1 x_160 x_167)).bind λy_208=>cond y_208.1 (some (.inr (.inr (true,y_208.2)))) (some (.inl ((IntKind.u32.wrap (x_160+1)),y_208.2,(upd p 0 x_160 x_166),(upd p 1 x_160 x_167))))) (some (.inr (.inl l_161)))))
   (λu hu M1 hM1=>by
    dsimp only
    have e1:∀(n:Nat) (x:Int),upd p n (u:Int) (if u=0 then x else upd p n ((u-1:Nat):Int) x)=upd p n (u:Int) x:=λn x=>by
     split
     ·rfl
     ·exact upd_upd _ _ _ _ _
    have hN':Nam F.length [a,b,c] [upd p 0 (u:Int) d,upd p 1 (u:Int) e]:=by rw[upd2 hx.1];exact hN.sets _ hu
    obtain⟨M2,j1,j2,j3⟩:=sub M1 a b c _ _ hx.2 ⟨hM1.1,MSame.refl _ _⟩ hN'
    refine⟨M2,⟨j2,hM1.2.trans j3 (by omega) (by omega)⟩,?_⟩
    rw[hfull,bs,decide_eq_true (show (u:Int)≤((2^F.length-1:Nat):Int) by omega),cond_true,B4 p0 (by simpa using p1),bs,e1,e1,j1,bs,upd2 hx.1,C9,show ((u:Int)+1)%4294967296=((u+1:Nat):Int) by omega,if_neg (show¬u+1=0 by omega),if_neg (show¬u+1=0 by omega),Nat.add_sub_cancel]
    cases sem F f q.toNat [a,b,c] ([d,e].set p.toNat (u:Int))<;>rfl)
   (λM1 _=>by
    dsimp only
    rw[hfull,bs,decide_eq_false (by omega),cond_false]) M ⟨hM,MSame.refl _ _⟩
  refine⟨M',?_,k1,k2⟩
  refine(congrArg (λo=>Option.bind o _) k3).trans ?_
  rw[bs]
  cases (List.range (2^F.length)).any λu=>sem F f q.toNat [a,b,c] ([d,e].set p.toNat (u:Int))<;>rfl
theorem direct_eq {i:Nat}(hi:i<f.length){rec:LI→List Fct→LI→List Bool→B3→Int→Int→Int→Int→Int→Int→Option (Bool×B3)}(hr:Jdg F f B i rec){M:B3}{a b c d e:Int}(hM:MOk F f M)(hN:Nam F.length [a,b,c] [d,e])
  {x:Fct} (hx:f.getD i (0,0,0)=x):
  ∃M',D.U rec F f (frN f f.length) B M x.1 x.2.1 x.2.2 a b c d e=some (sem F f i [a,b,c] [d,e],M')∧MOk F f M'∧MSame (i:Int) M M':=by
 have h8:=hF.n8
 have hok:=(frm_iff.1 hf).2.2 i hi
 have hsome:=λh=>some_eq hF hf (B:=B) hi hr hM hN hx h
 rw[Da hf hi] at hsome ⊢
 rw[hx] at hok hsome ⊢
 obtain⟨k,p,q⟩:=x
 dsimp only at hok hsome ⊢
 unfold D.U
 have sub:∀(M:B3) (q:Int),inr q i=true→MOk F f M→∃M',rec F f (frN f f.length) B M q a b c d e=some (sem F f q.toNat [a,b,c] [d,e],M')∧MOk F f M'∧MSame (i:Int) M M':=λM q hq hM=>by
  obtain⟨m,rfl,hm⟩:=BR hq
  obtain⟨M',h1,h2,h3⟩:=hr m hm M a b c d e hM hN
  exact⟨M',h1,h2,h3.le (by omega)⟩
 rcases CY k with rfl|rfl|rfl|rfl|rfl|rfl|rfl|rfl|⟨h1,h2,h3,h4,h5,h6,h7,h8⟩
 ·have hx:(inr p 3&&inr q 3)=true:=hok
  rw[Bool.and_eq_true] at hx
  obtain⟨e1,l1,_⟩:=hN.at hx.1
  obtain⟨e2,l2,_⟩:=hN.at hx.2
  obtain⟨e3,w3⟩:=hF.at l1
  refine⟨M,?_,hM,MSame.refl _ _⟩
  show (idx [a,b,c] p).bind _=some (has (F.getD (atN [a,b,c] p) 0) (atN [a,b,c] q),M)
  rw[e1,bs,e3,bs,e2,bs,vhas_eq w3 (by omega)];rfl
 ·have hx:(inr p 3&&inr q 3)=true:=hok
  rw[Bool.and_eq_true] at hx
  obtain⟨e1,l1,g1⟩:=hN.at hx.1
  obtain⟨e2,l2,g2⟩:=hN.at hx.2
  refine⟨M,?_,hM,MSame.refl _ _⟩
  show (idx [a,b,c] p).bind _=some ([a,b,c].getD p.toNat 0==[a,b,c].getD q.toNat 0,M)
  rw[e1,bs,e2,bs,g1,g2]
 ·have hx:(inr p 3&&inr q 2)=true:=hok
  rw[Bool.and_eq_true] at hx
  obtain⟨e1,l1,g1⟩:=hN.at hx.1
  obtain⟨e2,z0,z1⟩:=hN.set hx.2
  refine⟨M,?_,hM,MSame.refl _ _⟩
  show (idx [d,e] q).bind _=some (has ([d,e].getD q.toNat 0) (atN [a,b,c] p),M)
  rw[e2,bs,e1,bs,vhas_eq (VS.p8 h8 z0 z1) (by omega)];rfl
 ·have hx:(inr p i&&q==0)=true:=hok
  rw[Bool.and_eq_true] at hx
  obtain⟨M1,j1,j2,j3⟩:=sub M p hx.1 hM
  refine⟨M1,?_,j2,j3⟩
  show (rec F f (frN f f.length) B M p a b c d e).bind _=some (!sem F f p.toNat [a,b,c] [d,e],M1)
  rw[j1,bs]
 ·have hx:(inr p i&&inr q i)=true:=hok
  rw[Bool.and_eq_true] at hx
  obtain⟨M1,j1,j2,j3⟩:=sub M p hx.1 hM
  obtain⟨M2,t1,t2,t3⟩:=sub M1 q hx.2 j2
  show∃M',(rec F f (frN f f.length) B M p a b c d e).bind _=some (sem F f p.toNat [a,b,c] [d,e]&&sem F f q.toNat [a,b,c] [d,e],M')∧_
  rw[j1,bs,t1]
  cases sem F f p.toNat [a,b,c] [d,e]
  ·exact⟨M1,rfl,j2,j3⟩
  ·exact⟨M2,rfl,t2,j3.trans t3 (by omega) (by omega)⟩
 ·have hx:(inr p i&&inr q i)=true:=hok
  rw[Bool.and_eq_true] at hx
  obtain⟨M1,j1,j2,j3⟩:=sub M p hx.1 hM
  obtain⟨M2,t1,t2,t3⟩:=sub M1 q hx.2 j2
  show∃M',(rec F f (frN f f.length) B M p a b c d e).bind _=some (sem F f p.toNat [a,b,c] [d,e]||sem F f q.toNat [a,b,c] [d,e],M')∧_
  rw[j1,bs,t1]
  cases sem F f p.toNat [a,b,c] [d,e]
  ·exact⟨M2,rfl,t2,j3.trans t3 (by omega) (by omega)⟩
  ·exact⟨M1,rfl,j2,j3⟩
 ·obtain⟨M',j1,j2,j3⟩:=hsome (.inl rfl)
  refine⟨M',?_,j2,j3⟩
  show (D.c0 rec F f (frN f f.length) B M 7 p q a b c d e).bind _=_
  rw[j1,bs]
 ·obtain⟨M',j1,j2,j3⟩:=hsome (.inr rfl)
  refine⟨M',?_,j2,j3⟩
  show (D.c0 rec F f (frN f f.length) B M 8 p q a b c d e).bind _=_
  rw[j1,bs]
 ·unfold okF at hok
  simp[h1,h2,h3,h4,h5,h6,h7,h8] at hok
end
end Go.Sx

namespace Go.Sx
def rl (f:List Fct)(i q:Nat)(x:Int):Int:=if fq f i q then x else 0
theorem relevant_eq {F:LI}{f:List Fct}{B:List Bool}{M:B3}{i:Nat}(hi:i<f.length)(a b c d e:Int):
  D.v0 F f (frN f f.length) B M (i:Int) a b c d e=some (rl f i 0 a,rl f i 1 b,rl f i 2 c,rl f i 3 d,rl f i 4 e,M):=by
 have hL:idx (frN f f.length) (i:Int)=some (fre f i):=by
  rw[B1 (inr_iff.2 ⟨by omega,by omega⟩),Int.toNat_natCast,Cr f hi]
 have hv:=fre_vs f i
 have hh:∀q:Nat,q<32→D.v (fre f i) (q:Int)=some (fq f i q):=λq hq=>vhas_eq hv hq
 have h0:=hh 0 (by omega);have h1:=hh 1 (by omega);have h2:=hh 2 (by omega);have h3:=hh 3 (by omega);have h4:=hh 4 (by omega)
 unfold D.v0
 refine(congrArg (λo=>Option.bind o _) ((AW (s':=(1,rl f i 0 a,b,c)) ?_).trans ((AW (s':=(2,rl f i 0 a,rl f i 1 b,c)) ?_).trans ((AW (s':=(3,rl f i 0 a,rl f i 1 b,rl f i 2 c)) ?_).trans (Ba (r:=(rl f i 0 a,rl f i 1 b,rl f i 2 c)) rfl))))).trans ?_
 ·dsimp only
  rw[show decide ((0:Int)<3)=true from rfl,cond_true,hL,bs]
  refine(congrArg (λo=>Option.bind o _) h0).trans ?_
  rw[bs]
  unfold rl
  cases fq f i 0<;>rfl
 ·dsimp only
  rw[show decide ((1:Int)<3)=true from rfl,cond_true,hL,bs]
  refine(congrArg (λo=>Option.bind o _) h1).trans ?_
  rw[bs]
  unfold rl
  cases fq f i 1<;>rfl
 ·dsimp only
  rw[show decide ((2:Int)<3)=true from rfl,cond_true,hL,bs]
  refine(congrArg (λo=>Option.bind o _) h2).trans ?_
  rw[bs]
  unfold rl
  cases fq f i 2<;>rfl
 ·rw[bs]
  refine(congrArg (λo=>Option.bind o _) ((AW (s':=(1,rl f i 3 d,e)) ?_).trans ((AW (s':=(2,rl f i 3 d,rl f i 4 e)) ?_).trans (Ba (r:=(rl f i 3 d,rl f i 4 e)) rfl)))).trans ?_
  ·dsimp only
   rw[show decide ((0:Int)<2)=true from rfl,cond_true,hL,bs]
   refine(congrArg (λo=>Option.bind o _) h3).trans ?_
   rw[bs]
   unfold rl
   cases fq f i 3<;>rfl
  ·dsimp only
   rw[show decide ((1:Int)<2)=true from rfl,cond_true,hL,bs]
   refine(congrArg (λo=>Option.bind o _) h4).trans ?_
   rw[bs]
   unfold rl
   cases fq f i 4<;>rfl
  ·rfl
theorem rl_nam {n:Nat}(hn:1≤n){f:List Fct}{i:Nat}{a b c d e:Int}(h:Nam n [a,b,c] [d,e]):Nam n [rl f i 0 a,rl f i 1 b,rl f i 2 c] [rl f i 3 d,rl f i 4 e]:=by
 have hv:∀x∈[a,b,c],∀q,0≤rl f i q x∧rl f i q x<(n:Int):=λx hx q=>by
  have:=h.v0 x hx
  unfold rl;split<;>omega
 have hs:∀x∈[d,e],∀q,0≤rl f i q x∧rl f i q x<((2^n:Nat):Int):=λx hx q=>by
  have:=h.s0 x hx
  have hp:1≤2^n:=Nat.one_le_two_pow
  unfold rl;split<;>omega
 refine⟨rfl,rfl,λx hx=> ?_,λx hx=> ?_⟩
 ·simp only[List.mem_cons,List.not_mem_nil,or_false] at hx
  rcases hx with rfl|rfl|rfl
  ·exact hv a (by simp) 0
  ·exact hv b (by simp) 1
  ·exact hv c (by simp) 2
 ·simp only[List.mem_cons,List.not_mem_nil,or_false] at hx
  rcases hx with rfl|rfl
  ·exact hs d (by simp) 3
  ·exact hs e (by simp) 4
theorem rl_sem {F:LI}{f:List Fct}(hf:frm f=true){i:Nat}(hi:i<f.length)(a b c d e:Int):sem F f i [rl f i 0 a,rl f i 1 b,rl f i 2 c] [rl f i 3 d,rl f i 4 e]=sem F f i [a,b,c] [d,e]:=by
 refine sem_free hf i hi _ _ _ _ rfl rfl rfl rfl ⟨λq hq h=> ?_,λq hq h=> ?_⟩
 ·have:q=0∨q=1∨q=2:=by omega
  rcases this with rfl|rfl|rfl
  ·show rl f i 0 a=a;unfold rl;rw[if_pos h]
  ·show rl f i 1 b=b;unfold rl;rw[if_pos h]
  ·show rl f i 2 c=c;unfold rl;rw[if_pos h]
 ·have:q=0∨q=1:=by omega
  rcases this with rfl|rfl
  ·show rl f i 3 d=d;unfold rl;rw[if_pos h]
  ·show rl f i 4 e=e;unfold rl;rw[if_pos h]
theorem holds_eq {F:LI}(hF:Nets F){f:List Fct}(hf:frm f=true){B:List Bool}(hB:B.length=f.length):∀i,i<f.length→∀k,i<k→∀M a b c d e,MOk F f M→Nam F.length [a,b,c] [d,e]→
  ∃M',D.K k F f (frN f f.length) B M (i:Int) a b c d e=some (sem F f i [a,b,c] [d,e],M')∧MOk F f M'∧MSame ((i:Int)+1) M M':=by
 intro i
 induction i using Nat.strongRecOn with
 |ind i ih=>
  intro hi k hk M a b c d e hM hN
  obtain⟨k,rfl⟩:∃k',k=k'+1:=⟨k-1,by omega⟩
  have hr:Jdg F f B i (D.K k):=λj hj M a b c d e hM hN=>ih j hj (by omega) k (by omega) M a b c d e hM hN
  rw[D.K]
  rw[A8 hi,bs]
  have hx:f.getD i (0,0,0)=f[i]:=Bj hi _
  have hg:∃t,(cond ((f[i].1 !=7)&&(f[i].1 !=8)) ((idx B (i:Int)).bind λe_29=>some (!e_29)) (some false))=some t:=by
   rw[A8 (show i<B.length by omega)]
   cases (f[i].1 !=7)&&(f[i].1 !=8)
   ·exact⟨_,rfl⟩
   ·exact⟨_,rfl⟩
  obtain⟨t,ht⟩:=hg
  rw[ht,bs]
  cases t with
  |true=>
   rw[cond_true]
   obtain⟨M',j1,j2,j3⟩:=direct_eq hF hf (B:=B) hi hr hM hN hx
   exact⟨M',by rw[j1,bs],j2,j3.le (by omega)⟩
  |false=>
   rw[cond_false,relevant_eq hi,bs]
   dsimp only
   have hN':=rl_nam hF.n1 (f:=f) (i:=i) hN
   cases hget:BN M ((i:Int),rl f i 0 a,rl f i 1 b,rl f i 2 c,rl f i 3 d,rl f i 4 e) with
   |some y=>
    have:=hM i _ _ _ _ _ y hget
    refine⟨M,?_,hM,MSame.refl _ _⟩
    rw[Option.isSome_some,Bool.not_true,cond_false,Option.getD_some,this,rl_sem hf hi]
   |none=>
    rw[Option.isSome_none,Bool.not_false,cond_true]
    obtain⟨M',j1,j2,j3⟩:=direct_eq hF hf (B:=B) hi hr hM hN' hx
    rw[j1,bs]
    dsimp only
    have hn:BN M' ((i:Int),rl f i 0 a,rl f i 1 b,rl f i 2 c,rl f i 3 d,rl f i 4 e)=none:=by
     rw[j3 _ (Int.le_refl _)];exact hget
    unfold mdPut
    rw[hn,if_neg (by simp),bs,rl_sem hf hi]
    refine⟨_,rfl,λj a' b' c' d' e' y hy=> ?_,λkey hkey=> ?_⟩
    ·rw[mdGet_snoc] at hy
     cases hm:BN M' ((j:Int),a',b',c',d',e') with
     |some z=>
      rw[hm,Option.some_or] at hy
      obtain rfl:=Option.some.inj hy
      exact j2 j _ _ _ _ _ z hm
     |none=>
      rw[hm,Option.none_or] at hy
      split at hy
      ·rename_i e0
       obtain rfl:=Option.some.inj hy
       simp only[Prod.mk.injEq] at e0
       obtain⟨e1,rfl,rfl,rfl,rfl,rfl⟩:=e0
       obtain rfl:i=j:=by omega
       exact(rl_sem hf hi a b c d e).symm
      ·cases hy
    ·rw[mdGet_snoc,j3 key (by omega)]
     rw[if_neg (λe0=>by rw[←e0] at hkey;dsimp only at hkey;omega),Option.or_none]
theorem root_eq {F:LI}(hF:Nets F){f:List Fct}(hf:frm f=true){B:List Bool}(hB:B.length=f.length){M:B3}{a b c d e:Int}(hM:MOk F f M)(hN:Nam F.length [a,b,c] [d,e]):
  ∃M',D.B F f (frN f f.length) B M a b c d e=some (CT F f [a,b,c] [d,e],M')∧MOk F f M':=by
 obtain⟨hf1,hf40,_⟩:=frm_iff.1 hf
 unfold D.B D.l
 rw[show IntKind.i64.wrap ((f.length:Int)-1)=((f.length-1:Nat):Int) by rw[w64 (by omega) (by omega)];omega]
 obtain⟨M',j1,j2,_⟩:=holds_eq hF hf hB (f.length-1) (by omega) CL (by have:=Em;omega) M a b c d e hM hN
 exact⟨M',by rw[j1,bs];rfl,j2⟩
theorem mask_ex {n:Nat}(hn:n≤16)(φ:Nat→Bool):∃t:Nat,t<2^n∧∀i,i<n→has (t:Int) i=φ i:=by
 have hm:∀x∈((List.range n).filter φ).map Int.ofNat,0≤x∧x<32:=λx hx=>by
  obtain⟨i,hi,rfl⟩:=List.mem_map.1 hx
  have:=List.mem_range.1 (List.mem_filter.1 hi).1
  exact⟨by simp,by simp;omega⟩
 have hv:=VS.mk (((List.range n).filter φ).map Int.ofNat)
 have hh:=has_mk hm
 generalize mk (((List.range n).filter φ).map Int.ofNat)=t at hv hh
 obtain⟨m,rfl,_⟩:=hv.nat
 have key:∀i,has (m:Int) i=(decide (i<n)&&φ i):=λi=>by
  rw[hh,Bool.eq_iff_iff,decide_eq_true_eq,Bool.and_eq_true,decide_eq_true_eq,List.mem_map]
  constructor
  ·rintro⟨j,hj,e⟩
   have:j=i:=Int.ofNat.inj e
   subst this
   have:=List.mem_filter.1 hj
   exact⟨List.mem_range.1 this.1,this.2⟩
  ·rintro⟨h1,h2⟩
   exact⟨i,List.mem_filter.2 ⟨List.mem_range.2 h1,h2⟩,rfl⟩
 refine⟨m,Nat.lt_pow_two_of_testBit m λi hi=> ?_,λi hi=> ?_⟩
 ·rw[←BD,key,decide_eq_false (by omega)];rfl
 ·rw[key,decide_eq_true hi,Bool.true_and]
structure Perm (n:Nat)(p:Nat→Nat):Prop where
 lt:∀i,i<n→p i<n
 inj:∀i j,i<n→j<n→p i=p j→i=j
 sur:∀u,u<n→∃i,i<n∧p i=u
structure Rel (n:Nat)(p:Nat→Nat)(v s v' s':LI):Prop where
 vl:v.length=3
 sl:s.length=2
 vl':v'.length=3
 sl':s'.length=2
 v:∀q,q<3→∃i,i<n∧v.getD q 0=(i:Int)∧v'.getD q 0=((p i:Nat):Int)
 s:∀q,q<2→∀i,i<n→has (s.getD q 0) i=has (s'.getD q 0) (p i)
theorem Rel.setv {n:Nat}{p:Nat→Nat}{v s v' s':LI}(h:Rel n p v s v' s'){a u:Nat}(ha:a<3)(hu:u<n):Rel n p (v.set a (u:Int)) s (v'.set a ((p u:Nat):Int)) s':=
 ⟨by rw[List.length_set];exact h.vl,h.sl,by rw[List.length_set];exact h.vl',h.sl',λq hq=>by
  rw[Cg _ _ (by rw[h.vl];exact ha),Cg _ _ (by rw[h.vl'];exact ha)]
  by_cases e:q=a
  ·rw[if_pos e,if_pos e];exact⟨u,hu,rfl,rfl⟩
  ·rw[if_neg e,if_neg e];exact h.v q hq,h.s⟩
theorem Rel.sets {n:Nat}{p:Nat→Nat}{v s v' s':LI}(h:Rel n p v s v' s'){a:Nat}{t t':Int}(ha:a<2)(ht:∀i,i<n→has t i=has t' (p i)):Rel n p v (s.set a t) v' (s'.set a t'):=
 ⟨h.vl,by rw[List.length_set];exact h.sl,h.vl',by rw[List.length_set];exact h.sl',h.v,λq hq=>by
  rw[Cg _ _ (by rw[h.sl];exact ha),Cg _ _ (by rw[h.sl'];exact ha)]
  by_cases e:q=a
  ·rw[if_pos e,if_pos e];exact ht
  ·rw[if_neg e,if_neg e];exact h.s q hq⟩
open Classical in
theorem move_ex {n:Nat}(hn:n≤16){p:Nat→Nat}(hp:Perm n p)(t:Int):∃t':Nat,t'<2^n∧∀i,i<n→has t i=has (t':Int) (p i):=by
 obtain⟨t',h1,h2⟩:=mask_ex hn (λu=>decide (∃i,i<n∧p i=u∧has t i=true))
 refine⟨t',h1,λi hi=> ?_⟩
 rw[h2 _ (hp.lt i hi),Bool.eq_iff_iff,decide_eq_true_eq]
 constructor
 ·intro h;exact⟨i,hi,rfl,h⟩
 ·rintro⟨j,hj,e,h⟩
  rw[←hp.inj j i hj hi e];exact h
theorem sem_ren {n:Nat}(hn:n≤16){p:Nat→Nat}(hp:Perm n p){H F:LI}(hH:H.length=n)(hF:F.length=n)(hE:∀i j,i<n→j<n→has (H.getD i 0) j=has (F.getD (p i) 0) (p j)){f:List Fct}(hf:frm f=true):
  ∀i,i<f.length→∀v s v' s',Rel n p v s v' s'→sem H f i v s=sem F f i v' s':=by
 obtain⟨hf1,hf40,hok⟩:=frm_iff.1 hf
 intro i
 induction i using Nat.strongRecOn with
 |ind i ih=>
  intro hi v s v' s' hR
  have hx:=hok i hi
  rw[Da hf hi,Da hf hi]
  generalize f.getD i (0,0,0)=x at hx ⊢
  obtain⟨k,a,b⟩:=x
  unfold okF at hx
  unfold Dc atN
  dsimp only at hx ⊢
  have sub:∀j,j<i→∀v s v' s',Rel n p v s v' s'→sem H f j v s=sem F f j v' s':=λj hj=>ih j hj (by omega)
  rcases CY k with rfl|rfl|rfl|rfl|rfl|rfl|rfl|rfl|⟨h1,h2,h3,h4,h5,h6,h7,h8⟩
  ·have hx:(inr a 3&&inr b 3)=true:=hx
   rw[Bool.and_eq_true] at hx
   obtain⟨i1,l1,e1,e1'⟩:=hR.v _ (AJ hx.1)
   obtain⟨i2,l2,e2,e2'⟩:=hR.v _ (AJ hx.2)
   show has (H.getD (v.getD a.toNat 0).toNat 0) (v.getD b.toNat 0).toNat=has (F.getD (v'.getD a.toNat 0).toNat 0) (v'.getD b.toNat 0).toNat
   rw[e1,e2,e1',e2']
   exact hE i1 i2 l1 l2
  ·have hx:(inr a 3&&inr b 3)=true:=hx
   rw[Bool.and_eq_true] at hx
   obtain⟨i1,l1,e1,e1'⟩:=hR.v _ (AJ hx.1)
   obtain⟨i2,l2,e2,e2'⟩:=hR.v _ (AJ hx.2)
   show (v.getD a.toNat 0==v.getD b.toNat 0)=(v'.getD a.toNat 0==v'.getD b.toNat 0)
   rw[e1,e2,e1',e2',Bool.eq_iff_iff,beq_iff_eq,beq_iff_eq]
   constructor
   ·intro h
    have:i1=i2:=by omega
    rw[this]
   ·intro h
    rw[hp.inj i1 i2 l1 l2 (by omega)]
  ·have hx:(inr a 3&&inr b 2)=true:=hx
   rw[Bool.and_eq_true] at hx
   obtain⟨i1,l1,e1,e1'⟩:=hR.v _ (AJ hx.1)
   show has (s.getD b.toNat 0) (v.getD a.toNat 0).toNat=has (s'.getD b.toNat 0) (v'.getD a.toNat 0).toNat
   rw[e1,e1']
   exact hR.s _ (AJ hx.2) i1 l1
  ·have hx:(inr a i&&b==0)=true:=hx
   rw[Bool.and_eq_true] at hx
   show (!_)=(!_)
   rw[sub _ (AJ hx.1) v s v' s' hR]
  ·have hx:(inr a i&&inr b i)=true:=hx
   rw[Bool.and_eq_true] at hx
   show (_&&_)=(_&&_)
   rw[sub _ (AJ hx.1) v s v' s' hR,sub _ (AJ hx.2) v s v' s' hR]
  ·have hx:(inr a i&&inr b i)=true:=hx
   rw[Bool.and_eq_true] at hx
   show (_||_)=(_||_)
   rw[sub _ (AJ hx.1) v s v' s' hR,sub _ (AJ hx.2) v s v' s' hR]
  ·have hx:(inr a 3&&inr b i)=true:=hx
   rw[Bool.and_eq_true] at hx
   show ((List.range H.length).any λu=>sem H f b.toNat (v.set a.toNat (u:Int)) s)=(List.range F.length).any λu=>sem F f b.toNat (v'.set a.toNat (u:Int)) s'
   rw[hH,hF,Bool.eq_iff_iff,List.any_eq_true,List.any_eq_true]
   constructor
   ·rintro⟨u,hu,h⟩
    have hu:=List.mem_range.1 hu
    exact⟨p u,List.mem_range.2 (hp.lt u hu),by rw[←sub _ (AJ hx.2) _ _ _ _ (hR.setv (AJ hx.1) hu)];exact h⟩
   ·rintro⟨u,hu,h⟩
    obtain⟨w,hw,rfl⟩:=hp.sur u (List.mem_range.1 hu)
    exact⟨w,List.mem_range.2 hw,by rw[sub _ (AJ hx.2) _ _ _ _ (hR.setv (AJ hx.1) hw)];exact h⟩
  ·have hx:(inr a 2&&inr b i)=true:=hx
   rw[Bool.and_eq_true] at hx
   show ((List.range (2^H.length)).any λu=>sem H f b.toNat v (s.set a.toNat (u:Int)))=(List.range (2^F.length)).any λu=>sem F f b.toNat v' (s'.set a.toNat (u:Int))
   rw[hH,hF,Bool.eq_iff_iff,List.any_eq_true,List.any_eq_true]
   constructor
   ·rintro⟨t,_,h⟩
    obtain⟨t',h1,h2⟩:=move_ex hn hp (t:Int)
    exact⟨t',List.mem_range.2 h1,by rw[←sub _ (AJ hx.2) _ _ _ _ (hR.sets (AJ hx.1) h2)];exact h⟩
   ·rintro⟨t',_,h⟩
    obtain⟨t,h1,h2⟩:=mask_ex hn (λi=>has (t':Int) (p i))
    exact⟨t,List.mem_range.2 h1,by rw[sub _ (AJ hx.2) _ _ _ _ (hR.sets (AJ hx.1) h2)];exact h⟩
  ·simp[h1,h2,h3,h4,h5,h6,h7,h8] at hx
theorem large_ex {f:List Fct}(hf:frm f=true):∃B:List Bool,D.T f=some B∧B.length=f.length:=by
 obtain⟨hf1,hf40,hok⟩:=frm_iff.1 hf
 unfold D.T
 refine BS (λs:List Bool×LI×Int=>∃i:Nat,s.2.2=(i:Int)∧i≤f.length∧s.1.length=i∧s.2.1.length=i) (λs=>f.length-s.2.2.toNat) (λr=>r.length=f.length) ?_ ⟨0,rfl,by omega,rfl,rfl⟩ (λr hr=>⟨_,rfl,hr⟩)
 rintro⟨l,z,_⟩ ⟨i,rfl,hi,h1,h2⟩
 dsimp only at h1 h2 ⊢
 by_cases hlt:i<f.length
 ·rw[dlt hlt,cond_true,A8 hlt,bs,wi (by omega)]
  have hx:=hok i hlt
  rw[Bj hlt] at hx
  have az:∀x:Int,AB z [x]=some (z++[x]):=λx=>Bf (by simp;omega)
  have al:∀x:Bool,AB l [x]=some (l++[x]):=λx=>Bf (by simp;omega)
  have iz:∀a:Int,inr a i=true→idx z a=some (z.getD a.toNat 0):=λa ha=>by
   obtain⟨m,rfl,hm⟩:=BR ha
   rw[A8 (show m<z.length by omega)]
   exact congrArg some (Bj (show m<z.length by omega) 0).symm
  generalize f[i]=x at hx ⊢
  obtain⟨k,a,b⟩:=x
  unfold okF at hx
  dsimp only at hx ⊢
  have fin:∀(u:Bool) (w:Int),∃y,(some (.inl (l++[u],z++[w],((i+1:Nat):Int))):Option ((List Bool×LI×Int) ⊕ List Bool))=some y∧Stp (λs:List Bool×LI×Int=>∃i:Nat,s.2.2=(i:Int)∧i≤f.length∧s.1.length=i∧s.2.1.length=i) (λs=>f.length-s.2.2.toNat) (λr=>r.length=f.length) (l,z,(i:Int)) y:=
   λu w=>⟨_,rfl,⟨i+1,rfl,by omega,by simp;omega,by simp;omega⟩,by dsimp only;omega⟩
  by_cases h4:k=4
  ·subst h4
   have hx:(inr a i&&b==0)=true:=hx
   rw[Bool.and_eq_true] at hx
   show∃y,(idx z a).bind _=some y∧_
   rw[iz a hx.1,bs,az,bs,al,bs]
   exact fin _ _
  ·rw[beq_false_of_ne h4,cond_false]
   by_cases h56:k=5∨k=6
   ·have hx:(inr a i&&inr b i)=true:=by rcases h56 with rfl|rfl<;>exact hx
    rw[Bool.and_eq_true] at hx
    have e:((cond (k==5) (some (k==5)) (some (k==6)):Option Bool))=some true:=by rcases h56 with rfl|rfl<;>rfl
    rw[e,bs,cond_true,iz a hx.1,bs,iz b hx.2,bs,az,bs,al,bs]
    exact fin _ _
   ·have e:((cond (k==5) (some (k==5)) (some (k==6)):Option Bool))=some false:=by
     rw[beq_false_of_ne (λh=>h56 (.inl h)),beq_false_of_ne (λh=>h56 (.inr h))];rfl
    rw[e,bs,cond_false,az,bs,al,bs]
    exact fin _ _
 ·obtain rfl:i=f.length:=by omega
  rw[By,cond_false]
  exact⟨_,rfl,h1⟩
def sok (g:LL)(f:List Fct):Bool:=(gB g&&decide ((g.length:Int)≤8))&&frm f
theorem Eg {g:LL}(hg:GOk g)(h8:g.length≤8):Nets (g.map mk):=
 ⟨by rw[List.length_map];exact hg.n1,by rw[List.length_map];exact h8,λx hx=>by
  obtain⟨r,_,rfl⟩:=List.mem_map.1 hx;exact VS.mk r⟩
theorem sok_iff {g:LL}{f:List Fct}:sok g f=true↔GOk g∧g.length≤8∧frm f=true:=by
 unfold sok
 rw[Bool.and_eq_true,Bool.and_eq_true,decide_eq_true_eq,gB_iff]
 constructor
 ·rintro⟨⟨a,b⟩,c⟩;exact⟨a,by omega,c⟩
 ·rintro⟨a,b,c⟩;exact⟨⟨a,by omega⟩,c⟩
theorem Dv {g:LL}(hs:Sh2 g)(f:List Fct):
  (sok g f=false∧D.F g f=some none)∨(sok g f=true∧∃B:List Bool,B.length=f.length∧D.F g f=some (some (g.map mk,f,frN f f.length,B,[]))):=by
 unfold D.F D.Z0
 rw[C1 g hs,bs,bs,CC]
 cases h:sok g f with
 |false=>
  refine .inl ⟨rfl,?_⟩
  unfold sok at h
  cases hg:gB g&&decide ((g.length:Int)≤8) with
  |false=>rfl
  |true=>
   rw[hg,Bool.true_and] at h
   rw[h];rfl
 |true=>
  obtain⟨hg,h8,hf⟩:=sok_iff.1 h
  obtain⟨B,e,hB⟩:=large_ex hf
  refine .inr ⟨rfl,B,hB,?_⟩
  rw[Di hg,decide_eq_true (show (g.length:Int)≤8 by omega),hf,netsOf_eq g hg,freeIn_eq hf,e]
  rfl
theorem right_eq {g:LL}(hs:Sh2 g)(f:List Fct):D.u0 g f=some (sok g f):=by
 unfold D.u0 D.X0 sok
 rw[Cs g hs,bs,bs,Cc]
 cases gB g&&decide ((g.length:Int)≤8)<;>rfl
theorem MOk.nil (F:LI)(f:List Fct):MOk F f []:=λ_ _ _ _ _ _ y h=>by cases h
theorem nam0 {n:Nat}(hn:1≤n):Nam n [0,0,0] [0,0]:=by
 have hp:1≤2^n:=Nat.one_le_two_pow
 refine⟨rfl,rfl,λx hx=> ?_,λx hx=> ?_⟩
 ·simp only[List.mem_cons,List.not_mem_nil,or_false,or_self] at hx;subst hx;omega
 ·simp only[List.mem_cons,List.not_mem_nil,or_false,or_self] at hx;subst hx;omega
theorem DZ {g:LL}{f:List Fct}(h:sok g f=true):D.m g f=some (CT (g.map mk) f [0,0,0] [0,0]):=by
 obtain⟨hg,h8,hf⟩:=sok_iff.1 h
 rcases Dv hg.sh2 f with⟨e,_⟩|⟨_,B,hB,e⟩
 ·rw[h] at e;cases e
 ·unfold D.m
  rw[e,bs]
  have hN:=Eg hg h8
  obtain⟨M',e2,_⟩:=root_eq hN hf hB (MOk.nil _ _) (nam0 hN.n1)
  show (D.B _ _ _ _ _ _ _ _ _ _).bind _=_
  rw[e2];rfl
section
variable {g : LL} (hg : GOk g)
include hg
theorem BK (x:Int):D.q g x=some (inr x g.length):=by
 have:=hg.n16;have:=hg.n1
 unfold D.q D.p
 rw[C1 g hg.sh2,Di hg,bs,cond_true,w64 (by omega) (by omega),Db];rfl
theorem BY (x:Int):D.S g x=some (inr x g.length):=by
 have:=hg.n16;have:=hg.n1
 unfold D.S D.b
 rw[show D.o g=some (g.length:Int) from rfl,bs,w64 (by omega) (by omega),Db];rfl
theorem setOk1 {s:LI}(hs:s.length≤18):D.A g s=some (B8 s g.length):=by
 rw[impl_SetOk_eq g s hg.sh2 (by unfold Sh;omega),Di hg];rfl
theorem setOk2 {s:LI}(hs:s.length≤18):D.y g s=some (B8 s g.length):=by
 rw[spec_SetOk_eq g s hg.sh2 (by unfold Sh;omega),Di hg];rfl
end
theorem DI {s:LI}{n:Nat}(h:B8 s n=true):∀x∈s,0≤x∧x<(n:Int):=λx hx=>by
 have:=((Dj s n).1 h).2 x hx
 omega
theorem mk_lt {s:LI}{n:Nat}(hn:n≤16)(h:∀x∈s,0≤x∧x<(n:Int)):0≤mk s∧mk s<((2^n:Nat):Int):=by
 have hh:=has_mk (xs:=s) (λx hx=>by have:=h x hx;omega)
 obtain⟨m,e,_⟩:=(VS.mk s).nat
 rw[e] at hh ⊢
 have hm:m<2^n:=by
  refine Nat.lt_pow_two_of_testBit m λi hi=> ?_
  rw[←BD,hh]
  refine decide_eq_false λhm=> ?_
  have:=h _ hm
  omega
 exact⟨by omega,by exact_mod_cast hm⟩
def hAns (g:LL)(f:List Fct)(a b c:Int)(s t:LI):Bool:=
 inr a g.length&&(inr b g.length&&(inr c g.length&&(B8 s g.length&&(B8 t g.length&&CT (g.map mk) f [a,b,c] [mk s,mk t]))))
theorem HoldsIn_both {g:LL}(hF:Few g){f:List Fct}{vs:LI}(hv:vs.length≤4){sets:LL}(h2:sets.length≤2)(h18:∀s∈sets,s.length≤18):
  ∃r,D.a0 g f vs sets=some r∧D.d0 g f vs sets=some r∧(sok g f=false→r=false):=by
 rcases Dv hF.sh2 f with⟨e,ej⟩|⟨e,B,hB,ej⟩
 ·refine⟨false,?_,?_,λ_=>rfl⟩
  ·unfold D.a0;rw[ej];rfl
  ·unfold D.d0;rw[right_eq hF.sh2,e];rfl
 ·obtain⟨hg,h8,hf⟩:=sok_iff.1 e
  have hn1:=hg.n1
  by_cases hl:vs.length=3∧sets.length=2
  ·obtain⟨hl3,hl2⟩:=hl
   obtain⟨a,b,c,rfl⟩:∃a b c,vs=[a,b,c]:=by
    match vs,hl3 with
    |[a,b,c],_=>exact⟨a,b,c,rfl⟩
   obtain⟨s,t,rfl⟩:∃s t,sets=[s,t]:=by
    match sets,hl2 with
    |[s,t],_=>exact⟨s,t,rfl⟩
   have hs:=h18 s (by simp)
   have ht:=h18 t (by simp)
   refine⟨hAns g f a b c s t,?_,?_,λh=>by rw[e] at h;cases h⟩
   ·unfold D.a0 hAns
    rw[ej,bs]
    show (AF _ _).bind _=_
    cases ha:inr a g.length with
    |false=>
     refine(congrArg (λo=>Option.bind o _) (Ba (r:= .inr false) ?_)).trans rfl
     show (D.q g a).bind _=_
     rw[BK hg,ha];rfl
    |true=>
     cases hb:inr b g.length with
     |false=>
      refine(congrArg (λo=>Option.bind o _) ((AW (s':=(1,a,0,0)) ?_).trans (Ba (r:= .inr false) ?_))).trans rfl
      ·show (D.q g a).bind _=_
       rw[BK hg,ha];rfl
      ·show (D.q g b).bind _=_
       rw[BK hg,hb];rfl
     |true=>
      cases hc:inr c g.length with
      |false=>
       refine(congrArg (λo=>Option.bind o _) ((AW (s':=(1,a,0,0)) ?_).trans ((AW (s':=(2,a,b,0)) ?_).trans (Ba (r:= .inr false) ?_)))).trans rfl
       ·show (D.q g a).bind _=_
        rw[BK hg,ha];rfl
       ·show (D.q g b).bind _=_
        rw[BK hg,hb];rfl
       ·show (D.q g c).bind _=_
        rw[BK hg,hc];rfl
      |true=>
       refine(congrArg (λo=>Option.bind o _) ((AW (s':=(1,a,0,0)) ?_).trans ((AW (s':=(2,a,b,0)) ?_).trans ((AW (s':=(3,a,b,c)) ?_).trans (Ba (r:= .inl (a,b,c)) rfl))))).trans ?_
       ·show (D.q g a).bind _=_
        rw[BK hg,ha];rfl
       ·show (D.q g b).bind _=_
        rw[BK hg,hb];rfl
       ·show (D.q g c).bind _=_
        rw[BK hg,hc];rfl
       ·show (AF _ _).bind _=_
        cases hS:B8 s g.length with
        |false=>
         refine(congrArg (λo=>Option.bind o _) (Ba (r:= .inr false) ?_)).trans rfl
         show (D.A g s).bind _=_
         rw[setOk1 hg hs,hS];rfl
        |true=>
         have hSr:=DI hS
         have eS:D.M s=some (mk s):=D9 s (by unfold Sh;omega) (λx hx=>(hSr x hx).1)
         cases hT:B8 t g.length with
         |false=>
          refine(congrArg (λo=>Option.bind o _) ((AW (s':=(1,mk s,0)) ?_).trans (Ba (r:= .inr false) ?_))).trans rfl
          ·show (D.A g s).bind _=_
           rw[setOk1 hg hs,hS,bs,eS];rfl
          ·show (D.A g t).bind _=_
           rw[setOk1 hg ht,hT];rfl
         |true=>
          have hTr:=DI hT
          have eT:D.M t=some (mk t):=D9 t (by unfold Sh;omega) (λx hx=>(hTr x hx).1)
          refine(congrArg (λo=>Option.bind o _) ((AW (s':=(1,mk s,0)) ?_).trans ((AW (s':=(2,mk s,mk t)) ?_).trans (Ba (r:= .inl (mk s,mk t)) rfl)))).trans ?_
          ·show (D.A g s).bind _=_
           rw[setOk1 hg hs,hS,bs,eS];rfl
          ·show (D.A g t).bind _=_
           rw[setOk1 hg ht,hT,bs,eT];rfl
          ·have hNets:=Eg hg h8
           have hN:Nam (g.map mk).length [a,b,c] [mk s,mk t]:=by
            rw[List.length_map]
            refine⟨rfl,rfl,λx hx=> ?_,λx hx=> ?_⟩
            ·simp only[List.mem_cons,List.not_mem_nil,or_false] at hx
             rcases hx with rfl|rfl|rfl
             ·exact inr_iff.1 ha
             ·exact inr_iff.1 hb
             ·exact inr_iff.1 hc
            ·simp only[List.mem_cons,List.not_mem_nil,or_false] at hx
             rcases hx with rfl|rfl
             ·exact mk_lt (by omega) hSr
             ·exact mk_lt (by omega) hTr
           obtain⟨M',e2,_⟩:=root_eq hNets hf hB (MOk.nil _ _) hN
           show (D.B _ _ _ _ _ _ _ _ _ _).bind _=_
           rw[e2];rfl
   ·unfold D.d0 hAns
    rw[right_eq hF.sh2,e,bs]
    show (AF _ _).bind _=_
    cases ha:inr a g.length with
    |false=>
     refine(congrArg (λo=>Option.bind o _) (Ba (r:= .inr false) ?_)).trans rfl
     rw[show decide ((0:Int)<(([a,b,c]:LI).length:Int))=true from rfl,cond_true,show idx [a,b,c] (0:Int)=some a from rfl,bs]
     rw[BY hg,ha];rfl
    |true=>
     cases hb:inr b g.length with
     |false=>
      refine(congrArg (λo=>Option.bind o _) ((AW (s':=1) ?_).trans (Ba (r:= .inr false) ?_))).trans rfl
      ·rw[show decide ((0:Int)<(([a,b,c]:LI).length:Int))=true from rfl,cond_true,show idx [a,b,c] (0:Int)=some a from rfl,bs]
       rw[BY hg,ha];rfl
      ·rw[show decide ((1:Int)<(([a,b,c]:LI).length:Int))=true from rfl,cond_true,show idx [a,b,c] (1:Int)=some b from rfl,bs]
       rw[BY hg,hb];rfl
     |true=>
      cases hc:inr c g.length with
      |false=>
       refine(congrArg (λo=>Option.bind o _) ((AW (s':=1) ?_).trans ((AW (s':=2) ?_).trans (Ba (r:= .inr false) ?_)))).trans rfl
       ·rw[show decide ((0:Int)<(([a,b,c]:LI).length:Int))=true from rfl,cond_true,show idx [a,b,c] (0:Int)=some a from rfl,bs]
        rw[BY hg,ha];rfl
       ·rw[show decide ((1:Int)<(([a,b,c]:LI).length:Int))=true from rfl,cond_true,show idx [a,b,c] (1:Int)=some b from rfl,bs]
        rw[BY hg,hb];rfl
       ·rw[show decide ((2:Int)<(([a,b,c]:LI).length:Int))=true from rfl,cond_true,show idx [a,b,c] (2:Int)=some c from rfl,bs]
        rw[BY hg,hc];rfl
      |true=>
       refine(congrArg (λo=>Option.bind o _) ((AW (s':=1) ?_).trans ((AW (s':=2) ?_).trans ((AW (s':=3) ?_).trans (Ba (r:= .inl ()) rfl))))).trans ?_
       ·rw[show decide ((0:Int)<(([a,b,c]:LI).length:Int))=true from rfl,cond_true,show idx [a,b,c] (0:Int)=some a from rfl,bs]
        rw[BY hg,ha];rfl
       ·rw[show decide ((1:Int)<(([a,b,c]:LI).length:Int))=true from rfl,cond_true,show idx [a,b,c] (1:Int)=some b from rfl,bs]
        rw[BY hg,hb];rfl
       ·rw[show decide ((2:Int)<(([a,b,c]:LI).length:Int))=true from rfl,cond_true,show idx [a,b,c] (2:Int)=some c from rfl,bs]
        rw[BY hg,hc];rfl
       ·show (AF _ _).bind _=_
        cases hS:B8 s g.length with
        |false=>
         refine(congrArg (λo=>Option.bind o _) (Ba (r:= .inr false) ?_)).trans rfl
         show (D.y g s).bind _=_
         rw[setOk2 hg hs,hS];rfl
        |true=>
         have hSr:=DI hS
         have eS:D.I s=some (mk s):=l25Mask_eq s (by unfold Sh;omega) (λx hx=>by have:=hSr x hx;omega)
         cases hT:B8 t g.length with
         |false=>
          refine(congrArg (λo=>Option.bind o _) ((AW (s':=([mk s],1)) ?_).trans (Ba (r:= .inr false) ?_))).trans rfl
          ·show (D.y g s).bind _=_
           rw[setOk2 hg hs,hS,bs]
           show (D.I s).bind _=_
           rw[eS];rfl
          ·show (D.y g t).bind _=_
           rw[setOk2 hg ht,hT];rfl
         |true=>
          have hTr:=DI hT
          have eT:D.I t=some (mk t):=l25Mask_eq t (by unfold Sh;omega) (λx hx=>by have:=hTr x hx;omega)
          refine(congrArg (λo=>Option.bind o _) ((AW (s':=([mk s],1)) ?_).trans ((AW (s':=([mk s,mk t],2)) ?_).trans (Ba (r:= .inl [mk s,mk t]) rfl)))).trans ?_
          ·show (D.y g s).bind _=_
           rw[setOk2 hg hs,hS,bs]
           show (D.I s).bind _=_
           rw[eS];rfl
          ·show (D.y g t).bind _=_
           rw[setOk2 hg ht,hT,bs]
           show (D.I t).bind _=_
           rw[eT];rfl
          ·have hNets:=Eg hg h8
           have hN:Nam (g.map mk).length [a,b,c] [mk s,mk t]:=by
            rw[List.length_map]
            refine⟨rfl,rfl,λx hx=> ?_,λx hx=> ?_⟩
            ·simp only[List.mem_cons,List.not_mem_nil,or_false] at hx
             rcases hx with rfl|rfl|rfl
             ·exact inr_iff.1 ha
             ·exact inr_iff.1 hb
             ·exact inr_iff.1 hc
            ·simp only[List.mem_cons,List.not_mem_nil,or_false] at hx
             rcases hx with rfl|rfl
             ·exact mk_lt (by omega) hSr
             ·exact mk_lt (by omega) hTr
           show (D.p0 g f [a,b,c] [mk s,mk t]).bind _=_
           unfold D.p0
           rw[l25Bits_eq hg,bs,l30Says_eq hNets hf hN];rfl
  ·have hcnd:(((vs.length:Int) !=3)||((sets.length:Int) !=2))=true:=by
    rw[Bool.or_eq_true,bne_iff_ne,bne_iff_ne];omega
   refine⟨false,?_,?_,λ_=>rfl⟩
   ·unfold D.a0
    rw[ej,bs]
    show (cond (((vs.length:Int) !=3)||((sets.length:Int) !=2)) _ _)=_
    rw[hcnd,cond_true]
   ·unfold D.d0
    rw[right_eq hF.sh2,e,bs,Bool.not_true,Bool.false_or,hcnd,cond_true]
end Go.Sx

namespace Go.Sx
theorem w6Order_ok {b:LI}{i:Int}(h:DK b i)(z:Int){g:LL}(hg:GOk g):∃y,D.o0 b i z g=some y∧OOk g y.1:=by
 have h16:=hg.n16
 unfold D.o0
 refine BS (λs:LI×Int×LI×Int×Int=>∃v:Nat,s.2.1=(v:Int)∧v≤g.length∧s.1.length=v∧(∀x∈s.1,0≤x∧x<(v:Int))∧s.1.Nodup∧s.2.2.1=b∧DK b s.2.2.2.1) (λs=>g.length-s.2.1.toNat) (λr=>OOk g r.1) ?_ ⟨0,rfl,by omega,rfl,λx hx=>(by cases hx),List.nodup_nil,rfl,h⟩ (λr hr=>⟨_,rfl,hr⟩)
 rintro⟨l,_,b2,i,z⟩ ⟨v,rfl,hv,hl,hr,hn,rfl,hk⟩
 dsimp only at hl hr hn hk ⊢
 by_cases hlt:v<g.length
 ·rw[dlt hlt,cond_true,wi (by omega)]
  obtain⟨r,i',z',e,r0,r1,hk'⟩:=below_ok hk z ((v+1:Nat):Int) (by omega)
  obtain⟨q,rfl⟩:=Int.eq_ofNat_of_zero_le r0
  have hq:q≤l.length:=by omega
  rw[e,bs]
  dsimp only
  rw[DJ hq,bs,Bf (by simp;omega),bs,List.nil_append,Bf (by simp;omega),bs,Er hq,bs,Bf (by simp;omega),bs]
  have hp:(l.take q++[(v:Int)]++l.drop q).Perm ((v:Int)::l):=by
   rw[List.append_assoc,List.singleton_append]
   refine List.perm_middle.trans ?_
   rw[List.take_append_drop]
  refine⟨_,rfl,⟨v+1,rfl,by omega,by rw[hp.length_eq,List.length_cons,hl],λx hx=> ?_,?_,rfl,hk'⟩,by dsimp only;omega⟩
  ·rcases List.mem_cons.1 (hp.mem_iff.1 hx) with rfl|hx
   ·omega
   ·have:=hr x hx;omega
  ·refine hp.nodup_iff.2 (List.nodup_cons.2 ⟨λhm=> ?_,hn⟩)
   have:=hr _ hm;omega
 ·obtain rfl:v=g.length:=by omega
  rw[By,cond_false]
  exact⟨_,rfl,hl,hr,hn⟩
theorem WhereIn_eq {g:LL}{f:List Fct}(h:sok g f=true)(h0:∀q,fq f (f.length-1) q=false):∃l,D.O0 g f=some l∧(((l.length:Int)==(g.length:Int))=CT (g.map mk) f [0,0,0] [0,0]):=by
 obtain⟨hg,h8,hf⟩:=sok_iff.1 h
 have hn1:=hg.n1
 rcases Dv hg.sh2 f with⟨e,_⟩|⟨_,B,hB,e⟩
 ·rw[h] at e;cases e
 have hNets:=Eg hg h8
 have hml:(g.map mk).length=g.length:=by rw[List.length_map]
 have hp:1≤2^g.length:=Nat.one_le_two_pow
 unfold D.O0
 rw[e,bs]
 show∃l,(AF _ _).bind _=some l∧_
 generalize hS:CT (g.map mk) f [0,0,0] [0,0]=S
 refine BS (λs:Int×Int×LI×LI×List Bool×B3=>∃v:Nat,s.2.1=(v:Int)∧v≤g.length∧VS s.1∧(∀u,has s.1 u=(S&&decide (u<v)))∧s.2.2.1=g.map mk∧s.2.2.2.1=frN f f.length∧s.2.2.2.2.1=B∧MOk (g.map mk) f s.2.2.2.2.2) (λs=>g.length-s.2.1.toNat) (λr=>VS r∧∀u,has r u=(S&&decide (u<g.length))) ?_ ⟨0,rfl,by omega,VS.zero,λu=>by simp[Ci],rfl,rfl,rfl,MOk.nil _ _⟩ ?_
 ·rintro⟨m,_,_,_,_,M⟩ ⟨v,rfl,hv,hm,hh,rfl,rfl,rfl,hM⟩
  dsimp only at hm hh hM ⊢
  rw[hml]
  by_cases hlt:v<g.length
  ·have hN:Nam (g.map mk).length [(v:Int),0,0] [0,0]:=by
    rw[hml]
    have:=nam0 (n:=g.length) hn1
    exact⟨rfl,rfl,λx hx=>by
     simp only[List.mem_cons,List.not_mem_nil,or_false,or_self] at hx
     rcases hx with rfl|rfl<;>omega,this.s0⟩
   obtain⟨M',j1,j2⟩:=root_eq hNets hf hB hM hN
   rw[dlt hlt,cond_true,j1,bs]
   dsimp only
   rw[says_any hf h0 (v':=[0,0,0]) (s':=[0,0]) rfl rfl rfl rfl,hS,wi (by omega)]
   cases S with
   |true=>
    rw[cond_true,Et,bs]
    refine⟨_,rfl,⟨v+1,rfl,by omega,VS.ior _ _,λu=> ?_,rfl,rfl,rfl,j2⟩,by dsimp only;omega⟩
    dsimp only
    rw[C4 hm (VS.ishl _ _),hh,Co (by omega),Bool.true_and,Bool.true_and,Bool.eq_iff_iff,Bool.or_eq_true,decide_eq_true_eq,decide_eq_true_eq,decide_eq_true_eq]
    omega
   |false=>
    rw[cond_false]
    exact⟨_,rfl,⟨v+1,rfl,by omega,hm,λu=>by dsimp only;rw[hh];rfl,rfl,rfl,rfl,j2⟩,by dsimp only;omega⟩
  ·obtain rfl:v=g.length:=by omega
   rw[By,cond_false]
   exact⟨_,rfl,hm,hh⟩
 ·rintro r ⟨hr,hh⟩
  rw[numbers_eq r hr,bs]
  refine⟨_,rfl,?_⟩
  cases S with
  |true=>
   have:r=full g.length:=hr.ext (full_vs _) λv _=>by rw[hh,has_full (by omega)];rfl
   rw[this,elems_full (by omega),List.length_map,List.length_range,beq_self_eq_true]
  |false=>
   have:r=0:=hr.eq_zero.2 λv _=>by rw[hh];rfl
   rw[this,elems_zero]
   rw[beq_eq_false_iff_ne]
   simp;omega
theorem perm_of {g:LL}{o:LI}(ho:OOk g o):Perm g.length (λi=>(o.getD i 0).toNat):=by
 have hl:=ho.len
 have hget:∀i (hi:i<g.length),o[i]? =some ((((o.getD i 0).toNat:Nat)):Int):=λi hi=>by
  have hio:i<o.length:=by omega
  have:=ho.rng _ (List.getElem_mem hio)
  rw[Bj hio,List.getElem?_eq_getElem hio]
  congr 1;omega
 refine⟨λi hi=> ?_,λi j hi hj e=> ?_,λu hu=> ?_⟩
 ·have hio:i<o.length:=by omega
  have:=ho.rng _ (List.getElem_mem hio)
  rw[Bj hio];omega
 ·have e1:=hget i hi
  have e2:=hget j hj
  rw[e,←e2] at e1
  exact(List.getElem?_inj (by omega) ho.nd).1 e1
 ·obtain⟨i,hi,e⟩:=place' ho hu
  refine⟨i,hi,?_⟩
  have:=hget i hi
  rw[e] at this
  have:=Option.some.inj this
  omega
theorem Renamed_says {g:LL}{f:List Fct}(h:sok g f=true)(h0:∀q,fq f (f.length-1) q=false){o:LI}(ho:OOk g o):
  ∃y,D.i0 g o=some y∧D.m y.1 f=some (CT (g.map mk) f [0,0,0] [0,0]):=by
 obtain⟨hg,h8,hf⟩:=sok_iff.1 h
 have h16:=hg.n16
 have hn1:=hg.n1
 have hl:=ho.len
 unfold D.i0
 rw[Ew g o hg.sh2 (by unfold Sh;omega),Di hg,Bool.true_and,bs,(ordB_iff g o).2 ho,Bool.not_true,cond_false]
 obtain⟨y,e,hy,hyl,hya⟩:=l2Of_ok hg (L:=o) (by omega) (by omega) ho.rng
 rw[e,bs]
 refine⟨_,rfl,?_⟩
 dsimp only
 have hyn:y.length=g.length:=by omega
 have hp:=perm_of ho
 rw[DZ (sok_iff.2 ⟨hy,by omega,hf⟩)]
 have hE:∀i j,i<g.length→j<g.length→has ((y.map mk).getD i 0) j=has ((g.map mk).getD ((λi=>(o.getD i 0).toNat) i) 0) ((λi=>(o.getD i 0).toNat) j):=λi j hi hj=>by
  have k1:=nb_mk hy (u:=i) (w:=j) (by omega)
  have k2:=nb_mk hg (u:=(o.getD i 0).toNat) (w:=(o.getD j 0).toNat) (hp.lt i hi)
  unfold nb at k1 k2
  dsimp only
  rw[Bool.eq_iff_iff,k1,k2,hya]
  exact⟨λh=>h.2.2,λh=>⟨by omega,by omega,h⟩⟩
 have hf1:=(frm_iff.1 hf).1
 have:=sem_ren h16 hp (H:=y.map mk) (F:=g.map mk) (by rw[List.length_map];exact hyn) (by rw[List.length_map]) hE hf (f.length-1) (by omega) [0,0,0] [0,0] [(((o.getD 0 0).toNat:Nat):Int),(((o.getD 0 0).toNat:Nat):Int),(((o.getD 0 0).toNat:Nat):Int)] [0,0]
  ⟨rfl,rfl,rfl,rfl,λq hq=>⟨0,by omega,by
    have:q=0∨q=1∨q=2:=by omega
    rcases this with rfl|rfl|rfl<;>rfl,by
    have:q=0∨q=1∨q=2:=by omega
    rcases this with rfl|rfl|rfl<;>rfl⟩,λq hq i hi=>by
    have:q=0∨q=1:=by omega
    rcases this with rfl|rfl
    ·show has 0 i=has 0 _
     rw[Ci,Ci]
    ·show has 0 i=has 0 _
     rw[Ci,Ci]⟩
 refine congrArg some (Eq.trans this ?_)
 exact says_any hf h0 rfl rfl rfl rfl
theorem FnNegated_true (code:LI)(hb:∀x∈code,0≤x∧x≤255):D.a1 code=some true:=by
 unfold D.a1 D.Y0
 rw[bs]
 by_cases hl:(4096:Int)<(code.length:Int)
 ·rw[decide_eq_true hl,cond_true]
 ·obtain⟨⟨g,f,vs,sets⟩,e,hg,hf,hv,h2,h18⟩:=DrawHoldsIn_ok code hb (by omega)
  dsimp only at hg hf hv h2 h18
  obtain⟨r,e1,e2,hr⟩:=HoldsIn_both hg hv h2 h18 (f:=f)
  rw[decide_eq_false hl,cond_false,e,bs]
  dsimp only
  rw[e1,bs,e2,bs,bne_self_eq_false,cond_false,Eh hf.2,bs,Cc,bs,Cs g hg.sh2]
  have hb1:(cond (!frm f) (some true) ((some (gB g)).bind λy_104=>some (!y_104)))=some (!frm f|| !gB g):=by
   cases frm f<;>rfl
  rw[hb1,bs]
  cases hs:sok g f with
  |false=>
   have:((!frm f|| !gB g)||decide ((8:Int)<(g.length:Int)))=true:=by
    cases h1:frm f with
    |false=>rfl
    |true=>
     cases h2:gB g with
     |false=>rfl
     |true=>
      unfold sok at hs
      rw[h1,h2,Bool.and_true,Bool.true_and,decide_eq_false_iff_not] at hs
      rw[decide_eq_true (by omega),Bool.or_true]
   rw[this,cond_true,hr hs];rfl
  |true=>
   obtain⟨hG,h8,hF⟩:=sok_iff.1 hs
   have hf1:=(frm_iff.1 hF).1
   rw[hF,Di hG,decide_eq_false (show¬(8:Int)<(g.length:Int) by omega)]
   show (D.m0 f).bind _=_
   have hel:=DW (fre f (f.length-1))
   rw[Ei hF,bs,Ej hF,bs,likeInts_self _ (by unfold Sh;omega),bs,DZ hs]
   have hneg:∀(n:List Fct) (ok:Bool),(if true&&decide (f.length<40) then(neg f,true) else(([]:List Fct),false))=(n,ok)→
     ((cond ok ((D.u n).bind λy_276=>(cond (!y_276) (some true) ((D.m g n).bind λy_298=>(some (CT (g.map mk) f [0,0,0] [0,0])).bind λy_304=>some (y_298==y_304))).bind λb_296=>some b_296) (some false)).bind λb_274=>some b_274)=some false:=by
    intro n ok h
    by_cases h40:f.length<40
    ·rw[decide_eq_true h40] at h
     simp only[Bool.and_self,if_true,Prod.mk.injEq] at h
     obtain⟨rfl,rfl⟩:=h
     have hnf:=neg_frm hF h40
     rw[cond_true,Cc,hnf,bs,Bool.not_true,cond_false,DZ (sok_iff.2 ⟨hG,h8,hnf⟩),neg_says hF h40]
     cases CT (g.map mk) f [0,0,0] [0,0]<;>rfl
    ·rw[decide_eq_false h40] at h
     simp only[Bool.and_false,Bool.false_eq_true,if_false,Prod.mk.injEq] at h
     obtain⟨rfl,rfl⟩:=h
     rfl
   generalize hn:(if true&&decide (f.length<40) then(neg f,true) else(([]:List Fct),false))=nn
   obtain⟨n,ok⟩:=nn
   have hneg:=hneg n ok hn
   dsimp only
   rw[Bool.not_true,cond_false,hneg,bs,cond_false]
   by_cases h0:(0:Int)<((Bq (fre f (f.length-1))).length:Int)
   ·rw[decide_eq_true h0,cond_true]
   ·rw[decide_eq_false h0,cond_false]
    have hel0:Bq (fre f (f.length-1))=[]:=List.eq_nil_of_length_eq_zero (by omega)
    have hq:∀q,fq f (f.length-1) q=false:=λq=>by
     cases hc:fq f (f.length-1) q with
     |false=>rfl
     |true=>
      have:(q:Int)∈Bq (fre f (f.length-1)):=(mem_elems_nat (fre_vs f _)).2 hc
      rw[hel0] at this;cases this
    obtain⟨z,ez,hk⟩:=roll_ok code 817 hb (by omega)
    obtain⟨y,ey,ho⟩:=w6Order_ok hk z hG
    obtain⟨x,ex,hx⟩:=Renamed_says hs hq ho
    obtain⟨l,el,hl2⟩:=WhereIn_eq hs hq
    rw[ez,bs]
    dsimp only
    rw[ey,bs,ex,bs,bs,hx,bs,bs,beq_self_eq_true,cond_true,el,bs,bs,hl2,beq_self_eq_true]
end Go.Sx
