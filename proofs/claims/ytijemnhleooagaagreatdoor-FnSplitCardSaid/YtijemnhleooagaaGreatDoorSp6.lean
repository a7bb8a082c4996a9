/- Parts. -/
import Derived.Test.YtijemnhleooagaaGreatDoorSp5
import Derived.Lib.SplitLaws
import Derived.Lib.ParseIntBTie
import Derived.Lib.SmallJoins
import Derived.Laws.Strings
set_option linter.unusedVariables false
set_option linter.unusedSimpArgs false
set_option linter.unusedSectionVars false
namespace Go.Sx
def lf (xs:List (Int×Int))(v:Nat):Int:=(xs.getD v (0,0)).1
def rt (xs:List (Int×Int))(v:Nat):Int:=(xs.getD v (0,0)).2
def meetB (xs:List (Int×Int))(u v:Nat):Bool:=decide (lf xs u≤rt xs v)&&decide (lf xs v≤rt xs u)
def rowI (xs:List (Int×Int))(v m:Nat):LI:=((List.range m).filter λu=>decide (u≠v)&&meetB xs u v).map Int.ofNat
def gI (xs:List (Int×Int)):LL:=(List.range xs.length).map λv=>rowI xs v xs.length
theorem loop_app {α β γ S:Type}{step:S→Option (S ⊕ List β)}{k:List β→Option γ}(xs:List α)(enc:List β→Int→S)(f:α→β)(l0:List β)(hl:l0.length+xs.length≤4294967296)
  (hstep:∀s (i:Nat) (h:i<xs.length),step (enc s i)=(AU s [f xs[i]]).bind λl=>some (.inl (enc l ((i+1:Nat):Int))))
  (hend:∀s,step (enc s xs.length)=some (.inr s)):(Aw step (enc l0 0)).bind k=k (l0++xs.map f):=by
 have key:∀i,i≤xs.length→Aw step (enc l0 0)=Aw step (enc (l0++(xs.take i).map f) i):=by
  intro i
  induction i with
  |zero=>intro _;simp
  |succ i ih=>
   intro hi
   rw[ih (by omega)]
   have h1:=hstep (l0++(xs.take i).map f) i (by omega)
   rw[Bp (by simp;omega),bs] at h1
   rw[Cj h1,List.take_succ_eq_append_getElem (show i<xs.length by omega),List.map_append,List.append_assoc]
   rfl
 rw[key xs.length (Nat.le_refl _),List.take_length,Cr (hend _)];rfl
abbrev ap (a b : Nat) : Int × Int := ((a : Int), (b : Int))
section
variable {g : LL} (hg : GOk g)
include hg
end
end Go.Sx

namespace Go.Sx
abbrev Vx (n at' x:Nat):Prop:=x<n∧x≠at'
def PP (F : LI) (n : Nat) (S : Nat → Prop) : Prop := ∀ c x, S c → S x → x ≠ c → (∀ w, Ad F c w → Cn (Ad F) (Vx n c) x w → S w) ∧ ∀ y, S y → y ≠ c → Cn (Ad F) (Vx n c) x y → Cn (Ad F) (fun z => S z ∧ z ≠ c) x y
def Two (S:Int):Prop:=∃x y,El S x∧El S y∧x≠y
section
variable {F : LI} {n : Nat} (hn : n ≤ 16) (hF : FOk F n)
include hn hF
end
end Go.Sx

namespace Go.Sx
def pr (a b : Nat) : LI := [(a : Int), (b : Int)]
def Clo (g : LL) (u v a b : Nat) : Prop := ∀ T : Nat → Nat → Prop, T u v → T v u → (∀ a b w, T a b → adj g a w → Cn (adj g) (Vx g.length a) b w → T a w ∧ T w a) → T a b
section
variable {g : LL} (hg : GOk g)
include hg
end
end Go.Sx

namespace Go.Sx
def allB (n:Nat):LI:=(List.range n).map Int.ofNat
theorem F5 {α:Type}(p:Nat→Bool)(f:Nat→α)(s0:List α)(x:α):∀n,x∈(List.range n).foldl (λs i=>if p i then s++[f i] else s) s0↔x∈s0∨∃i,i<n∧p i=true∧x=f i
 |0=>by simp
 |n+1=>by
  rw[List.range_succ,List.foldl_append,List.foldl_cons,List.foldl_nil]
  have ih:=F5 p f s0 x n
  by_cases hp:p n=true
  ·rw[if_pos hp,List.mem_append,ih]
   constructor
   ·rintro((h|⟨i,h1,h2⟩)|h)
    ·exact .inl h
    ·exact .inr ⟨i,by omega,h2⟩
    ·simp at h;exact .inr ⟨n,by omega,hp,h⟩
   ·rintro(h|⟨i,h1,h2,h3⟩)
    ·exact .inl (.inl h)
    ·by_cases e:i=n
     ·subst e;exact .inr (by simp[h3])
     ·exact .inl (.inr ⟨i,by omega,h2,h3⟩)
  ·rw[if_neg hp,ih]
   constructor
   ·rintro(h|⟨i,h1,h2⟩)
    ·exact .inl h
    ·exact .inr ⟨i,by omega,h2⟩
   ·rintro(h|⟨i,h1,h2,h3⟩)
    ·exact .inl h
    ·by_cases e:i=n
     ·subst e;exact absurd h2 hp
     ·exact .inr ⟨i,by omega,h2,h3⟩
theorem mem_rowF (r:LI)(u:Nat)(s:LL)(x:LI):x∈Ec r u s↔x∈s∨∃v∈r,(u:Int)<v∧x=[(u:Int),v]:=by
 unfold Ec
 have:=F5 (λi=>decide ((u:Int)<r.getD i 0)) (λi=>[(u:Int),r.getD i 0]) s x r.length
 simp only[decide_eq_true_eq] at this
 rw[this]
 constructor
 ·rintro(h|⟨i,h1,h2,h3⟩)
  ·exact .inl h
  ·rw[AW h1] at h2 h3
   exact .inr ⟨r[i],List.getElem_mem h1,h2,h3⟩
 ·rintro(h|⟨v,h1,h2,h3⟩)
  ·exact .inl h
  ·obtain⟨i,hi,rfl⟩:=List.getElem_of_mem h1
   exact .inr ⟨i,hi,by rw[AW hi];exact h2,by rw[AW hi];exact h3⟩
theorem Ek {g:LL}(hg:GOk g)(x:LI):x∈CA g↔∃u v:Nat,u<g.length∧adj g u v∧u<v∧x=[(u:Int),(v:Int)]:=by
 have key:∀n,n≤g.length→(x∈(List.range n).foldl (λs u=>Ec (row g u) u s) []↔∃u v:Nat,u<n∧adj g u v∧u<v∧x=[(u:Int),(v:Int)]):=by
  intro n
  induction n with
  |zero=>intro _;simp
  |succ n ih=>
   intro hn
   rw[List.range_succ,List.foldl_append,List.foldl_cons,List.foldl_nil,mem_rowF,ih (by omega)]
   constructor
   ·rintro(⟨u,v,h1,h2⟩|⟨v,h1,h2,h3⟩)
    ·exact⟨u,v,by omega,h2⟩
    ·obtain⟨w,rfl,hw,ha⟩:=hg.mem (by omega) h1
     exact⟨n,w,by omega,ha,by omega,h3⟩
   ·rintro⟨u,v,h1,h2,h3,h4⟩
    by_cases e:u=n
    ·subst e;exact .inr ⟨v,h2,by omega,h4⟩
    ·exact .inl ⟨u,v,by omega,h2,h3,h4⟩
 exact key g.length (Nat.le_refl _)
def prt (s t:Int):Bool:=(iandNot .u32 s t)==0
def spareM (M:LI)(l:LI):Option (Nat×Nat):=
 if prt (M.getD (l.getD 1 0).toNat 0) (M.getD (l.getD 0 0).toNat 0) then some ((l.getD 1 0).toNat,(l.getD 0 0).toNat)
 else if prt (M.getD (l.getD 0 0).toNat 0) (M.getD (l.getD 1 0).toNat 0) then some ((l.getD 0 0).toNat,(l.getD 1 0).toNat) else none
def spare (M:LI)(K:LL):Option (Nat×Nat):=(List.range K.length).findSome? (λi=>spareM M (K.getD i []))
section
variable {g : LL} (hg : GOk g)
include hg
def prs (P : List (Nat × Nat)) : LL := P.map fun p => pr p.1 p.2
end
end Go.Sx

namespace Go.Sx
section
variable {g : LL} (hg : GOk g)
include hg
theorem GL {u v:Nat}(h:adj g u v):D.A1 g (u:Int) (v:Int)=some true:=by
 have hu:=B5 hg h
 have h16:=hg.n16
 unfold D.A1 D.X1
 rw[DQ g hg.sh2,DL hg,bs,cT,FF,bs,bs,w64 (by omega) (by omega),decide_eq_true (show (0:Int)≤(u:Int) by omega),decide_eq_true (show (u:Int)≤(g.length:Int)-1 by omega),Bool.and_self,bs,cT,B4 hu,bs,E3 _ _ (hg.sh2.row hu),decide_eq_true (show (v:Int)∈row g u from h)]
 rfl
end
end Go.Sx

namespace Go.Sx
section
variable {g : LL} (hg : GOk g)
include hg
theorem idx_mk {u:Nat}(hul:u<g.length):idx (g.map mk) (u:Int)=some (mk (row g u)):=by
 rw[AS (by simpa using hul),List.getElem_map]
 congr 2
 exact(AW hul _).symm
theorem has_row {u w:Nat}(hu:u<g.length):has (mk (row g u)) w=true↔adj g u w:=by
 rw[←nb_mk hg hu];unfold nb;rw[Du]
end
end Go.Sx

namespace Go.Sx
theorem sumN_upd {f f':Nat→Nat}{i0 d:Nat}:∀{m:Nat},i0<m→(∀i,i≠i0→f' i=f i)→f' i0=f i0+d→B6 f' m=B6 f m+d
 |0,h,_,_=>absurd h (Nat.not_lt_zero _)
 |m+1,h,h1,h2=>by
  simp only[B6]
  by_cases hm:m=i0
  ·subst hm
   rw[h2,Dp (n:=m) (λi hi=>h1 i (by omega))]
   omega
  ·rw[sumN_upd (show i0<m by omega) h1 h2,h1 m hm]
   omega
theorem sumN_le {f g:Nat→Nat}:∀{m:Nat},(∀i,i<m→f i≤g i)→B6 f m≤B6 g m
 |0,_=>Nat.le_refl _
 |m+1,h=>by simp only[B6];have:=sumN_le (m:=m) (λi hi=>h i (by omega));have:=h m (by omega);omega
def wst (A:Nat→Nat→Bool)(s v u:Nat):Bool:=A v u&& !s.testBit u
def wcnF (A:Nat→Nat→Bool)(n:Nat)(L:Nat→Bool):Nat→Nat→Nat→Nat
 |0,_,_=>0
 |k+1,s,v=>if s=2^n-1 then bit (L v) else B6 (λu=>bit (wst A s v u)*wcnF A n L k (s|||2^u) u) n
def wcn (A:Nat→Nat→Bool)(n:Nat)(L:Nat→Bool)(s v:Nat):Nat:=wcnF A n L (2^n) s v
def rm (n:Nat)(m:Int):Int:=iandNot .u32 (Ee n) m
theorem Ex {v w:Nat}{m:Int}(hm:VS m)(hv:v<32):has (ior .u32 m (ishl .u32 1 (v:Int))) w=(has m w||decide (w=v)):=by
 rw[DC hm (VS.ishl _ _),CV hv]
noncomputable def bh (F : LI) (m v : Int) : Int := (D.s2 F m v).getD 0
noncomputable def CK (p:Prop):Nat:=by classical exact if p then 1 else 0
theorem Ca {p:Prop}(h:p):CK p=1:=by unfold CK;rw[if_pos h]
theorem BM {p:Prop}(h:¬p):CK p=0:=by unfold CK;rw[if_neg h]
theorem indP_le {p q:Prop}(h:p→q):CK p≤CK q:=by
 by_cases hp:p
 ·rw[Ca hp,Ca (h hp)];exact Nat.le_refl _
 ·rw[BM hp];exact Nat.zero_le _
noncomputable def BK (n:Nat)(p:Nat→Prop):Nat:=B6 (λv=>CK (p v)) n
theorem cntP_le {n:Nat}{p q:Nat→Prop}(h:∀v,v<n→p v→q v):BK n p≤BK n q:=sumN_le (λv hv=>indP_le (h v hv))
theorem sumN_lt {f g:Nat→Nat}{i m:Nat}(h:∀j,j<m→f j≤g j)(hi:i<m)(hlt:f i<g i):B6 f m<B6 g m:=by
 induction m with
 |zero=>omega
 |succ m ih=>
  simp only[B6]
  have h1:=h m (by omega)
  by_cases e:i=m
  ·subst e
   have:=sumN_le (f:=f) (g:=g) (m:=i) (λj hj=>h j (by omega))
   omega
  ·have:=ih (λj hj=>h j (by omega)) (by omega)
   omega
theorem exists_min {α:Type}{P:α→Prop}(f:α→Nat)(h:∃x,P x):∃x,P x∧∀y,P y→f x≤f y:=by
 obtain⟨x,hx⟩:=h
 generalize hk:f x=k
 induction k using Nat.strongRecOn generalizing x with
 |_ k ih=>
  by_cases hc:∃y,P y∧f y<k
  ·obtain⟨y,hy,hlt⟩:=hc
   exact ih _ hlt y hy rfl
  ·refine⟨x,hx,λy hy=> ?_⟩
   apply Classical.byContradiction
   intro h
   exact hc ⟨y,hy,by omega⟩
section
variable (A : Nat → Nat → Prop) (n : Nat)
def EdI (e:Nat):Prop:=e<n*n∧(e/n=e%n∨A (e/n) (e%n))
def AtI (v:Nat)(P:Nat→Prop):Prop:=∃e,EdI A n e∧P e∧(e/n=v∨e%n=v)
def TI (X:BitVec (n*n))(v:Nat):Prop:=AtI A n v λe=>X.getLsbD e=true
def BdI (X:BitVec (n*n))(v:Nat):Prop:=TI A n X v∧TI A n (~~~X) v
def DelI (m:List (BitVec (n*n)))(v:Nat):Prop:=∃X∈m,BdI A n X v
end
def DisI {N:Nat}(X Y:BitVec N):Prop:=∀e,¬(X.getLsbD e=true∧Y.getLsbD e=true)
def PartI {N:Nat}(m:List (BitVec N)):Prop:=m.Pairwise DisI∧∀e,e<N→∃X∈m,X.getLsbD e=true
end Go.Sx

namespace Go.Sx
def PermN (m:Nat)(f:Nat→Nat):Prop:=(∀x,x<m→f x<m)∧∀x y,x<m→y<m→f x=f y→x=y
def Df (p q x:Nat):Nat:=if x=p then q else if x=q then p else x
theorem swpN_comm (p q x:Nat):Df p q x=Df q p x:=by
 unfold Df
 split<;>split<;>simp_all
theorem Gd (p q x:Nat):Df p q (Df p q x)=x:=by
 unfold Df
 by_cases h1:x=p
 ·rw[if_pos h1]
  by_cases h2:q=p
  ·rw[if_pos h2];omega
  ·rw[if_neg h2,if_pos rfl];exact h1.symm
 ·rw[if_neg h1]
  by_cases h2:x=q
  ·rw[if_pos h2,if_pos rfl];exact h2.symm
  ·rw[if_neg h2,if_neg h1,if_neg h2]
theorem swpN_inj {p q x y:Nat}(h:Df p q x=Df p q y):x=y:=by
 have:=congrArg (Df p q) h
 rwa [Gd,Gd] at this
theorem swpN_lt {p q x m:Nat}(hp:p<m)(hq:q<m)(hx:x<m):Df p q x<m:=by
 unfold Df
 split
 ·exact hq
 ·split
  ·exact hp
  ·exact hx
theorem swp_l (p q:Nat):Df p q p=q:=by unfold Df;rw[if_pos rfl]
theorem swp_r (p q:Nat):Df p q q=p:=by rw[swpN_comm,swp_l]
theorem swp_o {p q x:Nat}(h1:x≠p)(h2:x≠q):Df p q x=x:=by unfold Df;rw[if_neg h1,if_neg h2]
def itN (f:Nat→Nat):Nat→Nat→Nat
 |0,x=>x
 |k+1,x=>f (itN f k x)
theorem D2 (f:Nat→Nat)(a b x:Nat):itN f (a+b) x=itN f a (itN f b x):=by
 induction a with
 |zero=>rw[Nat.zero_add];rfl
 |succ a ih=>rw[Nat.succ_add];unfold itN;rw[ih]
def LedN (f:Nat→Nat)(x:Nat):Prop:=∀k,x≤itN f k x
noncomputable def cycN (m:Nat)(f:Nat→Nat):Nat:=BK m (LedN f)
section
variable {m : Nat} {f : Nat → Nat}
theorem D7 (h:PermN m f){x:Nat}(hx:x<m):∀k,itN f k x<m
 |0=>hx
 |k+1=>h.1 _ (D7 h hx k)
theorem itN_inj (h:PermN m f){x y:Nat}(hx:x<m)(hy:y<m):∀k,itN f k x=itN f k y→x=y
 |0,e=>e
 |k+1,e=>itN_inj h hx hy k (h.2 _ _ (D7 h hx k) (D7 h hy k) e)
theorem FE (h:PermN m f){x:Nat}(hx:x<m){i j:Nat}(hij:i≤j)(e:itN f i x=itN f j x):itN f (j-i) x=x:=by
 rw[show j=i+(j-i) by omega,D2] at e
 exact(itN_inj h hx (D7 h hx _) i e).symm
theorem per_ex (h:PermN m f){x:Nat}(hx:x<m):∃k,0<k∧itN f k x=x:=by
 refine Classical.byContradiction λhn=> ?_
 have h1:((List.range (m+1)).map λi=>((itN f i x:Nat):Int)).Nodup:=by
  rw[List.nodup_iff_pairwise_ne,List.pairwise_map]
  have:=List.pairwise_lt_range (n:=m+1)
  exact this.imp fun{a b} (hab:a<b) (e:((itN f a x:Nat):Int)=((itN f b x:Nat):Int))=>hn ⟨b-a,by omega,FE h hx (by omega) (by omega)⟩
 have:=DT (m:=(List.range m).map Int.ofNat) h1 (λy hy=>by
  obtain⟨i,_,rfl⟩:=List.mem_map.1 hy
  exact List.mem_map.2 ⟨_,List.mem_range.2 (D7 h hx i),rfl⟩)
 simp at this
 omega
noncomputable def Cx (f:Nat→Nat)(x:Nat):Nat:=by
 classical exact if h:∃k,(0<k∧itN f k x=x)∧∀i,i<k→¬(0<i∧itN f i x=x) then h.choose else 1
theorem E9 (h:PermN m f){x:Nat}(hx:x<m):0<Cx f x∧itN f (Cx f x) x=x∧∀i,0<i→i<Cx f x→itN f i x≠x:=by
 have he:=least_of (per_ex h hx)
 unfold Cx
 rw[dif_pos he]
 have:=he.choose_spec
 exact⟨this.1.1,this.1.2,λi h0 hi e=>this.2 i hi ⟨h0,e⟩⟩
theorem E2 {p x:Nat}(e:itN f p x=x):∀k,itN f (p*k) x=x
 |0=>rfl
 |k+1=>by rw[Nat.mul_succ,D2,e,E2 e k]
theorem orb_symm (h:PermN m f){x y:Nat}(hx:x<m)(o:∃k,itN f k x=y):∃k,itN f k y=x:=by
 obtain⟨k,rfl⟩:=o
 obtain⟨p0,p1,_⟩:=E9 h hx
 refine⟨Cx f x*k-k,?_⟩
 rw[←D2,Nat.sub_add_cancel (Nat.le_mul_of_pos_left k p0),E2 p1]
theorem orb_mod (h:PermN m f){x y:Nat}(hx:x<m)(o:∃k,itN f k x=y):∃i,i<Cx f x∧itN f i x=y:=by
 obtain⟨k,rfl⟩:=o
 obtain⟨p0,p1,_⟩:=E9 h hx
 refine⟨k%Cx f x,Nat.mod_lt _ p0,?_⟩
 have e:itN f k x=itN f (k%Cx f x+Cx f x*(k/Cx f x)) x:=by rw[Nat.mod_add_div]
 rw[e,D2,E2 p1]
variable {da : Nat → Prop}
variable (h : PermN m f) (hc : ∀ x, x < m → da x → da (f x)) {S : Nat → Prop} {b d : Nat}
include h hc
variable {face : Nat → LI} {out : LL}
end
end Go.Sx

namespace Go.Sx
def nx (t:LI)(x:Int):Int:=t.getD ((t.idxOf x+1)%t.length) 0
theorem EV {t:LI}(hn:t.Nodup){i j:Nat}(hi:i<t.length)(hj:j<t.length)(e:t[i]=t[j]):i=j:=by
 rw[List.nodup_iff_pairwise_ne,List.pairwise_iff_getElem] at hn
 rcases Nat.lt_trichotomy i j with h|h|h
 ·exact absurd e (hn i j hi hj h)
 ·exact h
 ·exact absurd e.symm (hn j i hj hi h)
theorem EY {t:LI}(hn:t.Nodup){i:Nat}(hi:i<t.length):nx t t[i]=t[(i+1)%t.length]'(Nat.mod_lt _ (by omega)):=by
 have h1:t.idxOf t[i]<t.length:=List.idxOf_lt_length_of_mem (List.getElem_mem hi)
 have h2:t.idxOf t[i]=i:=EV hn h1 hi (List.getElem_idxOf h1)
 unfold nx
 rw[h2,AW (Nat.mod_lt _ (by omega))]
theorem nx_mem {t:LI}(hn:t.Nodup){x:Int}(hx:x∈t):nx t x∈t:=by
 obtain⟨i,hi,rfl⟩:=List.mem_iff_getElem.1 hx
 rw[EY hn hi]
 exact List.getElem_mem _
theorem nx_inj {t:LI}(hn:t.Nodup){x y:Int}(hx:x∈t)(hy:y∈t)(e:nx t x=nx t y):x=y:=by
 obtain⟨i,hi,rfl⟩:=List.mem_iff_getElem.1 hx
 obtain⟨j,hj,rfl⟩:=List.mem_iff_getElem.1 hy
 rw[EY hn hi,EY hn hj] at e
 have h1:=EV hn _ _ e
 have h2:i=j:=by
  by_cases c1:i+1=t.length<;>by_cases c2:j+1=t.length
  ·omega
  ·rw[c1,Nat.mod_self,Nat.mod_eq_of_lt (by omega)] at h1;omega
  ·rw[c2,Nat.mod_self,Nat.mod_eq_of_lt (by omega)] at h1;omega
  ·rw[Nat.mod_eq_of_lt (by omega),Nat.mod_eq_of_lt (by omega)] at h1;omega
 subst h2;rfl
theorem Index_int_eq {t:LI}(hs:t.length≤16)(hn:t.Nodup){i:Nat}(hi:i<t.length):D.n1 t t[i]=some (i:Int):=by
 unfold D.n1
 refine(CT (λk=>(k:Int)) i (.inr (i:Int)) rfl (λk hk=> ?_) ?_).trans rfl
 ·have hkl:k<t.length:=by omega
  have hne:(t[i]==t[k])=false:=by
   rw[beq_eq_false_iff_ne];exact λe=>by have:=EV hn hi hkl e;omega
  rw[dlt hkl,cT,AS hkl,bs,hne,cF,wi (by omega)]
 ·rw[dlt hi,cT,AS hi,bs,beq_self_eq_true,cT]
theorem perN_le {m:Nat}{f:Nat→Nat}(h:PermN m f){x:Nat}(hx:x<m):Cx f x≤m:=by
 obtain⟨p0,p1,p2⟩:=E9 h hx
 have h1:((List.range (Cx f x)).map λi=>((itN f i x:Nat):Int)).Nodup:=by
  rw[List.nodup_iff_pairwise_ne,List.pairwise_map,List.pairwise_iff_getElem]
  intro i j hi hj hij e
  rw[List.getElem_range,List.getElem_range] at e
  have:itN f i x=itN f j x:=by omega
  rw[List.length_range] at hj
  exact p2 (j-i) (by omega) (by omega) (FE h hx (by omega) this)
 have:=DT (m:=(List.range m).map Int.ofNat) h1 (λy hy=>by
  obtain⟨i,_,rfl⟩:=List.mem_map.1 hy
  exact List.mem_map.2 ⟨_,List.mem_range.2 (D7 h hx i),rfl⟩)
 simpa using this
theorem B2 {n:Nat}{p q:Nat→Prop}(h:∀x,x<n→(p x↔q x)):BK n p=BK n q:=
 Dp λx hx=>by
  by_cases c:p x
  ·rw[Ca c,Ca ((h x hx).1 c)]
  ·rw[BM c,BM (mt (h x hx).2 c)]
theorem cntP_split {n:Nat}(p q:Nat→Prop):BK n p=BK n (λx=>q x∧p x)+BK n (λx=>¬q x∧p x):=by
 unfold BK
 rw[←sumN_add]
 refine Dp λx _=> ?_
 by_cases c:p x<;>by_cases d:q x
 ·rw[Ca c,Ca ⟨d,c⟩,BM (λh=>h.1 d)]
 ·rw[Ca c,BM (λh=>d h.1),Ca ⟨d,c⟩]
 ·rw[BM c,BM (λh=>c h.2),BM (λh=>c h.2)]
 ·rw[BM c,BM (λh=>c h.2),BM (λh=>c h.2)]
theorem Fy {n:Nat}:BK n (λ_=>True)=n:=by
 induction n with
 |zero=>rfl
 |succ n ih=>show BK n _+CK True=n+1;rw[ih,Ca trivial]
theorem led_fix {f:Nat→Nat}{d:Nat}(h:f d=d):LedN f d:=by
 intro k
 have:itN f k d=d:=by
  induction k with
  |zero=>rfl
  |succ k ih=>unfold itN;rw[ih,h]
 omega
theorem cyc_split {m:Nat}{f:Nat→Nat}{da:Nat→Prop}(h:∀d,¬da d→f d=d):cycN m f=BK m (λd=>da d∧LedN f d)+BK m (λd=>¬da d):=by
 unfold cycN
 rw[cntP_split (LedN f) da]
 congr 1
 exact B2 λx _=>⟨λh=>h.1,λh'=>⟨h',led_fix (h x h')⟩⟩
def Pot (n:Nat)(h w:Nat→Nat→Nat)(a:Nat):Nat:=B6 (λk=>B6 (λu=>(if a≤k then w k u else 0)*h k u) n) (2^n)
def zer (n s:Nat):Nat:=B6 (λu=>bit (!s.testBit u)) n
theorem some_of {α:Type}{e:Option α}{x:α}(h:∃r,e=some r∧r=x):e=some x:=by
 obtain⟨r,h,rfl⟩:=h
 exact h
theorem cntP_none {n:Nat}{p:Nat→Prop}(h:∀v,v<n→¬p v):BK n p=0:=by
 unfold BK
 rw[Dp (g:=λ_=>0) (λv hv=>BM (h v hv)),sumN_zero]
noncomputable def wv (F : LI) (rec : Int → Int) (m v : Int) : Int := if ((Az (bh F m v)).length : Int) < rec (ior .u32 m (ishl .u32 1 v)) then rec (ior .u32 m (ishl .u32 1 v)) else ((Az (bh F m v)).length : Int)
noncomputable def wd (F : LI) (n : Nat) : Nat → Int → Int
  | 0, _ => 0
  | k + 1, m => (Az (rm n m)).foldl (fun b v => if wv F (wd F n k) m v < b then wv F (wd F n k) m v else b) 16
theorem elems_cnt {n:Nat}{K:Int}(hn:n≤16)(h:In n K):(Az K).length=BK n λv=>has K v=true:=by
 have h1:(Az K)=((List.range n).filter (has K)).map Int.ofNat:=Inc.ext (Ch _) (by
  unfold Inc
  rw[List.pairwise_map]
  refine List.Pairwise.imp (fun{a b} h=> ?_) (List.Pairwise.filter _ List.pairwise_lt_range)
  show (a:Int)<(b:Int)
  omega) (λx=>by
  rw[mem_elems,List.mem_map]
  constructor
  ·rintro⟨v,_,hv,rfl⟩
   exact⟨v,List.mem_filter.2 ⟨List.mem_range.2 (h.2 v hv),hv⟩,rfl⟩
  ·rintro⟨v,hv,rfl⟩
   rw[List.mem_filter,List.mem_range] at hv
   exact⟨v,by omega,hv.2,rfl⟩)
 rw[h1,List.length_map]
 have:∀m,((List.range m).filter (has K)).length=B6 (λv=>CK (has K v=true)) m:=by
  intro m
  induction m with
  |zero=>rfl
  |succ m ih=>
   rw[List.range_succ,List.filter_append,List.length_append,ih]
   simp only[B6]
   congr 1
   cases hk:has K m
   ·rw[BM (by simp),List.filter_cons,hk];rfl
   ·rw[Ca rfl,List.filter_cons,hk];rfl
 exact this n
def Tch (F:LI)(s t:Int):Prop:=∃x y,El s x∧El t y∧(x=y∨nb F x y=true)
theorem Pick.inn {n a k:Nat}{c t:Int}(hn:n≤16)(h:Pick n a k c t):In n c→In n t:=by
 induction h with
 |done=>exact λh=>h
 |more h1 h2 _ ih=>
  intro hc
  refine ih ⟨VS.ior _ _,λw hw=> ?_⟩
  rw[DC hc.1 (VS.ishl _ _),CV (by omega),Bool.or_eq_true,decide_eq_true_eq] at hw
  rcases hw with hw|rfl
  ·exact hc.2 w hw
  ·exact h2
theorem cntP_add {n:Nat}{c:Int}{v:Nat}(hn:n≤16)(hc:VS c)(hv:v<n)(h:has c v=false):BK n (λu=>has (ior .u32 c (ishl .u32 1 (v:Int))) u=true)=BK n (λu=>has c u=true)+1:=
 sumN_upd (f:=λu=>CK (has c u=true)) (f':=λu=>CK (has (ior .u32 c (ishl .u32 1 (v:Int))) u=true)) (d:=1) hv (λi hi=>by
  show CK (has (ior .u32 c (ishl .u32 1 (v:Int))) i=true)=CK (has c i=true)
  rw[Ex hc (by omega),decide_eq_false hi,Bool.or_false]) (by
  show CK (has (ior .u32 c (ishl .u32 1 (v:Int))) v=true)=CK (has c v=true)+1
  rw[Ca (by rw[Ex hc (by omega),decide_eq_true rfl,Bool.or_true]),BM (by rw[h];simp)])
theorem Pick.size {n a k:Nat}{c t:Int}(hn:n≤16)(h:Pick n a k c t):In n c→(∀v,has c v=true→v<a)→BK n (λu=>has t u=true)=BK n (λu=>has c u=true)+k:=by
 induction h with
 |done=>exact λ_ _=>rfl
 | @more a k v c t h1 h2 _ ih=>
  intro hc hca
  have hno:has c v=false:=by
   cases h:has c v
   ·rfl
   ·have:=hca v h;omega
  rw[ih ⟨VS.ior _ _,λw hw=> ?_⟩ (λw hw=> ?_),cntP_add hn hc.1 h2 hno]
  ·omega
  ·rw[Ex hc.1 (by omega),Bool.or_eq_true,decide_eq_true_eq] at hw
   rcases hw with hw|rfl
   ·exact hc.2 w hw
   ·exact h2
  ·rw[Ex hc.1 (by omega),Bool.or_eq_true,decide_eq_true_eq] at hw
   rcases hw with hw|rfl
   ·have:=hca w hw;omega
   ·omega
theorem pick_of {n:Nat}(hn:n≤16):∀(k a:Nat) (c t:Int),In n t→In n c→(∀v,has c v=true→has t v=true)→(∀v,has t v=true→has c v=false→a≤v)→(∀v,has c v=true→v<a)→BK n (λu=>has t u=true)=BK n (λu=>has c u=true)+k→Pick n a k c t:=by
 intro k
 induction k with
 |zero=>
  intro a c t ht hc hsub _ _ hcnt
  have:c=t:=hc.1.ext ht.1 (λv _=>Bool.eq_iff_iff.2 ⟨hsub v,λhv=>by
   cases hcv:has c v
   ·have:=sumN_lt (f:=λu=>CK (has c u=true)) (g:=λu=>CK (has t u=true)) (i:=v) (m:=n) (λj _=>indP_le (hsub j)) (ht.2 v hv) (by
     show CK (has c v=true)<CK (has t v=true)
     rw[Ca hv,BM (by rw[hcv];simp)]
     exact Nat.one_pos)
    have h2:B6 (λu=>CK (has t u=true)) n=B6 (λu=>CK (has c u=true)) n+0:=hcnt
    omega
   ·rfl⟩)
  rw[this]
  exact .done
 |succ k ih=>
  intro a c t ht hc hsub hge hlt hcnt
  have hex:∃v,has t v=true∧has c v=false:=by
   apply Classical.byContradiction
   intro hno
   have:BK n (λu=>has t u=true)≤BK n (λu=>has c u=true):=cntP_le (λv _ hv=>by
    cases hcv:has c v
    ·exact absurd ⟨v,hv,hcv⟩ hno
    ·rfl)
   omega
  obtain⟨v,⟨hv,hcv⟩,hmin⟩:=exists_min (P:=λv=>has t v=true∧has c v=false) id hex
  have hvn:=ht.2 v hv
  have hadd:∀u,has (ior .u32 c (ishl .u32 1 (v:Int))) u=true↔has c u=true∨u=v:=λu=>by
   rw[Ex hc.1 (by omega),Bool.or_eq_true,decide_eq_true_eq]
  refine .more (hge v hv hcv) hvn (ih (v+1) _ t ht ⟨VS.ior _ _,λw hw=> ?_⟩ (λw hw=> ?_) (λw hw hcw=> ?_) (λw hw=> ?_) ?_)
  ·rcases(hadd w).1 hw with h|rfl
   ·exact hc.2 w h
   ·exact hvn
  ·rcases(hadd w).1 hw with h|rfl
   ·exact hsub w h
   ·exact hv
  ·have h1:has c w=false:=by
    cases h:has c w
    ·rfl
    ·rw[(hadd w).2 (.inl h)] at hcw;cases hcw
   have h2:=hmin w ⟨hw,h1⟩
   have h3:w≠v:=λe=>by rw[(hadd w).2 (.inr e)] at hcw;cases hcw
   have h2':v≤w:=h2
   omega
  ·rcases(hadd w).1 hw with h|rfl
   ·have:=hlt w h
    have:=hge v hv hcv
    omega
   ·omega
  ·rw[cntP_add hn hc.1 hvn hcv];omega
theorem Gf {n:Nat}:In n 0:=⟨VS.zero,λw hw=>by rw[Cc] at hw;cases hw⟩
theorem FH {n k:Nat}{t:Int}(hn:n≤16):Pick n 0 k 0 t↔In n t∧(Az t).length=k:=by
 have h0:BK n (λu=>has 0 u=true)=0:=cntP_none (λv _ h=>by rw[Cc] at h;cases h)
 constructor
 ·intro h
  have hin:=h.inn hn Gf
  refine⟨hin,?_⟩
  rw[elems_cnt hn hin,h.size hn Gf (λv hv=>by rw[Cc] at hv;cases hv),h0,Nat.zero_add]
 ·rintro⟨hin,hl⟩
  rw[elems_cnt hn hin] at hl
  exact pick_of hn k 0 0 t hin Gf (λv hv=>by rw[Cc] at hv;cases hv) (λv _ _=>Nat.zero_le _) (λv hv=>by rw[Cc] at hv;cases hv) (by rw[h0,hl,Nat.zero_add])
noncomputable def bo (F:LI)(n:Nat)(most:Int):Nat→Int→LI
 |0,_=>[]
 |k+1,m=>match(Az (rm n m)).find? (λv=>decide (wv F (wd F n k) m v≤most)) with
  |some v=>v::bo F n most k (ior .u32 m (ishl .u32 1 v))
  |none=>[]
section
variable {g : LL} (hg : GOk g)
include hg
theorem isSmall_ok (h8:g.length≤8):D.p0 g=some true:=by
 unfold D.p0
 rw[DQ g hg.sh2,DL hg,bs,decide_eq_true (show (g.length:Int)≤8 by omega)]
 rfl
end
end Go.Sx

namespace Go.Sx
def Bef (s t:Int):Prop:=∃m,El s m∧∀x,El t x→m<x
def adI (g:LL)(x y:Int):Prop:=∃u v:Nat,x=u∧y=v∧u<g.length∧adj g u v
def ChI (g:LL):Int→LI→Int→Prop
 |u,[],w=>adI g u w
 |u,x::q,w=>adI g u x∧ChI g x q w
def PtI (g:LL):Int→LI→Int→Prop
 |u,[],w=>u=w
 |u,x::q,w=>adI g u x∧PtI g x q w
theorem Gh {g:LL}:∀{u v w:Int} {p q:LI},PtI g u p v→(ChI g u (p++q) w↔ChI g v q w)
 |_,_,_,[],_,rfl=>Iff.rfl
 |u,v,w,x::p,q,h=>by
  show adI g u x∧ChI g x (p++q) w↔_
  rw[Gh h.2]
  exact⟨λh=>h.2,λh'=>⟨h.1,h'⟩⟩
theorem ptI_snoc {g:LL}:∀{u v x:Int} {p:LI},PtI g u p v→adI g v x→PtI g u (p++[x]) x
 |_,_,_,[],rfl,h=>⟨h,rfl⟩
 |_,_,_,_::_,h,h'=>⟨h.1,ptI_snoc h.2 h'⟩
def InW (g:LL)(U:Int→Prop)(u w:Int)(q:LI):Prop:=q.Nodup∧(∀x∈q,¬U x)∧ChI g u q w
theorem InW.congr {g:LL}{U U':Int→Prop}{u w:Int}{q:LI}(h:∀x,U x↔U' x):InW g U u w q↔InW g U' u w q:=
 ⟨fun⟨a,b,c⟩=>⟨a,λx hx hu=>b x hx ((h x).2 hu),c⟩,fun⟨a,b,c⟩=>⟨a,λx hx hu=>b x hx ((h x).1 hu),c⟩⟩
def LkW (g:LL)(hub:Int→Int):List (Int×Int)→(Int→Prop)→LL→Prop
 |[],_,l=>l=[]
 |e::ps,U,l=>∃q rest,l=(hub e.1::(q++[hub e.2]))::rest∧InW g U (hub e.1) (hub e.2) q∧LkW g hub ps (λx=>U x∨x∈q) rest
theorem LkW.congr {g:LL}{hub:Int→Int}:∀{ps:List (Int×Int)} {U U':Int→Prop} {l:LL},(∀x,U x↔U' x)→LkW g hub ps U l→LkW g hub ps U' l
 |[],_,_,_,_,h=>h
 |_::_,_,_,_,hU,⟨q,rest,h1,h2,h3⟩=>⟨q,rest,h1,(InW.congr hU).1 h2,LkW.congr (λx=>or_congr (hU x) Iff.rfl) h3⟩
def Nfr (s:Int)(x:Int):Prop:=¬∃v:Nat,x=(v:Int)∧El s v
theorem ptI_idx {g:LL}:∀{u v:Int} {q:LI},PtI g u q v→idx (u::q) (q.length:Int)=some v
 |u,v,[],h=>by rw[show (([]:LI).length:Int)=((0:Nat):Int) from rfl,AS (by simp)];exact congrArg some h
 |u,v,x::q,h=>by
  have ih:=ptI_idx (u:=x) (q:=q) h.2
  rw[AS (by simp)] at ih ⊢
  rw[←ih];rfl
theorem InW.len {g:LL}{free:Int}(hf:VS free){u w:Int}{q:LI}(h:InW g (Nfr free) u w q):q.length≤(Az free).length:=
 DT h.1 λx hx=>by
  obtain⟨v,rfl,hv⟩:=Classical.byContradiction λhn=>h.2.1 x hx hn
  exact(BS hf).2 hv
theorem FZ (l:LI)(h:l.length≤64):D.S l=some l:=by
 unfold D.S
 rw[Bp (by simp;omega)];simp
section
variable {g : LL} (hg : GOk g)
include hg
theorem ext_ok {rec:LI→LI→List (Int×Int)→LL→Int→Int→Option (Bool×LL)}{hubs:LI}{pairs:List (Int×Int)}{kk:Int}{u w:Nat}(hu:u<g.length)(hw:w<g.length){free0:Int}(hf0:In g.length free0)(s0:LL)(G:LI→Prop)(Q:LI→LL→Prop){L:Nat}(hL:L≤32)
  (hf:∀q fr,q.length=L→InW g (Nfr free0) u w q→In g.length fr→(∀v,El fr v↔El free0 v∧(v:Int)∉q)→∃r,D.p1 rec ((u:Int)::(q++[(w:Int)])) fr (g.map mk) hubs pairs s0 kk=some r∧(r.1=false→r.2=s0∧¬G q)∧(r.1=true→G q∧Q q r.2)):
  ∀(k fuel:Nat) (q0:LI) (v:Nat) (fr:Int),k<fuel→q0.length+k=L→PtI g u q0 v→v<g.length→q0.Nodup→(∀x∈q0,¬Nfr free0 x)→In g.length fr→(∀v,El fr v↔El free0 v∧(v:Int)∉q0)→
   ∃r,D.D0 rec fuel (g.map mk) hubs pairs s0 ((u:Int)::q0) ((L+2:Nat):Int) w fr kk=some r∧(r.1=false→r.2=s0∧∀q,q.length=k→InW g (Nfr free0) u w (q0++q)→¬G (q0++q))∧(r.1=true→∃q,q.length=k∧InW g (Nfr free0) u w (q0++q)∧G (q0++q)∧Q (q0++q) r.2):=by
 have h16:=hg.n16
 intro k
 induction k with
 |zero=>
  intro fuel q0 v fr hk hlen hp hv hnd hfree hfr hfre
  obtain⟨m,rfl⟩:∃m,fuel=m+1:=⟨fuel-1,by omega⟩
  have hidx:=ptI_idx hp
  unfold D.D0
  have hlc:(((u:Int)::q0).length:Int)=((L+1:Nat):Int):=by simp;omega
  rw[w64 (x:=(((u:Int)::q0).length:Int)-1) (by omega) (by omega),show (((u:Int)::q0).length:Int)-1=(q0.length:Int) by simp,hidx,bs,w64 (by omega) (by omega)]
  have he:((((u:Int)::q0).length:Int)==((L+2:Nat):Int)-1)=true:=by rw[beq_iff_eq];omega
  rw[he,cT,idx_nets hv,bs,vset_has_eq (VS.mk _) (show w<32 by omega),bs,D9 (λx hx=>by have:=(hg.rows v hv).2 x hx;omega)]
  have hadI:adI g (v:Int) (w:Int)↔(w:Int)∈row g v:=by
   constructor
   ·rintro⟨a,b,h1,h2,h3,h4⟩
    obtain rfl:v=a:=by omega
    obtain rfl:w=b:=by omega
    exact h4
   ·exact λh=>⟨v,w,rfl,rfl,hv,h⟩
  by_cases ha:(w:Int)∈row g v
  ·have hin:InW g (Nfr free0) u w q0:=⟨hnd,hfree,by
    have:=(Gh (q:=[]) (w:=(w:Int)) hp).2 (hadI.2 ha)
    rwa [List.append_nil] at this⟩
   obtain⟨r,e,h1,h2⟩:=hf q0 fr (by omega) hin hfr hfre
   rw[decide_eq_true ha,cT,FZ _ (by simp;omega),bs,Bp (by simp;omega),bs,List.cons_append,e,bs,bs]
   refine⟨r,rfl,λh=>⟨(h1 h).1,λq hq _=> ?_⟩,λh=>⟨[],rfl,?_⟩⟩
   ·obtain rfl:=List.eq_nil_of_length_eq_zero hq
    rw[List.append_nil];exact(h1 h).2
   ·rw[List.append_nil];exact⟨hin,h2 h⟩
  ·rw[decide_eq_false ha,cF]
   refine⟨_,rfl,λ_=>⟨rfl,λq hq hin=> ?_⟩,λh=>(by cases h)⟩
   obtain rfl:=List.eq_nil_of_length_eq_zero hq
   exact(ha (hadI.1 ((Gh hp).1 hin.2.2))).elim
 |succ k ih=>
  intro fuel q0 v fr hk hlen hp hv hnd hfree hfr hfre
  obtain⟨m,rfl⟩:∃m,fuel=m+1:=⟨fuel-1,by omega⟩
  have hidx:=ptI_idx hp
  unfold D.D0
  have hlc:(((u:Int)::q0).length:Int)=((q0.length+1:Nat):Int):=by simp
  rw[w64 (x:=(((u:Int)::q0).length:Int)-1) (by omega) (by omega),show (((u:Int)::q0).length:Int)-1=(q0.length:Int) by simp,hidx,bs,w64 (by omega) (by omega)]
  have he:((((u:Int)::q0).length:Int)==((L+2:Nat):Int)-1)=false:=by rw[beq_eq_false_iff_ne];omega
  have hvs:=VS.iand (mk (row g v)) fr
  have hel:=CX (iand .u32 (mk (row g v)) fr)
  rw[he,cF,idx_nets hv,bs,Et _ hvs,bs]
  have hmem:∀x:Nat,(x:Int)∈Az (iand .u32 (mk (row g v)) fr)↔adj g v x∧El free0 x∧(x:Int)∉q0:=λx=>by
   rw[BS hvs,EF (VS.mk _) hfr.1,D9 (λx hx=>by have:=(hg.rows v hv).2 x hx;omega),Bool.and_eq_true,decide_eq_true_eq]
   exact and_congr Iff.rfl (hfre x)
  generalize hus:Az (iand .u32 (mk (row g v)) fr)=us at hmem hel
  have hnat:∀x∈us,∃a:Nat,x=a:=λx hx=>by
   rw[←hus] at hx
   obtain⟨a,_,_,e⟩:=mem_elems.1 hx
   exact⟨a,e⟩
  refine AZ (λs:Int×LL=>s.2=s0∧∃i:Nat,s.1=(i:Int)∧i≤us.length∧∀x∈us.take i,∀q,q.length=k→InW g (Nfr free0) u w (q0++x::q)→¬G (q0++x::q)) (λs=>us.length-s.1.toNat)
   (λz:LL ⊕ (Bool×LL)=>match z with
    | .inl l=>l=s0∧∀x∈us,∀q,q.length=k→InW g (Nfr free0) u w (q0++x::q)→¬G (q0++x::q)
    | .inr r=>r.1=true∧∃x q,q.length=k∧InW g (Nfr free0) u w (q0++x::q)∧G (q0++x::q)∧Q (q0++x::q) r.2) ?_ ⟨rfl,0,rfl,Nat.zero_le _,by simp⟩ ?_
  ·rintro⟨_,s⟩ ⟨hs,i,rfl,hi,hall⟩
   dsimp only at hs hall ⊢
   subst hs
   by_cases hil:i<us.length
   ·obtain⟨x,ex⟩:=hnat _ (List.getElem_mem hil)
    have hx:=(hmem x).1 (by rw[←ex];exact List.getElem_mem hil)
    have hxn:=hg.lt hv hx.1
    have hone:D.e (x:Int)=some (ishl .u32 1 (x:Int)):=Db x
    have hfr2:∀v,El (iandNot .u32 fr (ishl .u32 1 (x:Int))) v↔El free0 v∧(v:Int)∉q0++[(x:Int)]:=λv=>by
     have:=hfre v
     unfold El at this ⊢
     rw[CS hfr.1 (VS.ishl _ _),CV (by omega),Bool.and_eq_true,this,List.mem_append,List.mem_singleton]
     simp only[Bool.not_eq_true',decide_eq_false_iff_not]
     constructor
     ·rintro⟨⟨h1,h2⟩,h3⟩;exact⟨h1,λh=>h.elim h2 (λh=>h3 (by omega))⟩
     ·rintro⟨h1,h2⟩;exact⟨⟨h1,λh=>h2 (.inl h)⟩,λh=>h2 (.inr (by omega))⟩
    have hadx:adI g (v:Int) (x:Int):=⟨v,x,rfl,rfl,hv,hx.1⟩
    obtain⟨r,er,h1,h2⟩:=ih m (q0++[(x:Int)]) x (iandNot .u32 fr (ishl .u32 1 (x:Int))) (by omega) (by simp;omega) (ptI_snoc hp hadx) hxn (by
      rw[List.nodup_append]
      refine⟨hnd,by simp,λa ha b hb e=> ?_⟩
      rw[List.mem_singleton] at hb
      subst hb;subst e
      exact hx.2.2 ha) (λy hy=>by
      rcases List.mem_append.1 hy with h|h
      ·exact hfree y h
      ·rw[List.mem_singleton] at h;subst h
       exact λhn=>hn ⟨x,rfl,hx.2.1⟩) ⟨VS.iandNot _ _,λv hv=>hf0.2 v ((hfr2 v).1 hv).1⟩ hfr2
    have hap:∀q,q0++[(x:Int)]++q=q0++(x:Int)::q:=λq=>by simp
    rw[dlt hil,cT,AS hil,ex,bs,FZ _ (by simp;omega),bs,Bp (by simp;omega),bs,hone,bs,List.cons_append,er,bs]
    cases hb:r.1 with
    |true=>
     obtain⟨q,k1,k2,k3,k4⟩:=h2 hb
     rw[hap] at k2 k3 k4
     exact⟨_,rfl,rfl,x,q,k1,k2,k3,k4⟩
    |false=>
     obtain⟨k1,k2⟩:=h1 hb
     refine⟨_,rfl,⟨k1,i+1,by dsimp only;rw[wi (by omega)],hil,λy hy q hq hin=> ?_⟩,?_⟩
     ·rw[List.take_succ_eq_append_getElem hil,List.mem_append,List.mem_singleton,ex] at hy
      rcases hy with hy|rfl
      ·exact hall y hy q hq hin
      ·have:=k2 q hq
       rw[hap] at this
       exact this hin
     ·dsimp only;rw[wi (by omega)];omega
   ·obtain rfl:i=us.length:=by omega
    rw[Bx,cF]
    rw[List.take_length] at hall
    exact⟨_,rfl,rfl,hall⟩
  ·rintro(l|r) hr
   ·dsimp only at hr ⊢
    refine⟨_,rfl,λ_=>⟨hr.1,λq hq hin=> ?_⟩,λh=>(by cases h)⟩
    cases q with
    |nil=>simp at hq
    |cons x q=>
     have hc:=(Gh hp).1 hin.2.2
     obtain⟨a,b,h1,h2,h3,h4⟩:=hc.1
     obtain rfl:v=a:=by omega
     subst h2
     refine hr.2 _ ((hmem b).2 ⟨h4,?_,?_⟩) q (by simpa using hq) hin
     ·obtain⟨c,h5,h6⟩:=Classical.byContradiction λhn=>hin.2.1 (b:Int) (by simp) hn
      obtain rfl:b=c:=by omega
      exact h6
     ·intro hq0
      have:=hin.1
      rw[List.nodup_append] at this
      exact this.2.2 _ hq0 _ List.mem_cons_self rfl
   ·dsimp only at hr ⊢
    obtain⟨h0,x,q,k1,k2,k3,k4⟩:=hr
    exact⟨_,rfl,λh=>(by rw[h0] at h;cases h),λ_=>⟨x::q,by simp[k1],k2,k3,k4⟩⟩
theorem nfr_step {free fr:Int}{q:LI}(hfre:∀v,El fr v↔El free v∧(v:Int)∉q)(x:Int):(Nfr free x∨x∈q)↔Nfr fr x:=by
 constructor
 ·rintro h ⟨v,rfl,hv⟩
  have:=(hfre v).1 hv
  exact h.elim (λh=>h ⟨v,rfl,this.1⟩) this.2
 ·intro h
  refine Classical.byContradiction λhn=> ?_
  have h1:∃v:Nat,x=(v:Int)∧El free v:=Classical.byContradiction λh'=>hn (.inl h')
  obtain⟨v,rfl,hv⟩:=h1
  exact h ⟨v,rfl,(hfre v).2 ⟨hv,λhq=>hn (.inr hq)⟩⟩
def PrsOk (g:LL)(hubs:LI)(pairs:List (Int×Int)):Prop:=∀e∈pairs,∃a b u w:Nat,e=((a:Int),(b:Int))∧hubs[a]? =some (u:Int)∧hubs[b]? =some (w:Int)∧u<g.length∧w<g.length
def B9 (hubs:LI)(i:Int):Int:=hubs.getD i.toNat 0
theorem join_ok {hubs:LI}{pairs:List (Int×Int)}(hp:PrsOk g hubs pairs)(hpl:pairs.length≤100):
  ∀(d k fuel:Nat) (free:Int) (P:LL),k+d=pairs.length→d<fuel→In g.length free→P.length=pairs.length→
   ∃r,D.m0 fuel (g.map mk) hubs pairs P (k:Int) free=some r∧(r.1=false→r.2=P∧∀l,¬LkW g (B9 hubs) (pairs.drop k) (Nfr free) l)∧(r.1=true→r.2.length=P.length∧LkW g (B9 hubs) (pairs.drop k) (Nfr free) (r.2.drop k)):=by
 have h16:=hg.n16
 intro d
 induction d with
 |zero=>
  intro k fuel free P hk hfu hfree hP
  obtain⟨m,rfl⟩:∃m,fuel=m+1:=⟨fuel-1,by omega⟩
  unfold D.m0
  have he:((k:Int)==(pairs.length:Int))=true:=by rw[beq_iff_eq];omega
  rw[he,cT]
  refine⟨_,rfl,λh=>(by cases h),λ_=>⟨rfl,?_⟩⟩
  rw[List.drop_of_length_le (by omega),List.drop_of_length_le (by dsimp only;omega)]
  rfl
 |succ d ih=>
  intro k fuel free P hk hfu hfree hP
  obtain⟨m,rfl⟩:∃m,fuel=m+1:=⟨fuel-1,by omega⟩
  have hkl:k<pairs.length:=by omega
  unfold D.m0
  have he:((k:Int)==(pairs.length:Int))=false:=by rw[beq_eq_false_iff_ne];omega
  obtain⟨a,b,u,w,ee,ha,hb,hu,hw⟩:=hp _ (List.getElem_mem hkl)
  obtain⟨ha1,ha2⟩:=List.getElem?_eq_some_iff.1 ha
  obtain⟨hb1,hb2⟩:=List.getElem?_eq_some_iff.1 hb
  have hua:B9 hubs (a:Int)=(u:Int):=by unfold B9;rw[Int.toNat_natCast,AW ha1,ha2]
  have hwb:B9 hubs (b:Int)=(w:Int):=by unfold B9;rw[Int.toNat_natCast,AW hb1,hb2]
  rw[he,cF,AS hkl,ee,bs,AS ha1,ha2,bs,bs,AS hb1,hb2,bs,List.drop_eq_getElem_cons hkl,ee]
  have hlk:∀l,LkW g (B9 hubs) (((a:Int),(b:Int))::pairs.drop (k+1)) (Nfr free) l↔∃q rest,l=((u:Int)::(q++[(w:Int)]))::rest∧InW g (Nfr free) u w q∧LkW g (B9 hubs) (pairs.drop (k+1)) (λx=>Nfr free x∨x∈q) rest:=λl=>by
   show (∃q rest,l=(B9 hubs (a:Int)::(q++[B9 hubs (b:Int)]))::rest∧InW g (Nfr free) (B9 hubs (a:Int)) (B9 hubs (b:Int)) q∧LkW g (B9 hubs) (pairs.drop (k+1)) (λx=>Nfr free x∨x∈q) rest)↔_
   rw[hua,hwb]
  have hsz:=Gt hfree.1
  have hel:=CX free
  refine AZ (λs:Int×LL=>s.2=P∧∃L:Nat,s.1=((L+2:Nat):Int)∧L≤(Az free).length+1∧∀q,q.length<L→InW g (Nfr free) u w q→¬∃l,LkW g (B9 hubs) (pairs.drop (k+1)) (λx=>Nfr free x∨x∈q) l) (λs=>(Az free).length+3-s.1.toNat)
   (λz:LL ⊕ (Bool×LL)=>match z with
    | .inl l=>l=P∧∀l,¬LkW g (B9 hubs) (((a:Int),(b:Int))::pairs.drop (k+1)) (Nfr free) l
    | .inr r=>r.1=true∧r.2.length=P.length∧LkW g (B9 hubs) (((a:Int),(b:Int))::pairs.drop (k+1)) (Nfr free) (r.2.drop k)) ?_ ⟨rfl,0,rfl,Nat.zero_le _,λq hq=>absurd hq (Nat.not_lt_zero _)⟩ ?_
  ·rintro⟨_,s⟩ ⟨hs,L,rfl,hL,hall⟩
   dsimp only at hs hall ⊢
   subst hs
   rw[hsz,bs,w64 (x:=((Az free).length:Int)+2) (by omega) (by omega)]
   by_cases hLl:L≤(Az free).length
   ·rw[decide_eq_true (show ((L+2:Nat):Int)≤((Az free).length:Int)+2 by omega),cT]
    obtain⟨r,er,h1,h2⟩:=ext_ok hg (rec:=D.m0 m) (hubs:=hubs) (pairs:=pairs) (kk:=(k:Int)) hu hw hfree s (λq=>∃l,LkW g (B9 hubs) (pairs.drop (k+1)) (λx=>Nfr free x∨x∈q) l) (λq P'=>P'.length=s.length∧∃rest,P'.drop k=((u:Int)::(q++[(w:Int)]))::rest∧LkW g (B9 hubs) (pairs.drop (k+1)) (λx=>Nfr free x∨x∈q) rest) (L:=L) (by omega) (by
     intro q fr hq hin hfr hfre
     obtain⟨r,er,h1,h2⟩:=ih (k+1) m fr s (by omega) (by omega) hfr hP
     unfold D.p1
     rw[wi (by omega),er,bs]
     cases hb:r.1 with
     |false=>
      rw[Bool.not_false,cT]
      refine⟨_,rfl,λ_=>⟨(h1 hb).1,fun⟨l,hl⟩=>(h1 hb).2 l (LkW.congr (λx=>nfr_step hg hfre x) hl)⟩,λh=>(by cases h)⟩
     |true=>
      obtain⟨k1,k2⟩:=h2 hb
      have hkr:k<r.2.length:=by omega
      rw[Bool.not_true,cF,AS hkr,bs,Int.toNat_natCast]
      have k3:=LkW.congr (λx=>(nfr_step hg hfre x).symm) k2
      refine⟨_,rfl,λh=>(by cases h),λ_=>⟨⟨_,k3⟩,by dsimp only;rw[List.length_set];exact k1,r.2.drop (k+1),?_,k3⟩⟩
      dsimp only
      rw[List.drop_eq_getElem_cons (by rw[List.length_set];exact hkr),List.getElem_set_self,List.drop_set,if_pos (by omega)]) L BT [] u free (Nat.lt_of_lt_of_le (by omega) Da) (by simp) rfl hu List.nodup_nil (by simp) hfree (λv=>by simp)
    unfold D.x
    rw[er,bs]
    cases hb:r.1 with
    |true=>
     obtain⟨q,k1,k2,k3,k4,rest,k5,k6⟩:=h2 hb
     exact⟨_,rfl,rfl,k4,(hlk _).2 ⟨q,rest,k5,k2,k6⟩⟩
    |false=>
     obtain⟨k1,k2⟩:=h1 hb
     refine⟨_,rfl,⟨k1,L+1,by dsimp only;rw[wi (by omega)],by omega,λq hq hin=> ?_⟩,?_⟩
     ·by_cases c:q.length=L
      ·exact k2 q c hin
      ·exact hall q (by omega) hin
     ·dsimp only;rw[wi (by omega)];omega
   ·rw[decide_eq_false (show¬((L+2:Nat):Int)≤((Az free).length:Int)+2 by omega),cF]
    refine⟨_,rfl,rfl,λl hl=> ?_⟩
    obtain⟨q,rest,_,h2,h3⟩:=(hlk l).1 hl
    have:=h2.len hfree.1
    exact hall q (by omega) h2 ⟨_,h3⟩
  ·rintro(l|r) hr
   ·exact⟨_,rfl,λ_=>hr,λh=>(by cases h)⟩
   ·exact⟨_,rfl,λh=>(by have:=hr.1;rw[h] at this;cases this),λ_=>hr.2⟩
end
end Go.Sx

namespace Go.Sx
noncomputable def chG {σ:Type}(f:Int→σ→Option (Bool×σ)):Nat→Int→Int→Int→Int→σ→Option (Bool×σ)
 |0,_,_,_,_,_=>none
 |fuel+1,n,frm,many,chosen,s=>cond (many==0) (f chosen s) ((Aw (σ:=Int×σ) (ρ:=σ ⊕ (Bool×σ)) (λq=>cond (decide (IntKind.i64.wrap (q.1+many)≤n)) ((D.e q.1).bind λo=>(chG f fuel n (IntKind.i64.wrap (q.1+1)) (IntKind.i64.wrap (many-1)) (ior .u32 chosen o) q.2).bind λr=>cond r.1 (some (.inr (.inr (true,r.2)))) (some (.inl (IntKind.i64.wrap (q.1+1),r.2)))) (some (.inr (.inl q.2)))) (frm,s)).bind λzz=>match zz with| .inl s=>some (false,s)| .inr z=>some z)
theorem bind_eta3 {α β γ:Type}(x:Option (α×β×γ)):(x.bind λy=>some (y.1,y.2.1,y.2.2))=x:=by cases x<;>rfl
theorem ch11_eq (s0 kind:Int)(F:LI)(pairs:List (Int×Int))(F2 pat:LI):∀(fuel:Nat) (n frm many chosen:Int) (H:LI) (P:LL),
  D.z0 fuel n frm many chosen s0 kind F H pairs P F2 pat=chG (λc q=>D.u0 c s0 kind F q.1 pairs q.2 F2 pat) fuel n frm many chosen (H,P)
 |0,_,_,_,_,_,_=>rfl
 |fuel+1,n,frm,many,chosen,H,P=>by
  unfold D.z0 chG
  rw[bind_eta3]
  congr 1
  have h1:(fun(s_73:Int×LI×LL)=>match s_73 with|(x_76,l_77,l_80)=>cond (decide ((IntKind.i64.wrap (x_76+many))≤n)) ((D.e x_76).bind λy_119=>(D.z0 fuel n (IntKind.i64.wrap (x_76+1)) (IntKind.i64.wrap (many-1)) (ior .u32 chosen y_119) s0 kind F l_77 pairs l_80 F2 pat).bind λy_126=>cond y_126.1 (some (Sum.inr (Sum.inr (α:=LI×LL) (true,y_126.2.1,y_126.2.2)))) (some (Sum.inl ((IntKind.i64.wrap (x_76+1)),y_126.2.1,y_126.2.2)))) (some (Sum.inr (Sum.inl (l_77,l_80)))))
   =λq:Int×(LI×LL)=>cond (decide (IntKind.i64.wrap (q.1+many)≤n)) ((D.e q.1).bind λo=>(chG (λc q=>D.u0 c s0 kind F q.1 pairs q.2 F2 pat) fuel n (IntKind.i64.wrap (q.1+1)) (IntKind.i64.wrap (many-1)) (ior .u32 chosen o) q.2).bind λr=>cond r.1 (some (Sum.inr (Sum.inr (α:=LI×LL) (true,r.2)))) (some (Sum.inl (IntKind.i64.wrap (q.1+1),r.2)))) (some (Sum.inr (Sum.inl q.2))):=by
   funext ⟨v,h,p⟩
   dsimp only
   congr 1
   congr 1
   funext o
   rw[ch11_eq s0 kind F pairs F2 pat fuel]
  rw[h1]
  congr 1
  funext zz
  rcases zz with⟨a,b⟩|z<;>rfl
theorem ch1_eq (F0:LI)(second kind:Int)(F:LI)(pairs:List (Int×Int))(pat:LI):∀(fuel:Nat) (n frm many chosen:Int) (H:LI) (P:LL),
  D.t0 fuel n frm many chosen F0 second kind F H pairs P pat=chG (λc q=>D.p c F0 second kind F q.1 pairs q.2 pat) fuel n frm many chosen (H,P)
 |0,_,_,_,_,_,_=>rfl
 |fuel+1,n,frm,many,chosen,H,P=>by
  unfold D.t0 chG
  rw[bind_eta3]
  congr 1
  have h1:(fun(s_73:Int×LI×LL)=>match s_73 with|(x_76,l_77,l_80)=>cond (decide ((IntKind.i64.wrap (x_76+many))≤n)) ((D.e x_76).bind λy_119=>(D.t0 fuel n (IntKind.i64.wrap (x_76+1)) (IntKind.i64.wrap (many-1)) (ior .u32 chosen y_119) F0 second kind F l_77 pairs l_80 pat).bind λy_126=>cond y_126.1 (some (Sum.inr (Sum.inr (α:=LI×LL) (true,y_126.2.1,y_126.2.2)))) (some (Sum.inl ((IntKind.i64.wrap (x_76+1)),y_126.2.1,y_126.2.2)))) (some (Sum.inr (Sum.inl (l_77,l_80)))))
   =λq:Int×(LI×LL)=>cond (decide (IntKind.i64.wrap (q.1+many)≤n)) ((D.e q.1).bind λo=>(chG (λc q=>D.p c F0 second kind F q.1 pairs q.2 pat) fuel n (IntKind.i64.wrap (q.1+1)) (IntKind.i64.wrap (many-1)) (ior .u32 chosen o) q.2).bind λr=>cond r.1 (some (Sum.inr (Sum.inr (α:=LI×LL) (true,r.2)))) (some (Sum.inl (IntKind.i64.wrap (q.1+1),r.2)))) (some (Sum.inr (Sum.inl q.2))):=by
   funext ⟨v,h,p⟩
   dsimp only
   congr 1
   congr 1
   funext o
   rw[ch1_eq F0 second kind F pairs pat fuel]
  rw[h1]
  congr 1
  funext zz
  rcases zz with⟨a,b⟩|z<;>rfl
theorem chG_ok {σ:Type}{f:Int→σ→Option (Bool×σ)}{n:Nat}(hn:n≤16)(I:σ→Prop)(F T:Int→Prop)(Q:Int→σ→Prop)(hf:∀c s,T c→I s→∃r,f c s=some r∧I r.2∧(r.1=false→¬F c)∧(r.1=true→F c∧Q c r.2)):
  ∀(k fuel a:Nat) (c:Int) (s:σ),(∀t,Pick n a k c t→T t)→k<fuel→k≤16→In n c→a≤n+1→I s→∃r,chG f fuel (n:Int) (a:Int) (k:Int) c s=some r∧I r.2∧(r.1=false→∀t,Pick n a k c t→¬F t)∧(r.1=true→∃t,Pick n a k c t∧F t∧Q t r.2):=by
 intro k
 induction k with
 |zero=>
  intro fuel a c s hT hk _ hc _ hI
  obtain⟨m,rfl⟩:∃m,fuel=m+1:=⟨fuel-1,by omega⟩
  obtain⟨r,e,h1,h2,h3⟩:=hf c s (hT c .done) hI
  refine⟨r,?_,h1,λh t ht=> ?_,λh=>⟨c,.done,h3 h⟩⟩
  ·unfold chG
   simp only[Int.natCast_zero,beq_self_eq_true,cT,e]
  ·cases ht
   exact h2 h
 |succ k ih=>
  intro fuel a0 c s hT hk hk16 hc ha hI
  obtain⟨m,rfl⟩:∃m,fuel=m+1:=⟨fuel-1,by omega⟩
  unfold chG
  have h0:(((k+1:Nat):Int)==0)=false:=by rw[beq_eq_false_iff_ne];omega
  rw[h0,cF]
  refine AZ (λq:Int×σ=>I q.2∧∃a:Nat,q.1=(a:Int)∧a0≤a∧a≤n+1∧∀v t,a0≤v→v<a→v<n→Pick n (v+1) k (ior .u32 c (ishl .u32 1 (v:Int))) t→¬F t) (λq=>n+1-q.1.toNat)
   (λz:σ ⊕ (Bool×σ)=>match z with
    | .inl s=>I s∧∀v t,a0≤v→v<n→Pick n (v+1) k (ior .u32 c (ishl .u32 1 (v:Int))) t→¬F t
    | .inr r=>r.1=true∧I r.2∧∃v t,a0≤v∧v<n∧Pick n (v+1) k (ior .u32 c (ishl .u32 1 (v:Int))) t∧F t∧Q t r.2) ?_ ⟨hI,a0,rfl,Nat.le_refl _,ha,λv t h1 h2=>absurd h2 (by omega)⟩ ?_
  ·rintro⟨_,s⟩ ⟨hI,a,rfl,haa,ha,hall⟩
   dsimp only at hI hall ⊢
   by_cases hle:a+(k+1)≤n
   ·have hdec:decide (IntKind.i64.wrap ((a:Int)+((k+1:Nat):Int))≤(n:Int))=true:=by rw[w64 (by omega) (by omega)];simp;omega
    have hone:=CV (v:=a) (by omega)
    have hc':In n (ior .u32 c (ishl .u32 1 (a:Int))):=⟨VS.ior _ _,λv hv=>by
     rw[DC hc.1 (VS.ishl _ _),hone,Bool.or_eq_true,decide_eq_true_eq] at hv
     rcases hv with hv|rfl
     ·exact hc.2 v hv
     ·omega⟩
    obtain⟨r,e,h1,h2,h3⟩:=ih m (a+1) _ s (λt ht=>hT t (.more haa (by omega) ht)) (by omega) (by omega) hc' (by omega) hI
    have ek:IntKind.i64.wrap (((k+1:Nat):Int)-1)=(k:Int):=by rw[w64 (by omega) (by omega)];omega
    rw[hdec,cT,Db,bs,wi (by omega),ek,e,bs]
    cases hb:r.1 with
    |true=>
     obtain⟨t,k1,k2,k3⟩:=h3 hb
     exact⟨_,rfl,rfl,h1,a,t,haa,by omega,k1,k2,k3⟩
    |false=>
     refine⟨_,rfl,⟨h1,a+1,rfl,by omega,by omega,λv t g1 g2 g3 hp=> ?_⟩,by dsimp only;omega⟩
     by_cases hva:v=a
     ·subst hva;exact h2 hb t hp
     ·exact hall v t g1 (by omega) g3 hp
   ·have hdec:decide (IntKind.i64.wrap ((a:Int)+((k+1:Nat):Int))≤(n:Int))=false:=by rw[w64 (by omega) (by omega)];simp;omega
    rw[hdec,cF]
    refine⟨_,rfl,hI,λv t g1 g2 hp=> ?_⟩
    by_cases hva:v<a
    ·exact hall v t g1 hva g2 hp
    ·have:=hp.le
     omega
  ·rintro(s|r) hz
   ·exact⟨_,rfl,hz.1,λ_ t ht=>by
     cases ht with
     |more p1 p2 p3=>exact hz.2 _ _ p1 p2 p3,λh=>(by cases h)⟩
   ·obtain⟨h0,h1,v,t,g1,g2,g3,g4,g5⟩:=hz
    exact⟨_,rfl,h1,λh=>(by rw[h0] at h;cases h),λ_=>⟨t,.more g1 g2 g3,g4,g5⟩⟩
theorem Fu {α β:Type}{step:List α×Int→Option ((List α×Int) ⊕ List α)}(f:Nat→α)(l0:List α)(i0 m:Nat)(hi:i0≤m)(hl:l0.length+m≤1000000)
  (hstep:∀(l:List α) (i:Nat),i0≤i→i<m→step (l,(i:Int))=(AU l [f i]).bind λl'=>some (.inl (l',((i+1:Nat):Int)))) (hend:∀l,step (l,(m:Int))=some (.inr l)) {s0:List α×Int} (h0:s0=(l0,(i0:Int))) (k:List α→Option β):
  (Aw step s0).bind k=k (l0++(List.range' i0 (m-i0)).map f):=by
 subst h0
 refine CT (λj=>(l0++(List.range' i0 j).map f,((i0+j:Nat):Int))) (m-i0) _ (by simp) (λj hj=> ?_) ?_
 ·rw[hstep _ _ (by omega) (by omega),Bp (by simp;omega),bs,List.range'_concat,List.map_append,List.append_assoc]
  simp[Nat.add_assoc]
 ·rw[show i0+(m-i0)=m by omega];exact hend _
def prI {α:Type}(c:Nat→Nat→α)(a b i:Nat):List α:=(if b=0 then(List.range' (i+1) (a-(i+1))).map (c i) else [])++(List.range' 0 b).map λx=>c i (a+x)
def prL {α:Type}(c:Nat→Nat→α)(a b:Nat):Nat→List α
 |0=>[]
 |i+1=>prL c a b i++prI c a b i
theorem prI_len {α:Type}(c:Nat→Nat→α)(a b i:Nat):(prI c a b i).length≤a+b:=by
 unfold prI
 split<;>simp<;>omega
theorem prL_len {α:Type}(c:Nat→Nat→α)(a b:Nat):∀i,(prL c a b i).length≤i*(a+b)
 |0=>by simp[prL]
 |i+1=>by
  have:=prL_len c a b i
  have:=prI_len c a b i
  unfold prL
  rw[List.length_append,Nat.succ_mul];omega
theorem prI_map {α β:Type}(h:α→β)(c:Nat→Nat→α)(a b i:Nat):(prI c a b i).map h=prI (λx y=>h (c x y)) a b i:=by
 unfold prI
 split<;>simp[Function.comp_def]
theorem prL_map {α β:Type}(h:α→β)(c:Nat→Nat→α)(a b:Nat):∀i,(prL c a b i).map h=prL (λx y=>h (c x y)) a b i
 |0=>rfl
 |i+1=>by unfold prL;rw[List.map_append,prL_map h c a b i,prI_map]
def ppI (x y:Nat):Int×Int:=((x:Int),(y:Int))
def plI (x y:Nat):LI:=[(x:Int),(y:Int)]
theorem sides_ex (k:Int):∃a b:Nat,D.z k=some ((a:Int),(b:Int))∧D.h0 k=some ((a:Int),(b:Int))∧((k=1∧a=5∧b=0)∨(k=2∧a=3∧b=3)∨(k=3∧a=4∧b=0)∨(k=4∧a=2∧b=3)∨(a=0∧b=0∧(k<1∨4<k))):=by
 unfold D.z D.h0
 by_cases h1:k=1
 ·subst h1;exact⟨5,0,rfl,rfl,.inl ⟨rfl,rfl,rfl⟩⟩
 ·by_cases h2:k=2
  ·subst h2;exact⟨3,3,rfl,rfl,.inr (.inl ⟨rfl,rfl,rfl⟩)⟩
  ·by_cases h3:k=3
   ·subst h3;exact⟨4,0,rfl,rfl,.inr (.inr (.inl ⟨rfl,rfl,rfl⟩))⟩
   ·by_cases h4:k=4
    ·subst h4;exact⟨2,3,rfl,rfl,.inr (.inr (.inr (.inl ⟨rfl,rfl,rfl⟩)))⟩
    ·refine⟨0,0,?_,?_,.inr (.inr (.inr (.inr ⟨rfl,rfl,by omega⟩)))⟩<;>
      rw[beq_eq_false_iff_ne.2 h1,beq_eq_false_iff_ne.2 h2,beq_eq_false_iff_ne.2 h3,beq_eq_false_iff_ne.2 h4]<;>rfl
theorem E7 {k:Int}{a b:Nat}(h:(k=1∧a=5∧b=0)∨(k=2∧a=3∧b=3)∨(k=3∧a=4∧b=0)∨(k=4∧a=2∧b=3)∨(a=0∧b=0∧(k<1∨4<k))):a≤5∧b≤3:=by omega
theorem EW {k:Int}{a b:Nat}(h:D.z k=some ((a:Int),(b:Int)))(ha:a≤5∧b≤3):D.x0 k=some (prL ppI a b a):=by
 unfold D.x0
 rw[h,bs]
 dsimp only
 refine CT (λi=>(prL ppI a b i,(i:Int))) a (prL ppI a b a) rfl (λi hi=> ?_) ?_
 ·have hl:=prL_len ppI a b i
  have hl2:i*(a+b)≤5*8:=Nat.mul_le_mul (by omega) (by omega)
  dsimp only
  rw[dlt hi,cT]
  have hin:(cond ((b:Int)==0) ((Aw (σ:=(List (Int×Int))×Int) (ρ:=((List (Int×Int)))) (fun(s_883:(List (Int×Int))×Int)=>match s_883 with|(l_886,x_891)=>cond (decide (x_891<(a:Int))) ((AU l_886 ([((i:Int),x_891)]:List (Int×Int))).bind λl_918=>some (.inl (l_918,(IntKind.i64.wrap (x_891+1))))) (some (.inr l_886))) (prL ppI a b i,(IntKind.i64.wrap ((i:Int)+1)))).bind λl_906=>some l_906) (some (prL ppI a b i)):Option ((List (Int×Int))))=some (prL ppI a b i++if b=0 then(List.range' (i+1) (a-(i+1))).map (ppI i) else []):=by
   by_cases hb:b=0
   ·have:((b:Int)==0)=true:=by rw[beq_iff_eq];omega
    rw[this,cT,if_pos hb]
    refine Fu (ppI i) _ (i+1) a (by omega) (by omega) (λl x h1 h2=> ?_) (λl=> ?_) (by rw[wi (by omega)]) _
    ·dsimp only
     rw[dlt h2,cT,wi (by omega)];rfl
    ·dsimp only
     rw[Bx,cF]
   ·have:((b:Int)==0)=false:=by rw[beq_eq_false_iff_ne];omega
    rw[this,cF,if_neg hb,List.append_nil]
  rw[hin,bs]
  refine(Fu (λx=>ppI i (a+x)) _ 0 b (Nat.zero_le _) (by
    rw[List.length_append]
    have:(if b=0 then(List.range' (i+1) (a-(i+1))).map (ppI i) else []).length≤5:=by split<;>simp;omega
    omega) (λl x _ h2=> ?_) (λl=> ?_) rfl _).trans ?_
  ·dsimp only
   rw[dlt h2,cT,wi (by omega),w64 (by omega) (by omega)];rfl
  ·dsimp only
   rw[Bx,cF]
  ·rw[wi (by omega),show prL ppI a b (i+1)=prL ppI a b i++prI ppI a b i from rfl,Nat.sub_zero]
   unfold prI
   rw[List.append_assoc]
 ·dsimp only
  rw[Bx,cF]
theorem spec_pairs_eq {k:Int}{a b:Nat}(h:D.h0 k=some ((a:Int),(b:Int)))(ha:a≤5∧b≤3):D.l1 k=some (prL plI a b a):=by
 unfold D.l1
 rw[h,bs]
 dsimp only
 refine CT (λi=>(prL plI a b i,(i:Int))) a (prL plI a b a) rfl (λi hi=> ?_) ?_
 ·have hl:=prL_len plI a b i
  have hl2:i*(a+b)≤5*8:=Nat.mul_le_mul (by omega) (by omega)
  dsimp only
  rw[dlt hi,cT]
  have hin:(cond ((b:Int)==0) ((Aw (σ:=LL×Int) (ρ:=(LL)) (fun(s_883:LL×Int)=>match s_883 with|(l_886,x_891)=>cond (decide (x_891<(a:Int))) ((AU l_886 ([([(i:Int),x_891]:LI)]:LL)).bind λl_918=>some (.inl (l_918,(IntKind.i64.wrap (x_891+1))))) (some (.inr l_886))) (prL plI a b i,(IntKind.i64.wrap ((i:Int)+1)))).bind λl_906=>some l_906) (some (prL plI a b i)):Option (LL))=some (prL plI a b i++if b=0 then(List.range' (i+1) (a-(i+1))).map (plI i) else []):=by
   by_cases hb:b=0
   ·have:((b:Int)==0)=true:=by rw[beq_iff_eq];omega
    rw[this,cT,if_pos hb]
    refine Fu (plI i) _ (i+1) a (by omega) (by omega) (λl x h1 h2=> ?_) (λl=> ?_) (by rw[wi (by omega)]) _
    ·dsimp only
     rw[dlt h2,cT,wi (by omega)];rfl
    ·dsimp only
     rw[Bx,cF]
   ·have:((b:Int)==0)=false:=by rw[beq_eq_false_iff_ne];omega
    rw[this,cF,if_neg hb,List.append_nil]
  rw[hin,bs]
  refine(Fu (λx=>plI i (a+x)) _ 0 b (Nat.zero_le _) (by
    rw[List.length_append]
    have:(if b=0 then(List.range' (i+1) (a-(i+1))).map (plI i) else []).length≤5:=by split<;>simp;omega
    omega) (λl x _ h2=> ?_) (λl=> ?_) rfl _).trans ?_
  ·dsimp only
   rw[dlt h2,cT,wi (by omega),w64 (by omega) (by omega)];rfl
  ·dsimp only
   rw[Bx,cF]
  ·rw[wi (by omega),show prL plI a b (i+1)=prL plI a b i++prI plI a b i from rfl,Nat.sub_zero]
   unfold prI
   rw[List.append_assoc]
 ·dsimp only
  rw[Bx,cF]
def prN (a b:Nat):List (Nat×Nat):=prL Prod.mk a b a
theorem prL_ppI (a b:Nat):prL ppI a b a=(prN a b).map λe=>((e.1:Int),(e.2:Int)):=(prL_map (λe:Nat×Nat=>((e.1:Int),(e.2:Int))) Prod.mk a b a).symm
theorem prL_plI (a b:Nat):prL plI a b a=(prN a b).map λe=>[(e.1:Int),(e.2:Int)]:=(prL_map (λe:Nat×Nat=>[(e.1:Int),(e.2:Int)]) Prod.mk a b a).symm
def PrsLt (L:List (Nat×Nat))(n:Nat):Prop:=∀e∈L,e.1<e.2∧e.2<n
theorem prs_lt {k:Int}{a b:Nat}(h:(k=1∧a=5∧b=0)∨(k=2∧a=3∧b=3)∨(k=3∧a=4∧b=0)∨(k=4∧a=2∧b=3)∨(a=0∧b=0∧(k<1∨4<k))):PrsLt (prN a b) (a+b)∧(prN a b).length≤10:=by
 unfold PrsLt
 rcases h with⟨_,rfl,rfl⟩|⟨_,rfl,rfl⟩|⟨_,rfl,rfl⟩|⟨_,rfl,rfl⟩|⟨rfl,rfl,_⟩<;>decide
theorem joins_ok {n:Nat}(hn:n≤16){L:List (Nat×Nat)}(hL:PrsLt L n)(hl:L.length≤1000){β:Type}(k:LI→Option β){Q:β→Prop}(hk:∀F,FOk F n→(∀u w,u<n→(nb F u w=true↔(u,w)∈L∨(w,u)∈L))→∃y,k F=some y∧Q y):
  ∃y,(Aw (σ:=LI×(List (Int×Int))×Int) (ρ:=(LI)) (fun(s_80:LI×(List (Int×Int))×Int)=>match s_80 with|(l_86,l_89,x_92)=>cond (decide (x_92<((L.map λe=>((e.1:Int),(e.2:Int))).length:Int))) ((idx l_89 x_92).bind λe_116=>(D.F l_86 e_116.1 e_116.2).bind λy_122=>some (.inl (y_122,l_89,(IntKind.i64.wrap (x_92+1))))) (some (.inr l_86))) (List.replicate n 0,L.map λe=>((e.1:Int),(e.2:Int)),0)).bind k=some y∧Q y:=by
 refine AZ (λs:LI×List (Int×Int)×Int=>s.2.1=(L.map λe=>((e.1:Int),(e.2:Int)))∧∃i:Nat,s.2.2=(i:Int)∧i≤L.length∧s.1.length=n∧(∀u,u<n→VS (s.1.getD u 0))∧∀u w,u<n→(nb s.1 u w=true↔(u,w)∈L.take i∨(w,u)∈L.take i)) (λs=>L.length-s.2.2.toNat)
  (λF=>FOk F n∧∀u w,u<n→(nb F u w=true↔(u,w)∈L∨(w,u)∈L)) ?_ ⟨rfl,0,rfl,Nat.zero_le _,List.length_replicate,λu hu=> ?_,λu w hu=> ?_⟩ (λF hF=>hk F hF.1 hF.2)
 ·rintro⟨F,_,_⟩ ⟨hs,i,rfl,hi,h1,h2,h3⟩
  dsimp only at hs h1 h2 h3 ⊢
  subst hs
  have hml:(L.map λe=>((e.1:Int),(e.2:Int))).length=L.length:=List.length_map _
  by_cases hil:i<L.length
  ·have he:=hL _ (List.getElem_mem hil)
   have hil':i<(L.map λe=>((e.1:Int),(e.2:Int))).length:=by rw[hml];exact hil
   obtain⟨y,ey,y1,y2,y3⟩:=DN hn h1 h2 (v:=L[i].1) (t:=L[i].2) (by omega) he.2 (by omega)
   rw[dlt hil',cT,AS hil',List.getElem_map,bs]
   dsimp only
   rw[ey,bs,wi (by omega)]
   refine⟨_,rfl,⟨rfl,i+1,rfl,hil,y1,y2,λu w hu=> ?_⟩,by dsimp only;omega⟩
   dsimp only
   rw[y3 u w hu,List.take_succ_eq_append_getElem hil,Bool.or_eq_true,Bool.or_eq_true,h3 u w hu,Bool.and_eq_true,Bool.and_eq_true,decide_eq_true_eq,decide_eq_true_eq,decide_eq_true_eq,decide_eq_true_eq,List.mem_append,List.mem_append,List.mem_singleton,List.mem_singleton]
   have e1:∀x y,(x,y)=L[i]↔x=L[i].1∧y=L[i].2:=λx y=>by
    rw[Prod.ext_iff]
   rw[e1,e1]
   constructor
   ·rintro((h|h)|h)
    ·exact h.elim (λh=> .inl (.inl h)) (λh=> .inr (.inl h))
    ·exact .inl (.inr h)
    ·exact .inr (.inr ⟨h.2,h.1⟩)
   ·rintro((h|h)|(h|h))
    ·exact .inl (.inl (.inl h))
    ·exact .inl (.inr h)
    ·exact .inl (.inl (.inr h))
    ·exact .inr ⟨h.2,h.1⟩
  ·obtain rfl:i=L.length:=by omega
   rw[hml,Bx,cF]
   rw[List.take_length] at h3
   refine⟨_,rfl,⟨h1,h2,λu w hu h=> ?_,λu hu=> ?_,λu w hu h=> ?_⟩,h3⟩
   ·rcases(h3 u w hu).1 h with h|h
    ·exact(hL _ h).2
    ·have:=hL _ h;dsimp only at this;omega
   ·rw[←Bool.not_eq_true,h3 u u hu]
    rintro(h|h)<;>(have:=hL _ h;dsimp only at this;omega)
   ·have hw:w<n:=by
     rcases(h3 u w hu).1 h with h|h
     ·exact(hL _ h).2
     ·have:=hL _ h;dsimp only at this;omega
    rw[h3 w u hw]
    exact((h3 u w hu).1 h).symm
 ·dsimp only
  rw[List.getD_eq_getElem?_getD,List.getElem?_replicate]
  split<;>exact VS.zero
 ·dsimp only
  unfold nb
  rw[List.getD_eq_getElem?_getD,List.getElem?_replicate,if_pos hu,Option.getD_some,Cc]
  simp
theorem Gv {k:Int}{a b:Nat}(h0:D.z k=some ((a:Int),(b:Int)))(h:(k=1∧a=5∧b=0)∨(k=2∧a=3∧b=3)∨(k=3∧a=4∧b=0)∨(k=4∧a=2∧b=3)∨(a=0∧b=0∧(k<1∨4<k)))(ha:a≠0):
  ∃y,D.J1 k=some y∧∃F,y=grow F∧FOk F (a+b)∧∀u w,u<a+b→(nb F u w=true↔(u,w)∈prN a b∨(w,u)∈prN a b):=by
 have hs:=E7 h
 have hp:=prs_lt h
 have h1:((a:Int)==0)=false:=by rw[beq_eq_false_iff_ne];omega
 unfold D.J1
 rw[h0,bs]
 dsimp only
 rw[h1,cF,w64 (by omega) (by omega),show (a:Int)+(b:Int)=((a+b:Nat):Int) from rfl,FG (Int.le_refl _) (by omega),bs,EW h0 hs,bs,prL_ppI]
 refine joins_ok (by omega) hp.1 (by omega) _ λF hF hnb=> ?_
 rw[Ef F (by have:=hF.len;omega) (λu hu=>hF.vs u (by have:=hF.len;omega)),bs]
 exact⟨_,rfl,F,rfl,hF,hnb⟩
theorem Gx {k:Int}{a b:Nat}(h0:D.h0 k=some ((a:Int),(b:Int)))(h:(k=1∧a=5∧b=0)∨(k=2∧a=3∧b=3)∨(k=3∧a=4∧b=0)∨(k=4∧a=2∧b=3)∨(a=0∧b=0∧(k<1∨4<k)))(ha:a≠0):
  ∃y,D.c1 k=some y∧GOk y∧y.length=a+b∧∀u w,adj y u w↔(u,w)∈prN a b∨(w,u)∈prN a b:=by
 have hs:=E7 h
 have hp:=prs_lt h
 have h1:((a:Int)==0)=false:=by rw[beq_eq_false_iff_ne];omega
 unfold D.c1
 rw[h0,bs]
 dsimp only
 rw[h1,cF,w64 (by omega) (by omega),show (a:Int)+(b:Int)=((a+b:Nat):Int) from rfl,l1Empty_eq _ (by omega),bs,spec_pairs_eq h0 hs,bs,prL_plI]
 have hml:((prN a b).map λe=>[(e.1:Int),(e.2:Int)]).length=(prN a b).length:=List.length_map _
 refine AZ (λs:Int×LL=>∃i:Nat,s.1=(i:Int)∧i≤(prN a b).length∧GOk s.2∧s.2.length=a+b∧∀u w,adj s.2 u w↔(u,w)∈(prN a b).take i∨(w,u)∈(prN a b).take i) (λs=>(prN a b).length-s.1.toNat)
  (λy=>GOk y∧y.length=a+b∧∀u w,adj y u w↔(u,w)∈prN a b∨(w,u)∈prN a b) ?_ ⟨0,rfl,Nat.zero_le _,GOk.empty (by omega) (by omega),List.length_replicate,λu w=> ?_⟩ (λy hy=>⟨y,rfl,hy⟩)
 ·rintro⟨_,y⟩ ⟨i,rfl,hi,hG,hl,hadj⟩
  dsimp only at hG hl hadj ⊢
  by_cases hil:i<(prN a b).length
  ·have he:=hp.1 _ (List.getElem_mem hil)
   have hil':i<((prN a b).map λe=>[(e.1:Int),(e.2:Int)]).length:=by rw[hml];exact hil
   obtain⟨y',ey,y1,y2,y3⟩:=Dh hG (u:=(prN a b)[i].1) (v:=(prN a b)[i].2) (by omega) (by omega) (by omega)
   have i0:idx [((prN a b)[i].1:Int),((prN a b)[i].2:Int)] 0=some ((prN a b)[i].1:Int):=rfl
   have i1:idx [((prN a b)[i].1:Int),((prN a b)[i].2:Int)] 1=some ((prN a b)[i].2:Int):=rfl
   rw[dlt hil',cT,AS hil',List.getElem_map,bs,i0,bs,bs,i1,bs,ey,bs,wi (by omega)]
   refine⟨_,rfl,⟨i+1,rfl,hil,y1,by rw[y2];exact hl,λu w=> ?_⟩,by dsimp only;omega⟩
   dsimp only
   rw[y3 u w,List.take_succ_eq_append_getElem hil,hadj u w,List.mem_append,List.mem_append,List.mem_singleton,List.mem_singleton]
   have e1:∀x y,(x,y)=(prN a b)[i]↔x=(prN a b)[i].1∧y=(prN a b)[i].2:=λx y=>by rw[Prod.ext_iff]
   rw[e1,e1]
   constructor
   ·rintro((h|h)|h|h)
    ·exact .inl (.inl h)
    ·exact .inr (.inl h)
    ·exact .inl (.inr h)
    ·exact .inr (.inr ⟨h.2,h.1⟩)
   ·rintro((h|h)|(h|h))
    ·exact .inl (.inl h)
    ·exact .inr (.inl h)
    ·exact .inl (.inr h)
    ·exact .inr (.inr ⟨h.2,h.1⟩)
  ·obtain rfl:i=(prN a b).length:=by omega
   rw[hml,Bx,cF]
   rw[List.take_length] at hadj
   exact⟨_,rfl,hG,hl,hadj⟩
 ·dsimp only
  constructor
  ·intro h
   unfold adj row at h
   rw[List.getD_eq_getElem?_getD,List.getElem?_replicate] at h
   split at h<;>cases h
  ·rintro(h|h)<;>simp at h
def nd (a b i:Nat):Nat:=((List.range (a+b)).filter λw=>decide ((i,w)∈prN a b∨(w,i)∈prN a b)).length
def Co (a b:Nat):List (Int×Int):=(prN a b).map λe=>((e.1:Int),(e.2:Int))
def FndS (g:LL)(k:Int)(a b:Nat)(H:LI):Prop:=
 (k=2→H.getD 0 0<H.getD 3 0)∧(∀i,i<H.length→nd a b i≤(row g (H.getD i 0).toNat).length)∧∃l,LkW g (B9 H) (Co a b) (λx=>x∈H) l
def Hub2 (n a b:Nat)(s t:Int):Prop:=In n s∧In n t∧(Az s).length=a∧(Az t).length=b∧∀v,¬(El s v∧El t v)
theorem pat_size {a b:Nat}{F:LI}(hab:a+b≤16)(hF:FOk F (a+b))(hnb:∀u w,u<a+b→(nb F u w=true↔(u,w)∈prN a b∨(w,u)∈prN a b)){i:Nat}(hi:i<a+b):(Az (F.getD i 0)).length=nd a b i:=by
 rw[elems_sum (n:=a+b) (by omega) (λv hv=>hF.lt i v hi hv)]
 unfold nd
 rw[FA]
 refine Dp λw _=> ?_
 have:=hnb i w hi
 unfold nb at this
 congr 1
 rw[Bool.eq_iff_iff,this,decide_eq_true_eq]
theorem Gg {g:LL}(hg:GOk g):∀{u w:Int} {q:LI},ChI g u q w→∀x∈q,∃v:Nat,x=(v:Int)∧v<g.length
 |_,_,[],_,_,hx=>by cases hx
 |_,_,_::_,h,x,hx=>by
  rcases List.mem_cons.1 hx with rfl|hx
  ·obtain⟨a,b,_,h2,h3,h4⟩:=h.1
   exact⟨b,h2,hg.lt h3 h4⟩
  ·exact Gg hg h.2 x hx
theorem InW.congr' {g:LL}(hg:GOk g){U U':Int→Prop}{u w:Int}{q:LI}(h:∀v:Nat,v<g.length→(U v↔U' v)):InW g U u w q→InW g U' u w q:=
 fun⟨a,b,c⟩=>⟨a,λx hx hu=>by
  obtain⟨v,rfl,hv⟩:=Gg hg c x hx
  exact b _ hx ((h v hv).2 hu),c⟩
theorem LkW.congr' {g:LL}(hg:GOk g){hub:Int→Int}:∀{ps:List (Int×Int)} {U U':Int→Prop} {l:LL},(∀v:Nat,v<g.length→(U v↔U' v))→LkW g hub ps U l→LkW g hub ps U' l
 |[],_,_,_,_,h=>h
 |_::_,_,_,_,hU,⟨q,rest,h1,h2,h3⟩=>⟨q,rest,h1,h2.congr' hg hU,LkW.congr' hg (λv hv=>or_congr (hU v hv) Iff.rfl) h3⟩
theorem InW.len' {g:LL}(hg:GOk g){U:Int→Prop}{u w:Int}{q:LI}(h:InW g U u w q):q.length≤g.length:=by
 have:=DT (m:=(List.range g.length).map Int.ofNat) h.1 (λx hx=>by
  obtain⟨v,rfl,hv⟩:=Gg hg h.2.2 x hx
  exact List.mem_map.2 ⟨v,List.mem_range.2 hv,rfl⟩)
 simpa using this
theorem LkW.lens {g:LL}(hg:GOk g){hub:Int→Int}:∀{ps:List (Int×Int)} {U:Int→Prop} {l:LL},LkW g hub ps U l→l.length=ps.length∧∀p∈l,p.length≤18
 |[],_,_,h=>by
  have:_=[]:=h
  subst this;exact⟨rfl,λp hp=>(by cases hp)⟩
 |_::_,_,_,⟨q,rest,h1,h2,h3⟩=>by
  subst h1
  have ih:=LkW.lens hg h3
  have:=h2.len' hg
  have:=hg.n16
  refine⟨by simp[ih.1],λp hp=> ?_⟩
  rcases List.mem_cons.1 hp with rfl|hp
  ·simp;omega
  ·exact ih.2 p hp
section
variable {g : LL} (hg : GOk g)
include hg
theorem prs_ok {a b:Nat}(hp:PrsLt (prN a b) (a+b)){H:LI}(hl:H.length=a+b)(hH:∀x∈H,∃v:Nat,x=(v:Int)∧v<g.length):PrsOk g H (Co a b):=by
 intro e he
 obtain⟨e',he',rfl⟩:=List.mem_map.1 he
 have h1:=hp e' he'
 have k1:e'.1<H.length:=by omega
 have k2:e'.2<H.length:=by omega
 obtain⟨u,hu,hun⟩:=hH _ (List.getElem_mem k1)
 obtain⟨w,hw,hwn⟩:=hH _ (List.getElem_mem k2)
 exact⟨e'.1,e'.2,u,w,rfl,by rw[List.getElem?_eq_getElem k1,hu],by rw[List.getElem?_eq_getElem k2,hw],hun,hwn⟩
theorem find11_ok {k:Int}{a b:Nat}(h:(k=1∧a=5∧b=0)∨(k=2∧a=3∧b=3)∨(k=3∧a=4∧b=0)∨(k=4∧a=2∧b=3)){F2:LI}(hF2:FOk F2 (a+b))(hnb:∀u w,u<a+b→(nb F2 u w=true↔(u,w)∈prN a b∨(w,u)∈prN a b))
  {s t:Int} (hs:In g.length s) (ht:In g.length t) (hsl:(Az s).length=a) (htl:(Az t).length=b) (Hold:LI) {P:LL} (hP:P.length=(Co a b).length):
  ∃r,D.u0 t s k (g.map mk) Hold (Co a b) P (g.map mk) F2=some r∧r.2.2.length=(Co a b).length∧(r.1=false→¬(Hub2 g.length a b s t∧FndS g k a b (Az s++Az t)))∧
   (r.1=true→(Hub2 g.length a b s t∧FndS g k a b (Az s++Az t))∧r.2.1=Az s++Az t∧LkW g (B9 (Az s++Az t)) (Co a b) (λx=>x∈Az s++Az t) r.2.2):=by
 have h16:=hg.n16
 have hab:a+b≤8:=by omega
 have hpl:=prs_lt (k:=k) (a:=a) (b:=b) (by omega)
 have hHl:(Az s++Az t).length=a+b:=by rw[List.length_append,hsl,htl]
 have hHm:∀v:Nat,(v:Int)∈Az s++Az t↔El s v∨El t v:=λv=>by rw[List.mem_append,BS hs.1,BS ht.1]
 have hHn:∀x∈Az s++Az t,∃v:Nat,x=(v:Int)∧v<g.length:=λx hx=>by
  rcases List.mem_append.1 hx with hx|hx
  ·obtain⟨v,_,hv,rfl⟩:=mem_elems.1 hx
   exact⟨v,rfl,hs.2 v hv⟩
  ·obtain⟨v,_,hv,rfl⟩:=mem_elems.1 hx
   exact⟨v,rfl,ht.2 v hv⟩
 unfold D.u0
 by_cases hdis:∀v,¬(El s v∧El t v)
 ·have h0:iand .u32 s t=0:=(VS.eq_zero (VS.iand _ _)).2 λv _=>by
   rw[EF hs.1 ht.1,←Bool.not_eq_true,Bool.and_eq_true];exact hdis v
  have hcond:((cond (k==2) ((D.M s).bind λy_133=>(D.M t).bind λy_140=>some (decide (y_140<y_133))) (some false)).bind λb_131=>some b_131)=some (decide (¬(k=2→(Az s++Az t).getD 0 0<(Az s++Az t).getD 3 0))):=by
   by_cases hk:k=2
   ·obtain⟨rfl,rfl⟩:a=3∧b=3:=by omega
    have hs0:s≠0:=λe=>by rw[e,Ei] at hsl;simp at hsl
    have ht0:t≠0:=λe=>by rw[e,Ei] at htl;simp at htl
    obtain⟨x,hx1,hx2,hx3,hx4,_⟩:=least_eq hs.1 hs0
    obtain⟨y,hy1,hy2,hy3,hy4,_⟩:=least_eq ht.1 ht0
    obtain⟨ts,hts⟩:=elems_head hs.1 hx3 hx4
    obtain⟨tt,htt⟩:=elems_head ht.1 hy3 hy4
    have hxy:x≠y:=λe=>hdis x ⟨hx3,e▸hy3⟩
    have g0:(Az s++Az t).getD 0 0=(x:Int):=by rw[hts];rfl
    have g3:(Az s++Az t).getD 3 0=(y:Int):=by
     rw[List.getD_eq_getElem?_getD,List.getElem?_append_right (by omega),hsl,htt];rfl
    rw[beq_iff_eq.2 hk,cT,hx2,bs,hy2,bs,bs,g0,g3]
    congr 1
    rw[Bool.eq_iff_iff,decide_eq_true_eq,decide_eq_true_eq]
    constructor
    ·intro h1 h2;have:=h2 hk;omega
    ·intro h1
     refine Classical.byContradiction λh2=>h1 λ_=>by omega
   ·rw[beq_eq_false_iff_ne.2 hk,cF,bs,decide_eq_false (λhh=>hh λh'=>absurd h' hk)]
  have hb0:(iand .u32 s t !=0)=false:=by rw[h0];rfl
  rw[hb0,cF,hcond,bs]
  by_cases hord:k=2→(Az s++Az t).getD 0 0<(Az s++Az t).getD 3 0
  ·rw[decide_eq_false (λhh=>hh hord),cF,Et _ hs.1,bs,Et _ ht.1,bs,Bp (by rw[hsl,htl];omega),bs]
   generalize hHe:Az s++Az t=H at hHl hHm hHn hord
   refine AZ (λi:Int=>∃j:Nat,i=(j:Int)∧j≤H.length∧∀i,i<j→nd a b i≤(row g (H.getD i 0).toNat).length) (λi=>H.length-i.toNat)
    (λz:Unit ⊕ (Bool×LI×LL)=>match z with
     | .inl _=>∀i,i<H.length→nd a b i≤(row g (H.getD i 0).toNat).length
     | .inr r=>r=(false,H,P)∧¬∀i,i<H.length→nd a b i≤(row g (H.getD i 0).toNat).length) ?_ ⟨0,rfl,Nat.zero_le _,λi hi=>absurd hi (Nat.not_lt_zero _)⟩ ?_
   ·rintro _ ⟨j,rfl,hj,hall⟩
    by_cases hjl:j<H.length
    ·obtain⟨v,ev,hv⟩:=hHn _ (List.getElem_mem hjl)
     have hjF:j<F2.length:=by rw[hF2.len];omega
     have hrow:Az (mk (row g v))=row g v:=elems_mk h16 (hg.rows v hv).1 (hg.rows v hv).2
     have hvs2:=hF2.vs j (by omega)
     rw[dlt hjl,cT,AS hjl,ev,bs,idx_nets hv,bs,Gt (VS.mk _),bs,AS hjF,←AW hjF 0,bs,Gt hvs2,bs,hrow,pat_size (by omega) hF2 hnb (show j<a+b by omega),wi (by omega)]
     have hgd:(row g (H.getD j 0).toNat).length=(row g v).length:=by rw[AW hjl,ev];rfl
     by_cases hc:nd a b j≤(row g v).length
     ·rw[decide_eq_false (by omega),cF]
      refine⟨_,rfl,⟨j+1,rfl,hjl,λi hi=> ?_⟩,by dsimp only;omega⟩
      by_cases e:i=j
      ·subst e;rw[hgd];exact hc
      ·exact hall i (by omega)
     ·rw[decide_eq_true (by omega),cT]
      exact⟨_,rfl,rfl,λhh=>hc (by have:=hh j hjl;rwa [hgd] at this)⟩
    ·obtain rfl:j=H.length:=by omega
     rw[Bx,cF]
     exact⟨_,rfl,hall⟩
   ·rintro(_|r) hz
    ·dsimp only at hz ⊢
     have hFl:(g.map mk).length=g.length:=by simp
     have hfv:∀v:Nat,El (iandNot .u32 (iandNot .u32 (Ee g.length) s) t) v↔v<g.length∧(v:Int)∉H:=λv=>by
      unfold El
      rw[CS (VS.iandNot _ _) ht.1,CS (Fi _) hs.1,EI h16,hHm]
      unfold El
      cases has s v<;>cases has t v<;>simp
     obtain⟨r,er,h1,h2⟩:=join_ok hg (prs_ok hg hpl.1 hHl hHn) (by unfold Co;rw[List.length_map];omega) (Co a b).length 0 BT (iandNot .u32 (iandNot .u32 (Ee g.length) s) t) P (by omega) (Nat.lt_of_lt_of_le (by unfold Co;rw[List.length_map];omega) Da) ⟨VS.iandNot _ _,λv hv=>((hfv v).1 hv).1⟩ hP
     have hU:∀v:Nat,v<g.length→(Nfr (iandNot .u32 (iandNot .u32 (Ee g.length) s) t) (v:Int)↔(v:Int)∈H):=λv hv=>by
      constructor
      ·intro hn
       exact Classical.byContradiction λhc=>hn ⟨v,rfl,(hfv v).2 ⟨hv,hc⟩⟩
      ·rintro hm ⟨w,e,hw⟩
       obtain rfl:v=w:=by omega
       exact((hfv v).1 hw).2 hm
     unfold D.l
     rw[FR,bs,hFl,show (0:Int)=((0:Nat):Int) from rfl,er,bs]
     rw[List.drop_zero] at h1 h2
     refine⟨_,rfl,?_,λhb hf=> ?_,λhb=> ?_⟩
     ·dsimp only
      cases hb:r.1 with
      |false=>rw[(h1 hb).1];exact hP
      |true=>rw[(h2 hb).1];exact hP
     ·obtain⟨_,_,_,l,hl⟩:=hf
      exact(h1 hb).2 l (hl.congr' hg λv hv=>(hU v hv).symm)
     ·have h3:=(h2 hb).2
      rw[List.drop_zero] at h3
      have h4:=h3.congr' hg hU
      exact⟨⟨⟨hs,ht,hsl,htl,hdis⟩,hord,hz,_,h4⟩,rfl,h4⟩
    ·obtain⟨rfl,hn⟩:=hz
     exact⟨_,rfl,hP,λ_ hf=>hn hf.2.2.1,λhb=>(by cases hb)⟩
  ·rw[decide_eq_true hord,cT]
   exact⟨_,rfl,hP,λ_ hf=>hord hf.2.1,λhb=>(by cases hb)⟩
 ·have h0:(iand .u32 s t !=0)=true:=by
   rw[bne_iff_ne]
   intro e
   refine hdis λv hv=> ?_
   have h1:has (iand .u32 s t) v=true:=by rw[EF hs.1 ht.1,Bool.and_eq_true];exact hv
   rw[e,Cc] at h1;cases h1
  rw[h0,cT,bs,cT]
  exact⟨_,rfl,hP,λ_ hf=>hdis hf.1.2.2.2.2,λhb=>(by cases hb)⟩
end
end Go.Sx

namespace Go.Sx
section
variable {g : LL} (hg : GOk g)
include hg
theorem find1_ok {k:Int}{a b:Nat}(h:(k=1∧a=5∧b=0)∨(k=2∧a=3∧b=3)∨(k=3∧a=4∧b=0)∨(k=4∧a=2∧b=3)){F2:LI}(hF2:FOk F2 (a+b))(hnb:∀u w,u<a+b→(nb F2 u w=true↔(u,w)∈prN a b∨(w,u)∈prN a b))
  {s:Int} (hs:In g.length s) (hsl:(Az s).length=a) (H:LI) {P:LL} (hP:P.length=(Co a b).length):
  ∃r,D.p s (g.map mk) (b:Int) k (g.map mk) H (Co a b) P F2=some r∧r.2.2.length=(Co a b).length∧(r.1=false→¬∃t,Hub2 g.length a b s t∧FndS g k a b (Az s++Az t))∧
   (r.1=true→∃t,(Hub2 g.length a b s t∧FndS g k a b (Az s++Az t))∧r.2.1=Az s++Az t∧LkW g (B9 (Az s++Az t)) (Co a b) (λx=>x∈Az s++Az t) r.2.2):=by
 have h16:=hg.n16
 have hFl:(g.map mk).length=g.length:=by simp
 have hIn0:In g.length 0:=⟨VS.zero,λv hv=>by rw[Cc] at hv;cases hv⟩
 obtain⟨r,er,h1,h2,h3⟩:=chG_ok (f:=λc (q:LI×LL)=>D.u0 c s k (g.map mk) q.1 (Co a b) q.2 (g.map mk) F2) h16 (λq:LI×LL=>q.2.length=(Co a b).length) (λt=>Hub2 g.length a b s t∧FndS g k a b (Az s++Az t)) (λt=>In g.length t∧(Az t).length=b) (λt q=>q.1=Az s++Az t∧LkW g (B9 (Az s++Az t)) (Co a b) (λx=>x∈Az s++Az t) q.2)
  (λc q hc hq=>find11_ok hg h hF2 hnb hs hc.1 hsl hc.2 q.1 hq) b BT 0 0 (H,P) (λt ht=>(FH h16).1 ht) (Nat.lt_of_lt_of_le (by omega) Da) (by omega) hIn0 (by omega) hP
 unfold D.p D.A
 rw[Int.natCast_zero] at er
 rw[ch11_eq,hFl,er,bs]
 refine⟨r,rfl,h1,λhb ⟨t,ht⟩=>h2 hb t ((FH h16).2 ⟨ht.1.2.1,ht.1.2.2.2.1⟩) ht,λhb=> ?_⟩
 obtain⟨t,_,h4,h5⟩:=h3 hb
 exact⟨t,h4,h5⟩
theorem isSmall_eq' :D.p0 g=some (decide (g.length≤8)):=by
 unfold D.p0
 rw[DQ g hg.sh2,DL hg,bs,Bool.true_and]
 congr 1
 rw[Bool.eq_iff_iff,decide_eq_true_eq,decide_eq_true_eq];omega
theorem impl_find_ok {k:Int}{a b:Nat}(h:(k=1∧a=5∧b=0)∨(k=2∧a=3∧b=3)∨(k=3∧a=4∧b=0)∨(k=4∧a=2∧b=3))(h0:D.z k=some ((a:Int),(b:Int)))(h8:g.length≤8):
  ∃r,D.T g k=some r∧(r.2.2.2=false→¬∃s t,Hub2 g.length a b s t∧FndS g k a b (Az s++Az t))∧
   (r.2.2.2=true→r.1=k∧∃s t,(Hub2 g.length a b s t∧FndS g k a b (Az s++Az t))∧r.2.1=Az s++Az t∧LkW g (B9 (Az s++Az t)) (Co a b) (λx=>x∈Az s++Az t) r.2.2.1):=by
 have h16:=hg.n16
 have hFl:(g.map mk).length=g.length:=by simp
 have hIn0:In g.length 0:=⟨VS.zero,λv hv=>by rw[Cc] at hv;cases hv⟩
 have hpl:=prs_lt (k:=k) (a:=a) (b:=b) (by omega)
 obtain⟨y,ey,F2,rfl,hF2,hnb⟩:=Gv (k:=k) h0 (by omega) (by omega)
 have hG2:=GOk.grow hF2 (by omega) (by omega)
 have hPl:(Co a b).length≤10:=by unfold Co;rw[List.length_map];exact hpl.2
 have ha0:((a:Int)==0)=false:=by rw[beq_eq_false_iff_ne];omega
 unfold D.T
 rw[h0,bs,isSmall_eq' hg,decide_eq_true h8,bs]
 dsimp only
 rw[ha0,Bool.not_true,Bool.or_self,cF,EP g hg,bs]
 unfold D.g
 rw[h0,bs,ey,bs,EP _ hG2,grow_mk hF2,bs,EW h0 (by omega),bs,bs,prL_ppI]
 show∃r,(((Dd ([]:LI) ((Co a b).length:Int) ((Co a b).length:Int)).bind λl_119=>(D.d ((g.map mk).length:Int) 0 (a:Int) 0 (g.map mk) (b:Int) k (g.map mk) ([]:LI) (Co a b) l_119 F2).bind λy_134=>cond (!y_134.1) (some ((0:Int),([]:LI),([]:LL),false)) ((((D.u y_134.2.1).bind λy_195=>some y_195:Option (LI))).bind λl_186=>(Aw (σ:=Int×LL) (ρ:=(LL)) (fun(s_309:Int×LL)=>match s_309 with|(x_315,l_316)=>cond (decide (x_315<(y_134.2.2.length:Int))) ((idx y_134.2.2 x_315).bind λe_369=>(D.u e_369).bind λy_378=>(AU l_316 ([y_378]:LL)).bind λl_401=>some (.inl ((IntKind.i64.wrap (x_315+1)),l_401))) (some (.inr l_316))) (0,([]:LL))).bind λl_362=>some (k,l_186,l_362,true))).bind λy_45=>some (y_45.1,y_45.2.1,y_45.2.2.1,y_45.2.2.2))=some r∧_
 rw[FG (Int.le_refl _) (by omega),bs]
 obtain⟨r,er,h1,h2,h3⟩:=chG_ok (f:=λc (q:LI×LL)=>D.p c (g.map mk) (b:Int) k (g.map mk) q.1 (Co a b) q.2 F2) h16 (λq:LI×LL=>q.2.length=(Co a b).length) (λs=>∃t,Hub2 g.length a b s t∧FndS g k a b (Az s++Az t)) (λs=>In g.length s∧(Az s).length=a) (λs q=>∃t,(Hub2 g.length a b s t∧FndS g k a b (Az s++Az t))∧q.1=Az s++Az t∧LkW g (B9 (Az s++Az t)) (Co a b) (λx=>x∈Az s++Az t) q.2)
  (λc q hc hq=>by
   obtain⟨r,e,k1,k2,k3⟩:=find1_ok hg h hF2 hnb hc.1 hc.2 q.1 hq
   refine⟨r,e,k1,k2,λhb=> ?_⟩
   obtain⟨t,k4⟩:=k3 hb
   exact⟨⟨t,k4.1⟩,t,k4⟩) a BT 0 0 ([],List.replicate (Co a b).length []) (λt ht=>(FH h16).1 ht) (Nat.lt_of_lt_of_le (by omega) Da) (by omega) hIn0 (by omega) List.length_replicate
 unfold D.d
 rw[Int.natCast_zero] at er
 rw[ch1_eq,hFl,er,bs]
 cases hb:r.1 with
 |false=>
  rw[Bool.not_false,cT,bs]
  refine⟨_,rfl,λ_ ⟨s,t,hst⟩=> ?_,λhh=>(by cases hh)⟩
  exact h2 hb s ((FH h16).2 ⟨hst.1.1,hst.1.2.2.1⟩) ⟨t,hst⟩
 |true=>
  obtain⟨s,_,_,t,h4,h5,h6⟩:=h3 hb
  have hlens:=h6.lens hg
  have hHl:r.2.1.length≤64:=by
   rw[h5,List.length_append,h4.1.2.2.1,h4.1.2.2.2.1];omega
  rw[Bool.not_true,cF,Gp _ (by unfold Sh;omega),bs,bs]
  have hloop:=CT (step:=fun(s_309:Int×LL)=>match s_309 with|(x_315,l_316)=>cond (decide (x_315<(r.2.2.length:Int))) ((idx r.2.2 x_315).bind λe_369=>(D.u e_369).bind λy_378=>(AU l_316 ([y_378]:LL)).bind λl_401=>some (.inl ((IntKind.i64.wrap (x_315+1)),l_401))) (some (.inr l_316))) (k:=λl_362=>(some (k,r.2.1,l_362,true):Option (Int×LI×LL×Bool))) (s0:=((0:Int),([]:LL))) (λi=>((i:Int),r.2.2.take i)) r.2.2.length r.2.2 (by simp) (λi hi=>by
    have:=hlens.2 _ (List.getElem_mem hi)
    dsimp only
    rw[dlt hi,cT,AS hi,bs,Gp _ (by unfold Sh;omega),bs,Bp (by simp;omega),bs,wi (by omega),List.take_succ_eq_append_getElem hi]) (by
    dsimp only
    rw[Bx,cF,List.take_length])
  rw[hloop,bs]
  exact⟨_,rfl,λhh=>(by cases hh),λ_=>⟨rfl,s,t,h4,h5,h6⟩⟩
end
end Go.Sx

namespace Go.Sx
def HubB (n:Nat)(k:Int)(a b:Nat)(H:LI):Prop:=H.length=a+b∧Inc (H.take a)∧Inc (H.drop a)∧(k=2→H.getD 0 0<H.getD 3 0)∧H.Nodup∧∀x∈H,0≤x∧x<(n:Int)
theorem hubB_iff {n:Nat}(hn:n≤16){k:Int}{a b:Nat}{H:LI}:HubB n k a b H↔(k=2→H.getD 0 0<H.getD 3 0)∧∃s t,Hub2 n a b s t∧H=Az s++Az t:=by
 constructor
 ·rintro⟨h1,h2,h3,h4,h5,h6⟩
  have hp:∀x∈H.take a,0≤x∧x<(n:Int):=λx hx=>h6 x (List.mem_of_mem_take hx)
  have hq:∀x∈H.drop a,0≤x∧x<(n:Int):=λx hx=>h6 x (List.mem_of_mem_drop hx)
  have e1:=elems_mk hn h2 hp
  have e2:=elems_mk hn h3 hq
  have m1:∀v,El (mk (H.take a)) v↔(v:Int)∈H.take a:=λv=>by
   unfold El;rw[D9 (λx hx=>by have:=hp x hx;omega),decide_eq_true_eq]
  have m2:∀v,El (mk (H.drop a)) v↔(v:Int)∈H.drop a:=λv=>by
   unfold El;rw[D9 (λx hx=>by have:=hq x hx;omega),decide_eq_true_eq]
  refine⟨h4,mk (H.take a),mk (H.drop a),⟨⟨VS.mk _,λv hv=>by have:=hp _ ((m1 v).1 hv);omega⟩,⟨VS.mk _,λv hv=>by have:=hq _ ((m2 v).1 hv);omega⟩,by rw[e1,List.length_take];omega,by rw[e2,List.length_drop];omega,λv ⟨g1,g2⟩=> ?_⟩,by rw[e1,e2,List.take_append_drop]⟩
  rw[←List.take_append_drop a H,List.nodup_append] at h5
  exact h5.2.2 _ ((m1 v).1 g1) _ ((m2 v).1 g2) rfl
 ·rintro⟨h4,s,t,⟨hs,ht,hsl,htl,hd⟩,rfl⟩
  refine⟨by rw[List.length_append,hsl,htl],by rw[List.take_append_of_le_length (by omega),←hsl,List.take_length];exact Ch s,by rw[List.drop_append_of_le_length (by omega),←hsl,List.drop_length,List.nil_append];exact Ch t,h4,?_,λx hx=> ?_⟩
  ·rw[List.nodup_append]
   refine⟨(Ch s).nodup,(Ch t).nodup,λx hx y hy e=> ?_⟩
   subst e
   obtain⟨v,_,hv,rfl⟩:=mem_elems.1 hx
   exact hd v ⟨hv,(BS ht.1).1 hy⟩
  ·rcases List.mem_append.1 hx with h|h
   ·obtain⟨v,_,hv,rfl⟩:=mem_elems.1 h
    have:=hs.2 v hv;omega
   ·obtain⟨v,_,hv,rfl⟩:=mem_elems.1 h
    have:=ht.2 v hv;omega
theorem rowF_eq (r:LI)(u:Nat)(s:LL):Ec r u s=s++(r.filter λx=>decide ((u:Int)<x)).map λx=>[(u:Int),x]:=by
 unfold Ec
 have key:∀i,i≤r.length→(List.range i).foldl (λs i=>if(u:Int)<r.getD i 0 then s++[[(u:Int),r.getD i 0]] else s) s=s++((r.take i).filter λx=>decide ((u:Int)<x)).map λx=>[(u:Int),x]:=by
  intro i
  induction i with
  |zero=>intro _;simp
  |succ i ih=>
   intro hi
   have hi':i<r.length:=by omega
   rw[List.range_succ,List.foldl_append,List.foldl_cons,List.foldl_nil,ih (by omega),AW hi',List.take_succ_eq_append_getElem hi',List.filter_append,List.map_append,←List.append_assoc]
   by_cases hc:(u:Int)<r[i]<;>simp[hc]
 have:=key r.length (Nat.le_refl _)
 rwa [List.take_length] at this
theorem edgesF_nodup {g:LL}(hg:GOk g):(CA g).Nodup:=by
 unfold CA
 have key:∀n,n≤g.length→((List.range n).foldl (λs u=>Ec (row g u) u s) []).Nodup∧∀e∈(List.range n).foldl (λs u=>Ec (row g u) u s) [],∃u v:Int,e=[u,v]∧u<n:=by
  intro n
  induction n with
  |zero=>intro _;exact⟨List.nodup_nil,λe he=>by cases he⟩
  |succ n ih=>
   intro hn
   obtain⟨h1,h2⟩:=ih (by omega)
   rw[List.range_succ,List.foldl_append,List.foldl_cons,List.foldl_nil,rowF_eq]
   refine⟨List.nodup_append.2 ⟨h1,?_,?_⟩,λe he=> ?_⟩
   ·refine List.pairwise_map.2 (List.Pairwise.filter _ ?_)
    exact((hg.rows n (by omega)).1.nodup).imp fun{a b} hab e=>hab (by injection e with _ e;injection e)
   ·intro a ha b hb e
    subst e
    obtain⟨u,v,rfl,hu⟩:=h2 a ha
    obtain⟨x,_,e⟩:=List.mem_map.1 hb
    injection e with e1 e2
    omega
   ·rcases List.mem_append.1 he with he|he
    ·obtain⟨u,v,e,hu⟩:=h2 e he
     exact⟨u,v,e,by omega⟩
    ·obtain⟨x,_,rfl⟩:=List.mem_map.1 he
     exact⟨_,_,rfl,by omega⟩
 exact(key _ (Nat.le_refl _)).1
def eL (x y:Int):LI:=[min x y,max x y]
theorem mem_eL {x y z:Int}:z∈eL x y↔z=x∨z=y:=by
 unfold eL
 simp only[List.mem_cons,List.not_mem_nil,or_false]
 omega
theorem eL_eq {x y a b:Int}:eL x y=eL a b↔(x=a∧y=b)∨(x=b∧y=a):=by
 unfold eL
 simp only[List.cons.injEq,and_true]
 omega
def stQ :LI→LL
 |[]=>[]
 |[_]=>[]
 |x::y::t=>eL x y::stQ (y::t)
theorem Gj :∀(p:LI),(stQ p).length=p.length-1
 |[]=>rfl
 |[_]=>rfl
 |x::y::t=>by
  rw[stQ,List.length_cons,Gj (y::t)]
  simp
theorem stQ_snoc :∀(p:LI) (a b:Int),stQ (p++[a,b])=stQ (p++[a])++[eL a b]
 |[],_,_=>rfl
 |[x],a,b=>rfl
 |x::y::t,a,b=>by
  have:=stQ_snoc (y::t) a b
  simp only[List.cons_append] at this ⊢
  rw[stQ,this,stQ,List.cons_append]
theorem stQ_mem :∀{p:LI} {e:LI},e∈stQ p→∀x∈e,x∈p
 |[],_,h,_,_=>by cases h
 |[_],_,h,_,_=>by cases h
 |a::b::t,e,h,x,hx=>by
  rw[stQ] at h
  rcases List.mem_cons.1 h with rfl|h
  ·rcases mem_eL.1 hx with rfl|rfl<;>simp
  ·exact List.mem_cons_of_mem _ (stQ_mem h x hx)
theorem stQ_nodup :∀{p:LI},p.Nodup→(stQ p).Nodup
 |[],_=>List.nodup_nil
 |[_],_=>List.nodup_nil
 |a::b::t,h=>by
  rw[stQ]
  have h':=List.nodup_cons.1 h
  exact List.nodup_cons.2 ⟨λhm=>h'.1 (stQ_mem hm a (mem_eL.2 (.inl rfl))),stQ_nodup h'.2⟩
theorem stQ_inn {w:Int}:∀{u:Int} {q:LI} {e:LI},e∈stQ (u::(q++[w]))→(∃x∈q,x∈e)∨(q=[]∧e=eL u w)
 |u,[],e,h=>by
  rw[List.nil_append,stQ] at h
  rcases List.mem_cons.1 h with rfl|h
  ·exact .inr ⟨rfl,rfl⟩
  ·cases h
 |u,x::q,e,h=>by
  rw[List.cons_append,stQ] at h
  rcases List.mem_cons.1 h with rfl|h
  ·exact .inl ⟨x,by simp,mem_eL.2 (.inr rfl)⟩
  ·rcases stQ_inn h with⟨y,hy,hye⟩|⟨_,rfl⟩
   ·exact .inl ⟨y,by simp[hy],hye⟩
   ·exact .inl ⟨x,by simp,mem_eL.2 (.inl rfl)⟩
theorem stQ_adj {g:LL}{w:Int}:∀{u:Int} {q:LI} {e:LI},ChI g u q w→e∈stQ (u::(q++[w]))→∃a b,adI g a b∧e=eL a b
 |u,[],e,hc,h=>by
  rw[List.nil_append,stQ] at h
  rcases List.mem_cons.1 h with rfl|h
  ·exact⟨u,w,hc,rfl⟩
  ·cases h
 |u,x::q,e,hc,h=>by
  rw[List.cons_append,stQ] at h
  rcases List.mem_cons.1 h with rfl|h
  ·exact⟨u,x,hc.1,rfl⟩
  ·exact stQ_adj hc.2 h
theorem Ez {g:LL}{hub:Int→Int}:∀{ps:List (Int×Int)} {U:Int→Prop} {l:LL},LkW g hub ps U l→∀p∈l,∃e∈ps,∃q,p=hub e.1::(q++[hub e.2])∧InW g U (hub e.1) (hub e.2) q
 |[],_,l,h,p,hp=>by rw[show l=[] from h] at hp;cases hp
 |e::ps,U,l,⟨q,rest,h1,h2,h3⟩,p,hp=>by
  rw[h1] at hp
  rcases List.mem_cons.1 hp with rfl|hp
  ·exact⟨e,by simp,q,rfl,h2⟩
  ·obtain⟨e',he',q',h4,h5⟩:=Ez h3 p hp
   exact⟨e',by simp[he'],q',h4,h5.1,λx hx hu=>h5.2.1 x hx (.inl hu),h5.2.2⟩
theorem lkw_nodup {g:LL}{hub:Int→Int}:∀{ps:List (Int×Int)} {U:Int→Prop} {l:LL},LkW g hub ps U l→(∀e∈ps,U (hub e.1)∧U (hub e.2)∧hub e.1≠hub e.2)→ps.Pairwise (λe e'=>eL (hub e.1) (hub e.2)≠eL (hub e'.1) (hub e'.2))→
  (l.flatMap stQ).Nodup∧∀p∈l,p.Nodup
 |[],_,l,h,_,_=>by
  rw[show l=[] from h]
  exact⟨List.nodup_nil,λp hp=>by cases hp⟩
 |e::ps,U,l,⟨q,rest,h1,h2,h3⟩,hU,hP=>by
  have hP':=List.pairwise_cons.1 hP
  obtain⟨i1,i2⟩:=lkw_nodup h3 (λe' he'=>by
   obtain⟨a,b,c⟩:=hU e' (by simp[he'])
   exact⟨.inl a,.inl b,c⟩) hP'.2
  obtain⟨u1,u2,u3⟩:=hU e (by simp)
  have hpn:(hub e.1::(q++[hub e.2])).Nodup:=by
   refine List.nodup_cons.2 ⟨λhm=> ?_,List.nodup_append.2 ⟨h2.1,by simp,λa ha b hb=> ?_⟩⟩
   ·rcases List.mem_append.1 hm with hm|hm
    ·exact h2.2.1 _ hm u1
    ·exact u3 (List.mem_singleton.1 hm)
   ·rw[List.mem_singleton.1 hb]
    rintro rfl
    exact h2.2.1 _ ha u2
  subst h1
  refine⟨?_,λp hp=> ?_⟩
  ·rw[List.flatMap_cons]
   refine List.nodup_append.2 ⟨stQ_nodup hpn,i1,λa ha b hb e'=> ?_⟩
   subst e'
   obtain⟨p',hp',hap'⟩:=List.mem_flatMap.1 hb
   obtain⟨e',he',q',rfl,hin'⟩:=Ez h3 p' hp'
   obtain⟨v1,v2,_⟩:=hU e' (by simp[he'])
   rcases stQ_inn hap' with⟨x,hx,hxa⟩|⟨_,hab⟩
   ·have hxp:=stQ_mem ha x hxa
    refine hin'.2.1 x hx ?_
    rcases List.mem_cons.1 hxp with rfl|hxp
    ·exact .inl u1
    ·rcases List.mem_append.1 hxp with hxp|hxp
     ·exact .inr hxp
     ·rw[List.mem_singleton.1 hxp];exact .inl u2
   ·rcases stQ_inn ha with⟨x,hx,hxa⟩|⟨_,hab'⟩
    ·rw[hab] at hxa
     rcases mem_eL.1 hxa with rfl|rfl
     ·exact h2.2.1 _ hx v1
     ·exact h2.2.1 _ hx v2
    ·exact hP'.1 e' he' (hab'.symm.trans hab)
  ·rcases List.mem_cons.1 hp with rfl|hp
   ·exact hpn
   ·exact i2 p hp
def NtsE (F:LI)(P:LL):Prop:=F.length=16∧(∀u,u<16→VS (F.getD u 0))∧∀u w:Nat,u<16→(nb F u w=true↔eL (u:Int) (w:Int)∈P)
theorem Ge :∀{l m:LL},l.Nodup→(∀x∈l,x∈m)→l.length≤m.length
 |[],_,_,_=>by simp
 |x::l,m,h,hs=>by
  have h':=List.nodup_cons.1 h
  have hx:=hs x (by simp)
  have:=Ge (l:=l) (m:=m.erase x) h'.2 (λy hy=>by
   have hne:y≠x:=λe=>h'.1 (e▸hy)
   exact(List.mem_erase_of_ne hne).2 (hs y (by simp[hy])))
  rw[List.length_erase_of_mem hx] at this
  have hp:0<m.length:=List.length_pos_of_mem hx
  simp;omega
theorem NtsE.more {F:LI}{P:LL}(h:NtsE F P){v t:Nat}(hv:v<16)(ht:t<16)(hvt:v≠t):∃y,D.F F (v:Int) (t:Int)=some y∧NtsE y (P++[eL (v:Int) (t:Int)]):=by
 obtain⟨y,ey,y1,y2,y3⟩:=DN (Nat.le_refl 16) h.1 h.2.1 hv ht hvt
 refine⟨y,ey,y1,y2,λu w hu=> ?_⟩
 rw[y3 u w hu,Bool.or_eq_true,Bool.or_eq_true,h.2.2 u w hu,Bool.and_eq_true,Bool.and_eq_true,decide_eq_true_eq,decide_eq_true_eq,decide_eq_true_eq,decide_eq_true_eq,List.mem_append,List.mem_singleton,eL_eq,or_assoc]
 refine or_congr Iff.rfl (or_congr ?_ ?_)<;>omega
theorem EdgesIn_ok {g:LL}(hg:GOk g){l:LL}(k:Int)(H:LI)(hl:l.length≤10)(hp:∀p∈l,p.length≤16∧p.Nodup∧∀x∈p,∃v:Nat,x=(v:Int)∧v<16)(hnd:(l.flatMap stQ).Nodup)(hadj:∀e∈l.flatMap stQ,∃a b,adI g a b∧e=eL a b):
  ∃y,D.f1 k H l=some y∧(y.length=(l.flatMap stQ).length∧∀e∈y,∃u v:Nat,e=[(u:Int),(v:Int)]∧u<g.length∧adj g u v):=by
 have h16:=hg.n16
 unfold D.f1
 rw[decide_eq_false (show¬((10:Int)<(l.length:Int)) by omega),cF,show Dd (0:Int) 16 16=some (List.replicate 16 0) from FG (n:=16) (by omega) (by omega),bs]
 refine AZ (λs:LI×Int=>∃i:Nat,s.2=(i:Int)∧i≤l.length∧NtsE s.1 ((l.take i).flatMap stQ)) (λs=>l.length-s.2.toNat) (λr:LI ⊕ LL=>∃F,r= .inl F∧NtsE F (l.flatMap stQ)) ?_ ⟨0,rfl,Nat.zero_le _,?_⟩ (λr hr=> ?_)
 ·rintro⟨F,_⟩ ⟨i,rfl,hi,hF⟩
  dsimp only at hF ⊢
  by_cases hil:i<l.length
  ·obtain⟨q1,q2,q3⟩:=hp _ (List.getElem_mem hil)
   rw[dlt hil,cT,AS hil,bs,decide_eq_false (by omega),cF]
   have htk:(l.take (i+1)).flatMap stQ=(l.take i).flatMap stQ++stQ l[i]:=by
    rw[List.take_succ_eq_append_getElem hil,List.flatMap_append,List.flatMap_cons,List.flatMap_nil,List.append_nil]
   generalize l[i]=p at q1 q2 q3 htk
   refine AZ (λs:LI×Int=>∃x:Nat,s.2=(x:Int)∧x≤p.length∧NtsE s.1 ((l.take i).flatMap stQ++stQ (p.take x))) (λs=>p.length-s.2.toNat) (λr:LI ⊕ LL=>∃F,r= .inl F∧NtsE F ((l.take (i+1)).flatMap stQ)) ?_ ⟨0,rfl,Nat.zero_le _,?_⟩ (λr hr=> ?_)
   ·rintro⟨F,_⟩ ⟨x,rfl,hx,hF⟩
    dsimp only at hF ⊢
    by_cases hxl:x<p.length
    ·obtain⟨t,ett,ht⟩:=q3 _ (List.getElem_mem hxl)
     rw[dlt hxl,cT,AS hxl,bs,FF,bs,ett,decide_eq_true (show (0:Int)≤(t:Int) by omega),decide_eq_true (show (t:Int)≤15 by omega),Bool.and_self,Bool.not_true,cF]
     by_cases h0:x=0
     ·subst h0
      rw[show decide ((0:Int)<((0:Nat):Int))=false from rfl,cF,bs,cF]
      refine⟨_,rfl,⟨1,rfl,hxl,?_⟩,by dsimp only;show p.length-(1:Int).toNat<_;simp;omega⟩
      dsimp only
      have e1:stQ (p.take 1)=[]:=by
       cases p with
       |nil=>rfl
       |cons a t=>rfl
      rw[e1];exact hF
     ·have hx1:x-1<p.length:=by omega
      have ew:IntKind.i64.wrap ((x:Int)-1)=((x-1:Nat):Int):=by rw[w64 (by omega) (by omega)];omega
      obtain⟨v,ev,hv⟩:=q3 _ (List.getElem_mem hx1)
      have hne:v≠t:=λe=>by
       have e2:p[x-1]=p[x]:=by rw[ev,ett,e]
       have:=(List.getElem_inj q2).1 e2
       omega
      obtain⟨y,ey,hy⟩:=hF.more hv ht hne
      rw[decide_eq_true (show (0:Int)<(x:Int) by omega),cT,ew,AS hx1,bs,bs,ev,show ((v:Int) !=(t:Int))=true by rw[bne_iff_ne];omega,cT,bs,ey,bs,wi (by omega)]
      refine⟨_,rfl,⟨x+1,rfl,hxl,?_⟩,by dsimp only;omega⟩
      dsimp only
      have e1:stQ (p.take (x+1))=stQ (p.take x)++[eL (v:Int) (t:Int)]:=by
       obtain⟨z,rfl⟩:∃z,x=z+1:=⟨x-1,by omega⟩
       have ev':p[z]=(v:Int):=ev
       rw[List.take_succ_eq_append_getElem hxl,List.take_succ_eq_append_getElem (show z<p.length by omega),ev',ett,List.append_assoc]
       exact stQ_snoc _ _ _
      rw[e1,←List.append_assoc]
      exact hy
    ·obtain rfl:x=p.length:=by omega
     rw[Bx,cF]
     rw[List.take_length,←htk] at hF
     exact⟨_,rfl,F,rfl,hF⟩
   ·dsimp only
    rw[List.take_zero,stQ,List.append_nil];exact hF
   ·obtain⟨F',rfl,hF'⟩:=hr
    dsimp only
    rw[wi (by omega)]
    exact⟨_,rfl,⟨i+1,rfl,hil,hF'⟩,by dsimp only;omega⟩
  ·obtain rfl:i=l.length:=by omega
   rw[Bx,cF]
   rw[List.take_length] at hF
   exact⟨_,rfl,F,rfl,hF⟩
 ·dsimp only
  refine⟨List.length_replicate,λu hu=> ?_,λu w hu=> ?_⟩
  ·rw[List.getD_eq_getElem?_getD,List.getElem?_replicate,if_pos hu];exact VS.zero
  ·unfold nb
   rw[List.getD_eq_getElem?_getD,List.getElem?_replicate,if_pos hu,Option.getD_some,Cc]
   exact⟨λh=>(by cases h),λh=>(by cases h)⟩
 ·obtain⟨F,rfl,h1,h2,h3⟩:=hr
  dsimp only
  have hex:∀u w:Nat,eL (u:Int) (w:Int)∈l.flatMap stQ→u<g.length∧w<g.length∧adj g u w:=λu w h=>by
   obtain⟨a,b,⟨x,y,rfl,rfl,hx,ha⟩,e⟩:=hadj _ h
   have hy:=hg.lt hx ha
   rcases eL_eq.1 e with⟨e1,e2⟩|⟨e1,e2⟩
   ·obtain rfl:u=x:=by omega
    obtain rfl:w=y:=by omega
    exact⟨hx,hy,ha⟩
   ·obtain rfl:u=y:=by omega
    obtain rfl:w=x:=by omega
    exact⟨hy,hx,hg.sym _ _ hx ha⟩
  have hF:FOk F 16:=by
   refine⟨h1,h2,λu w hu h=> ?_,λu hu=> ?_,λu w hu h=> ?_⟩
   ·have:=(hex u w ((h3 u w hu).1 h)).2.1;omega
   ·rw[←Bool.not_eq_true,h3 u u hu]
    intro h
    obtain⟨h4,_,h5⟩:=hex u u h
    exact hg.irr u h4 h5
   ·have hw:=(hex u w ((h3 u w hu).1 h)).2.1
    rw[h3 w u (by omega),eL_eq.2 (.inr ⟨rfl,rfl⟩:((w:Int)=(u:Int)∧(u:Int)=(w:Int))∨((w:Int)=(w:Int)∧(u:Int)=(u:Int)))]
    exact(h3 u w hu).1 h
  have hG:=GOk.grow hF (by omega) (Nat.le_refl _)
  have hGl:(grow F).length=16:=by rw[grow_len,h1]
  rw[Ef F (by omega) (λu hu=>h2 u (by omega)),bs,GS _ hG,bs]
  have hmem:∀e,e∈CA (grow F)↔e∈l.flatMap stQ:=λe=>by
   rw[Ek hG]
   constructor
   ·rintro⟨u,v,hu,ha,huv,rfl⟩
    rw[Dk hF (by omega),h3 u v (by omega)] at ha
    have:eL (u:Int) (v:Int)=[(u:Int),(v:Int)]:=by unfold eL;rw[show min (u:Int) (v:Int)=(u:Int) by omega,show max (u:Int) (v:Int)=(v:Int) by omega]
    rw[←this];exact ha
   ·intro h
    obtain⟨a,b,⟨x,y,rfl,rfl,hx,ha⟩,rfl⟩:=hadj _ h
    have hy:=hg.lt hx ha
    have hne:x≠y:=λe=>hg.irr x hx (by rw[←e] at ha;exact ha)
    by_cases hlt:x<y
    ·refine⟨x,y,by omega,(Dk hF (by omega)).2 ((h3 x y (by omega)).2 h),hlt,?_⟩
     unfold eL;rw[show min (x:Int) (y:Int)=(x:Int) by omega,show max (x:Int) (y:Int)=(y:Int) by omega]
    ·refine⟨y,x,by omega,(Dk hF (by omega)).2 ((h3 y x (by omega)).2 ?_),by omega,?_⟩
     ·rw[eL_eq.2 (.inr ⟨rfl,rfl⟩:((y:Int)=(x:Int)∧(x:Int)=(y:Int))∨((y:Int)=(y:Int)∧(x:Int)=(x:Int)))];exact h
     ·unfold eL;rw[show min (x:Int) (y:Int)=(y:Int) by omega,show max (x:Int) (y:Int)=(x:Int) by omega]
  refine⟨_,rfl,?_,λe he=> ?_⟩
  ·have a1:=Ge (edgesF_nodup hG) (λx hx=>(hmem x).1 hx)
   have a2:=Ge hnd (λx hx=>(hmem x).2 hx)
   omega
  ·obtain⟨u,v,hu,ha,huv,rfl⟩:=(Ek hG e).1 he
   rw[Dk hF (by omega),h3 u v (by omega)] at ha
   exact⟨u,v,rfl,(hex u v ha).1,(hex u v ha).2.2⟩
structure EqvN (m:Nat)(R:Nat→Nat→Prop):Prop where
 rf:∀x,x<m→R x x
 sy:∀x y,x<m→y<m→R x y→R y x
 tr:∀x y z,x<m→y<m→z<m→R x y→R y z→R x z
def ledR (m:Nat)(R:Nat→Nat→Prop)(x:Nat):Prop:=∀y,y<m→R x y→x≤y
noncomputable def clsN (m:Nat)(R:Nat→Nat→Prop):Nat:=BK m (ledR m R)
def mrgR (R:Nat→Nat→Prop)(p q x y:Nat):Prop:=R x y∨(R x p∧R q y)∨(R x q∧R p y)
theorem EJ {m c:Nat}{P Q:Nat→Prop}(hc:c<m)(h:∀x,x<m→(P x↔Q x∨x=c))(hq:¬Q c):BK m P=BK m Q+1:=by
 have key:∀k,k≤m→BK k P=BK k Q+if c<k then 1 else 0:=by
  intro k
  induction k with
  |zero=>intro _;rw[if_neg (by omega)];rfl
  |succ k ih=>
   intro hk
   have h1:=ih (by omega)
   have h2:=h k (by omega)
   show BK k P+CK (P k)=BK k Q+CK (Q k)+_
   rw[h1]
   by_cases e:k=c
   ·subst e
    rw[Ca (h2.2 (.inr rfl)),BM hq,if_neg (by omega),if_pos (by omega)]
   ·by_cases hQ:Q k
    ·rw[Ca (h2.2 (.inl hQ)),Ca hQ]
     by_cases hk2:c<k
     ·rw[if_pos hk2,if_pos (by omega)]
     ·rw[if_neg hk2,if_neg (by omega)]
    ·rw[BM (λhp=>(h2.1 hp).elim hQ e),BM hQ]
     by_cases hk2:c<k
     ·rw[if_pos hk2,if_pos (by omega)]
     ·rw[if_neg hk2,if_neg (by omega)]
 rw[key m (Nat.le_refl _),if_pos hc]
theorem EqvN.mrg {m:Nat}{R:Nat→Nat→Prop}(h:EqvN m R){p q:Nat}(hp:p<m)(hq:q<m):EqvN m (mrgR R p q):=by
 refine⟨λx hx=> .inl (h.rf x hx),λx y hx hy=> ?_,λx y z hx hy hz=> ?_⟩
 ·rintro(h1|⟨h1,h2⟩|⟨h1,h2⟩)
  ·exact .inl (h.sy x y hx hy h1)
  ·exact .inr (.inr ⟨h.sy q y hq hy h2,h.sy x p hx hp h1⟩)
  ·exact .inr (.inl ⟨h.sy p y hp hy h2,h.sy x q hx hq h1⟩)
 ·rintro(a|⟨a,b⟩|⟨a,b⟩) (c|⟨c,d⟩|⟨c,d⟩)
  ·exact .inl (h.tr x y z hx hy hz a c)
  ·exact .inr (.inl ⟨h.tr x y p hx hy hp a c,d⟩)
  ·exact .inr (.inr ⟨h.tr x y q hx hy hq a c,d⟩)
  ·exact .inr (.inl ⟨a,h.tr q y z hq hy hz b c⟩)
  ·exact .inr (.inl ⟨a,d⟩)
  ·exact .inl (h.tr x p z hx hp hz a d)
  ·exact .inr (.inr ⟨a,h.tr p y z hp hy hz b c⟩)
  ·exact .inl (h.tr x q z hx hq hz a d)
  ·exact .inr (.inr ⟨a,d⟩)
theorem mrg_same {m:Nat}{R:Nat→Nat→Prop}(h:EqvN m R){p q:Nat}(hp:p<m)(hq:q<m)(hpq:R p q){x y:Nat}(hx:x<m)(hy:y<m):mrgR R p q x y↔R x y:=by
 constructor
 ·rintro(a|⟨a,b⟩|⟨a,b⟩)
  ·exact a
  ·exact h.tr x p y hx hp hy a (h.tr p q y hp hq hy hpq b)
  ·exact h.tr x q y hx hq hy a (h.tr q p y hq hp hy (h.sy p q hp hq hpq) b)
 ·exact .inl
theorem led_ex {m:Nat}{R:Nat→Nat→Prop}(h:EqvN m R){p:Nat}(hp:p<m):∃a,a<m∧R p a∧ledR m R a:=by
 obtain⟨a,⟨h1,h2⟩,h3⟩:=least_of (P:=λa=>a<m∧R p a) ⟨p,hp,h.rf p hp⟩
 refine⟨a,h1,h2,λy hy hay=> ?_⟩
 rcases Nat.lt_or_ge y a with hlt|hge
 ·exact absurd ⟨hy,h.tr p a y hp h1 hy h2 hay⟩ (h3 y hlt)
 ·exact hge
theorem Eb {m:Nat}{R S:Nat→Nat→Prop}(h:∀x y,x<m→y<m→(R x y↔S x y)):clsN m R=clsN m S:=
 B2 λx hx=>⟨λhl y hy hs=>hl y hy ((h x y hx hy).2 hs),λhl y hy hs=>hl y hy ((h x y hx hy).1 hs)⟩
theorem cls_mrg {m:Nat}{R:Nat→Nat→Prop}(h:EqvN m R){p q:Nat}(hp:p<m)(hq:q<m)(hn:¬R p q):clsN m R=clsN m (mrgR R p q)+1:=by
 obtain⟨a,ha,pa,la⟩:=led_ex h hp
 obtain⟨b,hb,qb,lb⟩:=led_ex h hq
 have hap:=h.sy p a hp ha pa
 have hbq:=h.sy q b hq hb qb
 have hne:a≠b:=λe=>hn (h.tr p a q hp ha hq pa (by rw[e];exact hbq))
 have lp:∀x,x<m→R x p→ledR m R x→x=a:=λx hx hxp lx=>by
  have h1:=lx a ha (h.tr x p a hx hp ha hxp pa)
  have h2:=la x hx (h.tr a p x ha hp hx hap (h.sy x p hx hp hxp))
  omega
 have lq:∀x,x<m→R x q→ledR m R x→x=b:=λx hx hxq lx=>by
  have h1:=lx b hb (h.tr x q b hx hq hb hxq qb)
  have h2:=lb x hx (h.tr b q x hb hq hx hbq (h.sy x q hx hq hxq))
  omega
 refine EJ (c:=max a b) (by omega) (λx hx=>⟨λlx=> ?_,λhx'=> ?_⟩) ?_
 ·by_cases e:x=max a b
  ·exact .inr e
  ·refine .inl λy hy hxy=> ?_
   rcases hxy with h1|⟨h1,h2⟩|⟨h1,h2⟩
   ·exact lx y hy h1
   ·have e1:=lp x hx h1 lx
    have:=lb y hy (h.tr b q y hb hq hy hbq h2)
    omega
   ·have e1:=lq x hx h1 lx
    have:=la y hy (h.tr a p y ha hp hy hap h2)
    omega
 ·rcases hx' with lx|rfl
  ·exact λy hy hxy=>lx y hy (.inl hxy)
  ·rcases Nat.le_total a b with h1|h1
   ·rw[Nat.max_eq_right h1];exact lb
   ·rw[Nat.max_eq_left h1];exact la
 ·intro lx
  rcases Nat.lt_or_ge a b with h1|h1
  ·rw[Nat.max_eq_right (by omega)] at lx
   have:=lx a ha (.inr (.inr ⟨hbq,pa⟩));omega
  ·rw[Nat.max_eq_left h1] at lx
   have:=lx b hb (.inr (.inl ⟨hap,qb⟩));omega
def Br (f:Nat→Nat)(x y:Nat):Prop:=∃k,itN f k x=y
section
variable {m : Nat} {f : Nat → Nat} (h : PermN m f)
theorem EL (f:Nat→Nat)(x:Nat):Br f x x:=⟨0,rfl⟩
theorem Dt {f:Nat→Nat}{x y z:Nat}:Br f x y→Br f y z→Br f x z
 |⟨k,e⟩,⟨j,e'⟩=>⟨j+k,by rw[D2,e,e']⟩
theorem Ew (f:Nat→Nat)(x:Nat):Br f x (f x):=⟨1,rfl⟩
theorem CB (h:PermN m f){x y:Nat}(hx:x<m)(o:Br f x y):Br f y x:=orb_symm h hx o
theorem orb_eqv (h:PermN m f):EqvN m (Br f):=⟨λx _=>EL f x,λ_ _ hx _ o=>CB h hx o,λ_ _ _ _ _ _ a b=>Dt a b⟩
theorem led_orb (h:PermN m f){x:Nat}(hx:x<m):LedN f x↔ledR m (Br f) x:=
 ⟨λl y _ ⟨k,e⟩=>by rw[←e];exact l k,λl k=>l _ (D7 h hx k) ⟨k,rfl⟩⟩
theorem cyc_cls (h:PermN m f):cycN m f=clsN m (Br f):=B2 λ_ hx=>led_orb h hx
theorem GC {g:Nat→Nat}{R:Nat→Nat→Prop}(hR:EqvN m R)(hg:PermN m g)(hs:∀x,x<m→R x (g x)){x y:Nat}(hx:x<m)(o:Br g x y):R x y:=by
 obtain⟨k,rfl⟩:=o
 induction k with
 |zero=>exact hR.rf x hx
 |succ k ih=>
  have h1:=D7 hg hx k
  exact hR.tr _ _ _ hx h1 (hg.1 _ h1) ih (hs _ h1)
variable {p q : Nat}
def swf (f:Nat→Nat)(p q x:Nat):Nat:=f (Df p q x)
theorem PermN.swf (h:PermN m f)(hp:p<m)(hq:q<m):PermN m (swf f p q):=
 ⟨λx hx=>h.1 _ (swpN_lt hp hq hx),λx y hx hy e=>swpN_inj (h.2 _ _ (swpN_lt hp hq hx) (swpN_lt hp hq hy) e)⟩
theorem Eg (f:Nat→Nat)(p q:Nat):swf f p q p=f q:=by unfold swf;rw[swp_l]
theorem Er (f:Nat→Nat)(p q:Nat):swf f p q q=f p:=by unfold swf;rw[swp_r]
theorem De (f:Nat→Nat){p q x:Nat}(h1:x≠p)(h2:x≠q):swf f p q x=f x:=by unfold swf;rw[swp_o h1 h2]
theorem swf_swf (f:Nat→Nat)(p q:Nat):swf (swf f p q) p q=f:=by
 funext x;unfold swf;rw[Gd]
theorem swf_joins (h:PermN m f)(hp:p<m)(hq:q<m)(hn:¬Br f p q):Br (swf f p q) p q:=by
 obtain⟨l0,l1,l2⟩:=E9 h hq
 have key:∀j,j+1≤Cx f q→itN (swf f p q) (j+1) p=itN f (j+1) q:=by
  intro j
  induction j with
  |zero=>intro _;exact Eg f p q
  |succ j ih=>
   intro hj
   have e:=ih (by omega)
   show swf f p q (itN (swf f p q) (j+1) p)=f (itN f (j+1) q)
   rw[e]
   refine De f (λe2=>hn (CB h hq ⟨j+1,e2⟩)) (l2 (j+1) (by omega) (by omega))
 refine⟨Cx f q,?_⟩
 have:=key (Cx f q-1) (by omega)
 rw[show Cx f q-1+1=Cx f q by omega,l1] at this
 exact this
theorem DE (h:PermN m f)(hp:p<m)(hq:q<m)(hn:¬Br f p q){x y:Nat}(hx:x<m)(hy:y<m):Br (swf f p q) x y↔mrgR (Br f) p q x y:=by
 have hg:=h.swf hp hq
 have he:=orb_eqv h
 have hm:=he.mrg hp hq
 have hj:=swf_joins h hp hq hn
 have hj':=CB hg hp hj
 have up:∀{x y},x<m→Br f x y→Br (swf f p q) x y:=fun{x y} hx o=>by
  refine GC (orb_eqv hg) h (λz hz=> ?_) hx o
  by_cases e1:z=p
  ·subst e1
   exact Dt hj (by rw[←Er f z q];exact Ew _ _)
  ·by_cases e2:z=q
   ·subst e2
    exact Dt hj' (by rw[←Eg f p z];exact Ew _ _)
   ·rw[←De f e1 e2];exact Ew _ _
 constructor
 ·intro o
  refine GC hm hg (λz hz=> ?_) hx o
  by_cases e1:z=p
  ·subst e1;rw[Eg];exact .inr (.inl ⟨EL f z,Ew f q⟩)
  ·by_cases e2:z=q
   ·subst e2;rw[Er];exact .inr (.inr ⟨EL f z,Ew f p⟩)
   ·rw[De f e1 e2];exact .inl (Ew f z)
 ·rintro(o|⟨a,b⟩|⟨a,b⟩)
  ·exact up hx o
  ·exact Dt (up hx a) (Dt hj (up hq b))
  ·exact Dt (up hx a) (Dt hj' (up hp b))
theorem swf_parts (h:PermN m f)(hp:p<m)(hq:q<m)(hne:p≠q)(ho:Br f p q):¬Br (swf f p q) p q:=by
 have hg:=h.swf hp hq
 obtain⟨k,⟨k0,ek⟩,hk⟩:=least_of (P:=λk=>0<k∧itN f k p=q) (by
  obtain⟨k,e⟩:=ho
  refine⟨k,?_,e⟩
  rcases Nat.eq_zero_or_pos k with h0|h0
  ·subst h0;exact absurd e hne
  ·exact h0)
 have np:∀j,0<j→j≤k→itN f j p≠p:=λj h0 hj e=>by
  have h1:itN f k p=itN f (k-j) (itN f j p):=by rw[←D2];congr 1;omega
  rw[e,ek] at h1
  rcases Nat.eq_zero_or_pos (k-j) with h2|h2
  ·rw[h2] at h1;exact hne h1.symm
  ·exact hk (k-j) (by omega) ⟨h2,h1.symm⟩
 have key:∀j,j+1≤k→itN (swf f p q) (j+1) q=itN f (j+1) p:=by
  intro j
  induction j with
  |zero=>intro _;exact Er f p q
  |succ j ih=>
   intro hj
   have e:=ih (by omega)
   show swf f p q (itN (swf f p q) (j+1) q)=f (itN f (j+1) p)
   rw[e]
   exact De f (np (j+1) (by omega) (by omega)) (λe2=>hk (j+1) (by omega) ⟨by omega,e2⟩)
 have hper:itN (swf f p q) k q=q:=by
  have:=key (k-1) (by omega)
  rw[show k-1+1=k by omega,ek] at this
  exact this
 intro o
 obtain⟨j,ej⟩:=CB hg hp o
 have e1:itN (swf f p q) (j%k) q=p:=by
  have:itN (swf f p q) j q=itN (swf f p q) (j%k+k*(j/k)) q:=by rw[Nat.mod_add_div]
  rw[this,D2,E2 hper] at ej
  exact ej
 have hlt:=Nat.mod_lt j k0
 rcases Nat.eq_zero_or_pos (j%k) with h0|h0
 ·rw[h0] at e1;exact hne e1.symm
 ·have:=key (j%k-1) (by omega)
  rw[show j%k-1+1=j%k by omega,e1] at this
  exact np (j%k) h0 (by omega) this.symm
theorem Di (h:PermN m f)(hp:p<m)(hq:q<m)(hn:¬Br f p q):cycN m f=cycN m (swf f p q)+1:=by
 rw[cyc_cls h,cyc_cls (h.swf hp hq),cls_mrg (orb_eqv h) hp hq hn]
 congr 1
 exact Eb λx y hx hy=>(DE h hp hq hn hx hy).symm
theorem cyc_parts (h:PermN m f)(hp:p<m)(hq:q<m)(hne:p≠q)(ho:Br f p q):cycN m (swf f p q)=cycN m f+1:=by
 have:=Di (h.swf hp hq) hp hq (swf_parts h hp hq hne ho)
 rw[swf_swf] at this
 exact this
end
end Go.Sx

namespace Go.Sx
structure RS (T:LL):Prop where
 n16:T.length≤16
 nd:∀v,(row T v).Nodup
 mem:∀(v:Nat) (x:Int),x∈row T v→∃u:Nat,x=u∧u<16∧u≠v∧adj T u v
theorem row_nil {T:LL}{v:Nat}(h:T.length≤v):row T v=[]:=by
 unfold row;rw[List.getD_eq_getElem?_getD,List.getElem?_eq_none h];rfl
theorem Ey {T:LL}{u v:Nat}(h:adj T u v):u<T.length:=by
 rcases Nat.lt_or_ge u T.length with h1|h1
 ·exact h1
 ·unfold adj at h;rw[row_nil h1] at h;simp at h
section
variable {T : LL} (R : RS T)
theorem RS.sym (R:RS T){u v:Nat}(h:adj T u v):adj T v u:=by
 obtain⟨w,e,_,_,h2⟩:=R.mem u (v:Int) h
 obtain rfl:v=w:=by omega
 exact h2
theorem RS.irr (R:RS T)(u:Nat):¬adj T u u:=λh=>by
 obtain⟨w,e,_,h1,_⟩:=R.mem u (u:Int) h
 exact h1 (by omega)
theorem RS.lt (R:RS T){u v:Nat}(h:adj T u v):u<16∧v<16:=by
 have h1:=Ey h
 have h2:=Ey (R.sym h)
 have:=R.n16
 omega
def dart (T:LL)(d:Nat):Prop:=d<256∧adj T (d/16) (d%16)
theorem dd {u v:Nat}(hv:v<16):(u*16+v)/16=u∧(u*16+v)%16=v:=by omega
theorem DW {u v:Nat}(hu:u<16)(hv:v<16):dart T (u*16+v)↔adj T u v:=by
 unfold dart
 rw[(dd hv).1,(dd hv).2]
 exact⟨λh=>h.2,λh=>⟨by omega,h⟩⟩
theorem DH {d:Nat}(h:dart T d):∃u v,u<16∧v<16∧d=u*16+v∧adj T u v:=by
 have h1:=h.1
 exact⟨d/16,d%16,by omega,by omega,by omega,h.2⟩
open Classical in
noncomputable def fcT (T:LL)(d:Nat):Nat:=if dart T d then d%16*16+(nx (row T (d%16)) ((d/16:Nat):Int)).toNat else d
theorem CH {d:Nat}(h:¬dart T d):fcT T d=d:=by unfold fcT;rw[if_neg h]
theorem CP {u v:Nat}(hu:u<16)(hv:v<16)(h:adj T u v):fcT T (u*16+v)=v*16+(nx (row T v) (u:Int)).toNat:=by
 unfold fcT
 rw[if_pos ((DW hu hv).2 h),(dd hv).1,(dd hv).2]
theorem RS.nxt (R:RS T){u v:Nat}(h:adj T u v):∃w:Nat,nx (row T u) (v:Int)=(w:Int)∧w<16∧adj T u w:=by
 have h1:=nx_mem (R.nd u) h
 obtain⟨w,e,hw,_,_⟩:=R.mem u _ h1
 exact⟨w,e,hw,by rw[e] at h1;exact h1⟩
theorem RS.fc_dart (R:RS T){d:Nat}(h:dart T d):dart T (fcT T d):=by
 obtain⟨u,v,hu,hv,rfl,ha⟩:=DH h
 obtain⟨w,e,hw,haw⟩:=R.nxt (R.sym ha)
 rw[CP hu hv ha,e,Int.toNat_natCast,DW hv hw]
 exact haw
theorem RS.perm (R:RS T):PermN 256 (fcT T):=by
 constructor
 ·intro x hx
  by_cases h:dart T x
  ·exact(R.fc_dart h).1
  ·rw[CH h];exact hx
 ·intro x y hx hy e
  by_cases h1:dart T x<;>by_cases h2:dart T y
  ·obtain⟨u,v,hu,hv,rfl,ha⟩:=DH h1
   obtain⟨u',v',hu',hv',rfl,ha'⟩:=DH h2
   obtain⟨w,e1,hw,_⟩:=R.nxt (R.sym ha)
   obtain⟨w',e2,hw',_⟩:=R.nxt (R.sym ha')
   rw[CP hu hv ha,CP hu' hv' ha',e1,e2,Int.toNat_natCast,Int.toNat_natCast] at e
   obtain rfl:v=v':=by omega
   obtain rfl:w=w':=by omega
   have:=nx_inj (R.nd v) (R.sym ha) (R.sym ha') (e1.trans e2.symm)
   omega
  ·have:=R.fc_dart h1
   rw[e,CH h2] at this;exact absurd this h2
  ·have:=R.fc_dart h2
   rw[←e,CH h1] at this;exact absurd this h1
  ·rwa [CH h1,CH h2] at e
noncomputable def FN (T:LL):Nat:=BK 256 λd=>dart T d∧LedN (fcT T) d
noncomputable def ndT (T:LL):Nat:=BK 256 λd=>¬dart T d
theorem EG (T:LL):cycN 256 (fcT T)=FN T+ndT T:=cyc_split λ_ h=>CH h
end
def BO (l:LI)(i:Nat)(x:Int):LI:=l.take (i+1)++x::l.drop (i+1)
theorem mem_insL {l:LI}{i:Nat}{x y:Int}:y∈BO l i x↔y=x∨y∈l:=by
 unfold BO
 rw[List.mem_append,List.mem_cons]
 constructor
 ·rintro(h|h|h)
  ·exact .inr (List.mem_of_mem_take h)
  ·exact .inl h
  ·exact .inr (List.mem_of_mem_drop h)
 ·rintro(h|h)
  ·exact .inr (.inl h)
  ·rw[←List.take_append_drop (i+1) l,List.mem_append] at h
   exact h.elim .inl λh=> .inr (.inr h)
theorem FJ {l:LI}{i:Nat}{x:Int}(hn:l.Nodup)(hx:x∉l):(BO l i x).Nodup:=by
 have h1:(BO l i x).Perm (x::l):=by
  unfold BO
  refine List.perm_middle.trans ?_
  rw[List.take_append_drop]
 rw[h1.nodup_iff]
 exact List.nodup_cons.2 ⟨hx,hn⟩
theorem FX (x:Int):nx [x] x=x:=by
 have:=EY (t:=[x]) (by simp) (i:=0) (by simp)
 simpa using this
theorem EB {l:LI}(hn:l.Nodup){i:Nat}(hi:i<l.length):(∃h:i+1<l.length,nx l l[i]=l[i+1])∨(i+1=l.length∧nx l l[i]=l[0]'(by omega)):=by
 have h:=EY hn hi
 by_cases c:i+1<l.length
 ·refine .inl ⟨c,?_⟩
  rw[h]
  simp only[Nat.mod_eq_of_lt c]
 ·refine .inr ⟨by omega,?_⟩
  rw[h]
  have:(i+1)%l.length=0:=by rw[show i+1=l.length by omega,Nat.mod_self]
  simp only[this]
theorem insL_getD {l:LI}{i:Nat}(hi:i<l.length)(x:Int)(k:Nat):(BO l i x).getD k 0=if k≤i then l.getD k 0 else if k=i+1 then x else l.getD (k-1) 0:=by
 have hl:(l.take (i+1)).length=i+1:=by simp;omega
 unfold BO
 rw[List.getD_eq_getElem?_getD,List.getElem?_append,hl]
 by_cases h1:k≤i
 ·rw[if_pos (by omega),if_pos h1,List.getElem?_take,if_pos (by omega),←List.getD_eq_getElem?_getD]
 ·rw[if_neg (by omega),if_neg h1]
  by_cases h2:k=i+1
  ·subst h2
   rw[if_pos rfl,Nat.sub_self];rfl
  ·rw[if_neg h2,show k-(i+1)=(k-i-2)+1 by omega,List.getElem?_cons_succ,List.getElem?_drop,show i+1+(k-i-2)=k-1 by omega,←List.getD_eq_getElem?_getD]
theorem Dg {l:LI}{i:Nat}(hi:i<l.length)(x:Int)(k:Nat)(hk:k<(BO l i x).length):(BO l i x)[k]=if k≤i then l.getD k 0 else if k=i+1 then x else l.getD (k-1) 0:=by
 rw[←insL_getD hi x k,AW hk]
theorem CU {l:LI}(hn:l.Nodup){i:Nat}(hi:i<l.length){x:Int}(hx:x∉l){y:Int}(hy:y=x∨y∈l):
  nx (BO l i x) y=if y=l[i] then x else if y=x then nx l l[i] else nx l y:=by
 have hn':=FJ (i:=i) hn hx
 have hlen:(BO l i x).length=l.length+1:=by unfold BO;simp;omega
 have hxi:l[i]≠x:=λe=>hx (by rw[←e];exact List.getElem_mem hi)
 have at':∀k (hk:k<(BO l i x).length),nx (BO l i x) ((BO l i x)[k])=(BO l i x)[(k+1)%(l.length+1)]'(by rw[hlen];exact Nat.mod_lt _ (by omega)):=λk hk=>by
  have:=EY hn' hk
  rw[this]
  simp only[hlen]
 by_cases h1:y=l[i]
 ·rw[if_pos h1]
  have hk:i<(BO l i x).length:=by omega
  have e1:(BO l i x)[i]=y:=by rw[Dg hi x i hk,if_pos (Nat.le_refl _),AW hi,h1]
  have h2:=at' i hk
  rw[e1] at h2
  rw[h2,Dg hi]
  rw[Nat.mod_eq_of_lt (by omega),if_neg (by omega),if_pos rfl]
 ·rw[if_neg h1]
  by_cases h2:y=x
  ·rw[if_pos h2]
   have hk:i+1<(BO l i x).length:=by omega
   have e1:(BO l i x)[i+1]=y:=by rw[Dg hi x (i+1) hk,if_neg (by omega),if_pos rfl,h2]
   have h3:=at' (i+1) hk
   rw[e1] at h3
   rw[h3,Dg hi]
   rcases EB hn hi with⟨c,e⟩|⟨c,e⟩
   ·rw[e,Nat.mod_eq_of_lt (by omega),if_neg (by omega),if_neg (by omega),show i+1+1-1=i+1 by omega,AW c]
   ·rw[e,show i+1+1=l.length+1 by omega,Nat.mod_self,if_pos (by omega),AW (by omega)]
  ·rw[if_neg h2]
   obtain⟨j,hj,rfl⟩:=List.getElem_of_mem (hy.resolve_left h2)
   have hji:j≠i:=λe=>h1 (by subst e;rfl)
   by_cases c:j<i
   ·have hk:j<(BO l i x).length:=by omega
    have e1:(BO l i x)[j]=l[j]:=by rw[Dg hi x j hk,if_pos (by omega),AW hj]
    have h3:=at' j hk
    rw[e1] at h3
    rw[h3,Dg hi,Nat.mod_eq_of_lt (by omega),if_pos (by omega)]
    rcases EB hn hj with⟨c',e⟩|⟨c',e⟩
    ·rw[e,AW c']
    ·omega
   ·have hk:j+1<(BO l i x).length:=by omega
    have e1:(BO l i x)[j+1]=l[j]:=by rw[Dg hi x (j+1) hk,if_neg (by omega),if_neg (by omega),Nat.add_sub_cancel,AW hj]
    have h3:=at' (j+1) hk
    rw[e1] at h3
    rw[h3,Dg hi]
    rcases EB hn hj with⟨c',e⟩|⟨c',e⟩
    ·rw[e,Nat.mod_eq_of_lt (by omega),if_neg (by omega),if_neg (by omega),show j+1+1-1=j+1 by omega,AW c']
    ·rw[e,show j+1+1=l.length+1 by omega,Nat.mod_self,if_pos (by omega),AW (by omega)]
theorem Dz (i:Nat)(x:Int):BO [] i x=[x]:=by simp[BO]
end Go.Sx

namespace Go.Sx
def Bl (T:LL)(u v i m:Nat):LL:=(T.set u (BO (row T u) i (v:Int))).set v (BO (row T v) m (u:Int))
section
variable {T : LL} {u v i m : Nat} (R : RS T) (hu : u < T.length) (hv : v < T.length) (hne : u ≠ v) (hna : ¬ adj T u v)
include R hu hv hne hna
theorem Ct (w:Nat):row (Bl T u v i m) w=if w=u then BO (row T u) i (v:Int) else if w=v then BO (row T v) m (u:Int) else row T w:=by
 unfold Bl
 rw[C9 (by simpa using hv),C9 hu]
 by_cases h1:w=v
 ·subst h1
  rw[if_pos rfl,if_neg (λe=>hne e.symm),if_pos rfl]
 ·rw[if_neg h1]
  by_cases h2:w=u
  ·rw[if_pos h2,if_pos h2]
  ·rw[if_neg h2,if_neg h2,if_neg h1]
theorem Cv (x y:Nat):adj (Bl T u v i m) x y↔adj T x y∨(x=u∧y=v)∨(x=v∧y=u):=by
 unfold adj
 rw[Ct R hu hv hne hna]
 by_cases h1:x=u
 ·subst h1
  rw[if_pos rfl,mem_insL]
  constructor
  ·rintro(h|h)
   ·exact .inr (.inl ⟨rfl,by omega⟩)
   ·exact .inl h
  ·rintro(h|⟨_,h⟩|⟨h,_⟩)
   ·exact .inr h
   ·exact .inl (by omega)
   ·exact absurd h hne
 ·rw[if_neg h1]
  by_cases h2:x=v
  ·subst h2
   rw[if_pos rfl,mem_insL]
   constructor
   ·rintro(h|h)
    ·exact .inr (.inr ⟨rfl,by omega⟩)
    ·exact .inl h
   ·rintro(h|⟨h,_⟩|⟨_,h⟩)
    ·exact .inr h
    ·exact absurd h h1
    ·exact .inl (by omega)
  ·rw[if_neg h2]
   exact⟨.inl,λh=>h.elim id λh=>h.elim (λh=>absurd h.1 h1) λh=>absurd h.1 h2⟩
theorem hna' :¬adj T v u:=λh=>hna (R.sym h)
theorem D8 :RS (Bl T u v i m):=by
 refine⟨by simpa [Bl] using R.n16,λw=> ?_,λw x hx=> ?_⟩
 ·rw[Ct R hu hv hne hna]
  by_cases h1:w=u
  ·rw[if_pos h1];exact FJ (R.nd u) hna
  ·rw[if_neg h1]
   by_cases h2:w=v
   ·rw[if_pos h2];exact FJ (R.nd v) (hna' R hu hv hne hna)
   ·rw[if_neg h2];exact R.nd w
 ·have h16:=R.n16
  have hxx:∃k:Nat,x=k∧k<16:=by
   rw[Ct R hu hv hne hna] at hx
   by_cases h1:w=u
   ·rw[if_pos h1,mem_insL] at hx
    rcases hx with rfl|hx
    ·exact⟨v,rfl,by omega⟩
    ·obtain⟨k,e,hk,_⟩:=R.mem u x hx;exact⟨k,e,hk⟩
   ·rw[if_neg h1] at hx
    by_cases h2:w=v
    ·rw[if_pos h2,mem_insL] at hx
     rcases hx with rfl|hx
     ·exact⟨u,rfl,by omega⟩
     ·obtain⟨k,e,hk,_⟩:=R.mem v x hx;exact⟨k,e,hk⟩
    ·rw[if_neg h2] at hx
     obtain⟨k,e,hk,_⟩:=R.mem w x hx;exact⟨k,e,hk⟩
  obtain⟨k,rfl,hk⟩:=hxx
  have ha:adj (Bl T u v i m) w k:=hx
  rw[Cv R hu hv hne hna] at ha
  refine⟨k,rfl,hk,?_,?_⟩
  ·rintro rfl
   rcases ha with h|h|h
   ·exact R.irr k h
   ·omega
   ·omega
  ·rw[Cv R hu hv hne hna]
   rcases ha with h|h|h
   ·exact .inl (R.sym h)
   ·exact .inr (.inr ⟨h.2,h.1⟩)
   ·exact .inr (.inl ⟨h.2,h.1⟩)
theorem put_dart (d:Nat):dart (Bl T u v i m) d↔dart T d∨d=u*16+v∨d=v*16+u:=by
 have h16:=R.n16
 unfold dart
 rw[Cv R hu hv hne hna]
 constructor
 ·rintro⟨h0,h|h|h⟩
  ·exact .inl ⟨h0,h⟩
  ·exact .inr (.inl (by omega))
  ·exact .inr (.inr (by omega))
 ·rintro(⟨h0,h⟩|h|h)
  ·exact⟨h0,.inl h⟩
  ·exact⟨by omega,.inr (.inl (by omega))⟩
  ·exact⟨by omega,.inr (.inr (by omega))⟩
theorem nd1 :¬dart T (u*16+v):=by
 have h16:=R.n16
 rw[DW (by omega) (by omega)];exact hna
theorem nd2 :¬dart T (v*16+u):=by
 have h16:=R.n16
 rw[DW (by omega) (by omega)];exact hna' R hu hv hne hna
theorem put_nd :ndT (Bl T u v i m)+2=ndT T:=by
 have h16:=R.n16
 have n1:=nd1 R hu hv hne hna
 have n2:=nd2 R hu hv hne hna
 have e1:ndT T=BK 256 (λd=>¬dart T d∧d≠u*16+v)+1:=by
  refine EJ (c:=u*16+v) (by omega) (λd _=>⟨λh=> ?_,λh=> ?_⟩) (λh=>h.2 rfl)
  ·by_cases c:d=u*16+v
   ·exact .inr c
   ·exact .inl ⟨h,c⟩
  ·rcases h with h|rfl
   ·exact h.1
   ·exact n1
 have e2:BK 256 (λd=>¬dart T d∧d≠u*16+v)=ndT (Bl T u v i m)+1:=by
  refine EJ (c:=v*16+u) (by omega) (λd _=> ?_) (λh=>h ((put_dart R hu hv hne hna _).2 (.inr (.inr rfl))))
  rw[put_dart R hu hv hne hna]
  constructor
  ·intro h
   by_cases c:d=v*16+u
   ·exact .inr c
   ·refine .inl λhh=> ?_
    rcases hh with h1|h1|h1
    ·exact h.1 h1
    ·exact h.2 h1
    ·exact c h1
  ·rintro(h|rfl)
   ·exact⟨λh1=>h (.inl h1),λh1=>h (.inr (.inl h1))⟩
   ·exact⟨n2,by omega⟩
 omega
theorem fc_old {s t:Nat}(hs:s<16)(ht:t<16)(ha:adj T s t)(h1:t=u→∀h:i<(row T u).length,(s:Int)≠(row T u)[i])(h2:t=v→∀h:m<(row T v).length,(s:Int)≠(row T v)[m])
  (l1:t=u→i<(row T u).length) (l2:t=v→m<(row T v).length):fcT (Bl T u v i m) (s*16+t)=fcT T (s*16+t):=by
 rw[CP hs ht ha,CP hs ht ((Cv R hu hv hne hna s t).2 (.inl ha)),Ct R hu hv hne hna]
 have hb:=R.sym ha
 by_cases e1:t=u
 ·subst e1
  have hx:(s:Int)≠(v:Int):=λe=>hna (by unfold adj;rw[←e];exact hb)
  rw[if_pos rfl,CU (R.nd t) (l1 rfl) hna (.inr hb),if_neg (h1 rfl (l1 rfl)),if_neg hx]
 ·rw[if_neg e1]
  by_cases e2:t=v
  ·subst e2
   have hx:(s:Int)≠(u:Int):=λe=>hna' R hu hv hne hna (by unfold adj;rw[←e];exact hb)
   rw[if_pos rfl,CU (R.nd t) (l2 rfl) (hna' R hu hv hne hna) (.inr hb),if_neg (h2 rfl (l2 rfl)),if_neg hx]
  ·rw[if_neg e2]
theorem fc_none {d:Nat}(h:¬dart T d)(h1:d≠u*16+v)(h2:d≠v*16+u):fcT (Bl T u v i m) d=fcT T d:=by
 rw[CH h,CH]
 rw[put_dart R hu hv hne hna]
 rintro(h'|h'|h')
 ·exact h h'
 ·exact h1 h'
 ·exact h2 h'
theorem adj_uv :adj (Bl T u v i m) u v:=(Cv R hu hv hne hna u v).2 (.inr (.inl ⟨rfl,rfl⟩))
theorem adj_vu :adj (Bl T u v i m) v u:=(Cv R hu hv hne hna v u).2 (.inr (.inr ⟨rfl,rfl⟩))
theorem fc_D :fcT (Bl T u v i m) (u*16+v)=v*16+(nx (BO (row T v) m (u:Int)) (u:Int)).toNat:=by
 have h16:=R.n16
 rw[CP (by omega) (by omega) (adj_uv R hu hv hne hna),Ct R hu hv hne hna,if_neg (λe=>hne e.symm),if_pos rfl]
theorem fc_D' :fcT (Bl T u v i m) (v*16+u)=u*16+(nx (BO (row T u) i (v:Int)) (v:Int)).toNat:=by
 have h16:=R.n16
 rw[CP (by omega) (by omega) (adj_vu R hu hv hne hna),Ct R hu hv hne hna,if_pos rfl]
theorem dart_in {a:Nat}(hi:i<(row T u).length)(ea:(row T u)[i]=(a:Int)):a<16∧adj T a u∧dart T (a*16+u)∧fcT T (a*16+u)=u*16+(nx (row T u) (a:Int)).toNat:=by
 have h16:=R.n16
 have hm:adj T u a:=by unfold adj;rw[←ea];exact List.getElem_mem hi
 have h1:=R.lt hm
 have h2:=R.sym hm
 exact⟨h1.2,h2,(DW h1.2 h1.1).2 h2,CP h1.2 h1.1 h2⟩
theorem dart_in' {b:Nat}(hm:m<(row T v).length)(eb:(row T v)[m]=(b:Int)):b<16∧adj T b v∧dart T (b*16+v)∧fcT T (b*16+v)=v*16+(nx (row T v) (b:Int)).toNat:=by
 have h16:=R.n16
 have hmm:adj T v b:=by unfold adj;rw[←eb];exact List.getElem_mem hm
 have h1:=R.lt hmm
 have h2:=R.sym hmm
 exact⟨h1.2,h2,(DW h1.2 h1.1).2 h2,CP h1.2 h1.1 h2⟩
theorem Do {x d:Nat}(h:¬dart T d)(o:Br (fcT T) x d)(hx:x<256):x=d:=by
 obtain⟨k,e⟩:=CB R.perm hx o
 have:∀k,itN (fcT T) k d=d:=by
  intro k
  induction k with
  |zero=>rfl
  |succ k ih=>show fcT T (itN (fcT T) k d)=d;rw[ih,CH h]
 rw[this] at e;exact e.symm
theorem faces0 (h1:row T u=[])(h2:row T v=[]):FN (Bl T u v i m)=FN T+1∧∀x y,x<256→y<256→(Br (fcT (Bl T u v i m)) x y↔mrgR (Br (fcT T)) (u*16+v) (v*16+u) x y):=by
 have h16:=R.n16
 have n1:=nd1 R hu hv hne hna
 have n2:=nd2 R hu hv hne hna
 have hf:fcT (Bl T u v i m)=swf (fcT T) (u*16+v) (v*16+u):=by
  funext x
  by_cases e1:x=u*16+v
  ·subst e1
   rw[fc_D R hu hv hne hna,Eg,CH n2,h2,Dz,FX];omega
  ·by_cases e2:x=v*16+u
   ·subst e2
    rw[fc_D' R hu hv hne hna,Er,CH n1,h1,Dz,FX];omega
   ·rw[De _ e1 e2]
    by_cases hd:dart T x
    ·obtain⟨s,t,hs,ht,rfl,ha⟩:=DH hd
     have hb:=R.sym ha
     have c1:t≠u:=λe=>by subst e;unfold adj at hb;rw[h1] at hb;simp at hb
     have c2:t≠v:=λe=>by subst e;unfold adj at hb;rw[h2] at hb;simp at hb
     exact fc_old R hu hv hne hna hs ht ha (λe=>absurd e c1) (λe=>absurd e c2) (λe=>absurd e c1) (λe=>absurd e c2)
    ·exact fc_none R hu hv hne hna hd e1 e2
 have hno:¬Br (fcT T) (u*16+v) (v*16+u):=λo=>by
  have:=Do R hu hv hne hna n2 o (by omega)
  omega
 have c:=Di R.perm (p:=u*16+v) (q:=v*16+u) (by omega) (by omega) hno
 rw[←hf,EG,EG] at c
 have:=put_nd (i:=i) (m:=m) R hu hv hne hna
 exact⟨by omega,λx y hx hy=>by rw[hf];exact DE R.perm (by omega) (by omega) hno hx hy⟩
end
end Go.Sx

namespace Go.Sx
theorem putT_comm {T:LL}{u v:Nat}(hne:u≠v)(i m:Nat):Bl T u v i m=Bl T v u m i:=by
 unfold Bl
 rw[List.set_comm _ _ hne]
section
variable {T : LL} {u v i m : Nat} (R : RS T) (hu : u < T.length) (hv : v < T.length) (hne : u ≠ v) (hna : ¬ adj T u v)
include R hu hv hne hna
theorem faces1 {a:Nat}(hi:i<(row T u).length)(ea:(row T u)[i]=(a:Int))(h2:row T v=[]):
  FN (Bl T u v i m)=FN T∧(∀x y,x<256→y<256→x≠u*16+v→x≠v*16+u→y≠u*16+v→y≠v*16+u→(Br (fcT (Bl T u v i m)) x y↔Br (fcT T) x y))∧
  (∀y,y<256→y≠u*16+v→y≠v*16+u→(Br (fcT (Bl T u v i m)) (u*16+v) y↔Br (fcT T) (a*16+u) y)):=by
 have h16:=R.n16
 have n1:=nd1 R hu hv hne hna
 have n2:=nd2 R hu hv hne hna
 obtain⟨a16,aau,hda,efa⟩:=dart_in R hu hv hne hna hi ea
 have hp1:a*16+u≠u*16+v:=λe=>n1 (by rw[←e];exact hda)
 have hp2:a*16+u≠v*16+u:=λe=>n2 (by rw[←e];exact hda)
 have hDD:u*16+v≠v*16+u:=by omega
 have P1:=R.perm.swf (p:=a*16+u) (q:=u*16+v) (by omega) (by omega)
 have hf:fcT (Bl T u v i m)=swf (swf (fcT T) (a*16+u) (u*16+v)) (u*16+v) (v*16+u):=by
  funext x
  by_cases e1:x=u*16+v
  ·subst e1
   rw[fc_D R hu hv hne hna,Eg,De _ (λe=>hp2 e.symm) (λe=>hDD e.symm),CH n2,h2,Dz,FX];omega
  ·by_cases e2:x=v*16+u
   ·subst e2
    rw[fc_D' R hu hv hne hna,Er,Er,efa,CU (R.nd u) hi hna (.inl rfl),if_neg (λe=>hna (by unfold adj;rw[e];exact List.getElem_mem hi)),if_pos rfl,ea]
   ·rw[De _ e1 e2]
    by_cases e3:x=a*16+u
    ·subst e3
     rw[Eg,CH n1,CP a16 (by omega) ((Cv R hu hv hne hna a u).2 (.inl aau)),Ct R hu hv hne hna,if_pos rfl,CU (R.nd u) hi hna (.inr (R.sym aau)),if_pos ea.symm];omega
    ·rw[De _ e3 e1]
     by_cases hd:dart T x
     ·obtain⟨s,t,hs,ht,rfl,ha⟩:=DH hd
      have hb:=R.sym ha
      have c2:t≠v:=λe=>by subst e;unfold adj at hb;rw[h2] at hb;simp at hb
      refine fc_old R hu hv hne hna hs ht ha (λe h e'=> ?_) (λe=>absurd e c2) (λ_=>hi) (λe=>absurd e c2)
      subst e
      rw[ea] at e'
      exact e3 (by omega)
     ·exact fc_none R hu hv hne hna hd e1 e2
 have fx1:∀{y},y<256→Br (fcT T) (u*16+v) y→y=u*16+v:=fun{y} hy o=>Do R hu hv hne hna n1 (CB R.perm (by omega) o) hy
 have fx2:∀{y},y<256→Br (fcT T) (v*16+u) y→y=v*16+u:=fun{y} hy o=>Do R hu hv hne hna n2 (CB R.perm (by omega) o) hy
 have no1:¬Br (fcT T) (a*16+u) (u*16+v):=λo=>hp1 (Do R hu hv hne hna n1 o (by omega))
 have m1:∀{x y},x<256→y<256→(Br (swf (fcT T) (a*16+u) (u*16+v)) x y↔mrgR (Br (fcT T)) (a*16+u) (u*16+v) x y):=λhx hy=>DE R.perm (by omega) (by omega) no1 hx hy
 have no2:¬Br (swf (fcT T) (a*16+u) (u*16+v)) (u*16+v) (v*16+u):=by
  rw[m1 (by omega) (by omega)]
  rintro(o|⟨_,o⟩|⟨_,o⟩)
  ·exact hDD (fx1 (by omega) o).symm
  ·exact hDD (fx1 (by omega) o).symm
  ·exact hp2 (Do R hu hv hne hna n2 o (by omega))
 have m2:∀{x y},x<256→y<256→(Br (fcT (Bl T u v i m)) x y↔mrgR (Br (swf (fcT T) (a*16+u) (u*16+v))) (u*16+v) (v*16+u) x y):=λhx hy=>by rw[hf];exact DE P1 (by omega) (by omega) no2 hx hy
 have fx3:∀{y},y<256→Br (swf (fcT T) (a*16+u) (u*16+v)) (v*16+u) y→y=v*16+u:=fun{y} hy o=>by
  rw[m1 (by omega) hy] at o
  rcases o with o|⟨o,_⟩|⟨o,_⟩
  ·exact fx2 hy o
  ·exact absurd (fx2 (by omega) o) hp2
  ·exact absurd (fx2 (by omega) o) hDD
 have c1:=Di R.perm (p:=a*16+u) (q:=u*16+v) (by omega) (by omega) no1
 have c2:=Di P1 (p:=u*16+v) (q:=v*16+u) (by omega) (by omega) no2
 rw[←hf,EG] at c2
 rw[EG] at c1
 have:=put_nd (i:=i) (m:=m) R hu hv hne hna
 refine⟨by omega,λx y hx hy x1 x2 y1 y2=> ?_,λy hy y1 y2=> ?_⟩
 ·rw[m2 hx hy]
  constructor
  ·rintro(o|⟨_,o⟩|⟨o,_⟩)
   ·rw[m1 hx hy] at o
    rcases o with o|⟨_,o⟩|⟨o,_⟩
    ·exact o
    ·exact absurd (fx1 hy o) y1
    ·exact absurd (Do R hu hv hne hna n1 o hx) x1
   ·exact absurd (fx3 hy o) y2
   ·exact absurd (fx3 hx (CB P1 hx o)) x2
  ·intro o
   exact .inl ((m1 hx hy).2 (.inl o))
 ·rw[m2 (by omega) hy]
  constructor
  ·rintro(o|⟨_,o⟩|⟨o,_⟩)
   ·rw[m1 (by omega) hy] at o
    rcases o with o|⟨o,_⟩|⟨_,o⟩
    ·exact absurd (fx1 hy o) y1
    ·exact absurd (fx1 (by omega) o) hp1
    ·exact o
   ·exact absurd (fx3 hy o) y2
   ·exact absurd o no2
  ·intro o
   exact .inl ((m1 (by omega) hy).2 (.inr (.inr ⟨EL _ _,o⟩)))
theorem faces2 {a b:Nat}(hi:i<(row T u).length)(ea:(row T u)[i]=(a:Int))(hm:m<(row T v).length)(eb:(row T v)[m]=(b:Int)):
  (Br (fcT T) (a*16+u) (b*16+v)→FN (Bl T u v i m)=FN T+1)∧(¬Br (fcT T) (a*16+u) (b*16+v)→FN (Bl T u v i m)+1=FN T):=by
 have h16:=R.n16
 have n1:=nd1 R hu hv hne hna
 have n2:=nd2 R hu hv hne hna
 have hna2:=hna' R hu hv hne hna
 obtain⟨a16,aau,hda,efa⟩:=dart_in R hu hv hne hna hi ea
 obtain⟨b16,abv,hdb,efb⟩:=dart_in' R hu hv hne hna hm eb
 have hp1:a*16+u≠u*16+v:=λe=>n1 (by rw[←e];exact hda)
 have hp2:a*16+u≠v*16+u:=λe=>n2 (by rw[←e];exact hda)
 have hq1:b*16+v≠u*16+v:=λe=>n1 (by rw[←e];exact hdb)
 have hq2:b*16+v≠v*16+u:=λe=>n2 (by rw[←e];exact hdb)
 have hpq:a*16+u≠b*16+v:=by omega
 have hDD:u*16+v≠v*16+u:=by omega
 have P1:=R.perm.swf (p:=a*16+u) (q:=u*16+v) (by omega) (by omega)
 have P2:=P1.swf (p:=b*16+v) (q:=v*16+u) (by omega) (by omega)
 have hf:fcT (Bl T u v i m)=swf (swf (swf (fcT T) (a*16+u) (u*16+v)) (b*16+v) (v*16+u)) (u*16+v) (v*16+u):=by
  funext x
  by_cases e1:x=u*16+v
  ·subst e1
   rw[fc_D R hu hv hne hna,Eg,Er,De _ (λe=>hpq e.symm) hq1,efb,CU (R.nd v) hm hna2 (.inl rfl),if_neg (λe=>hna2 (by unfold adj;rw[e];exact List.getElem_mem hm)),if_pos rfl,eb]
  ·by_cases e2:x=v*16+u
   ·subst e2
    rw[fc_D' R hu hv hne hna,Er,De _ (λe=>hq1 e.symm) hDD,Er,efa,CU (R.nd u) hi hna (.inl rfl),if_neg (λe=>hna (by unfold adj;rw[e];exact List.getElem_mem hi)),if_pos rfl,ea]
   ·rw[De _ e1 e2]
    by_cases e4:x=b*16+v
    ·subst e4
     rw[Eg,De _ (λe=>hp2 e.symm) (λe=>hDD e.symm),CH n2,CP b16 (by omega) ((Cv R hu hv hne hna b v).2 (.inl abv)),Ct R hu hv hne hna,if_neg (λe=>hne e.symm),if_pos rfl,CU (R.nd v) hm hna2 (.inr (R.sym abv)),if_pos eb.symm];omega
    ·rw[De _ e4 e2]
     by_cases e3:x=a*16+u
     ·subst e3
      rw[Eg,CH n1,CP a16 (by omega) ((Cv R hu hv hne hna a u).2 (.inl aau)),Ct R hu hv hne hna,if_pos rfl,CU (R.nd u) hi hna (.inr (R.sym aau)),if_pos ea.symm];omega
     ·rw[De _ e3 e1]
      by_cases hd:dart T x
      ·obtain⟨s,t,hs,ht,rfl,ha⟩:=DH hd
       refine fc_old R hu hv hne hna hs ht ha (λe h e'=> ?_) (λe h e'=> ?_) (λ_=>hi) (λ_=>hm)
       ·subst e
        rw[ea] at e'
        exact e3 (by omega)
       ·subst e
        rw[eb] at e'
        exact e4 (by omega)
      ·exact fc_none R hu hv hne hna hd e1 e2
 have fx1:∀{y},y<256→Br (fcT T) (u*16+v) y→y=u*16+v:=fun{y} hy o=>Do R hu hv hne hna n1 (CB R.perm (by omega) o) hy
 have fx2:∀{y},y<256→Br (fcT T) (v*16+u) y→y=v*16+u:=fun{y} hy o=>Do R hu hv hne hna n2 (CB R.perm (by omega) o) hy
 have no1:¬Br (fcT T) (a*16+u) (u*16+v):=λo=>hp1 (Do R hu hv hne hna n1 o (by omega))
 have m1:∀{x y},x<256→y<256→(Br (swf (fcT T) (a*16+u) (u*16+v)) x y↔mrgR (Br (fcT T)) (a*16+u) (u*16+v) x y):=λhx hy=>DE R.perm (by omega) (by omega) no1 hx hy
 have fx3:∀{y},y<256→Br (swf (fcT T) (a*16+u) (u*16+v)) (v*16+u) y→y=v*16+u:=fun{y} hy o=>by
  rw[m1 (by omega) hy] at o
  rcases o with o|⟨o,_⟩|⟨o,_⟩
  ·exact fx2 hy o
  ·exact absurd (fx2 (by omega) o) hp2
  ·exact absurd (fx2 (by omega) o) hDD
 have no2:¬Br (swf (fcT T) (a*16+u) (u*16+v)) (b*16+v) (v*16+u):=λo=>hq2 (fx3 (by omega) (CB P1 (by omega) o))
 have m2:∀{x y},x<256→y<256→(Br (swf (swf (fcT T) (a*16+u) (u*16+v)) (b*16+v) (v*16+u)) x y↔mrgR (Br (swf (fcT T) (a*16+u) (u*16+v))) (b*16+v) (v*16+u) x y):=λhx hy=>DE P1 (by omega) (by omega) no2 hx hy
 have key:Br (swf (swf (fcT T) (a*16+u) (u*16+v)) (b*16+v) (v*16+u)) (u*16+v) (v*16+u)↔Br (fcT T) (a*16+u) (b*16+v):=by
  rw[m2 (by omega) (by omega)]
  constructor
  ·rintro(o|⟨o,_⟩|⟨o,_⟩)
   ·exact absurd (fx3 (by omega) (CB P1 (by omega) o)) hDD
   ·rw[m1 (by omega) (by omega)] at o
    rcases o with o|⟨o,_⟩|⟨_,o⟩
    ·exact absurd (fx1 (by omega) o) hq1
    ·exact absurd (fx1 (by omega) o) hp1
    ·exact o
   ·exact absurd (fx3 (by omega) (CB P1 (by omega) o)) hDD
  ·intro o
   exact .inr (.inl ⟨(m1 (by omega) (by omega)).2 (.inr (.inr ⟨EL _ _,o⟩)),EL _ _⟩)
 have c1:=Di R.perm (p:=a*16+u) (q:=u*16+v) (by omega) (by omega) no1
 have c2:=Di P1 (p:=b*16+v) (q:=v*16+u) (by omega) (by omega) no2
 rw[EG] at c1
 have hnd:=put_nd (i:=i) (m:=m) R hu hv hne hna
 constructor
 ·intro o
  have c3:=cyc_parts P2 (p:=u*16+v) (q:=v*16+u) (by omega) (by omega) hDD (key.2 o)
  rw[←hf,EG] at c3
  omega
 ·intro o
  have c3:=Di P2 (p:=u*16+v) (q:=v*16+u) (by omega) (by omega) (λh=>o (key.1 h))
  rw[←hf,EG] at c3
  omega
end
end Go.Sx

namespace Go.Sx
inductive RcT (T:LL)(x:Nat):Nat→Prop
 |rf:RcT T x x
 |st {y z:Nat}:RcT T x y→adj T y z→RcT T x z
theorem RcT.tr {T:LL}{x y z:Nat}(h:RcT T x y)(h':RcT T y z):RcT T x z:=by
 induction h' with
 |rf=>exact h
 |st _ ha ih=>exact ih.st ha
theorem RcT.sy {T:LL}(R:RS T){x y:Nat}(h:RcT T x y):RcT T y x:=by
 induction h with
 |rf=>exact .rf
 |st _ ha ih=>exact(RcT.rf.st (R.sym ha)).tr ih
theorem RcT.mono {T S:LL}(hs:∀x y,adj T x y→adj S x y){x y:Nat}(h:RcT T x y):RcT S x y:=by
 induction h with
 |rf=>exact .rf
 |st _ ha ih=>exact ih.st (hs _ _ ha)
theorem rch_eqv {T:LL}(R:RS T):EqvN 16 (RcT T):=⟨λ_ _=> .rf,λ_ _ _ _ h=>h.sy R,λ_ _ _ _ _ _ h h'=>h.tr h'⟩
theorem RcT.bare {T:LL}{x y:Nat}(hb:row T x=[])(h:RcT T x y):y=x:=by
 induction h with
 |rf=>rfl
 |st _ ha ih=>subst ih;unfold adj at ha;rw[hb] at ha;simp at ha
theorem orb_rch {T:LL}(R:RS T){d e:Nat}(hd:dart T d)(o:Br (fcT T) d e):dart T e∧RcT T (d%16) (e%16):=by
 obtain⟨k,rfl⟩:=o
 induction k with
 |zero=>exact⟨hd,.rf⟩
 |succ k ih=>
  obtain⟨h1,h2⟩:=ih
  refine⟨R.fc_dart h1,?_⟩
  obtain⟨s,t,hs,ht,e,ha⟩:=DH h1
  obtain⟨w,ew,hw,haw⟩:=R.nxt (R.sym ha)
  show RcT T (d%16) (fcT T (itN (fcT T) k d)%16)
  rw[e] at h2 ⊢
  rw[CP hs ht ha,ew,Int.toNat_natCast,(dd hw).2]
  rw[(dd ht).2] at h2
  exact h2.st haw
noncomputable def ClT (T:LL):Nat:=clsN 16 (RcT T)
noncomputable def isT (T:LL):Nat:=BK 16 λv=>row T v=[]
noncomputable def dfc (T:LL):Int:=4*(ClT T:Int)+(256-(ndT T:Int))-2*(FN T:Int)-2*(isT T:Int)-32
def BadE (T:LL)(u v i m:Nat):Prop:=row T u≠[]∧row T v≠[]∧RcT T u v∧¬Br (fcT T) (((row T u).getD i 0).toNat*16+u) (((row T v).getD m 0).toNat*16+v)
section
variable {T : LL} {u v i m : Nat} (R : RS T) (hu : u < T.length) (hv : v < T.length) (hne : u ≠ v) (hna : ¬ adj T u v)
include R hu hv hne hna
theorem put_rch {x y:Nat}(hx:x<16)(hy:y<16):RcT (Bl T u v i m) x y↔mrgR (RcT T) u v x y:=by
 have h16:=R.n16
 have hm:=(rch_eqv R).mrg (p:=u) (q:=v) (by omega) (by omega)
 have up:∀{x y},RcT T x y→RcT (Bl T u v i m) x y:=λh=>h.mono λa b hab=>(Cv R hu hv hne hna a b).2 (.inl hab)
 constructor
 ·intro h
  suffices hh:y<16∧mrgR (RcT T) u v x y from hh.2
  clear hy
  induction h with
  |rf=>exact⟨hx,hm.rf x hx⟩
  | @st y z _ ha ih=>
   obtain⟨hy,ih⟩:=ih
   rw[Cv R hu hv hne hna] at ha
   rcases ha with ha|⟨rfl,rfl⟩|⟨rfl,rfl⟩
   ·have hz:=(R.lt ha).2
    exact⟨hz,hm.tr x y z hx hy hz ih (.inl (RcT.rf.st ha))⟩
   ·exact⟨by omega,hm.tr x y z hx hy (by omega) ih (.inr (.inl ⟨.rf,.rf⟩))⟩
   ·exact⟨by omega,hm.tr x y z hx hy (by omega) ih (.inr (.inr ⟨.rf,.rf⟩))⟩
 ·have e:RcT (Bl T u v i m) u v:=RcT.rf.st (adj_uv R hu hv hne hna)
  have e':RcT (Bl T u v i m) v u:=RcT.rf.st (adj_vu R hu hv hne hna)
  rintro(h|⟨h1,h2⟩|⟨h1,h2⟩)
  ·exact up h
  ·exact((up h1).tr e).tr (up h2)
  ·exact((up h1).tr e').tr (up h2)
theorem put_cl :(RcT T u v→ClT (Bl T u v i m)=ClT T)∧(¬RcT T u v→ClT T=ClT (Bl T u v i m)+1):=by
 have h16:=R.n16
 have he:=rch_eqv R
 refine⟨λh=>Eb λx y hx hy=> ?_,λh=> ?_⟩
 ·rw[put_rch R hu hv hne hna hx hy,mrg_same he (by omega) (by omega) h hx hy]
 ·have:=cls_mrg he (p:=u) (q:=v) (by omega) (by omega) h
  unfold ClT
  rw[this]
  congr 1
  exact Eb λx y hx hy=>(put_rch R hu hv hne hna hx hy).symm
theorem FB (w:Nat):row (Bl T u v i m) w=[]↔row T w=[]∧w≠u∧w≠v:=by
 rw[Ct R hu hv hne hna]
 by_cases h1:w=u
 ·rw[if_pos h1]
  exact⟨λh=>by unfold BO at h;simp at h,λh=>absurd h1 h.2.1⟩
 ·rw[if_neg h1]
  by_cases h2:w=v
  ·rw[if_pos h2]
   exact⟨λh=>by unfold BO at h;simp at h,λh=>absurd h2 h.2.2⟩
  ·rw[if_neg h2]
   exact⟨λh=>⟨h,h1,h2⟩,λh=>h.1⟩
theorem put_is :isT T=isT (Bl T u v i m)+(if row T u=[] then 1 else 0)+(if row T v=[] then 1 else 0):=by
 have h16:=R.n16
 have s1:BK 16 (λv=>row T v=[])=BK 16 (λw=>row T w=[]∧w≠u)+(if row T u=[] then 1 else 0):=by
  by_cases c:row T u=[]
  ·rw[if_pos c]
   refine EJ (c:=u) (by omega) (λw _=>⟨λh=> ?_,λh=> ?_⟩) (λh=>h.2 rfl)
   ·by_cases e:w=u
    ·exact .inr e
    ·exact .inl ⟨h,e⟩
   ·rcases h with h|rfl
    ·exact h.1
    ·exact c
  ·rw[if_neg c,Nat.add_zero]
   refine B2 λw _=>⟨λh=>⟨h,λe=>c (by rw[←e];exact h)⟩,λh=>h.1⟩
 have s2:BK 16 (λw=>row T w=[]∧w≠u)=BK 16 (λw=>row (Bl T u v i m) w=[])+(if row T v=[] then 1 else 0):=by
  by_cases c:row T v=[]
  ·rw[if_pos c]
   refine EJ (c:=v) (by omega) (λw _=> ?_) (λh=>((FB R hu hv hne hna v).1 h).2.2 rfl)
   rw[FB R hu hv hne hna]
   constructor
   ·rintro⟨h,e1⟩
    by_cases e:w=v
    ·exact .inr e
    ·exact .inl ⟨h,e1,e⟩
   ·rintro(⟨h,e1,_⟩|rfl)
    ·exact⟨h,e1⟩
    ·exact⟨c,λe=>hne e.symm⟩
  ·rw[if_neg c,Nat.add_zero]
   refine B2 λw _=> ?_
   rw[FB R hu hv hne hna]
   exact⟨λh=>⟨h.1,h.2,λe=>c (by rw[←e];exact h.1)⟩,λh=>⟨h.1,h.2.1⟩⟩
 unfold isT
 omega
theorem Fk (hi:row T u≠[]→i<(row T u).length)(hm:row T v≠[]→m<(row T v).length):
  (BadE T u v i m→dfc (Bl T u v i m)=dfc T+4)∧(¬BadE T u v i m→dfc (Bl T u v i m)=dfc T):=by
 have h16:=R.n16
 have c1:=put_nd (i:=i) (m:=m) R hu hv hne hna
 have c2:=put_is (i:=i) (m:=m) R hu hv hne hna
 have c3:=put_cl (i:=i) (m:=m) R hu hv hne hna
 unfold dfc
 by_cases e1:row T u=[]
 ·have hnr:¬RcT T u v:=λh=>hne (h.bare e1).symm
  have c4:=c3.2 hnr
  rw[if_pos e1] at c2
  by_cases e2:row T v=[]
  ·rw[if_pos e2] at c2
   have c5:=(faces0 (i:=i) (m:=m) R hu hv hne hna e1 e2).1
   exact⟨λh=>absurd e1 h.1,λ_=>by omega⟩
  ·rw[if_neg e2] at c2
   have hm':=hm e2
   obtain⟨b,eb,_⟩:=R.mem v _ (List.getElem_mem hm')
   have c5:=(faces1 (T:=T) (u:=v) (v:=u) (i:=m) (m:=i) R hv hu (λe=>hne e.symm) (hna' R hu hv hne hna) hm' eb e1).1
   rw[←putT_comm hne] at c5
   exact⟨λh=>absurd e1 h.1,λ_=>by omega⟩
 ·rw[if_neg e1] at c2
  have hi':=hi e1
  obtain⟨a,ea,_⟩:=R.mem u _ (List.getElem_mem hi')
  by_cases e2:row T v=[]
  ·rw[if_pos e2] at c2
   have hnr:¬RcT T u v:=λh=>hne ((h.sy R).bare e2)
   have c4:=c3.2 hnr
   have c5:=(faces1 (T:=T) (u:=u) (v:=v) (i:=i) (m:=m) R hu hv hne hna hi' ea e2).1
   exact⟨λh=>absurd e2 h.2.1,λ_=>by omega⟩
  ·rw[if_neg e2] at c2
   have hm':=hm e2
   obtain⟨b,eb,_⟩:=R.mem v _ (List.getElem_mem hm')
   have c5:=faces2 (T:=T) (u:=u) (v:=v) (i:=i) (m:=m) R hu hv hne hna hi' ea hm' eb
   have ga:((row T u).getD i 0).toNat=a:=by rw[AW hi',ea,Int.toNat_natCast]
   have gb:((row T v).getD m 0).toNat=b:=by rw[AW hm',eb,Int.toNat_natCast]
   have hda:=dart_in R hu hv hne hna hi' ea
   constructor
   ·rintro⟨_,_,hr,ho⟩
    rw[ga,gb] at ho
    have:=c5.2 ho
    have:=c3.1 hr
    omega
   ·intro hb
    by_cases hr:RcT T u v
    ·have ho:Br (fcT T) (a*16+u) (b*16+v):=Classical.byContradiction λho=>hb ⟨e1,e2,hr,by rw[ga,gb];exact ho⟩
     have:=c5.1 ho
     have:=c3.1 hr
     omega
    ·have ho:¬Br (fcT T) (a*16+u) (b*16+v):=λho=>by
      have h1:=(orb_rch R hda.2.2.1 ho).2
      rw[(dd (show u<16 by omega)).2,(dd (show v<16 by omega)).2] at h1
      exact hr h1
     have:=c5.2 ho
     have:=c3.2 hr
     omega
end
structure Sim (T S:LL):Prop where
 len:T.length=S.length
 mem:∀(w:Nat) (x:Int),x∈row T w↔x∈row S w
 nx:∀(w:Nat) (x:Int),x∈row T w→nx (row T w) x=nx (row S w) x
theorem Sim.rf (T:LL):Sim T T:=⟨rfl,λ_ _=>Iff.rfl,λ_ _ _=>rfl⟩
theorem Sim.sy {T S:LL}(h:Sim T S):Sim S T:=⟨h.len.symm,λw x=>(h.mem w x).symm,λw x hx=>(h.nx w x ((h.mem w x).2 hx)).symm⟩
theorem Sim.tr {T S U:LL}(h:Sim T S)(h':Sim S U):Sim T U:=⟨h.len.trans h'.len,λw x=>(h.mem w x).trans (h'.mem w x),λw x hx=>(h.nx w x hx).trans (h'.nx w x ((h.mem w x).1 hx))⟩
section
variable {T S : LL} (h : Sim T S)
include h
theorem Sim.adj {x y:Nat}:adj T x y↔adj S x y:=h.mem x (y:Int)
theorem Sim.dart (d:Nat):dart T d↔dart S d:=by unfold Sx.dart;rw[h.adj]
theorem Sim.fc (R:RS T):fcT T=fcT S:=by
 funext d
 unfold fcT
 by_cases hd:Sx.dart T d
 ·rw[if_pos hd,if_pos ((h.dart d).1 hd)]
  rw[h.nx _ _ (R.sym hd.2)]
 ·rw[if_neg hd,if_neg λhh=>hd ((h.dart d).2 hh)]
theorem Sim.row_nil (w:Nat):row T w=[]↔row S w=[]:=by
 constructor
 ·intro e
  exact List.eq_nil_iff_forall_not_mem.2 λx hx=>by
   have:=(h.mem w x).2 hx
   rw[e] at this;simp at this
 ·intro e
  exact List.eq_nil_iff_forall_not_mem.2 λx hx=>by
   have:=(h.mem w x).1 hx
   rw[e] at this;simp at this
theorem Sim.rch {x y:Nat}:RcT T x y↔RcT S x y:=⟨λhh=>hh.mono λ_ _ ha=>h.adj.1 ha,λhh=>hh.mono λ_ _ ha=>h.adj.2 ha⟩
theorem Sim.dfc (R:RS T):dfc T=Sx.dfc S:=by
 have h1:ClT T=ClT S:=Eb λx y _ _=>h.rch
 have h2:ndT T=ndT S:=B2 λd _=>by rw[h.dart d]
 have h3:FN T=FN S:=by
  unfold FN
  rw[h.fc R]
  exact B2 λd _=>by rw[h.dart d]
 have h4:isT T=isT S:=B2 λw _=>h.row_nil w
 unfold Sx.dfc
 rw[h1,h2,h3,h4]
end
theorem clsN_all {m:Nat}{R:Nat→Nat→Prop}(h:∀x y,x<m→y<m→R x y→x=y):clsN m R=m:=by
 unfold clsN
 have:BK m (ledR m R)=BK m (λ_=>True):=B2 λx hx=>⟨λ_=>trivial,λ_ y hy hr=>by rw[h x y hx hy hr];exact Nat.le_refl _⟩
 rw[this,Fy]
theorem F9 {T:LL}(h:∀w,row T w=[]):dfc T=0:=by
 have na:∀x y,¬adj T x y:=λx y ha=>by unfold adj at ha;rw[h] at ha;simp at ha
 have h1:ClT T=16:=clsN_all λx y _ _ hr=>(RcT.bare (h x) hr).symm
 have h2:ndT T=256:=by
  unfold ndT
  have:BK 256 (λd=>¬dart T d)=BK 256 (λ_=>True):=B2 λd _=>⟨λ_=>trivial,λ_ hd=>na _ _ hd.2⟩
  rw[this,Fy]
 have h3:FN T=0:=cntP_none λd _ hd=>na _ _ hd.1.2
 have h4:isT T=16:=by
  unfold isT
  have:BK 16 (λv=>row T v=[])=BK 16 (λ_=>True):=B2 λv _=>⟨λ_=>trivial,λ_=>h v⟩
  rw[this,Fy]
 unfold dfc
 rw[h1,h2,h3,h4];omega
end Go.Sx

namespace Go.Sx
theorem nx_cons {x:Int}{B:LI}(hn:(x::B).Nodup)(hB:B≠[]){y:Int}(hy:y∈x::B):nx (BO B (B.length-1) x) y=nx (x::B) y:=by
 have hp:0<B.length:=List.length_pos_iff.2 hB
 have hx:=(List.nodup_cons.1 hn).1
 have hnB:=(List.nodup_cons.1 hn).2
 rw[CU hnB (show B.length-1<B.length by omega) hx (List.mem_cons.1 hy)]
 obtain⟨k,hk,rfl⟩:=List.getElem_of_mem hy
 have h:=EY hn hk
 rw[h]
 cases k with
 |zero=>
  have e:(x::B)[0]=x:=rfl
  rw[e,if_neg (λe'=>hx (by rw[e'];exact List.getElem_mem _)),if_pos rfl]
  rcases EB hnB (show B.length-1<B.length by omega) with⟨c,_⟩|⟨_,e'⟩
  ·omega
  ·rw[e']
   have hm:(0+1)%(x::B).length=1:=Nat.mod_eq_of_lt (by simp;omega)
   simp only[hm];rfl
 |succ k=>
  have hk':k<B.length:=by simpa using hk
  have e:(x::B)[k+1]=B[k]:=rfl
  rw[e]
  by_cases c:k=B.length-1
  ·subst c
   have hm:(B.length-1+1+1)%(x::B).length=0:=by
    rw[show B.length-1+1+1=(x::B).length by simp;omega,Nat.mod_self]
   rw[if_pos rfl]
   simp only[hm];rfl
  ·have hne:B[k]≠B[B.length-1]:=λe'=>c (EV hnB _ _ e')
   have hne2:B[k]≠x:=λe'=>hx (by rw[←e'];exact List.getElem_mem _)
   rw[if_neg hne,if_neg hne2]
   rcases EB hnB hk' with⟨c',e'⟩|⟨c',_⟩
   ·rw[e']
    have hm:(k+1+1)%(x::B).length=k+2:=Nat.mod_eq_of_lt (by simp;omega)
    simp only[hm];rfl
   ·omega
theorem ins_erase {l:LI}(hn:l.Nodup){x:Int}(hx:x∈l):∃i,(l.erase x≠[]→i<(l.erase x).length)∧∀y∈l,nx (BO (l.erase x) i x) y=nx l y:=by
 obtain⟨A,B,rfl,hA⟩:=List.eq_append_cons_of_mem hx
 have he:(A++x::B).erase x=A++B:=by rw[List.erase_append_right _ hA,List.erase_cons_head]
 rw[he]
 by_cases h:A=[]
 ·subst h
  by_cases hB:B=[]
  ·subst hB
   exact⟨0,λh=>absurd rfl h,λy _=>by rw[List.append_nil,Dz];rfl⟩
  ·have hp:0<B.length:=List.length_pos_iff.2 hB
   exact⟨B.length-1,λ_=>by rw[List.nil_append];omega,λy hy=>nx_cons hn hB hy⟩
 ·have hp:0<A.length:=List.length_pos_iff.2 h
  refine⟨A.length-1,λ_=>by rw[List.length_append];omega,λy _=> ?_⟩
  have:BO (A++B) (A.length-1) x=A++x::B:=by
   unfold BO
   rw[show A.length-1+1=A.length by omega,List.take_left' rfl,List.drop_left' rfl]
  rw[this]
def BG (T:LL)(u v:Nat):LL:=(T.set u ((row T u).erase (v:Int))).set v ((row T v).erase (u:Int))
section
variable {T : LL} {u v : Nat} (R : RS T) (ha : adj T u v)
include R ha
theorem del_ne :u≠v:=λe=>R.irr u (by rw[←e] at ha;exact ha)
theorem del_lt :u<T.length∧v<T.length:=⟨Ey ha,Ey (R.sym ha)⟩
theorem DJ (w:Nat):row (BG T u v) w=if w=u then(row T u).erase (v:Int) else if w=v then(row T v).erase (u:Int) else row T w:=by
 have hne:=del_ne R ha
 obtain⟨hu,hv⟩:=del_lt R ha
 unfold BG
 rw[C9 (by simpa using hv),C9 hu]
 by_cases h1:w=v
 ·subst h1
  rw[if_pos rfl,if_neg (λe=>hne e.symm),if_pos rfl]
 ·rw[if_neg h1]
  by_cases h2:w=u
  ·rw[if_pos h2,if_pos h2]
  ·rw[if_neg h2,if_neg h2,if_neg h1]
theorem Dm :(BG T u v).length=T.length:=by simp[BG]
theorem DR (x y:Nat):adj (BG T u v) x y↔adj T x y∧¬(x=u∧y=v)∧¬(x=v∧y=u):=by
 have hne:=del_ne R ha
 unfold adj
 rw[DJ R ha]
 by_cases h1:x=u
 ·subst h1
  rw[if_pos rfl,(R.nd x).mem_erase_iff]
  constructor
  ·rintro⟨h,h'⟩
   exact⟨h',λe=>h (by rw[e.2]),λe=>hne e.1⟩
  ·rintro⟨h,h',_⟩
   exact⟨λe=>h' ⟨rfl,by omega⟩,h⟩
 ·rw[if_neg h1]
  by_cases h2:x=v
  ·subst h2
   rw[if_pos rfl,(R.nd x).mem_erase_iff]
   constructor
   ·rintro⟨h,h'⟩
    exact⟨h',λe=>h1 e.1,λe=>h (by rw[e.2])⟩
   ·rintro⟨h,_,h'⟩
    exact⟨λe=>h' ⟨rfl,by omega⟩,h⟩
  ·rw[if_neg h2]
   exact⟨λh=>⟨h,λe=>h1 e.1,λe=>h2 e.1⟩,λh=>h.1⟩
theorem D6 :RS (BG T u v):=by
 refine⟨by rw[Dm R ha];exact R.n16,λw=> ?_,λw x hx=> ?_⟩
 ·rw[DJ R ha]
  by_cases h1:w=u
  ·rw[if_pos h1];exact(R.nd u).erase _
  ·rw[if_neg h1]
   by_cases h2:w=v
   ·rw[if_pos h2];exact(R.nd v).erase _
   ·rw[if_neg h2];exact R.nd w
 ·have hx':x∈row T w:=by
   rw[DJ R ha] at hx
   by_cases h1:w=u
   ·rw[if_pos h1] at hx;rw[h1];exact List.mem_of_mem_erase hx
   ·rw[if_neg h1] at hx
    by_cases h2:w=v
    ·rw[if_pos h2] at hx;rw[h2];exact List.mem_of_mem_erase hx
    ·rw[if_neg h2] at hx;exact hx
  obtain⟨k,rfl,hk,hkw,hak⟩:=R.mem w x hx'
  have h1:adj (BG T u v) w k:=hx
  rw[DR R ha] at h1
  refine⟨k,rfl,hk,hkw,(DR R ha k w).2 ⟨hak,λe=>h1.2.2 ⟨e.2,e.1⟩,λe=>h1.2.1 ⟨e.2,e.1⟩⟩⟩
theorem del_na :¬adj (BG T u v) u v:=λh=>((DR R ha u v).1 h).2.1 ⟨rfl,rfl⟩
theorem put_del :∃i m,(row (BG T u v) u≠[]→i<(row (BG T u v) u).length)∧(row (BG T u v) v≠[]→m<(row (BG T u v) v).length)∧Sim (Bl (BG T u v) u v i m) T:=by
 have hne:=del_ne R ha
 obtain⟨hu,hv⟩:=del_lt R ha
 have R':=D6 R ha
 have hu':u<(BG T u v).length:=by rw[Dm R ha];exact hu
 have hv':v<(BG T u v).length:=by rw[Dm R ha];exact hv
 have ru:row (BG T u v) u=(row T u).erase (v:Int):=by rw[DJ R ha,if_pos rfl]
 have rv:row (BG T u v) v=(row T v).erase (u:Int):=by rw[DJ R ha,if_neg (λe=>hne e.symm),if_pos rfl]
 obtain⟨i,i1,i2⟩:=ins_erase (R.nd u) (x:=(v:Int)) ha
 obtain⟨m,m1,m2⟩:=ins_erase (R.nd v) (x:=(u:Int)) (R.sym ha)
 have hrow:=Ct (i:=i) (m:=m) R' hu' hv' hne (del_na R ha)
 refine⟨i,m,by rw[ru];exact i1,by rw[rv];exact m1,?_,λw x=> ?_,λw x hx=> ?_⟩
 ·simp[Bl,BG]
 ·rw[hrow]
  by_cases h1:w=u
  ·rw[if_pos h1,ru,mem_insL,(R.nd u).mem_erase_iff,h1]
   constructor
   ·rintro(rfl|h)
    ·exact ha
    ·exact h.2
   ·intro h
    by_cases e:x=(v:Int)
    ·exact .inl e
    ·exact .inr ⟨e,h⟩
  ·rw[if_neg h1]
   by_cases h2:w=v
   ·rw[if_pos h2,rv,mem_insL,(R.nd v).mem_erase_iff,h2]
    constructor
    ·rintro(rfl|h)
     ·exact R.sym ha
     ·exact h.2
    ·intro h
     by_cases e:x=(u:Int)
     ·exact .inl e
     ·exact .inr ⟨e,h⟩
   ·rw[if_neg h2,DJ R ha,if_neg h1,if_neg h2]
 ·rw[hrow] at hx ⊢
  by_cases h1:w=u
  ·rw[if_pos h1,ru] at hx ⊢
   rw[h1]
   refine i2 x ?_
   rw[mem_insL,(R.nd u).mem_erase_iff] at hx
   rcases hx with rfl|h
   ·exact ha
   ·exact h.2
  ·rw[if_neg h1] at hx ⊢
   by_cases h2:w=v
   ·rw[if_pos h2,rv] at hx ⊢
    rw[h2]
    refine m2 x ?_
    rw[mem_insL,(R.nd v).mem_erase_iff] at hx
    rcases hx with rfl|h
    ·exact R.sym ha
    ·exact h.2
   ·rw[if_neg h2,DJ R ha,if_neg h1,if_neg h2]
theorem del_dfc :∃i m,(row (BG T u v) u≠[]→i<(row (BG T u v) u).length)∧(row (BG T u v) v≠[]→m<(row (BG T u v) v).length)∧Sim (Bl (BG T u v) u v i m) T∧
  (BadE (BG T u v) u v i m→dfc T=dfc (BG T u v)+4)∧(¬BadE (BG T u v) u v i m→dfc T=dfc (BG T u v))∧ndT T+2=ndT (BG T u v):=by
 have hne:=del_ne R ha
 obtain⟨hu,hv⟩:=del_lt R ha
 have R':=D6 R ha
 have hu':u<(BG T u v).length:=by rw[Dm R ha];exact hu
 have hv':v<(BG T u v).length:=by rw[Dm R ha];exact hv
 obtain⟨i,m,h1,h2,hs⟩:=put_del R ha
 have RP:=D8 (i:=i) (m:=m) R' hu' hv' hne (del_na R ha)
 have e:=hs.dfc RP
 have hp:=Fk R' hu' hv' hne (del_na R ha) h1 h2
 have hnd:=put_nd (i:=i) (m:=m) R' hu' hv' hne (del_na R ha)
 have e2:ndT (Bl (BG T u v) u v i m)=ndT T:=B2 λd _=>by rw[hs.dart d]
 exact⟨i,m,h1,h2,hs,λb=>by rw[←e];exact hp.1 b,λb=>by rw[←e];exact hp.2 b,by omega⟩
end
theorem cntP_top (n:Nat)(p:Nat→Prop):BK n p≤n:=by
 have:=cntP_le (n:=n) (p:=p) (q:=λ_=>True) (λ_ _ _=>trivial)
 rwa [Fy] at this
theorem dfc_nonneg :∀(k:Nat) {T:LL},RS T→256≤ndT T+k→0≤dfc T:=by
 intro k
 induction k with
 |zero=>
  intro T R hk
  by_cases h:∃u v,adj T u v
  ·obtain⟨u,v,ha⟩:=h
   obtain⟨i,m,_,_,_,_,_,hn⟩:=del_dfc R ha
   have:=cntP_top 256 λd=>¬dart (BG T u v) d
   unfold ndT at hk hn
   omega
  ·refine Int.le_of_eq (F9 λw=>List.eq_nil_iff_forall_not_mem.2 λx hx=> ?_).symm
   obtain⟨y,rfl,_⟩:=R.mem w x hx
   exact h ⟨w,y,hx⟩
 |succ k ih=>
  intro T R hk
  by_cases h:∃u v,adj T u v
  ·obtain⟨u,v,ha⟩:=h
   obtain⟨i,m,_,_,_,h1,h2,hn⟩:=del_dfc R ha
   have:=ih (D6 R ha) (by omega)
   by_cases hb:BadE (BG T u v) u v i m
   ·have:=h1 hb;omega
   ·have:=h2 hb;omega
  ·refine Int.le_of_eq (F9 λw=>List.eq_nil_iff_forall_not_mem.2 λx hx=> ?_).symm
   obtain⟨y,rfl,_⟩:=R.mem w x hx
   exact h ⟨w,y,hx⟩
theorem RS.dfc_nonneg {T:LL}(R:RS T):0≤dfc T:=Sx.dfc_nonneg 256 R (by omega)
theorem EZ {T:LL}{u v:Nat}(R:RS T)(ha:adj T u v)(h:dfc T=0):dfc (BG T u v)=0∧∃i m,(row (BG T u v) u≠[]→i<(row (BG T u v) u).length)∧(row (BG T u v) v≠[]→m<(row (BG T u v) v).length)∧Sim (Bl (BG T u v) u v i m) T∧¬BadE (BG T u v) u v i m:=by
 obtain⟨i,m,a1,a2,a3,h1,h2,_⟩:=del_dfc R ha
 have hn:=(D6 R ha).dfc_nonneg
 by_cases hb:BadE (BG T u v) u v i m
 ·have:=h1 hb;omega
 ·exact⟨by rw[←h2 hb];exact h,i,m,a1,a2,a3,hb⟩
def Pln (g:LL):Prop:=∃T,RS T∧T.length=g.length∧(∀x y,adj T x y↔adj g x y)∧dfc T=0
end Go.Sx

namespace Go.Sx
theorem mpGet_snoc (M:List ((Int×Int)×Int))(k x:Int×Int)(c:Int):By (M++[(k,c)]) x=if(By M x).isSome=true then By M x else if k=x then some c else none:=by
 unfold By
 rw[List.find?_append]
 cases h:M.find? λkv=>kv.1==x with
 |some z=>simp
 |none=>
  by_cases e:k=x
  ·subst e;simp
  ·simp[e]
structure MInv (T:LL)(M:List ((Int×Int)×Int))(c:Nat)(S:Nat→Prop):Prop where
 da:∀d,S d→dart T d
 cl:∀d e,S d→Br (fcT T) d e→S e
 no:∀s t:Nat,s<16→t<16→¬S (s*16+t)→By M ((s:Int),(t:Int))=none
 val:∀s t:Nat,s<16→t<16→S (s*16+t)→∃k:Nat,By M ((s:Int),(t:Int))=some (k:Int)∧k<c
 same:∀s t s' t':Nat,s<16→t<16→s'<16→t'<16→S (s*16+t)→S (s'*16+t')→(By M ((s:Int),(t:Int))=By M ((s':Int),(t':Int))↔Br (fcT T) (s*16+t) (s'*16+t'))
section
variable {T : LL} (R : RS T)
include R
theorem RS.rlen (v:Nat):(row T v).length≤16:=by
 have:=DT (m:=(List.range 16).map Int.ofNat) (R.nd v) (λx hx=>by
  obtain⟨u,rfl,hu,_⟩:=R.mem v x hx
  exact List.mem_map.2 ⟨u,List.mem_range.2 hu,rfl⟩)
 simpa using this
theorem RS.after {u v:Nat}(ha:adj T u v):D.b1 T (u:Int) (v:Int)=some (Sx.nx (row T u) (v:Int)):=by
 have hT:=Ey ha
 have h16:=R.rlen u
 obtain⟨i,hi,e⟩:=List.mem_iff_getElem.1 (show (v:Int)∈row T u from ha)
 have h0:(((row T u).length:Int)==0)=false:=by rw[beq_eq_false_iff_ne];omega
 unfold D.b1
 rw[B4 hT,bs,←e,Index_int_eq h16 (R.nd u) hi,bs,bs,bs,h0,cF,wi (by omega),show Int.tmod ((i+1:Nat):Int) ((row T u).length:Int)=(((i+1)%(row T u).length:Nat):Int) from by rw[Int.tmod_eq_emod_of_nonneg (by omega)];rfl,AS (Nat.mod_lt _ (by omega)),EY (R.nd u) hi]
 rfl
theorem orb_dart {d:Nat}(hd:dart T d)(j:Nat):dart T (itN (fcT T) j d):=(orb_rch R hd ⟨j,rfl⟩).1
end
noncomputable def MpL (T:LL)(M:List ((Int×Int)×Int))(c:Int)(d:Nat):Nat→List ((Int×Int)×Int)
 |0=>M
 |j+1=>MpL T M c d j++[((((itN (fcT T) j d/16:Nat):Int),((itN (fcT T) j d%16:Nat):Int)),c)]
section
variable {T : LL} (R : RS T)
include R
open Classical in
theorem Eu {M:List ((Int×Int)×Int)}{c:Int}{d:Nat}(hd:dart T d)(s t:Nat)(hs:s<16)(ht:t<16):∀j,By (MpL T M c d j) ((s:Int),(t:Int))=if(By M ((s:Int),(t:Int))).isSome=true then By M ((s:Int),(t:Int)) else if∃i,i<j∧itN (fcT T) i d=s*16+t then some c else none
 |0=>by
  rw[MpL]
  cases h:By M ((s:Int),(t:Int)) with
  |some z=>simp
  |none=>simp
 |j+1=>by
  rw[MpL,mpGet_snoc,Eu hd s t hs ht j]
  have hx:=(orb_dart R hd j).1
  have hk:((((itN (fcT T) j d/16:Nat):Int),((itN (fcT T) j d%16:Nat):Int))=((s:Int),(t:Int)))↔itN (fcT T) j d=s*16+t:=by
   rw[Prod.mk.injEq]
   constructor
   ·rintro⟨h1,h2⟩;omega
   ·intro h;rw[h];omega
  cases h:By M ((s:Int),(t:Int)) with
  |some z=>simp
  |none=>
   by_cases h1:∃i,i<j∧itN (fcT T) i d=s*16+t
   ·have h2:∃i,i<j+1∧itN (fcT T) i d=s*16+t:=by
     obtain⟨i,hi,e⟩:=h1;exact⟨i,by omega,e⟩
    simp[h1,h2]
   ·by_cases h3:itN (fcT T) j d=s*16+t
    ·have h2:∃i,i<j+1∧itN (fcT T) i d=s*16+t:=⟨j,by omega,h3⟩
     simp only[h1,if_false,hk.2 h3,if_true,h2]
     simp
    ·have h2:¬∃i,i<j+1∧itN (fcT T) i d=s*16+t:=by
      rintro⟨i,hi,e⟩
      by_cases c:i=j
      ·subst c;exact h3 e
      ·exact h1 ⟨i,by omega,e⟩
     have h4:¬(((((itN (fcT T) j d/16:Nat):Int),((itN (fcT T) j d%16:Nat):Int))=((s:Int),(t:Int)))):=λe=>h3 (hk.1 e)
     simp only[h1,h4,if_false,h2]
     simp
theorem RS.walk {d:Nat}(hd:dart T d){S:Nat→Prop}{M:List ((Int×Int)×Int)}{c:Nat}(hM:MInv T M c S)(hn:¬S d){β:Type}(k:List ((Int×Int)×Int)×LI→Option β){x0 y0:Int}(hx:x0=((d/16:Nat):Int))(hy:y0=((d%16:Nat):Int)):
  ∃face:LI,face.length≤256∧(Aw (σ:=(List ((Int×Int)×Int))×LI×Int×Int) (ρ:=((List ((Int×Int)×Int))×LI)) (fun(s_2790:(List ((Int×Int)×Int))×LI×Int×Int)=>match s_2790 with|(l_2793,l_2796,x_2803,x_2804)=>cond ((By l_2793 (x_2803,x_2804)).isSome) (some (.inr (l_2793,l_2796))) ((Fa l_2793 (x_2803,x_2804) (c:Int)).bind λl_2840=>(AU l_2796 ([x_2803]:LI)).bind λl_2848=>(D.b1 T x_2804 x_2803).bind λy_2856=>some (.inl (l_2840,l_2848,x_2804,y_2856)))) (M,([]:LI),x0,y0)).bind k=k (MpL T M (c:Int) d (Cx (fcT T) d),face):=by
 obtain⟨p0,p1,p2⟩:=E9 R.perm hd.1
 have hple:=perN_le R.perm hd.1
 subst hx hy
 have hout:∀i,¬S (itN (fcT T) i d):=λi h=>hn (hM.cl _ _ h (CB R.perm hd.1 ⟨i,rfl⟩))
 have split:∀i,itN (fcT T) i d/16<16∧itN (fcT T) i d%16<16∧itN (fcT T) i d=itN (fcT T) i d/16*16+itN (fcT T) i d%16:=λi=>by
  have:=(orb_dart R hd i).1
  omega
 have mnone:∀i,By M (((itN (fcT T) i d/16:Nat):Int),((itN (fcT T) i d%16:Nat):Int))=none:=λi=>by
  obtain⟨h1,h2,h3⟩:=split i
  exact hM.no _ _ h1 h2 (by rw[←h3];exact hout i)
 refine⟨(List.range (Cx (fcT T) d)).map λi=>((itN (fcT T) i d/16:Nat):Int),by simpa using hple,?_⟩
 refine CT (λj=>(MpL T M (c:Int) d j,(List.range j).map (λi=>((itN (fcT T) i d/16:Nat):Int)),((itN (fcT T) j d/16:Nat):Int),((itN (fcT T) j d%16:Nat):Int))) (Cx (fcT T) d) _ rfl (λj hj=> ?_) ?_
 ·obtain⟨h1,h2,h3⟩:=split j
  have hnone:By (MpL T M (c:Int) d j) (((itN (fcT T) j d/16:Nat):Int),((itN (fcT T) j d%16:Nat):Int))=none:=by
   rw[Eu R hd _ _ h1 h2 j,mnone j,if_neg (by simp),if_neg]
   rintro⟨i,hi,e⟩
   rw[←h3] at e
   exact p2 (j-i) (by omega) (by omega) (FE R.perm hd.1 (by omega) e)
  obtain⟨s,t,hs,ht,e,ha⟩:=DH (orb_dart R hd j)
  have es:itN (fcT T) j d/16=s:=by rw[e,(dd ht).1]
  have et:itN (fcT T) j d%16=t:=by rw[e,(dd ht).2]
  obtain⟨w,ew,hw,_⟩:=R.nxt (R.sym ha)
  have hnext:itN (fcT T) (j+1) d=t*16+w:=by
   show fcT T (itN (fcT T) j d)=_
   rw[e,CP hs ht ha,ew,Int.toNat_natCast]
  have hput:Fa (MpL T M (c:Int) d j) (((itN (fcT T) j d/16:Nat):Int),((itN (fcT T) j d%16:Nat):Int)) (c:Int)=some (MpL T M (c:Int) d (j+1)):=by
   unfold Fa
   rw[hnone,if_neg (by simp)]
   rfl
  have hlen:((List.range j).map (λi=>((itN (fcT T) i d/16:Nat):Int))).length=j:=by simp
  simp only[hnone,Option.isSome_none,cF,hput,bs]
  rw[Bp (by rw[hlen];simp;omega),bs,et,es,R.after (R.sym ha),bs,ew,hnext,(dd hw).1,(dd hw).2,List.range_succ,List.map_append,List.map_cons,List.map_nil,es]
 ·have hsome:(By (MpL T M (c:Int) d (Cx (fcT T) d)) (((itN (fcT T) (Cx (fcT T) d) d/16:Nat):Int),((itN (fcT T) (Cx (fcT T) d) d%16:Nat):Int))).isSome=true:=by
   obtain⟨h1,h2,h3⟩:=split (Cx (fcT T) d)
   rw[Eu R hd _ _ h1 h2 _,mnone,if_neg (by simp),if_pos ⟨0,p0,by rw[←h3,p1];rfl⟩];rfl
  simp only[hsome,cT]
theorem MInv.next {d:Nat}(hd:dart T d){S:Nat→Prop}{M:List ((Int×Int)×Int)}{c:Nat}(hM:MInv T M c S)(hn:¬S d):MInv T (MpL T M (c:Int) d (Cx (fcT T) d)) (c+1) (λe=>S e∨Br (fcT T) d e):=by
 have hout:∀e,Br (fcT T) d e→¬S e:=λe o h=>hn (hM.cl _ _ h (CB R.perm hd.1 o))
 have old:∀s t:Nat,s<16→t<16→S (s*16+t)→By (MpL T M (c:Int) d (Cx (fcT T) d)) ((s:Int),(t:Int))=By M ((s:Int),(t:Int)):=λs t hs ht h=>by
  obtain⟨k,e,_⟩:=hM.val s t hs ht h
  rw[Eu R hd s t hs ht,e,if_pos (by simp)]
 have new:∀s t:Nat,s<16→t<16→Br (fcT T) d (s*16+t)→By (MpL T M (c:Int) d (Cx (fcT T) d)) ((s:Int),(t:Int))=some (c:Int):=λs t hs ht o=>by
  rw[Eu R hd s t hs ht,hM.no s t hs ht (hout _ o),if_neg (by simp),if_pos (orb_mod R.perm hd.1 o)]
 refine⟨λe h=> ?_,λx e h o=> ?_,λs t hs ht h=> ?_,λs t hs ht h=> ?_,λs t s' t' hs ht hs' ht' h h'=> ?_⟩
 ·rcases h with h|h
  ·exact hM.da e h
  ·exact(orb_rch R hd h).1
 ·rcases h with h|h
  ·exact .inl (hM.cl x e h o)
  ·exact .inr (Dt h o)
 ·rw[Eu R hd s t hs ht,hM.no s t hs ht (λh'=>h (.inl h')),if_neg (by simp),if_neg]
  rintro⟨i,_,e⟩
  exact h (.inr ⟨i,e⟩)
 ·rcases h with h|h
  ·obtain⟨k,e,hk⟩:=hM.val s t hs ht h
   exact⟨k,(old s t hs ht h).trans e,by omega⟩
  ·exact⟨c,new s t hs ht h,by omega⟩
 ·rcases h with h|h<;>rcases h' with h'|h'
  ·rw[old s t hs ht h,old s' t' hs' ht' h'];exact hM.same s t s' t' hs ht hs' ht' h h'
  ·rw[old s t hs ht h,new s' t' hs' ht' h']
   obtain⟨k,e,hk⟩:=hM.val s t hs ht h
   rw[e]
   refine⟨λe'=> ?_,λo=>absurd (hM.cl _ _ h o) (hout _ h')⟩
   have:=Option.some.inj e';omega
  ·rw[new s t hs ht h,old s' t' hs' ht' h']
   obtain⟨k,e,hk⟩:=hM.val s' t' hs' ht' h'
   rw[e]
   refine⟨λe'=> ?_,λo=>absurd (Dt h o) (λo'=>hout _ o' h')⟩
   have:=Option.some.inj e';omega
  ·rw[new s t hs ht h,new s' t' hs' ht' h']
   exact⟨λ_=>Dt (CB R.perm hd.1 h) h',λ_=>rfl⟩
theorem RS.faces :∃y,D.c2 T=some y∧∀s t s' t':Nat,s<16→t<16→s'<16→t'<16→adj T s t→adj T s' t'→((By y.2 ((s:Int),(t:Int))).getD 0=(By y.2 ((s':Int),(t':Int))).getD 0↔Br (fcT T) (s*16+t) (s'*16+t')):=by
 have h16:=R.n16
 unfold D.c2
 refine AZ (λs:LL×List ((Int×Int)×Int)×Int=>∃S u,s.2.2=((u:Nat):Int)∧u≤T.length∧MInv T s.2.1 s.1.length S∧s.1.length≤16*u∧∀x y,x<u→adj T x y→S (x*16+y)) (λs=>T.length-s.2.2.toNat)
  (λr=>∃S,MInv T r.2 r.1.length S∧∀x y,adj T x y→S (x*16+y)) ?_ ⟨λ_=>False,0,rfl,Nat.zero_le _,⟨λ_ h=>h.elim,λ_ _ h _=>h,λ_ _ _ _ _=>rfl,λ_ _ _ _ h=>h.elim,λ_ _ _ _ _ _ _ _ h _=>h.elim⟩,Nat.zero_le _,λx y h _=>absurd h (Nat.not_lt_zero _)⟩ (λr hr=> ?_)
 ·rintro⟨out,M,x⟩ ⟨S,u,rfl,hu,hM,hol,hS⟩
  dsimp only at hM hol hS ⊢
  by_cases hul:u<T.length
  ·have hrl:=R.rlen u
   obtain⟨y,_,ey,hp,_⟩:=sorted_any (row T u) (by omega)
   have hyl:y.length=(row T u).length:=hp.length_eq
   rw[dlt hul,cT,B4 hul,bs,ey,bs]
   refine AZ (λs:LL×List ((Int×Int)×Int)×Int=>∃S k,s.2.2=((k:Nat):Int)∧k≤y.length∧MInv T s.2.1 s.1.length S∧s.1.length≤16*u+k∧(∀x y,x<u→adj T x y→S (x*16+y))∧∀v:Nat,(v:Int)∈y.take k→S (u*16+v)) (λs=>y.length-s.2.2.toNat)
    (λr:LL×List ((Int×Int)×Int)=>∃S,MInv T r.2 r.1.length S∧r.1.length≤16*(u+1)∧∀x y,x<u+1→adj T x y→S (x*16+y)) ?_ ⟨S,0,rfl,Nat.zero_le _,hM,by dsimp only;omega,hS,λv h=>by simp at h⟩ (λr hr=> ?_)
   ·rintro⟨out,M,x⟩ ⟨S,k,rfl,hk,hM,hol,hS,hv⟩
    dsimp only at hM hol hS hv ⊢
    by_cases hkl:k<y.length
    ·obtain⟨v,e1,hv16,_,_⟩:=R.mem u _ (hp.mem_iff.1 (List.getElem_mem hkl))
     have ha:adj T u v:=by unfold adj;rw[←e1];exact hp.mem_iff.1 (List.getElem_mem hkl)
     have hu16:u<16:=by omega
     have hda:=(DW hu16 hv16).2 ha
     rw[dlt hkl,cT,AS hkl,e1,bs]
     have htk:∀{S':Nat→Prop},(∀v:Nat,(v:Int)∈y.take k→S' (u*16+v))→S' (u*16+v)→∀w:Nat,(w:Int)∈y.take (k+1)→S' (u*16+w):=fun{S'} h1 h2 w hw=>by
      rw[List.take_succ_eq_append_getElem hkl,List.mem_append,List.mem_singleton,e1] at hw
      rcases hw with hw|hw
      ·exact h1 w hw
      ·obtain rfl:w=v:=by omega
       exact h2
     by_cases hs:S (u*16+v)
     ·obtain⟨z,ez,_⟩:=hM.val u v hu16 hv16 hs
      rw[ez,Option.isSome_some,cT,wi (by omega)]
      exact⟨_,rfl,⟨S,k+1,rfl,hkl,hM,by dsimp only;omega,hS,htk hv hs⟩,by dsimp only;omega⟩
     ·rw[hM.no u v hu16 hv16 hs,Option.isSome_none,cF]
      obtain⟨face,hfl,hw⟩:=R.walk hda hM hs (fun(z:List ((Int×Int)×Int)×LI)=>match z with|(l_2830,l_2833)=>(AU out [l_2833]).bind λl_2866=>(some (.inl (l_2866,l_2830,(IntKind.i64.wrap ((k:Int)+1)))):Option ((LL×List ((Int×Int)×Int)×Int) ⊕ (LL×List ((Int×Int)×Int))))) (x0:=(u:Int)) (y0:=(v:Int)) (by rw[(dd hv16).1]) (by rw[(dd hv16).2])
      refine⟨.inl (out++[face],MpL T M (out.length:Int) (u*16+v) (Cx (fcT T) (u*16+v)),((k+1:Nat):Int)),hw.trans ?_,?_⟩
      ·dsimp only
       rw[Bp (by simp;omega),bs,wi (by omega)]
      ·have hN:=MInv.next R hda hM hs
       refine⟨⟨_,k+1,rfl,hkl,by dsimp only;rw[List.length_append];exact hN,by dsimp only;rw[List.length_append,List.length_singleton];omega,λx y h1 h2=>Or.inl (hS x y h1 h2),htk (λw hw=>Or.inl (hv w hw)) (Or.inr (EL _ _))⟩,by dsimp only;omega⟩
    ·obtain rfl:k=y.length:=by omega
     rw[Bx,cF]
     refine⟨_,rfl,S,hM,by dsimp only;omega,λx z h1 h2=> ?_⟩
     by_cases e:x=u
     ·subst e
      refine hv z ?_
      rw[List.take_length]
      exact hp.mem_iff.2 h2
     ·exact hS x z (by omega) h2
   ·obtain⟨out,M⟩:=r
    obtain⟨S,hM,hol,hS⟩:=hr
    dsimp only at hM hol ⊢
    rw[wi (by omega)]
    exact⟨_,rfl,⟨S,u+1,rfl,hul,hM,hol,hS⟩,by dsimp only;omega⟩
  ·obtain rfl:u=T.length:=by omega
   rw[Bx,cF]
   exact⟨_,rfl,S,hM,λx y h=>hS x y (Ey h) h⟩
 ·obtain⟨out,M⟩:=r
  obtain⟨S,hM,hS⟩:=hr
  refine⟨_,rfl,λs t s' t' hs ht hs' ht' ha ha'=> ?_⟩
  have h1:=hS s t ha
  have h2:=hS s' t' ha'
  obtain⟨k,e,_⟩:=hM.val s t hs ht h1
  obtain⟨k',e',_⟩:=hM.val s' t' hs' ht' h2
  rw[←hM.same s t s' t' hs ht hs' ht' h1 h2]
  dsimp only at e e' ⊢
  rw[e,e']
  simp
end
end Go.Sx

namespace Go.Sx
open Go.Lib
end Go.Sx

namespace Go.Sx
open Go
end Go.Sx

namespace Go.Sx
open Go
end Go.Sx

namespace Go.Sx
open Go
end Go.Sx

namespace Go.Sx
open Go
end Go.Sx

namespace Go.Sx
open Go
end Go.Sx

namespace Go.Sx
open Go
end Go.Sx

namespace Go.Sx
theorem Min_ok (l:LI)(h16:l.length≤16)(h0:l≠[]):∃m,D.G1 l=some m∧m∈l:=by
 have hl:0<l.length:=List.length_pos_iff.2 h0
 unfold D.G1
 rw[decide_eq_false (show¬((l.length:Int)<1) by omega),cF,show idx l 0=some l[0] from AS hl,bs]
 refine AZ (λs:Int×Int=>s.1∈l∧∃k:Nat,s.2=(k:Int)∧k≤l.length) (λs=>l.length-s.2.toNat) (λr=>r∈l) ?_ ⟨List.getElem_mem hl,1,rfl,hl⟩ (λr hr=>⟨r,rfl,hr⟩)
 rintro⟨m,_⟩ ⟨hm,k,rfl,hk⟩
 dsimp only at hm ⊢
 by_cases hkl:k<l.length
 ·rw[dlt hkl,cT,AS hkl,bs,wi (by omega)]
  refine⟨_,rfl,⟨?_,k+1,rfl,hkl⟩,by dsimp only;omega⟩
  dsimp only
  split
  ·exact List.getElem_mem hkl
  ·exact hm
 ·obtain rfl:k=l.length:=by omega
  rw[Bx,cF]
  exact⟨_,rfl,hm⟩
theorem Index64_ok (l:LI)(h16:l.length≤16){x:Int}(hx:x∈l):∃k:Nat,D.s0 l x=some (k:Int)∧k<l.length:=by
 unfold D.s0
 have key:=AZ (k:=λzz:Unit ⊕ Int=>match zz with| .inl _=>some (-1)| .inr z=>some z) (Q:=λz:Int=>∃k:Nat,z=(k:Int)∧k<l.length)
  (step:=fun(x_26:Int)=>cond (decide (x_26<(l.length:Int))) ((idx l x_26).bind λe_39=>cond (x==e_39) (some (.inr (.inr x_26))) (some (.inl (IntKind.i64.wrap (x_26+1))))) (some (.inr (.inl ())))) (s:=0)
  (λs=>∃k:Nat,s=(k:Int)∧k≤l.length∧∀j (h:j<l.length),j<k→l[j]≠x) (λs=>l.length-s.toNat) (λr=>∃k:Nat,r= .inr (k:Int)∧k<l.length) ?_ ⟨0,rfl,Nat.zero_le _,λj h h'=>absurd h' (by omega)⟩ (λr hr=>by
   obtain⟨k,rfl,hk⟩:=hr
   exact⟨_,rfl,k,rfl,hk⟩)
 ·obtain⟨z,e,k,rfl,hk⟩:=key
  exact⟨k,e,hk⟩
 ·rintro _ ⟨k,rfl,hk,hb⟩
  by_cases hkl:k<l.length
  ·rw[dlt hkl,cT,AS hkl,bs]
   by_cases e:x=l[k]
   ·rw[←e,beq_self_eq_true,cT]
    exact⟨_,rfl,k,rfl,hkl⟩
   ·rw[show (x==l[k])=false from by rw[beq_eq_false_iff_ne];exact e,cF,wi (by omega)]
    refine⟨_,rfl,⟨k+1,rfl,hkl,λj h h' e'=> ?_⟩,by dsimp only;omega⟩
    by_cases ej:j=k
    ·subst ej;exact e e'.symm
    ·exact hb j h (by omega) e'
  ·exfalso
   obtain⟨j,hj,ej⟩:=List.mem_iff_getElem.1 hx
   exact hb j hj (by omega) ej
theorem Concat_two {a b:LI}(h:a.length+b.length≤64):D.M1 [a,b]=some (a++b):=by
 unfold D.M1
 rw[Cj (s':=((a.length:Int),(1:Int))) (by
   dsimp only
   rw[show decide ((0:Int)<(([a,b]:LL).length:Int))=true from rfl,cT,show idx [a,b] 0=some a from rfl,bs,w64 (by omega) (by omega),Int.zero_add,decide_eq_false (by omega),cF]
   rfl),Cj (s':=(((a.length+b.length:Nat):Int),(2:Int))) (by
   dsimp only
   rw[show decide ((1:Int)<(([a,b]:LL).length:Int))=true from rfl,cT,show idx [a,b] 1=some b from rfl,bs,w64 (by omega) (by omega),decide_eq_false (by omega),cF]
   rfl),Cr (r:=((a.length+b.length:Nat):Int)) rfl,bs]
 unfold D.V1 growD
 rw[if_pos (by omega),bs,Cj (s':=(a,(1:Int))) (by
   dsimp only
   rw[show decide ((0:Int)<(([a,b]:LL).length:Int))=true from rfl,cT,show idx [a,b] 0=some a from rfl,bs,Bp (by simp;omega),bs]
   rfl),Cj (s':=(a++b,(2:Int))) (by
   dsimp only
   rw[show decide ((1:Int)<(([a,b]:LL).length:Int))=true from rfl,cT,show idx [a,b] 1=some b from rfl,bs,Bp (by omega),bs]
   rfl),Cr (r:=a++b) rfl,bs]
theorem Cmp_ok (a b:LI)(ha:a.length≤64):∃c,D.W0 a b=some c:=by
 unfold D.W0
 have key:=AZ (k:=λzz:Unit ⊕ Int=>match zz with| .inl _=>(cond (decide ((a.length:Int)<(b.length:Int))) (some (-1)) (some 0))| .inr z=>(some z)) (Q:=λ_:Int=>True)
  (step:=fun(x_54:Int)=>cond (decide (x_54<(a.length:Int))) ((idx a x_54).bind λe_81=>cond (decide ((b.length:Int)≤x_54)) (some (.inr (.inr 1))) ((idx b x_54).bind λe_88=>(D.Y0 e_81 e_88).bind λy_94=>cond (y_94 !=0) (some (.inr (.inr y_94))) (some (.inl (IntKind.i64.wrap (x_54+1)))))) (some (.inr (.inl ())))) (s:=0)
  (λs=>∃k:Nat,s=(k:Int)∧k≤a.length) (λs=>a.length-s.toNat) (λ_=>True) ?_ ⟨0,rfl,Nat.zero_le _⟩ (λr _=>by
   cases r with
   |inl _=>dsimp only;cases decide ((a.length:Int)<(b.length:Int))<;>exact⟨_,rfl,trivial⟩
   |inr z=>exact⟨_,rfl,trivial⟩)
 ·obtain⟨z,e,_⟩:=key
  exact⟨z,e⟩
 ·rintro _ ⟨k,rfl,hk⟩
  by_cases hkl:k<a.length
  ·rw[dlt hkl,cT,AS hkl,bs]
   by_cases hb:k<b.length
   ·rw[decide_eq_false (by omega),cF,AS hb,bs,cmp64,bs]
    cases h:((if a[k]<b[k] then-1 else if b[k]<a[k] then 1 else 0:Int) !=0) with
    |true=>exact⟨_,rfl,trivial⟩
    |false=>rw[cF,wi (by omega)];exact⟨_,rfl,⟨k+1,rfl,hkl⟩,by dsimp only;omega⟩
   ·rw[decide_eq_true (by omega),cT]
    exact⟨_,rfl,trivial⟩
  ·obtain rfl:k=a.length:=by omega
   rw[Bx,cF]
   exact⟨_,rfl,trivial⟩
theorem CmpF_ok (a b:LL)(ha:a.length≤64)(ha2:∀x∈a,x.length≤64):∃c,D.w1 a b=some c:=by
 unfold D.w1
 have key:=AZ (k:=λzz:Unit ⊕ Int=>match zz with| .inl _=>(cond (decide ((a.length:Int)<(b.length:Int))) (some (-1)) (some 0))| .inr z=>(some z)) (Q:=λ_:Int=>True)
  (step:=fun(x_54:Int)=>cond (decide (x_54<(a.length:Int))) ((idx a x_54).bind λe_81=>cond (decide ((b.length:Int)≤x_54)) (some (.inr (.inr 1))) ((idx b x_54).bind λe_88=>(D.W0 e_81 e_88).bind λy_94=>cond (y_94 !=0) (some (.inr (.inr y_94))) (some (.inl (IntKind.i64.wrap (x_54+1)))))) (some (.inr (.inl ())))) (s:=0)
  (λs=>∃k:Nat,s=(k:Int)∧k≤a.length) (λs=>a.length-s.toNat) (λ_=>True) ?_ ⟨0,rfl,Nat.zero_le _⟩ (λr _=>by
   cases r with
   |inl _=>dsimp only;cases decide ((a.length:Int)<(b.length:Int))<;>exact⟨_,rfl,trivial⟩
   |inr z=>exact⟨_,rfl,trivial⟩)
 ·obtain⟨z,e,_⟩:=key
  exact⟨z,e⟩
 ·rintro _ ⟨k,rfl,hk⟩
  by_cases hkl:k<a.length
  ·rw[dlt hkl,cT,AS hkl,bs]
   by_cases hb:k<b.length
   ·obtain⟨c,ec⟩:=Cmp_ok a[k] b[k] (ha2 _ (List.getElem_mem hkl))
    rw[decide_eq_false (by omega),cF,AS hb,bs,ec,bs]
    cases h:(c !=0) with
    |true=>exact⟨_,rfl,trivial⟩
    |false=>rw[cF,wi (by omega)];exact⟨_,rfl,⟨k+1,rfl,hkl⟩,by dsimp only;omega⟩
   ·rw[decide_eq_true (by omega),cT]
    exact⟨_,rfl,trivial⟩
  ·obtain rfl:k=a.length:=by omega
   rw[Bx,cF]
   exact⟨_,rfl,trivial⟩
theorem aroundOf_ok (T:LL)(hl:T.length≤16)(h16:∀x∈T,x.length≤16):∃y,D.g1 T=some y∧y.length≤16∧∀x∈y,x.length≤16:=by
 unfold D.g1
 refine AZ (λs:Int×LL=>∃k:Nat,s.1=(k:Int)∧k≤T.length∧s.2.length=k∧∀x∈s.2,x.length≤16) (λs=>T.length-s.1.toNat) (λr=>r.length≤16∧∀x∈r,x.length≤16) ?_ ⟨0,rfl,Nat.zero_le _,rfl,λ_ h=>by cases h⟩ (λr hr=>⟨r,rfl,hr⟩)
 rintro⟨_,l⟩ ⟨k,rfl,hk,hlk,hs⟩
 dsimp only at hlk hs ⊢
 by_cases hkl:k<T.length
 ·have h6:=h16 _ (List.getElem_mem hkl)
  have hin:∀(y:LI),y.length≤16→∀x∈l++[y],x.length≤16:=λy hy x hx=>by
   rcases List.mem_append.1 hx with hx|hx
   ·exact hs x hx
   ·rw[List.mem_singleton.1 hx];exact hy
  rw[dlt hkl,cT,AS hkl,bs,Gp _ (by unfold Sh;omega),bs]
  by_cases h0:T[k]=[]
  ·rw[decide_eq_false (by rw[h0];simp),cF,Bp (by simp;omega),bs,wi (by omega)]
   exact⟨_,rfl,⟨k+1,rfl,hkl,by simp[hlk],hin _ h6⟩,by dsimp only;omega⟩
  ·have hp:=List.length_pos_iff.2 h0
   obtain⟨m,em,hm⟩:=Min_ok _ h6 h0
   obtain⟨j,ej,hj⟩:=Index64_ok _ h6 hm
   rw[decide_eq_true (by omega),cT,em,bs,ej,bs,E6 (by omega),bs,Eh (by omega),bs,Concat_two (by simp;omega),bs,bs,Bp (by simp;omega),bs,wi (by omega)]
   exact⟨_,rfl,⟨k+1,rfl,hkl,by simp[hlk],hin _ (by simp;omega)⟩,by dsimp only;omega⟩
 ·obtain rfl:k=T.length:=by omega
  rw[Bx,cF]
  exact⟨_,rfl,by omega,hs⟩
theorem Emb1_ok (T:LL)(hl:T.length≤16)(h16:∀x∈T,x.length≤16)(b:Bool)(t:LL):∃z,D.y1 T b t=some (T,true,z):=by
 obtain⟨y,e,h1,h2⟩:=aroundOf_ok T hl h16
 unfold D.y1
 rw[e,bs]
 cases b with
 |false=>exact⟨y,rfl⟩
 |true=>
  obtain⟨c,ec⟩:=CmpF_ok y t (by omega) (λx hx=>by have:=h2 x hx;omega)
  rw[ec,bs]
  show∃z,((some (decide (c<0))).bind λb_46=>cond b_46 (some (T,true,y)) (some (T,true,t)))=some (T,true,z)
  rw[bs]
  cases decide (c<0)
  ·exact⟨t,rfl⟩
  ·exact⟨y,rfl⟩
theorem put_ok {K:List (Int×Int)}{T:LL}{b:Bool}{t:LL}{u i:Nat}{v:Int}(hu:u<T.length)(hr:(row T u).length≤16)(hi:i≤16):D.d0 K T b t (u:Int) v (i:Int)=some (T.set u (BO (row T u) i v),t):=by
 unfold D.d0
 rw[B4 hu,bs,bs,FZ _ (by omega),bs,wi (by omega)]
 unfold D.u1 insD BO
 by_cases h:(row T u).length<i+1
 ·rw[if_pos (show ((row T u).length:Int)<((i+1:Nat):Int) by omega),if_pos (by simp;omega),bs,bs,bs,List.take_of_length_le (show (row T u).length≤i+1 by omega),List.drop_eq_nil_of_le (show (row T u).length≤i+1 by omega)]
  simp
 ·rw[if_neg (show¬((row T u).length:Int)<((i+1:Nat):Int) by omega),if_pos (by simp;omega),bs,bs,bs]
  simp
def lst (s:Int):Int:=((List.range 32).find? λv=>has s v).elim 0 Int.ofNat
inductive RcR (R:Nat→Nat→Prop)(x:Nat):Nat→Prop
 |rf:RcR R x x
 |st {y z:Nat}:RcR R x y→R y z→RcR R x z
theorem RcR.tr {R:Nat→Nat→Prop}{x y z:Nat}(h:RcR R x y)(h':RcR R y z):RcR R x z:=by
 induction h' with
 |rf=>exact h
 |st _ a ih=>exact ih.st a
theorem RcR.sy {R:Nat→Nat→Prop}(hs:∀x y,R x y→R y x){x y:Nat}(h:RcR R x y):RcR R y x:=by
 induction h with
 |rf=>exact .rf
 |st _ a ih=>exact(RcR.rf.st (hs _ _ a)).tr ih
theorem RcR.mono {R S:Nat→Nat→Prop}(hs:∀x y,R x y→S x y){x y:Nat}(h:RcR R x y):RcR S x y:=by
 induction h with
 |rf=>exact .rf
 |st _ a ih=>exact ih.st (hs _ _ a)
def pre (es:List (Int×Int))(x y:Nat):Prop:=((x:Int),(y:Int))∈es∨((y:Int),(x:Int))∈es
theorem pre_sy {es:List (Int×Int)}{x y:Nat}(h:pre es x y):pre es y x:=h.symm
theorem Fq {es:List (Int×Int)}{u v x y:Nat}:pre (es++[((u:Int),(v:Int))]) x y↔pre es x y∨(x=u∧y=v)∨(x=v∧y=u):=by
 unfold pre
 simp only[List.mem_append,List.mem_singleton,Prod.mk.injEq]
 constructor
 ·rintro((h|⟨h1,h2⟩)|(h|⟨h1,h2⟩))
  ·exact .inl (.inl h)
  ·exact .inr (.inl (by omega))
  ·exact .inl (.inr h)
  ·exact .inr (.inr (by omega))
 ·rintro((h|h)|⟨rfl,rfl⟩|⟨rfl,rfl⟩)
  ·exact .inl (.inl h)
  ·exact .inr (.inl h)
  ·exact .inl (.inr ⟨rfl,rfl⟩)
  ·exact .inr (.inr ⟨rfl,rfl⟩)
def CondE (es:List (Int×Int))(u v:Nat):Prop:=(∀x,¬pre es u x)∨(∀x,¬pre es v x)∨RcR (pre es) u v
def GrOk (g:LL)(es:List (Int×Int)):Prop:=∀k (_:k<es.length),∃u v:Nat,es[k]=((u:Int),(v:Int))∧adj g u v∧¬pre (es.take k) u v∧CondE (es.take k) u v
theorem GrOk.snoc {g:LL}{es:List (Int×Int)}{u v:Nat}(h:GrOk g es)(ha:adj g u v)(hn:¬pre es u v)(hc:CondE es u v):GrOk g (es++[((u:Int),(v:Int))]):=by
 intro k hk
 simp only[List.length_append,List.length_singleton] at hk
 by_cases e:k<es.length
 ·obtain⟨a,b,h1,h2,h3,h4⟩:=h k e
  refine⟨a,b,?_,h2,?_,?_⟩
  ·rw[List.getElem_append_left e];exact h1
  ·rw[List.take_append_of_le_length (by omega)];exact h3
  ·rw[List.take_append_of_le_length (by omega)];exact h4
 ·obtain rfl:k=es.length:=by omega
  refine⟨u,v,by simp,ha,?_,?_⟩
  ·rw[List.take_left];exact hn
  ·rw[List.take_left];exact hc
section
variable {g : LL} (hg : GOk g)
include hg
theorem gsym {x y:Nat}(h:adj g x y):adj g y x:=hg.sym _ _ (B5 hg h) h
theorem grc_sy {x y:Nat}(h:RcT g x y):RcT g y x:=by
 induction h with
 |rf=>exact .rf
 |st _ a ih=>exact(RcT.rf.st (gsym hg a)).tr ih
omit hg in
theorem grc_in {S:Nat→Prop}(hS:∀a b,S a→adj g a b→S b){x y:Nat}(hx:S x)(h:RcT g x y):S y:=by
 induction h with
 |rf=>exact hx
 |st _ a ih=>exact hS _ _ ih a
omit hg in
theorem pre_map {es:List (Int×Int)}{v:Nat}:∀{ys:List Nat} {x y:Nat},pre (es++ys.map λw:Nat=>((w:Int),(v:Int))) x y↔pre es x y∨(x∈ys∧y=v)∨(y∈ys∧x=v):=by
 intro ys x y
 unfold pre
 simp only[List.mem_append,List.mem_map,Prod.mk.injEq]
 constructor
 ·rintro((h|⟨a,ha,e1,e2⟩)|(h|⟨a,ha,e1,e2⟩))
  ·exact .inl (.inl h)
  ·have e3:a=x:=by omega
   subst e3
   exact .inr (.inl ⟨ha,by omega⟩)
  ·exact .inl (.inr h)
  ·have e3:a=y:=by omega
   subst e3
   exact .inr (.inr ⟨ha,by omega⟩)
 ·rintro((h|h)|⟨h,rfl⟩|⟨h,rfl⟩)
  ·exact .inl (.inl h)
  ·exact .inr (.inl h)
  ·exact .inl (.inr ⟨x,h,rfl,rfl⟩)
  ·exact .inr (.inr ⟨y,h,rfl,rfl⟩)
theorem gr_add {es:List (Int×Int)}{S:Nat→Prop}{v:Nat}(hp:∀x y,pre es x y↔adj g x y∧S x∧S y)(hJ:∀x y,S x→S y→RcT g x y→RcR (pre es) x y)(hv:¬S v):
  ∀(zs ys:List Nat),(ys++zs).Nodup→(∀w∈ys++zs,adj g w v∧S w)→GrOk g (es++ys.map λw:Nat=>((w:Int),(v:Int)))→GrOk g (es++(ys++zs).map λw:Nat=>((w:Int),(v:Int)))
 |[],ys,_,_,h=>by rw[List.append_nil];exact h
 |w::zs,ys,hnd,hin,h=>by
  have h1:=hin w (by simp)
  have h3:(ys++[w])++zs=ys++w::zs:=by simp
  have:=gr_add hp hJ hv zs (ys++[w]) (by rw[h3];exact hnd) (by rw[h3];exact hin) (by
   rw[List.map_append,←List.append_assoc]
   refine h.snoc h1.1 ?_ ?_
   ·rw[pre_map]
    rintro(h2|⟨h2,_⟩|⟨h2,e⟩)
    ·exact hv ((hp _ _).1 h2).2.2
    ·exact(List.nodup_append.1 hnd).2.2 w h2 w (by simp) rfl
    ·exact hv (hin v (by simp[h2])).2
   ·cases ys with
    |nil=>
     refine .inr (.inl λx h2=> ?_)
     rw[pre_map] at h2
     rcases h2 with h2|⟨h2,_⟩|⟨h2,_⟩
     ·exact hv ((hp _ _).1 h2).2.1
     ·cases h2
     ·cases h2
    |cons w' ys=>
     have h4:=hin w' (by simp)
     refine .inr (.inr (RcR.st ((hJ w w' h1.2 h4.2 ((RcT.rf.st h1.1).st (gsym hg h4.1))).mono λx y hxy=> ?_) ?_))
     ·exact pre_map.2 (.inl hxy)
     ·exact pre_map.2 (.inr (.inl ⟨by simp,rfl⟩)))
  rw[h3] at this
  exact this
theorem gr_next {es:List (Int×Int)}{S:Nat→Prop}{v:Nat}{xs:List Nat}(hG:GrOk g es)(hp:∀x y,pre es x y↔adj g x y∧S x∧S y)(hJ:∀x y,S x→S y→RcT g x y→RcR (pre es) x y)(hv:¬S v)
  (hnd:xs.Nodup) (hxs:∀w,w∈xs↔adj g w v∧S w) (hch:xs=[]→∀a b,S a→adj g a b→S b):
  GrOk g (es++xs.map λw:Nat=>((w:Int),(v:Int)))∧(∀x y,pre (es++xs.map λw:Nat=>((w:Int),(v:Int))) x y↔adj g x y∧(S x∨x=v)∧(S y∨y=v))∧
   ∀x y,(S x∨x=v)→(S y∨y=v)→RcT g x y→RcR (pre (es++xs.map λw:Nat=>((w:Int),(v:Int)))) x y:=by
 have hto:∀x,S x→RcT g x v→RcR (pre (es++xs.map λw:Nat=>((w:Int),(v:Int)))) x v:=λx hx h=>by
  cases xs with
  |nil=>exact absurd (grc_in (hch rfl) hx h) hv
  |cons w xs=>
   have h4:=(hxs w).1 (by simp)
   exact RcR.st ((hJ x w hx h4.2 (h.st (gsym hg h4.1))).mono λx y hxy=>pre_map.2 (.inl hxy)) (pre_map.2 (.inr (.inl ⟨by simp,rfl⟩)))
 refine⟨gr_add hg hp hJ hv xs [] hnd (λw hw=>(hxs w).1 hw) (by simpa using hG),λx y=> ?_,?_⟩
 ·rw[pre_map,hp,hxs,hxs]
  constructor
  ·rintro(⟨h1,h2,h3⟩|⟨⟨h1,h2⟩,rfl⟩|⟨⟨h1,h2⟩,rfl⟩)
   ·exact⟨h1,.inl h2,.inl h3⟩
   ·exact⟨h1,.inl h2,.inr rfl⟩
   ·exact⟨gsym hg h1,.inr rfl,.inl h2⟩
  ·rintro⟨h1,h2|rfl,h3|rfl⟩
   ·exact .inl ⟨h1,h2,h3⟩
   ·exact .inr (.inl ⟨⟨h1,h2⟩,rfl⟩)
   ·exact .inr (.inr ⟨⟨gsym hg h1,h3⟩,rfl⟩)
   ·exact absurd h1 (Gu hg _)
 ·rintro x y (hx|rfl) (hy|rfl) h
  ·exact(hJ x y hx hy h).mono λx y hxy=>pre_map.2 (.inl hxy)
  ·exact hto x hx h
  ·exact(hto y hy (grc_sy hg h)).sy λ_ _=>pre_sy
  ·exact .rf
end
end Go.Sx

namespace Go.Sx
abbrev NS :Type:=LI×LI×LL×LL
def Sit {α:Type}(X:List α)(s:Nat)(a:List α):Prop:=∀j,j<a.length→X[s+j]? =a[j]?
theorem In.setOf {n:Nat}{m:Int}(h:In n m):SetOf (Az m) (n:Int):=⟨Ch _,λx hx=>by
 obtain⟨v,_,h2,rfl⟩:=mem_elems.1 hx
 have:=h.2 v h2
 omega⟩
theorem In.len {n:Nat}{m:Int}(h:In n m):(Az m).length≤n:=by
 have:=h.setOf.length_le (by omega)
 omega
theorem In.or1 {n:Nat}(hn:n≤16){m:Int}(h:In n m){v:Nat}(hv:v<n):In n (ior .u32 m (ishl .u32 1 (v:Int))):=⟨VS.ior _ _,λw hw=>by
 rw[DC h.1 (VS.ishl _ _),CV (by omega),Bool.or_eq_true,decide_eq_true_eq] at hw
 rcases hw with hw|rfl
 ·exact h.2 w hw
 ·exact hv⟩
section
variable {g : LL} {L : NS}
end
end Go.Sx

namespace Go.Sx
section
variable {g : LL} (hg : GOk g)
include hg
theorem best_ok {s:Int}{ys:LI}(hy:∀x∈ys,∃v:Nat,x=v∧v<g.length)(hys:ys≠[])(hl:ys.length≤32){β:Type}{k:Int→Option β}{Q:β→Prop}
  (hk:∀v:Nat,(v:Int)∈ys→(∀x∈ys,dg g s x≤dg g s (v:Int))→∃y,k (v:Int)=some y∧Q y):
  ∃y,((Aw (σ:=Int×Int×Int) (ρ:=(Int)) (fun(s_865:Int×Int×Int)=>match s_865 with|(x_868,x_869,x_870)=>cond (decide (x_870<(ys.length:Int))) ((idx ys x_870).bind λe_897=>(idx (g.map mk) e_897).bind λe_903=>(D.C (iand .u32 e_903 s)).bind λy_909=>cond (decide (x_869<y_909)) (some (.inl (e_897,y_909,(IntKind.i64.wrap (x_870+1))))) (some (.inl (x_868,x_869,(IntKind.i64.wrap (x_870+1)))))) (some (.inr x_868))) ((-1),(-1),0)).bind k)=some y∧Q y:=by
 refine AZ (λs':Int×Int×Int=>∃j:Nat,s'.2.2=(j:Int)∧j≤ys.length∧(∀i (h:i<ys.length),i<j→dg g s ys[i]≤s'.2.1)∧((j=0∧s'.2.1= -1)∨(s'.1∈ys∧s'.2.1=dg g s s'.1))) (λs'=>ys.length-s'.2.2.toNat) (λr=>r∈ys∧∀x∈ys,dg g s x≤dg g s r) ?_ ⟨0,rfl,Nat.zero_le _,λi h h'=>absurd h' (by omega),.inl ⟨rfl,rfl⟩⟩ (λr hr=> ?_)
 ·rintro⟨b,m,_⟩ ⟨j,rfl,hj,hall,hb⟩
  dsimp only at hall hb ⊢
  by_cases hjl:j<ys.length
  ·obtain⟨v,ev,hv⟩:=hy _ (List.getElem_mem hjl)
   rw[dlt hjl,cT,AS hjl,bs,ev,idx_mk hg hv,bs,size_dg,bs,wi (by omega)]
   by_cases h:m<dg g s (v:Int)
   ·rw[decide_eq_true h,cT]
    refine⟨_,rfl,⟨j+1,rfl,hjl,λi hi h'=> ?_,.inr ⟨?_,rfl⟩⟩,by dsimp only;omega⟩
    ·dsimp only
     by_cases e:i=j
     ·subst e;rw[ev];exact Int.le_refl _
     ·have:=hall i hi (by omega);omega
    ·dsimp only;rw[←ev];exact List.getElem_mem hjl
   ·rw[decide_eq_false h,cF]
    refine⟨_,rfl,⟨j+1,rfl,hjl,λi hi h'=> ?_,.inr ?_⟩,by dsimp only;omega⟩
    ·dsimp only
     by_cases e:i=j
     ·subst e;rw[ev];omega
     ·exact hall i hi (by omega)
    ·rcases hb with⟨_,hb⟩|hb
     ·have:=dg_nonneg g s (v:Int);omega
     ·exact hb
  ·obtain rfl:j=ys.length:=by omega
   rw[Bx,cF]
   have hp:=List.length_pos_iff.2 hys
   rcases hb with⟨hb,_⟩|⟨hb,hm⟩
   ·omega
   ·refine⟨_,rfl,hb,λx hx=> ?_⟩
    obtain⟨i,hi,rfl⟩:=List.mem_iff_getElem.1 hx
    rw[←hm];exact hall i hi hi
 ·obtain⟨v,rfl,_⟩:=hy _ hr.1
  exact hk v hr.1 hr.2
theorem growthOf_ok :∃es,D.X0 (g.map mk)=some es∧GrOk g es∧(∀x y,pre es x y↔adj g x y)∧es.length≤1024:=by
 have h16:=hg.n16
 unfold D.X0
 refine AZ (λs:List (Int×Int)×Int=>In g.length s.2∧GrOk g s.1∧(∀x y,pre s.1 x y↔adj g x y∧El s.2 x∧El s.2 y)∧(∀x y,El s.2 x→El s.2 y→RcT g x y→RcR (pre s.1) x y)∧s.1.length≤32*(Az s.2).length)
  (λs=>g.length-(Az s.2).length) (λes=>GrOk g es∧(∀x y,pre es x y↔adj g x y)∧es.length≤1024) ?_ ⟨Gf,λk hk=>absurd hk (by simp),λx y=> ?_,λx y h=> ?_,by simp⟩ (λes h=>⟨es,rfl,h⟩)
 ·rintro⟨l,s⟩ ⟨hs,hG,hp,hJ,hl⟩
  dsimp only at hs hG hp hJ hl ⊢
  rw[FR,bs,List.length_map]
  have hsl:=hs.len
  by_cases e:s=Ee g.length
  ·rw[show (s !=Ee g.length)=false by rw[bne_eq_false_iff_eq];exact e,cF]
   have hE:∀x,El s x↔x<g.length:=λx=>by rw[e];unfold El;rw[EI h16,decide_eq_true_eq]
   exact⟨_,rfl,hG,λx y=>by
    rw[hp,hE,hE]
    exact⟨λh=>h.1,λh=>⟨h,B5 hg h,hg.lt (B5 hg h) h⟩⟩,by omega⟩
  ·rw[show (s !=Ee g.length)=true by rw[bne_iff_ne];exact e,cT,bs,Et _ (VS.iandNot _ _),bs]
   have hyv:∀x,x∈Az (iandNot .u32 (Ee g.length) s)↔∃v:Nat,x=v∧v<g.length∧¬El s v:=λx=>by
    rw[mem_elems]
    constructor
    ·rintro⟨v,hv,h,rfl⟩
     rw[CS (Fi _) hs.1,EI h16] at h
     simp only[Bool.and_eq_true,decide_eq_true_eq,Bool.not_eq_true'] at h
     exact⟨v,rfl,h.1,by unfold El;rw[h.2];simp⟩
    ·rintro⟨v,rfl,hv,h⟩
     refine⟨v,by omega,?_,rfl⟩
     rw[CS (Fi _) hs.1,EI h16]
     simp only[Bool.and_eq_true,decide_eq_true_eq,Bool.not_eq_true']
     exact⟨hv,by unfold El at h;simpa using h⟩
   have hne:Az (iandNot .u32 (Ee g.length) s)≠[]:=λh0=>e (VS.ext hs.1 (Fi _) λv _=>by
    rw[EI h16]
    by_cases hv:v<g.length
    ·rw[decide_eq_true hv]
     refine Classical.byContradiction λhn=> ?_
     have:=(hyv (v:Int)).2 ⟨v,rfl,hv,hn⟩
     rw[h0] at this;cases this
    ·rw[decide_eq_false hv]
     cases h:has s v
     ·rfl
     ·exact absurd (hs.2 v h) hv)
   refine best_ok hg (λx hx=>by obtain⟨v,h1,h2,_⟩:=(hyv x).1 hx;exact⟨v,h1,h2⟩) hne (CX _) λv hv hbest=> ?_
   obtain⟨v',ev,hvl,hvs⟩:=(hyv _).1 hv
   obtain rfl:v=v':=by omega
   rw[idx_mk hg hvl,bs,Et _ (VS.iand _ _),bs,Db,loop_app (Az (iand .u32 (mk (row g v)) s)) (λl x=>(l,x)) (λx=>(x,(v:Int))) l (by have:=CX (iand .u32 (mk (row g v)) s);omega) (λs' i hi=>by
    dsimp only
    rw[dlt hi,cT,AS hi,bs,wi (by have:=CX (iand .u32 (mk (row g v)) s);omega)]) (λs'=>by
    dsimp only
    rw[Bx,cF]),bs]
   have hx:∀w:Nat,(w:Int)∈Az (iand .u32 (mk (row g v)) s)↔adj g w v∧El s w:=λw=>by
    rw[BS (VS.iand _ _),EF (VS.mk _) hs.1,Bool.and_eq_true,has_row hg hvl]
    exact⟨λh=>⟨gsym hg h.1,h.2⟩,λh=>⟨gsym hg h.1,h.2⟩⟩
   have hmap:(Az (iand .u32 (mk (row g v)) s)).map (λx=>(x,(v:Int)))=((Az (iand .u32 (mk (row g v)) s)).map Int.toNat).map λw:Nat=>((w:Int),(v:Int)):=by
    rw[List.map_map]
    refine List.map_congr_left λx hx=> ?_
    have:=DO _ x hx
    show (x,(v:Int))=(((x.toNat:Nat):Int),(v:Int))
    rw[Int.toNat_of_nonneg this]
   have hmem:∀w:Nat,w∈(Az (iand .u32 (mk (row g v)) s)).map Int.toNat↔adj g w v∧El s w:=λw=>by
    rw[←hx,List.mem_map]
    constructor
    ·rintro⟨x,h,rfl⟩
     rw[Int.toNat_of_nonneg (DO _ x h)];exact h
    ·intro h
     exact⟨_,h,rfl⟩
   obtain⟨h1,h2,h3⟩:=gr_next hg (S:=El s) (v:=v) (xs:=(Az (iand .u32 (mk (row g v)) s)).map Int.toNat) hG hp hJ hvs (List.pairwise_map.2 ((Ch _).imp_of_mem fun{a b} ha hb hab=>by
    have:=DO _ a ha
    have:=DO _ b hb
    omega)) hmem (λh0 a b ha hab=>Classical.byContradiction λhb=>by
     have hbl:=hg.lt (B5 hg hab) hab
     have:=hbest (b:Int) ((hyv _).2 ⟨b,rfl,hbl,hb⟩)
     have hz:dg g s (v:Int)=0:=by
      unfold dg
      rw[Int.toNat_natCast]
      rw[List.map_eq_nil_iff] at h0
      rw[h0];rfl
     have hm:(a:Int)∈Az (iand .u32 (mk (row g b)) s):=by
      rw[BS (VS.iand _ _),EF (VS.mk _) hs.1,Bool.and_eq_true,has_row hg hbl]
      exact⟨gsym hg hab,ha⟩
     have hp':=List.length_pos_of_mem hm
     rw[hz] at this
     unfold dg at this
     rw[Int.toNat_natCast] at this
     omega)
   rw[←hmap] at h1 h2 h3
   have hor:∀w,El (ior .u32 s (ishl .u32 1 (v:Int))) w↔El s w∨w=v:=λw=>by
    unfold El
    rw[Ex hs.1 (by omega),Bool.or_eq_true,decide_eq_true_eq]
   have hlen:=elems_more h16 hs hvl (by unfold El at hvs;simpa using hvs)
   refine⟨_,rfl,⟨hs.or1 h16 hvl,h1,λx y=> ?_,λx y hx hy=> ?_,?_⟩,?_⟩
   ·dsimp only;rw[hor,hor];exact h2 x y
   ·dsimp only at hx hy ⊢
    exact h3 x y ((hor _).1 hx) ((hor _).1 hy)
   ·dsimp only
    rw[hlen,List.length_append,List.length_map]
    have:=CX (iand .u32 (mk (row g v)) s)
    omega
   ·dsimp only
    rw[hlen]
    have:=(hs.or1 h16 hvl).len
    rw[hlen] at this
    omega
 ·constructor
  ·rintro(h|h)<;>cases h
  ·rintro⟨_,h,_⟩
   unfold El at h;rw[Cc] at h;cases h
 ·unfold El at h;rw[Cc] at h;cases h
end
end Go.Sx

namespace Go.Sx
def OkIM (T:LL)(u v i m:Nat):Prop:=row T u≠[]→row T v≠[]→Br (fcT T) (((row T u).getD i 0).toNat*16+u) (((row T v).getD m 0).toNat*16+v)
def Em :List (Int×Int)→LL→Prop
 |[],_=>True
 |e::es,T=>∃i m,i<max 1 (row T e.1.toNat).length∧m<max 1 (row T e.2.toNat).length∧OkIM T e.1.toNat e.2.toNat i m∧Em es (Bl T e.1.toNat e.2.toNat i m)
theorem max1 (n:Nat):(if(n:Int)<1 then(1:Int) else(n:Int))=((max 1 n:Nat):Int):=by split<;>omega
theorem put_back {T:LL}{u v i m:Nat}(hu:u<T.length)(hv:v<T.length):((Bl T u v i m).set u (row T u)).set v (row T v)=T:=by
 unfold Bl
 refine List.ext_getElem (by simp) λj h1 h2=> ?_
 simp only[List.getElem_set]
 by_cases e1:v=j
 ·subst e1;rw[if_pos rfl,Ea hv]
 ·rw[if_neg e1,if_neg e1]
  by_cases e2:u=j
  ·subst e2;rw[if_pos rfl,Ea hu]
  ·rw[if_neg e2,if_neg e2]
theorem put2_ok {K:List (Int×Int)}{T:LL}{b:Bool}{t:LL}{u v i m:Nat}(R:RS T)(hu:u<T.length)(hv:v<T.length)(hne:u≠v)(hi:i≤16)(hm:m≤16){β:Type}(k:LL×LL→Option β):
  ((D.d0 K T b t (u:Int) (v:Int) (i:Int)).bind λy=>(D.d0 K y.1 b y.2 (v:Int) (u:Int) (m:Int)).bind k)=k (Bl T u v i m,t):=by
 have hr:row (T.set u (BO (row T u) i (v:Int))) v=row T v:=by
  unfold row
  rw[List.getD_eq_getElem?_getD,List.getElem?_set_ne hne,List.getD_eq_getElem?_getD]
 rw[put_ok hu (R.rlen u) hi,bs,put_ok (by simpa using hv) (by rw[hr];exact R.rlen v) hm,bs,hr]
 rfl
section
variable {T : LL} (R : RS T)
include R
theorem ck_ok {y2:List ((Int×Int)×Int)}(hf:∀s t s' t':Nat,s<16→t<16→s'<16→t'<16→adj T s t→adj T s' t'→((By y2 ((s:Int),(t:Int))).getD 0=(By y2 ((s':Int),(t':Int))).getD 0↔Br (fcT T) (s*16+t) (s'*16+t')))
  {u v i m:Nat} (hi:i<max 1 (row T u).length) (hm:m<max 1 (row T v).length) (hu:u<16) (hv:v<16):
  ∃c:Bool,(cond ((decide ((0:Int)<((row T u).length:Int)))&&(decide ((0:Int)<((row T v).length:Int)))) ((idx (row T u) (i:Int)).bind λe_1840=>(idx (row T v) (m:Int)).bind λe_1847=>some (((By y2 (e_1840,(u:Int))).getD 0) !=((By y2 (e_1847,(v:Int))).getD 0))) (some false))=some c∧(c=true↔¬OkIM T u v i m):=by
 by_cases h1:row T u=[]
 ·refine⟨false,?_,?_⟩
  ·rw[show decide ((0:Int)<((row T u).length:Int))=false by rw[h1];rfl,Bool.false_and,cF]
  ·exact⟨λh=>(by cases h),λh=>absurd (λh'=>absurd h1 h') h⟩
 ·by_cases h2:row T v=[]
  ·refine⟨false,?_,?_⟩
   ·rw[show decide ((0:Int)<((row T v).length:Int))=false by rw[h2];rfl,Bool.and_false,cF]
   ·exact⟨λh=>(by cases h),λh=>absurd (λ_ h'=>absurd h2 h') h⟩
  ·have p1:=List.length_pos_iff.2 h1
   have p2:=List.length_pos_iff.2 h2
   have hi':i<(row T u).length:=by omega
   have hm':m<(row T v).length:=by omega
   obtain⟨a,ea,ha16,_,haa⟩:=R.mem u _ (List.getElem_mem hi')
   obtain⟨b,eb,hb16,_,hbb⟩:=R.mem v _ (List.getElem_mem hm')
   rw[decide_eq_true (show (0:Int)<((row T u).length:Int) by omega),decide_eq_true (show (0:Int)<((row T v).length:Int) by omega),Bool.and_self,cT,AS hi',bs,AS hm',bs,ea,eb]
   refine⟨_,rfl,?_⟩
   rw[bne_iff_ne,ne_eq,hf a u b v ha16 hu hb16 hv haa hbb]
   unfold OkIM
   rw[AW hi',AW hm',ea,eb,Int.toNat_natCast,Int.toNat_natCast]
   exact⟨λh h'=>h (h' h1 h2),λh h'=>h λ_ _=>h'⟩
end
section
variable {g : LL} (hg : GOk g) {es : List (Int × Int)} (hG : GrOk g es) (hE : es.length ≤ 1024)
include hg hG hE
theorem growE_ok :∀(j k:Nat) (T:LL),k+j=es.length→RS T→T.length=g.length→(∀x y,adj T x y↔pre (es.take k) x y)→∀(fuel:Nat) (b:Bool) (t:LL),j<fuel→
  ∃z,D.w0 fuel es T b t (k:Int)=some z∧z.1=T∧(z.2.1=true↔b=true∨Em (es.drop k) T)
 |0,k,T,hk,R,hT,ha,fuel,b,t,hf=>by
  obtain⟨f,rfl⟩:∃f,fuel=f+1:=⟨fuel-1,by omega⟩
  unfold D.w0
  have h16:=R.n16
  obtain⟨z,ez⟩:=Emb1_ok T h16 (λx hx=>by
   obtain⟨i,hi,rfl⟩:=List.mem_iff_getElem.1 hx
   have:=R.rlen i
   rw[Ea hi] at this;exact this) b t
  rw[show ((k:Int)==(es.length:Int))=true by rw[beq_iff_eq];omega,cT,ez,bs]
  refine⟨_,rfl,rfl,?_⟩
  rw[List.drop_eq_nil_of_le (by omega)]
  exact⟨λ_=> .inr trivial,λ_=>rfl⟩
 |j+1,k,T,hk,R,hT,ha,fuel,b,t,hf=>by
  obtain⟨f,rfl⟩:∃f,fuel=f+1:=⟨fuel-1,by omega⟩
  have hkl:k<es.length:=by omega
  have h16:=R.n16
  obtain⟨u,v,euv,hadj,hnp,_⟩:=hG k hkl
  have hu:u<T.length:=by rw[hT];exact B5 hg hadj
  have hv:v<T.length:=by rw[hT];exact hg.lt (B5 hg hadj) hadj
  have hne:u≠v:=λe=>Gu hg u (by rw[←e] at hadj;exact hadj)
  have hna:¬adj T u v:=λh=>hnp ((ha u v).1 h)
  have hdrop:es.drop k=((u:Int),(v:Int))::es.drop (k+1):=by rw[List.drop_eq_getElem_cons hkl,euv]
  unfold D.w0
  obtain⟨y,ey,hy⟩:=R.faces
  rw[show ((k:Int)==(es.length:Int))=false by rw[beq_eq_false_iff_ne];omega,cF,AS hkl,bs,bs,ey,bs,euv]
  dsimp only
  rw[B4 hu,bs,B4 hv,bs,max1,max1,hdrop]
  have hN:=R.rlen u
  have hM:=R.rlen v
  refine AZ (λs:Int×LL×Bool×LL=>∃i:Nat,s.1=(i:Int)∧i≤max 1 (row T u).length∧s.2.1=T∧(s.2.2.1=true↔b=true∨∃i' m,i'<i∧m<max 1 (row T v).length∧OkIM T u v i' m∧Em (es.drop (k+1)) (Bl T u v i' m))) (λs=>max 1 (row T u).length-s.1.toNat)
   (λr:LL×Bool×LL=>r.1=T∧(r.2.1=true↔b=true∨∃i' m,i'<max 1 (row T u).length∧m<max 1 (row T v).length∧OkIM T u v i' m∧Em (es.drop (k+1)) (Bl T u v i' m))) ?_ ⟨0,rfl,Nat.zero_le _,rfl,⟨.inl,λh=>h.elim id fun⟨i',_,h,_⟩=>absurd h (Nat.not_lt_zero _)⟩⟩ (λr hr=> ?_)
  ·rintro⟨_,l1,b1,t1⟩ ⟨i,rfl,hi,e1,hb⟩
   dsimp only at hb e1 ⊢
   subst l1
   by_cases hil:i<max 1 (row T u).length
   ·rw[dlt hil,cT]
    refine AZ (λs:Int×LL×Bool×LL=>∃m:Nat,s.1=(m:Int)∧m≤max 1 (row T v).length∧s.2.1=T∧(s.2.2.1=true↔b1=true∨∃m',m'<m∧OkIM T u v i m'∧Em (es.drop (k+1)) (Bl T u v i m'))) (λs=>max 1 (row T v).length-s.1.toNat)
     (λr:LL×Bool×LL=>r.1=T∧(r.2.1=true↔b1=true∨∃m',m'<max 1 (row T v).length∧OkIM T u v i m'∧Em (es.drop (k+1)) (Bl T u v i m'))) ?_ ⟨0,rfl,Nat.zero_le _,rfl,⟨.inl,λh=>h.elim id fun⟨i',h,_⟩=>absurd h (Nat.not_lt_zero _)⟩⟩ (λr hr=> ?_)
    ·rintro⟨_,l2,b2,t2⟩ ⟨m,rfl,hm,e2,hb2⟩
     dsimp only at hb2 e2 ⊢
     subst l2
     by_cases hml:m<max 1 (row T v).length
     ·obtain⟨c,ec,hc⟩:=ck_ok R hy (u:=u) (v:=v) hil hml (by omega) (by omega)
      rw[dlt hml,cT,ec,bs]
      cases c with
      |true=>
       rw[cT,wi (by omega)]
       refine⟨_,rfl,⟨m+1,rfl,hml,rfl,?_⟩,by dsimp only;omega⟩
       dsimp only
       rw[hb2]
       constructor
       ·rintro(h|⟨m',h1,h2⟩)
        ·exact .inl h
        ·exact .inr ⟨m',by omega,h2⟩
       ·rintro(h|⟨m',h1,h2,h3⟩)
        ·exact .inl h
        ·by_cases e:m'=m
         ·subst e;exact absurd h2 (hc.1 rfl)
         ·exact .inr ⟨m',by omega,h2,h3⟩
      |false=>
       have hok:OkIM T u v i m:=Classical.byContradiction λh=>by have:=hc.2 h;cases this
       rw[cF,put2_ok R hu hv hne (by omega) (by omega)]
       dsimp only
       rw[wi (by omega)]
       have haP:∀x y,adj (Bl T u v i m) x y↔pre (es.take (k+1)) x y:=λx y=>by
        rw[Cv R hu hv hne hna,List.take_succ_eq_append_getElem hkl,euv,Fq,ha]
       have hPl:(Bl T u v i m).length=g.length:=by rw[←hT];simp[Bl]
       obtain⟨z,ez,ez1,hz⟩:=growE_ok j (k+1) (Bl T u v i m) (by omega) (D8 R hu hv hne hna) hPl haP f b2 t2 (by omega)
       rw[ez,bs,ez1,AS (by rw[hPl,←hT];exact hu),bs,Int.toNat_natCast,Int.toNat_natCast,AS (by rw[List.length_set,hPl,←hT];exact hv),bs,put_back hu hv,wi (by omega)]
       refine⟨_,rfl,⟨m+1,rfl,hml,rfl,?_⟩,by dsimp only;omega⟩
       dsimp only
       rw[hz,hb2]
       constructor
       ·rintro((h|⟨m',h1,h2⟩)|h)
        ·exact .inl h
        ·exact .inr ⟨m',by omega,h2⟩
        ·exact .inr ⟨m,by omega,hok,h⟩
       ·rintro(h|⟨m',h1,h2,h3⟩)
        ·exact .inl (.inl h)
        ·by_cases e:m'=m
         ·subst e;exact .inr h3
         ·exact .inl (.inr ⟨m',by omega,h2,h3⟩)
     ·obtain rfl:m=max 1 (row T v).length:=by omega
      rw[Bx,cF]
      exact⟨_,rfl,rfl,hb2⟩
    ·obtain⟨l3,b3,t3⟩:=r
     obtain⟨e3,h3⟩:=hr
     dsimp only at e3 h3 ⊢
     subst l3
     rw[wi (by omega)]
     refine⟨_,rfl,⟨i+1,rfl,hil,rfl,?_⟩,by dsimp only;omega⟩
     dsimp only
     rw[h3,hb]
     constructor
     ·rintro((h|⟨i',m',h1,h2⟩)|⟨m',h1,h2⟩)
      ·exact .inl h
      ·exact .inr ⟨i',m',by omega,h2⟩
      ·exact .inr ⟨i,m',by omega,h1,h2⟩
     ·rintro(h|⟨i',m',h1,h2⟩)
      ·exact .inl (.inl h)
      ·by_cases e:i'=i
       ·subst e;exact .inr ⟨m',h2⟩
       ·exact .inl (.inr ⟨i',m',by omega,h2⟩)
   ·obtain rfl:i=max 1 (row T u).length:=by omega
    rw[Bx,cF]
    exact⟨_,rfl,rfl,hb⟩
  ·obtain⟨l3,b3,t3⟩:=r
   obtain⟨e3,h3⟩:=hr
   dsimp only at e3 h3 ⊢
   refine⟨_,rfl,e3,?_⟩
   dsimp only
   rw[h3]
   rfl
end
end Go.Sx

namespace Go.Sx
theorem sim_ins {l l':LI}(hn:l.Nodup)(hn':l'.Nodup)(hm:∀x,x∈l↔x∈l')(hx:∀x∈l,nx l x=nx l' x){i i':Nat}{x:Int}(hxl:x∉l)(hi:l≠[]→i<l.length)(hi':l≠[]→∃h:i'<l'.length,l'[i']=l.getD i 0):
  (∀y,y∈BO l i x↔y∈BO l' i' x)∧∀y∈BO l i x,nx (BO l i x) y=nx (BO l' i' x) y:=by
 refine⟨λy=>by rw[mem_insL,mem_insL,hm],λy hy=> ?_⟩
 by_cases h:l=[]
 ·have h':l'=[]:=List.eq_nil_iff_forall_not_mem.2 λz hz=>by rw[←hm,h] at hz;cases hz
  rw[h,h',Dz,Dz]
 ·obtain⟨h1,h2⟩:=hi' h
  have h3:=hi h
  rw[AW h3] at h2
  have hy':=mem_insL.1 hy
  rw[CU hn h3 hxl hy',CU hn' h1 (λh=>hxl ((hm x).2 h)) (hy'.imp id (hm y).1),h2]
  by_cases e1:y=l[i]
  ·rw[if_pos e1,if_pos e1]
  ·rw[if_neg e1,if_neg e1]
   by_cases e2:y=x
   ·rw[if_pos e2,if_pos e2];exact hx _ (List.getElem_mem h3)
   ·rw[if_neg e2,if_neg e2];exact hx _ (hy'.resolve_left e2)
theorem same_at {l l':LI}(hm:∀x,x∈l↔x∈l'){i:Nat}(hi:l≠[]→i<l.length):∃i',i'<max 1 l'.length∧(l≠[]→∃h:i'<l'.length,l'[i']=l.getD i 0):=by
 by_cases h:l=[]
 ·exact⟨0,by omega,λh'=>absurd h h'⟩
 ·have h3:=hi h
  obtain⟨i',h1,h2⟩:=List.mem_iff_getElem.1 ((hm _).1 (List.getElem_mem h3))
  exact⟨i',by omega,λ_=>⟨h1,by rw[h2,AW h3]⟩⟩
theorem sim_put {T S:LL}(h:Sim T S)(RT:RS T)(R:RS S){u v i m i' m':Nat}(hu:u<S.length)(hv:v<S.length)(hne:u≠v)(hna:¬adj S u v)(hi:row S u≠[]→i<(row S u).length)(hm:row S v≠[]→m<(row S v).length)
  (hi':row S u≠[]→∃h:i'<(row T u).length,(row T u)[i']=(row S u).getD i 0) (hm':row S v≠[]→∃h:m'<(row T v).length,(row T v)[m']=(row S v).getD m 0):Sim (Bl T u v i' m') (Bl S u v i m):=by
 have hl:=h.len
 have hs:=h.sy
 have hnaT:¬adj T u v:=λha=>hna (h.adj.1 ha)
 have hvu:¬adj S v u:=λha=>hna (R.sym ha)
 have a1:=sim_ins (R.nd u) (RT.nd u) (hs.mem u) (hs.nx u) (x:=(v:Int)) (i:=i) (i':=i') hna hi hi'
 have a2:=sim_ins (R.nd v) (RT.nd v) (hs.mem v) (hs.nx v) (x:=(u:Int)) (i:=m) (i':=m') hvu hm hm'
 refine Sim.sy ⟨by simp[Bl,hl],λw x=> ?_,λw x=> ?_⟩
 ·rw[Ct R hu hv hne hna,Ct RT (by rw[hl];exact hu) (by rw[hl];exact hv) hne hnaT]
  by_cases e1:w=u
  ·rw[if_pos e1,if_pos e1];exact a1.1 x
  ·rw[if_neg e1,if_neg e1]
   by_cases e2:w=v
   ·rw[if_pos e2,if_pos e2];exact a2.1 x
   ·rw[if_neg e2,if_neg e2];exact hs.mem w x
 ·rw[Ct R hu hv hne hna,Ct RT (by rw[hl];exact hu) (by rw[hl];exact hv) hne hnaT]
  by_cases e1:w=u
  ·rw[if_pos e1,if_pos e1];exact a1.2 x
  ·rw[if_neg e1,if_neg e1]
   by_cases e2:w=v
   ·rw[if_pos e2,if_pos e2];exact a2.2 x
   ·rw[if_neg e2,if_neg e2];exact hs.nx w x
theorem rcr_rct {T:LL}{P:Nat→Nat→Prop}(ha:∀x y,adj T x y↔P x y){x y:Nat}(h:RcR P x y):RcT T x y:=by
 induction h with
 |rf=>exact .rf
 |st _ a ih=>exact ih.st ((ha _ _).2 a)
section
variable {g : LL} (hg : GOk g) {es : List (Int × Int)} (hG : GrOk g es)
include hg hG
theorem edge_at {k:Nat}(hk:k<es.length){T:LL}(hT:T.length=g.length)(ha:∀x y,adj T x y↔pre (es.take k) x y):∃u v:Nat,es[k]=((u:Int),(v:Int))∧u<T.length∧v<T.length∧u≠v∧¬adj T u v∧(row T u≠[]→row T v≠[]→RS T→RcT T u v)∧∀x y,adj T x y∨(x=u∧y=v)∨(x=v∧y=u)↔pre (es.take (k+1)) x y:=by
 obtain⟨u,v,euv,hadj,hnp,hc⟩:=hG k hk
 refine⟨u,v,euv,by rw[hT];exact B5 hg hadj,by rw[hT];exact hg.lt (B5 hg hadj) hadj,λe=>Gu hg u (by rw[←e] at hadj;exact hadj),λh=>hnp ((ha u v).1 h),λh1 h2 R=> ?_,λx y=> ?_⟩
 ·have hb:∀w,row T w≠[]→∃x:Nat,pre (es.take k) w x:=λw hw=>by
   obtain⟨z,hz⟩:=List.exists_mem_of_ne_nil _ hw
   obtain⟨x,rfl,_⟩:=R.mem w z hz
   exact⟨x,(ha w x).1 hz⟩
  obtain⟨x,hx⟩:=hb u h1
  obtain⟨y,hy⟩:=hb v h2
  rcases hc with hc|hc|hc
  ·exact absurd hx (hc x)
  ·exact absurd hy (hc y)
  ·exact rcr_rct ha hc
 ·rw[List.take_succ_eq_append_getElem hk,euv,Fq,ha]
theorem em_pln (hE:∀x y,pre es x y↔adj g x y):∀(j k:Nat) (T:LL),k+j=es.length→RS T→T.length=g.length→(∀x y,adj T x y↔pre (es.take k) x y)→dfc T=0→Em (es.drop k) T→Pln g
 |0,k,T,hk,R,hT,ha,hd,_=>⟨T,R,hT,λx y=>by rw[ha,List.take_of_length_le (by omega),hE],hd⟩
 |j+1,k,T,hk,R,hT,ha,hd,hem=>by
  have hkl:k<es.length:=by omega
  obtain⟨u,v,euv,hu,hv,hne,hna,hr,haP⟩:=edge_at hg hG hkl hT ha
  rw[List.drop_eq_getElem_cons hkl,euv] at hem
  obtain⟨i,m,hi,hm,hok,hem⟩:=hem
  rw[Int.toNat_natCast,Int.toNat_natCast] at hem hok
  rw[Int.toNat_natCast] at hi hm
  refine em_pln hE j (k+1) (Bl T u v i m) (by omega) (D8 R hu hv hne hna) (by rw[←hT];simp[Bl]) (λx y=>by rw[Cv R hu hv hne hna,haP]) ?_ hem
  rw[(Fk R hu hv hne hna (λh=>by have:=List.length_pos_iff.2 h;omega) (λh=>by have:=List.length_pos_iff.2 h;omega)).2 λhb=>hb.2.2.2 (hok hb.1 hb.2.1)]
  exact hd
theorem pln_em :∀(k:Nat) (S:LL),k≤es.length→RS S→S.length=g.length→(∀x y,adj S x y↔pre (es.take k) x y)→dfc S=0→∃T,RS T∧Sim T S∧(Em (es.drop k) T→Em es (List.replicate g.length []))
 |0,S,_,R,hS,ha,_=>by
  have hnil:∀w,row S w=[]:=λw=>List.eq_nil_iff_forall_not_mem.2 λz hz=>by
   obtain⟨x,rfl,_⟩:=R.mem w z hz
   rcases(ha w x).1 hz with h|h<;>cases h
  have:S=List.replicate g.length []:=List.ext_getElem (by simp[hS]) λi h1 h2=>by
   rw[List.getElem_replicate,←Ea h1];exact hnil i
  refine⟨S,R,Sim.rf S,λh=> ?_⟩
  rw[←this];exact h
 |k+1,S,hk,R,hS,ha,hd=>by
  have hkl:k<es.length:=by omega
  obtain⟨u,v,euv,hadj,hnp,hc⟩:=hG k hkl
  have hauv:adj S u v:=by rw[ha,List.take_succ_eq_append_getElem hkl,euv,Fq];exact .inr (.inl ⟨rfl,rfl⟩)
  obtain⟨hd',i,m,hi,hm,hsim,hnb⟩:=EZ R hauv hd
  have RD:=D6 R hauv
  have hDl:(BG S u v).length=g.length:=by rw[Dm R hauv,hS]
  have haD:∀x y,adj (BG S u v) x y↔pre (es.take k) x y:=λx y=>by
   rw[DR R hauv,ha,List.take_succ_eq_append_getElem hkl,euv,Fq]
   constructor
   ·rintro⟨h|h|h,h1,h2⟩
    ·exact h
    ·exact absurd h h1
    ·exact absurd h h2
   ·intro h
    refine⟨.inl h,?_,?_⟩
    ·rintro⟨rfl,rfl⟩;exact hnp h
    ·rintro⟨rfl,rfl⟩;exact hnp (pre_sy h)
  obtain⟨u',v',euv',hu,hv,hne,hna,hr,haP⟩:=edge_at hg hG hkl hDl haD
  rw[euv] at euv'
  obtain⟨rfl,rfl⟩:u=u'∧v=v':=by simp only[Prod.mk.injEq] at euv';omega
  obtain⟨T,RT,hTs,hT⟩:=pln_em k (BG S u v) (by omega) RD hDl haD hd'
  obtain⟨i',hi1,hi2⟩:=same_at (λx=>(hTs.sy.mem u x)) hi
  obtain⟨m',hm1,hm2⟩:=same_at (λx=>(hTs.sy.mem v x)) hm
  have hTl:=hTs.len
  have hnaT:¬adj T u v:=λh=>hna (hTs.adj.1 h)
  refine⟨Bl T u v i' m',D8 RT (by omega) (by omega) hne hnaT,(sim_put hTs RT RD hu hv hne hna hi hm hi2 hm2).tr hsim,λhem=>hT ?_⟩
  rw[List.drop_eq_getElem_cons hkl,euv]
  refine⟨i',m',by rw[Int.toNat_natCast];exact hi1,by rw[Int.toNat_natCast];exact hm1,?_,?_⟩
  ·rw[Int.toNat_natCast,Int.toNat_natCast]
   intro h1 h2
   have h1':row (BG S u v) u≠[]:=λh=>h1 ((hTs.row_nil u).2 h)
   have h2':row (BG S u v) v≠[]:=λh=>h2 ((hTs.row_nil v).2 h)
   obtain⟨p1,e1⟩:=hi2 h1'
   obtain⟨p2,e2⟩:=hm2 h2'
   rw[AW p1,AW p2,e1,e2,hTs.fc RT]
   exact Classical.byContradiction λhn=>hnb ⟨h1',h2',hr h1' h2' RD,hn⟩
  ·rw[Int.toNat_natCast,Int.toNat_natCast];exact hem
theorem em_iff (hE:∀x y,pre es x y↔adj g x y):Em es (List.replicate g.length [])↔Pln g:=by
 have hr:∀w,row (List.replicate g.length ([]:LI)) w=[]:=λw=>by
  unfold row
  rw[List.getD_eq_getElem?_getD,List.getElem?_replicate]
  split<;>rfl
 constructor
 ·intro h
  refine em_pln hg hG hE es.length 0 (List.replicate g.length []) (by omega) ⟨by simpa using hg.n16,λv=>by rw[hr];exact List.nodup_nil,λv x hx=>by rw[hr] at hx;cases hx⟩ (by simp) (λx y=> ?_) (F9 hr) h
  constructor
  ·intro h;unfold adj at h;rw[hr] at h;cases h
  ·rintro(h|h)<;>cases h
 ·rintro⟨T,R,hT,ha,hd⟩
  obtain⟨S,RT,hs,h⟩:=pln_em hg hG es.length T (Nat.le_refl _) R hT (λx y=>by rw[ha,List.take_length,hE]) hd
  exact h (by rw[List.drop_length];exact trivial)
end
theorem GF {g:LL}(hg:GOk g)(h8:g.length≤8):∃b,D.O0 g=some b∧(b=true↔Pln g):=by
 have h16:=hg.n16
 obtain⟨es,e,hG,hE,hl⟩:=growthOf_ok hg
 unfold D.O0 D.L D.W1 D.y
 rw[isSmall_ok hg h8,bs,Bool.not_true,cF,EP g hg,bs,e,bs,List.length_map,makeD_nil _ (by omega),bs,bs]
 have hr:∀w,row (List.replicate g.length ([]:LI)) w=[]:=λw=>by
  unfold row
  rw[List.getD_eq_getElem?_getD,List.getElem?_replicate]
  split<;>rfl
 have hf:=Da
 obtain⟨z,ez,_,hz⟩:=growE_ok hg hG hl es.length 0 (List.replicate g.length []) (by omega) ⟨by simpa using hg.n16,λv=>by rw[hr];exact List.nodup_nil,λv x hx=>by rw[hr] at hx;cases hx⟩ (by simp) (λx y=>by
  constructor
  ·intro h;unfold adj at h;rw[hr] at h;cases h
  ·rintro(h|h)<;>cases h) BT false [] (by omega)
 dsimp only
 rw[show (0:Int)=((0:Nat):Int) from rfl,ez]
 refine⟨z.2.1,rfl,?_⟩
 rw[hz,List.drop_zero,em_iff hg hG hE]
 simp
end Go.Sx

namespace Go.Sx
theorem rows_same {T S:LL}(h:∀w,row T w=row S w):fcT T=fcT S∧(∀x y,RcT T x y↔RcT S x y)∧dfc T=dfc S:=by
 have hadj:∀x y,adj T x y↔adj S x y:=λx y=>by unfold adj;rw[h]
 have hda:∀d,dart T d↔dart S d:=λd=>by unfold dart;rw[hadj]
 have hfc:fcT T=fcT S:=by
  funext d
  unfold fcT
  by_cases hd:dart T d
  ·rw[if_pos hd,if_pos ((hda d).1 hd),h]
  ·rw[if_neg hd,if_neg λhh=>hd ((hda d).2 hh)]
 have hrc:∀x y,RcT T x y↔RcT S x y:=λx y=>⟨λhh=>hh.mono λ_ _ ha=>(hadj _ _).1 ha,λhh=>hh.mono λ_ _ ha=>(hadj _ _).2 ha⟩
 refine⟨hfc,hrc,?_⟩
 have h1:ClT T=ClT S:=Eb λx y _ _=>hrc x y
 have h2:ndT T=ndT S:=B2 λd _=>by rw[hda d]
 have h3:FN T=FN S:=by
  unfold FN
  rw[hfc]
  exact B2 λd _=>by rw[hda d]
 have h4:isT T=isT S:=B2 λw _=>by rw[h]
 unfold dfc
 rw[h1,h2,h3,h4]
theorem rows_RS {T S:LL}(h:∀w,row T w=row S w)(R:RS T)(hl:S.length≤16):RS S:=
 ⟨hl,λv=>by rw[←h];exact R.nd v,λv x hx=>by
  rw[←h] at hx
  obtain⟨u,e,h1,h2,h3⟩:=R.mem v x hx
  exact⟨u,e,h1,h2,by unfold adj;rw[←h];exact h3⟩⟩
theorem row_mr (D:LL)(w:Nat):row (D++[[]]) w=row D w:=by
 unfold row
 rw[List.getD_eq_getElem?_getD,List.getD_eq_getElem?_getD,List.getElem?_append]
 split
 ·rfl
 ·rename_i h
  rw[List.getElem?_eq_none (show D.length≤w by omega)]
  by_cases e:w-D.length=0
  ·rw[e];rfl
  ·rw[List.getElem?_eq_none (by simp;omega)]
theorem row_less {D:LL}{n:Nat}(hl:D.length=n+1)(hb:row D n=[])(w:Nat):row (D.take n) w=row D w:=by
 by_cases hw:w<n
 ·unfold row
  rw[List.getD_eq_getElem?_getD,List.getD_eq_getElem?_getD,List.getElem?_take_of_lt hw]
 ·rw[row_nil (by rw[List.length_take];omega)]
  by_cases e:w=n
  ·rw[e,hb]
  ·rw[row_nil (by omega)]
theorem pln_split {g g':LL}(hg:GOk g)(hn:g.length<16){u v:Nat}(hauv:adj g u v)(hl:g'.length=g.length+1)
  (ha':∀a b,adj g' a b↔(adj g a b∧¬((a=u∧b=v)∨(a=v∧b=u)))∨(a=g.length∧(b=u∨b=v))∨(b=g.length∧(a=u∨a=v))):Pln g↔Pln g':=by
 have hu:=B5 hg hauv
 have hv:=hg.lt hu hauv
 have huv:u≠v:=λe=>Gu hg u (by rw[←e] at hauv;exact hauv)
 have huw:u≠g.length:=by omega
 have hwv:g.length≠v:=by omega
 constructor
 ·rintro⟨T,R,hT,ha,hd⟩
  have hauT:=(ha u v).2 hauv
  obtain⟨hd',i,m,hi,hm,hsim,hnb⟩:=EZ R hauT hd
  have RD:=D6 R hauT
  have hDl:(BG T u v).length=g.length:=by rw[Dm R hauT,hT]
  have haD:=DR R hauT
  generalize BG T u v=D at*
  have hr:=row_mr D
  obtain⟨f1,f2,f3⟩:=rows_same hr
  have hl1:(D++[[]]).length=g.length+1:=by simp[hDl]
  have R1:RS (D++[[]]):=rows_RS (λw=>(hr w).symm) RD (by omega)
  have hwb:row (D++[[]]) g.length=[]:=by rw[hr,row_nil (by omega)]
  have ha1:∀x y,adj (D++[[]]) x y↔adj D x y:=λx y=>by unfold adj;rw[hr]
  have hu1:u<(D++[[]]).length:=by omega
  have hw1:g.length<(D++[[]]).length:=by omega
  have hna1:¬adj (D++[[]]) u g.length:=λh=>by
   have:=R1.sym h
   unfold adj at this;rw[hwb] at this;cases this
  have RE:=D8 (i:=i) (m:=0) R1 hu1 hw1 huw hna1
  have hEl:(Bl (D++[[]]) u g.length i 0).length=g.length+1:=by rw[←hl1];simp[Bl]
  have hEd:dfc (Bl (D++[[]]) u g.length i 0)=0:=by
   rw[(Fk R1 hu1 hw1 huw hna1 (by rw[hr];exact hi) (λh=>absurd hwb h)).2 (λhb=>hb.2.1 hwb),f3];exact hd'
  have haE:=Cv (i:=i) (m:=0) R1 hu1 hw1 huw hna1
  have hrE:=Ct (i:=i) (m:=0) R1 hu1 hw1 huw hna1
  have hrch:= @put_rch (D++[[]]) u g.length i 0 R1 hu1 hw1 huw hna1
  have hnaE:¬adj (Bl (D++[[]]) u g.length i 0) g.length v:=λh=>by
   rcases(haE _ _).1 h with h|⟨h,_⟩|⟨_,h⟩
   ·unfold adj at h;rw[hwb] at h;cases h
   ·omega
   ·omega
  have hrv:row (Bl (D++[[]]) u g.length i 0) v=row D v:=by rw[hrE,if_neg (Ne.symm huv),if_neg (Ne.symm hwv),hr]
  have hrw:row (Bl (D++[[]]) u g.length i 0) g.length=[(u:Int)]:=by rw[hrE,if_neg (Ne.symm huw),if_pos rfl,hwb,Dz]
  refine⟨Bl (Bl (D++[[]]) u g.length i 0) g.length v 0 m,D8 RE (by omega) (by omega) hwv hnaE,by rw[hl,←hEl];simp[Bl],λx y=> ?_,?_⟩
  ·rw[Cv RE (by omega) (by omega) hwv hnaE,haE,ha1,haD,ha,ha']
   constructor
   ·rintro((⟨h1,h2,h3⟩|h|h)|h|h)
    ·exact .inl ⟨h1,λh=>h.elim h2 h3⟩
    ·exact .inr (.inr ⟨h.2,.inl h.1⟩)
    ·exact .inr (.inl ⟨h.1,.inl h.2⟩)
    ·exact .inr (.inl ⟨h.1,.inr h.2⟩)
    ·exact .inr (.inr ⟨h.2,.inr h.1⟩)
   ·rintro(⟨h1,h2⟩|⟨h1,h2|h2⟩|⟨h1,h2|h2⟩)
    ·exact .inl (.inl ⟨h1,λh=>h2 (.inl h),λh=>h2 (.inr h)⟩)
    ·exact .inl (.inr (.inr ⟨h1,h2⟩))
    ·exact .inr (.inl ⟨h1,h2⟩)
    ·exact .inl (.inr (.inl ⟨h2,h1⟩))
    ·exact .inr (.inr ⟨h2,h1⟩)
  ·rw[(Fk RE (by omega) (by omega) hwv hnaE (by rw[hrw];intro _;simp) (by rw[hrv];exact hm)).2 ?_,hEd]
   rintro⟨_,hb2,hb3,hb4⟩
   rw[hrv] at hb2 hb4
   rw[hrw] at hb4
   rw[hrch (by omega) (by omega)] at hb3
   have huv':RcT D u v:=by
    rcases hb3 with h|⟨h,_⟩|⟨_,h⟩
    ·exact absurd (RcT.bare hwb h).symm hwv
    ·exact absurd (RcT.bare hwb h) huw
    ·exact(f2 u v).1 h
   have hur:row D u≠[]:=λh=>huv (RcT.bare h huv').symm
   have ho:Br (fcT D) (((row D u).getD i 0).toNat*16+u) (((row D v).getD m 0).toNat*16+v):=Classical.byContradiction λh=>hnb ⟨hur,hb2,huv',h⟩
   have hi':=hi hur
   have hm':=hm hb2
   obtain⟨a,ea,ha16,_,_⟩:=RD.mem u _ (List.getElem_mem hi')
   obtain⟨b,eb,hb16,_,_⟩:=RD.mem v _ (List.getElem_mem hm')
   rw[AW hi',AW hm',ea,eb,Int.toNat_natCast,Int.toNat_natCast] at ho
   apply hb4
   rw[AW hm',eb,Int.toNat_natCast]
   show Br _ ((u:Int).toNat*16+g.length) _
   rw[Int.toNat_natCast]
   have hi1:i<(row (D++[[]]) u).length:=by rw[hr];exact hi'
   have ea1:(row (D++[[]]) u)[i]=(a:Int):=by rw[←ea];congr 1;exact hr u
   refine((faces1 (m:=0) R1 hu1 hw1 huw hna1 hi1 ea1 hwb).2.2 (b*16+v) (by omega) (by omega) (by omega)).2 ?_
   rw[f1];exact ho
 ·rintro⟨S,R,hS,ha,hd⟩
  have hawv:adj S g.length v:=by rw[ha,ha'];exact .inr (.inl ⟨rfl,.inr rfl⟩)
  obtain⟨hd1,i2,m2,hi2,hm2,hsim2,hnb2⟩:=EZ R hawv hd
  have RE:=D6 R hawv
  have hEl:(BG S g.length v).length=g.length+1:=by rw[Dm R hawv,hS,hl]
  have haE:=DR R hawv
  generalize BG S g.length v=E at*
  have hauw:adj E u g.length:=by
   rw[haE,ha,ha']
   exact⟨.inr (.inr ⟨rfl,.inl rfl⟩),λh=>huw h.1,λh=>huv h.1⟩
  obtain⟨hd2,i1,m1,hi1,hm1,hsim1,_⟩:=EZ RE hauw hd1
  have RD:=D6 RE hauw
  have hDl:(BG E u g.length).length=g.length+1:=by rw[Dm RE hauw,hEl]
  have haD:=DR RE hauw
  have hrD:=DJ RE hauw
  have hrv:row (BG E u g.length) v=row E v:=by rw[hrD,if_neg (Ne.symm huv),if_neg (Ne.symm hwv)]
  clear hrD
  generalize BG E u g.length=D at*
  have haD':∀x y,adj D x y↔adj g x y∧¬((x=u∧y=v)∨(x=v∧y=u)):=λx y=>by
   rw[haD,haE,ha,ha']
   constructor
   ·rintro⟨⟨h|⟨h1,h2|h2⟩|⟨h1,h2|h2⟩,h3,h4⟩,h5,h6⟩
    ·exact h
    ·exact absurd ⟨h1,h2⟩ h6
    ·exact absurd ⟨h1,h2⟩ h3
    ·exact absurd ⟨h2,h1⟩ h5
    ·exact absurd ⟨h2,h1⟩ h4
   ·intro h
    have h1:=B5 hg h.1
    have h2:=hg.lt h1 h.1
    exact⟨⟨.inl h,λh'=>by omega,λh'=>by omega⟩,λh'=>by omega,λh'=>by omega⟩
  have hwb:row D g.length=[]:=List.eq_nil_iff_forall_not_mem.2 λz hz=>by
   obtain⟨x,rfl,_⟩:=RD.mem _ z hz
   have:=B5 hg ((haD' g.length x).1 hz).1
   omega
  have hr:=row_less hDl hwb
  obtain⟨f1,f2,f3⟩:=rows_same hr
  have hl0:(D.take g.length).length=g.length:=by rw[List.length_take];omega
  have R0:RS (D.take g.length):=rows_RS (λw=>(hr w).symm) RD (by omega)
  have ha0:∀x y,adj (D.take g.length) x y↔adj D x y:=λx y=>by unfold adj;rw[hr]
  have hna0:¬adj (D.take g.length) u v:=λh=>((haD' u v).1 ((ha0 u v).1 h)).2 (.inl ⟨rfl,rfl⟩)
  have hnaD:¬adj D u g.length:=λh=>by
   have:=RD.sym h
   unfold adj at this;rw[hwb] at this;cases this
  have hm2':row D v≠[]→m2<(row D v).length:=by rw[hrv];exact hm2
  refine⟨Bl (D.take g.length) u v i1 m2,D8 R0 (by omega) (by omega) huv hna0,by simp[Bl,hl0],λx y=> ?_,?_⟩
  ·rw[Cv R0 (by omega) (by omega) huv hna0,ha0,haD']
   constructor
   ·rintro(h|⟨rfl,rfl⟩|⟨rfl,rfl⟩)
    ·exact h.1
    ·exact hauv
    ·exact gsym hg hauv
   ·intro h
    by_cases h1:x=u∧y=v
    ·exact .inr (.inl h1)
    ·by_cases h2:x=v∧y=u
     ·exact .inr (.inr h2)
     ·exact .inl ⟨h,λh=>h.elim h1 h2⟩
  ·rw[(Fk R0 (by omega) (by omega) huv hna0 (by rw[hr];exact hi1) (by rw[hr];exact hm2')).2 ?_,f3,hd2]
   rintro⟨hb1,hb2,hb3,hb4⟩
   rw[hr] at hb1 hb2
   rw[hr,hr,f1] at hb4
   rw[f2] at hb3
   have hsubE:∀x y,adj D x y→adj E x y:=λx y h=>((haD x y).1 h).1
   have hwE:row E g.length=[(u:Int)]:=by
    have h0:∀z,z∈row E g.length→z=(u:Int):=λz hz=>by
     obtain⟨x,rfl,_⟩:=RE.mem _ z hz
     have:=(haE g.length x).1 hz
     rw[ha,ha'] at this
     obtain⟨h|⟨_,h|h⟩|⟨h,h2|h2⟩,h3,_⟩:=this
     ·have:=B5 hg h.1;omega
     ·rw[h]
     ·exact absurd ⟨rfl,h⟩ h3
     ·omega
     ·omega
    have h1:(u:Int)∈row E g.length:=RE.sym hauw
    have h2:=RE.nd g.length
    match hrow:row E g.length with
    |[]=>rw[hrow] at h1;cases h1
    |[z]=>rw[h0 z (by rw[hrow];simp)]
    |z::z'::t=>
     rw[hrow] at h2
     have e1:=h0 z (by rw[hrow];simp)
     have e2:=h0 z' (by rw[hrow];simp)
     rw[e1,e2] at h2
     simp at h2
   have hvE:row E v≠[]:=by rw[←hrv];exact hb2
   have hrE:RcT E g.length v:=(RcT.rf.st (RE.sym hauw)).tr (hb3.mono hsubE)
   have hwne:row E g.length≠[]:=by rw[hwE];simp
   have ho:Br (fcT E) (((row E g.length).getD i2 0).toNat*16+g.length) (((row E v).getD m2 0).toNat*16+v):=Classical.byContradiction λh=>hnb2 ⟨hwne,hvE,hrE,h⟩
   have hi20:i2=0:=by
    have:=hi2 hwne
    rw[hwE] at this;simpa using this
   rw[hi20,hwE] at ho
   have ho':Br (fcT E) (u*16+g.length) (((row E v).getD m2 0).toNat*16+v):=ho
   have hi':=hi1 hb1
   have hm':=hm2' hb2
   obtain⟨a,ea,ha16,_,_⟩:=RD.mem u _ (List.getElem_mem hi')
   obtain⟨b,eb,hb16,_,_⟩:=RD.mem v _ (List.getElem_mem hm')
   rw[AW hi',AW hm',ea,eb,Int.toNat_natCast,Int.toNat_natCast] at hb4
   rw[←hrv,AW hm',eb,Int.toNat_natCast,←hsim1.fc (D8 RD (by omega) (by omega) huw hnaD)] at ho'
   exact hb4 (((faces1 (m:=m1) RD (by omega) (by omega) huw hnaD hi' ea hwb).2.2 (b*16+v) (by omega) (by omega) (by omega)).1 ho')
theorem nets_part_ok {n:Nat}(hn:n≤16){X:LI}(hl:X.length=n)(hV:∀u,u<n→VS (X.getD u 0)){v t:Nat}(hv:v<n)(ht:t<n)(hvt:v≠t):
  ∃y,D.z1 X (v:Int) (t:Int)=some y∧(y.length=n∧(∀u,u<n→VS (y.getD u 0))∧∀u w,u<n→(nb y u w=true↔nb X u w=true∧¬(u=v∧w=t)∧¬(u=t∧w=v))):=by
 have hx:∀k,k<n→idx X (k:Int)=some (X.getD k 0):=λk hk=>by rw[AS (by omega),AW (by omega)]
 refine⟨(X.set v (iandNot .u32 (X.getD v 0) (ishl .u32 1 (t:Int)))).set t (iandNot .u32 (X.getD t 0) (ishl .u32 1 (v:Int))),?_,by simp[hl],λu hu=> ?_,λu w hu=> ?_⟩
 ·unfold D.z1
  have e1:idx (X.set v (iandNot .u32 (X.getD v 0) (ishl .u32 1 (t:Int)))) (t:Int)=some (X.getD t 0):=by
   rw[AS (by simp;omega),List.getElem_set_ne hvt]
   exact congrArg some (AW (by omega) 0).symm
  simp only[hx v hv,bs,Db,Int.toNat_natCast,e1]
 ·rw[List.getD_eq_getElem?_getD,List.getElem?_set]
  by_cases h:t=u
  ·rw[if_pos h,if_pos (by simp;omega)];exact VS.iandNot _ _
  ·rw[if_neg h,List.getElem?_set]
   by_cases h2:v=u
   ·rw[if_pos h2,if_pos (by omega)];exact VS.iandNot _ _
   ·rw[if_neg h2,←List.getD_eq_getElem?_getD];exact hV u hu
 ·unfold nb
  rw[List.getD_eq_getElem?_getD,List.getElem?_set]
  by_cases h:t=u
  ·subst h
   rw[if_pos rfl,if_pos (by simp;omega),Option.getD_some,CS (hV _ hu) (VS.ishl _ _),CV (by omega),Bool.and_eq_true,Bool.not_eq_true',decide_eq_false_iff_not]
   refine and_congr Iff.rfl ?_
   omega
  ·rw[if_neg h,List.getElem?_set]
   by_cases h2:v=u
   ·subst h2
    rw[if_pos rfl,if_pos (by omega),Option.getD_some,CS (hV _ hu) (VS.ishl _ _),CV (by omega),Bool.and_eq_true,Bool.not_eq_true',decide_eq_false_iff_not]
    refine and_congr Iff.rfl ?_
    omega
   ·rw[if_neg h2,←List.getD_eq_getElem?_getD]
    exact⟨λh3=>⟨h3,by omega,by omega⟩,λh3=>h3.1⟩
theorem GB {g:LL}(hg:GOk g)(hn:g.length<16){u v:Nat}(ha:adj g u v):∃y,D.U0 g (u:Int) (v:Int)=some (y,true)∧GOk y∧y.length=g.length+1∧
  ∀a b,adj y a b↔(adj g a b∧¬((a=u∧b=v)∨(a=v∧b=u)))∨(a=g.length∧(b=u∨b=v))∨(b=g.length∧(a=u∨a=v)):=by
 have h16:=hg.n16
 have hu:=B5 hg ha
 have hv:=hg.lt hu ha
 have huv:u≠v:=λe=>hg.irr u hu (by rw[←e] at ha;exact ha)
 have h0:(g.map mk++[0]).length=g.length+1:=by simp
 have hV0:∀a,a<g.length+1→VS ((g.map mk++[0]).getD a 0):=λa ha=>by
  by_cases e:a<g.length
  ·rw[List.getD_eq_getElem?_getD,List.getElem?_append_left (by simpa using e),←List.getD_eq_getElem?_getD,Du];exact VS.mk _
  ·obtain rfl:a=g.length:=by omega
   rw[List.getD_eq_getElem?_getD,List.getElem?_append_right (by simp)];simp;exact VS.zero
 have hn0:∀a b,a<g.length+1→(nb (g.map mk++[0]) a b=true↔adj g a b):=λa b hab=>by
  unfold nb
  by_cases e:a<g.length
  ·rw[List.getD_eq_getElem?_getD,List.getElem?_append_left (by simpa using e),←List.getD_eq_getElem?_getD,Du]
   exact has_row hg e
  ·obtain rfl:a=g.length:=by omega
   rw[List.getD_eq_getElem?_getD,List.getElem?_append_right (by simp)]
   simp only[List.length_map,Nat.sub_self,List.getElem?_cons_zero,Option.getD_some,Cc]
   exact⟨λh=>(by cases h),λh=>absurd (B5 hg h) (by omega)⟩
 obtain⟨y1,e1,l1,v1,n1⟩:=nets_part_ok (n:=g.length+1) (by omega) h0 hV0 (v:=u) (t:=v) (by omega) (by omega) huv
 obtain⟨y2,e2,l2,v2,n2⟩:=DN (n:=g.length+1) (by omega) l1 v1 (v:=u) (t:=g.length) (by omega) (by omega) (by omega)
 obtain⟨y3,e3,l3,v3,n3⟩:=DN (n:=g.length+1) (by omega) l2 v2 (v:=v) (t:=g.length) (by omega) (by omega) (by omega)
 have hnb:∀a b,a<g.length+1→(nb y3 a b=true↔(adj g a b∧¬((a=u∧b=v)∨(a=v∧b=u)))∨(a=g.length∧(b=u∨b=v))∨(b=g.length∧(a=u∨a=v))):=λa b hab=>by
  rw[n3 a b hab,n2 a b hab]
  simp only[Bool.or_eq_true,Bool.and_eq_true,decide_eq_true_eq]
  rw[n1 a b hab,hn0 a b hab]
  by_cases hA:adj g a b
  ·simp only[hA,true_and];omega
  ·simp only[hA,false_and,false_or];omega
 have hF:FOk y3 (g.length+1):=by
  refine⟨l3,v3,λa b hab h=> ?_,λa hab=> ?_,λa b hab h=> ?_⟩
  ·rcases(hnb a b hab).1 h with h|h|h
   ·have:=hg.lt (B5 hg h.1) h.1;omega
   ·omega
   ·omega
  ·rw[←Bool.not_eq_true,hnb a a hab]
   rintro(h|h|h)
   ·exact hg.irr a (B5 hg h.1) h.1
   ·omega
   ·omega
  ·have hb:b<g.length+1:=by
    rcases(hnb a b hab).1 h with h|h|h
    ·have:=hg.lt (B5 hg h.1) h.1;omega
    ·omega
    ·omega
   rw[hnb b a hb]
   rcases(hnb a b hab).1 h with h|h|h
   ·exact .inl ⟨gsym hg h.1,λh'=>h.2 (by omega)⟩
   ·exact .inr (.inr h)
   ·exact .inr (.inl h)
 refine⟨grow y3,?_,GOk.grow hF (by omega) (by omega),by rw[grow_len,l3],λa b=> ?_⟩
 ·unfold D.U0
  rw[GL hg ha,bs,show ((g.length:Int)==16)=false by rw[beq_eq_false_iff_ne];omega,Bool.not_true,Bool.or_self,cF,EP g hg,bs,Bp (by simp;omega),bs,bs]
  dsimp only
  rw[e1,bs,e2,bs,e3,bs,Ef _ (by omega) (λu hu=>v3 u (by omega)),bs]
 ·by_cases hab:a<g.length+1
  ·rw[Dk hF hab,hnb a b hab]
  ·constructor
   ·intro h
    have:=B5 (GOk.grow hF (by omega) (by omega)) h
    rw[grow_len,l3] at this;omega
   ·rintro(h|h|h)
    ·have:=B5 hg h.1;omega
    ·omega
    ·omega
theorem without_eq (xs:LI)(v:Int)(h:xs.length≤1000):D.N0 xs v=some (xs.filter λx=>x !=v):=by
 unfold D.N0
 refine(CT (λi=>((xs.take i).filter (λx=>x !=v),(i:Int))) xs.length (xs.filter λx=>x !=v) (by simp) (λi hi=> ?_) ?_).trans rfl
 ·have hfl:=List.length_filter_le (λx=>x !=v) (xs.take i)
  rw[List.length_take] at hfl
  dsimp only
  rw[dlt hi,cT,AS hi,bs,wi (by omega),List.take_succ_eq_append_getElem hi,List.filter_append]
  cases hc:xs[i] !=v with
  |true=>rw[cT,bs,Bp (by simp;omega),bs];simp[hc]
  |false=>rw[cF];simp[hc]
 ·dsimp only
  rw[Bx,cF,List.take_length]
section
variable {g : LL} (hg : GOk g)
include hg
theorem pair_ok {x y:Int}:D.I0 g x y=some (decide (0≤x∧x<(g.length:Int)∧0≤y∧y<(g.length:Int)∧x≠y)):=by
 have h16:=hg.n16
 have ht:∀x:Int,D.s g x=some (decide (0≤x∧x<(g.length:Int))):=λx=>by
  unfold D.s
  rw[show D.c g=some (g.length:Int) from rfl,bs,Ev,bs,w64 (by omega) (by omega)]
  congr 1
  rw[Bool.eq_iff_iff,Bool.and_eq_true,decide_eq_true_eq,decide_eq_true_eq,decide_eq_true_eq];omega
 unfold D.I0
 rw[Cp g hg.sh2,DL hg,bs,cT,ht,bs,bs,ht]
 by_cases hx:0≤x∧x<(g.length:Int)
 ·rw[decide_eq_true hx,cT,bs,bs]
  congr 1
  rw[Bool.eq_iff_iff,Bool.and_eq_true,decide_eq_true_eq,decide_eq_true_eq,bne_iff_ne]
  exact⟨λh=>⟨hx.1,hx.2,h.1.1,h.1.2,h.2⟩,λh=>⟨⟨h.2.2.1,h.2.2.2.1⟩,h.2.2.2.2⟩⟩
 ·rw[decide_eq_false hx,cF,bs,Bool.false_and,decide_eq_false (λh=>hx ⟨h.1,h.2.1⟩)]
theorem cut_ok {u v:Nat}(hu:u<g.length)(ha:adj g u v):∃g',D.Q g (u:Int) (v:Int)=some (g',true)∧GOk g'∧g'.length=g.length∧∀a b,adj g' a b↔adj g a b∧¬((a=u∧b=v)∨(a=v∧b=u)):=by
 have h16:=hg.n16
 have hv:=hg.lt hu ha
 have huv:u≠v:=λe=>hg.irr u hu (by rw[←e] at ha;exact ha)
 have hlu:=hg.row_len hu;have hlv:=hg.row_len hv
 have hrow:∀w,row ((g.set u ((row g u).filter λx=>x !=(v:Int))).set v ((row g v).filter λx=>x !=(u:Int))) w=if w=v then(row g v).filter (λx=>x !=(u:Int)) else if w=u then(row g u).filter (λx=>x !=(v:Int)) else row g w:=λw=>by
  rw[C9 (by simpa using hv),C9 hu]
 have hadj:∀a b,adj ((g.set u ((row g u).filter λx=>x !=(v:Int))).set v ((row g v).filter λx=>x !=(u:Int))) a b↔adj g a b∧¬((a=u∧b=v)∨(a=v∧b=u)):=λa b=>by
  unfold adj
  rw[hrow]
  by_cases h1:a=v
  ·subst h1
   rw[if_pos rfl,List.mem_filter,bne_iff_ne]
   exact and_congr Iff.rfl ⟨λh h'=>h'.elim (λh'=>huv h'.1.symm) (λh'=>h (by omega)),λh h'=>h (.inr ⟨rfl,by omega⟩)⟩
  ·rw[if_neg h1]
   by_cases h2:a=u
   ·subst h2
    rw[if_pos rfl,List.mem_filter,bne_iff_ne]
    exact and_congr Iff.rfl ⟨λh h'=>h'.elim (λh'=>h (by omega)) (λh'=>h1 h'.1),λh h'=>h (.inl ⟨rfl,by omega⟩)⟩
   ·rw[if_neg h2]
    exact⟨λh=>⟨h,λh'=>h'.elim (λh'=>h2 h'.1) (λh'=>h1 h'.1)⟩,λh=>h.1⟩
 refine⟨_,?_,⟨by simpa using hg.n1,by simpa using h16,λw hw=> ?_,λw hw hc=> ?_,λa b hA h=> ?_⟩,by simp,hadj⟩
 ·unfold D.Q
  have hva:decide ((v:Int)∈row g u)=true:=decide_eq_true ha
  have e1:row (g.set u ((row g u).filter λx=>x !=(v:Int))) v=row g v:=by rw[C9 hu,if_neg (Ne.symm huv)]
  rw[pair_ok hg,decide_eq_true (by omega),bs,Bool.not_true,cF,EQ g hg hu,hva,bs,bs,Bool.not_true,cF,DX hg,bs,B4 hu,bs,without_eq _ _ (by omega),bs,bs,Int.toNat_natCast,B4 (show v<(g.set u ((row g u).filter λx=>x !=(v:Int))).length by simpa using hv),e1,bs,without_eq _ _ (by omega),bs,bs,Int.toNat_natCast]
 ·have hw':w<g.length:=by simpa using hw
  have hr:=hg.rows w hw'
  have hsub:∀(z:Int),SetOf ((row g w).filter λx=>x !=z) (g.length:Int):=λz=>⟨List.Pairwise.filter _ hr.1,λx hx=>hr.2 x (List.mem_filter.1 hx).1⟩
  rw[hrow]
  simp only[List.length_set]
  split
  ·rename_i e;subst e;exact hsub _
  ·split
   ·rename_i e;subst e;exact hsub _
   ·exact hr
 ·exact hg.irr w (by simpa using hw) ((hadj w w).1 hc).1
 ·obtain⟨h1,h2⟩:=(hadj a b).1 h
  exact(hadj b a).2 ⟨hg.sym a b (by simpa using hA) h1,λh'=>h2 (h'.elim (λh'=> .inr ⟨h'.2,h'.1⟩) (λh'=> .inl ⟨h'.2,h'.1⟩))⟩
theorem split_ok (h15:g.length<16){u v:Nat}(hu:u<g.length)(ha:adj g u v)(huv:u<v):∃y,D.K g (u:Int) (v:Int)=some y∧(GOk y.1∧y.1.length=g.length+1∧∀a b,adj y.1 a b↔(adj g a b∧¬((a=u∧b=v)∨(a=v∧b=u)))∨(a=g.length∧(b=u∨b=v))∨(b=g.length∧(a=u∨a=v))):=by
 have hv:=hg.lt hu ha
 obtain⟨g',e1,hg',hl',hadj'⟩:=cut_ok hg hu ha
 obtain⟨y,ey,hy,hyl,hya⟩:=AddedVertex_ok hg' (by omega) (x:=[(u:Int),(v:Int)]) (by
  refine⟨?_,λx hx=> ?_⟩
  ·unfold Inc;simp;omega
  ·rw[hl']
   rcases List.mem_cons.1 hx with rfl|hx
   ·omega
   ·rw[List.mem_singleton] at hx;subst hx;omega)
 have hmin:D.V (u:Int) (v:Int)=some (u:Int):=by
  unfold D.V
  rw[decide_eq_true (by omega)];rfl
 have hmax:D.V0 (u:Int) (v:Int)=some (v:Int):=by
  unfold D.V0
  first
   |rw[decide_eq_true (by omega)];rfl
   |rw[decide_eq_false (by omega)];rfl
 have hei:=EC hg hu ha
 unfold D.K
 rw[show D.c g=some (g.length:Int) from rfl,bs,hei,bs,decide_eq_false (by omega),Bool.not_true,Bool.or_self,cF,e1,bs,hmin,bs,hmax,bs,ey,bs]
 refine⟨_,rfl,hy,by rw[hyl,hl'],λa b=> ?_⟩
 dsimp only
 rw[hya,hadj',hl']
 refine or_congr Iff.rfl (or_congr (and_congr Iff.rfl ?_) (and_congr Iff.rfl ?_))<;>
 ·simp only[List.mem_cons,List.not_mem_nil,or_false];omega
theorem added_ok {x y:Int}:∃r,D.T0 g x y=some r∧(r.2=true→GOk r.1∧r.1.length=g.length∧∀a b,adj g a b→adj r.1 a b):=by
 unfold D.T0
 rw[pair_ok hg,bs]
 by_cases h:0≤x∧x<(g.length:Int)∧0≤y∧y<(g.length:Int)∧x≠y
 ·obtain⟨u,rfl⟩:∃u:Nat,x=u:=⟨x.toNat,by omega⟩
  obtain⟨v,rfl⟩:∃v:Nat,y=v:=⟨y.toNat,by omega⟩
  rw[decide_eq_true h,Bool.not_true,cF,EQ g hg (by omega),bs,bs]
  cases decide ((v:Int)∈row g u) with
  |true=>exact⟨_,rfl,λh=>(by cases h)⟩
  |false=>
   obtain⟨g',e,h1,h2,h3⟩:=Dh hg (u:=u) (v:=v) (by omega) (by omega) (by omega)
   rw[cF,DX hg,bs,e,bs]
   exact⟨_,rfl,λ_=>⟨h1,h2,λa b hab=>(h3 a b).2 (.inl hab)⟩⟩
 ·rw[decide_eq_false h]
  exact⟨_,rfl,λh=>(by cases h)⟩
theorem renamed_few {o:LI}(ho:o.length≤17):∃r,D.y0 g o=some r∧(r.2=true→GOk r.1):=by
 have h16:=hg.n16
 unfold D.y0
 rw[GU g o hg.sh2 (by unfold Sh;omega),DL hg,Bool.true_and,bs]
 cases hb:ordB g o with
 |false=>exact⟨_,rfl,λh=>(by cases h)⟩
 |true=>
  have hO:=(ordB_iff g o).1 hb
  obtain⟨y,e,h1,_⟩:=l2Of_ok hg (L:=o) (by have:=hO.len;have:=hg.n1;omega) (by have:=hO.len;omega) hO.rng
  rw[Bool.not_true,cF,e,bs]
  exact⟨_,rfl,λ_=>h1⟩
end
end Go.Sx

namespace Go.Sx
def HasE (g:LL):Prop:=∃u v,u<g.length∧adj g u v∧u<v
theorem HasE.ne {g:LL}(hg:GOk g)(h:HasE g):0<(CA g).length:=by
 obtain⟨u,v,hu,ha,huv⟩:=h
 exact List.length_pos_of_mem ((Ek hg _).2 ⟨u,v,hu,ha,huv,rfl⟩)
theorem Fz {g:LL}(hg:GOk g){r:Int}(h0:0≤r)(h1:r<((CA g).length:Int)):∃u v:Nat,idx (CA g) r=some [(u:Int),(v:Int)]∧u<g.length∧adj g u v∧u<v:=by
 have hlt:r.toNat<(CA g).length:=by omega
 obtain⟨u,v,hu,ha,huv,e⟩:=(Ek hg _).1 (List.getElem_mem hlt)
 exact⟨u,v,by rw[DS h0 h1,e],hu,ha,huv⟩
theorem l23Draw_dw {b:LI}{i:Int}(h:DK b i)(z:Int):Dw b Few (D.X b i z):=by
 have hsz:∀g:LL,D.c g=some (g.length:Int):=λg=>rfl
 unfold D.X
 refine(DF h z 2).then λt i0 z0 _ hk=> ?_
 dsimp only
 cases t with
 |true=>
  rw[cT]
  exact(DrawAny_dw hk z0).then λg i1 z1 hg hk=>⟨_,rfl,hg,rfl,hk⟩
 |false=>
  rw[cF]
  refine(BY hk z0 4 (by omega)).then λq i1 z1 hq hk=> ?_
  dsimp only
  rw[w64 (by omega) (by omega)]
  obtain⟨A,B,_,hs,hcase⟩:=sides_ex (1+q)
  have hA:A≠0:=by omega
  obtain⟨p,ep,hp,hpl,hpa⟩:=Gx hs hcase hA
  have hAB:=E7 hcase
  have hpE:HasE p:=by
   rcases hcase with⟨_,rfl,rfl⟩|⟨_,rfl,rfl⟩|⟨_,rfl,rfl⟩|⟨_,rfl,rfl⟩|⟨hc,_⟩
   ·exact⟨0,1,by omega,(hpa 0 1).2 (.inl (by decide)),by omega⟩
   ·exact⟨0,3,by omega,(hpa 0 3).2 (.inl (by decide)),by omega⟩
   ·exact⟨0,1,by omega,(hpa 0 1).2 (.inl (by decide)),by omega⟩
   ·exact⟨0,2,by omega,(hpa 0 2).2 (.inl (by decide)),by omega⟩
   ·exact absurd hc hA
  have hp7:p.length≤7:=by omega
  rw[ep,bs]
  refine(BY hk z1 3 (by omega)).then λq2 i2 z2 hq2 hk=> ?_
  dsimp only
  refine AZ (λs:Int×LI×Int×Int×LL=>0≤s.1∧s.1≤3∧s.2.1=b∧DK b s.2.2.1∧GOk s.2.2.2.2∧HasE s.2.2.2.2∧s.2.2.2.2.length≤7) (λs=>s.1.toNat) (λr:LI×Int×Int×LL=>r.1=b∧DK b r.2.1∧GOk r.2.2.2∧HasE r.2.2.2) ?_ ⟨hq2.1,by dsimp only;omega,rfl,hk,hp,hpE,hp7⟩ ?_
  ·rintro⟨x,b2,i,z,g⟩ ⟨hx0,hx3,rfl,hk,hg,hE,hg7⟩
   dsimp only at hx0 hx3 hk hg hE hg7 ⊢
   have hcond:((cond (decide ((0:Int)<x)) ((D.c g).bind λy_609=>some (decide (y_609<7))) (some false)))=some (decide (0<x∧g.length<7)):=by
    by_cases h0:0<x
    ·rw[decide_eq_true h0,cT,hsz,bs]
     congr 1
     rw[Bool.eq_iff_iff,decide_eq_true_eq,decide_eq_true_eq];omega
    ·rw[decide_eq_false h0,cF,decide_eq_false (λh=>h0 h.1)]
   rw[hcond,bs]
   by_cases hgo:0<x∧g.length<7
   ·have hpos:=hE.ne hg
    rw[decide_eq_true hgo,cT,FL g hg,bs]
    refine(BY hk z ((CA g).length:Int) (by omega)).then λr i2 z2 hr hk=> ?_
    dsimp only
    obtain⟨u,v,e1,hu,ha,huv⟩:=Fz hg hr.1 hr.2
    obtain⟨y,ey,hy,hyl,hya⟩:=split_ok hg (by omega) hu ha huv
    have j0:idx [(u:Int),(v:Int)] 0=some (u:Int):=rfl
    have j1:idx [(u:Int),(v:Int)] 1=some (v:Int):=rfl
    rw[e1,bs,j0,bs,j1,bs,ey,bs,bs,w64 (by omega) (by omega)]
    exact⟨_,rfl,⟨by dsimp only;omega,by dsimp only;omega,rfl,hk,hy,⟨u,g.length,by dsimp only;omega,(hya _ _).2 (.inr (.inr ⟨rfl,.inl rfl⟩)),hu⟩,by dsimp only;omega⟩,by dsimp only;omega⟩
   ·rw[decide_eq_false hgo,cF]
    exact⟨_,rfl,rfl,hk,hg,hE⟩
  ·rintro⟨b2,i,z,g⟩ ⟨rfl,hk,hg,hE⟩
   dsimp only at hk hg hE ⊢
   have hn1:=hg.n1
   refine(DF hk z 3).then λt i3 z3 _ hk=> ?_
   dsimp only
   refine Cb (λs:LI×Int×Int×LL=>s.1=b2∧DK b2 s.2.1∧GOk s.2.2.2∧HasE s.2.2.2) ?_ ?_
   ·cases t with
    |false=>exact⟨_,rfl,rfl,hk,hg,hE⟩
    |true=>
     rw[cT,hsz,bs]
     refine(BY hk z3 (g.length:Int) (by omega)).then λx i4 z4 hx hk=> ?_
     dsimp only
     rw[bs]
     refine(BY hk z4 (g.length:Int) (by omega)).then λy i5 z5 hy hk=> ?_
     dsimp only
     obtain⟨r,er,hr⟩:=added_ok hg (x:=x) (y:=y)
     rw[er,bs]
     cases hb:r.2 with
     |false=>exact⟨_,rfl,rfl,hk,hg,hE⟩
     |true=>
      obtain⟨h1,h2,h3⟩:=hr hb
      obtain⟨u,v,hu,ha,huv⟩:=hE
      exact⟨_,rfl,rfl,hk,h1,u,v,by dsimp only;omega,h3 _ _ ha,huv⟩
   ·rintro⟨b3,i,z,g⟩ ⟨rfl,hk,hg,hE⟩
    dsimp only at hk hg hE ⊢
    refine(DF hk z 3).then λt i3 z3 _ hk=> ?_
    dsimp only
    refine Cb (λs:LI×Int×Int×LL=>s.1=b3∧DK b3 s.2.1∧GOk s.2.2.2) ?_ ?_
    ·cases t with
     |false=>exact⟨_,rfl,rfl,hk,hg⟩
     |true=>
      have hpos:=hE.ne hg
      rw[cT,FL g hg,bs]
      refine(BY hk z3 ((CA g).length:Int) (by omega)).then λr i4 z4 hr hk=> ?_
      dsimp only
      obtain⟨u,v,e1,hu,ha,huv⟩:=Fz hg hr.1 hr.2
      obtain⟨y,ey,hy,_⟩:=cut_ok hg hu ha
      have j0:idx [(u:Int),(v:Int)] 0=some (u:Int):=rfl
      have j1:idx [(u:Int),(v:Int)] 1=some (v:Int):=rfl
      rw[e1,bs,j0,bs,j1,bs,ey,bs,bs]
      exact⟨_,rfl,rfl,hk,hy⟩
    ·rintro⟨b4,i,z,g⟩ ⟨rfl,hk,hg⟩
     dsimp only at hk hg ⊢
     refine(DF hk z 2).then λt i3 z3 _ hk=> ?_
     dsimp only
     cases t with
     |false=>exact⟨_,rfl,hg.few,rfl,hk⟩
     |true=>
      rw[cT]
      refine Cb (λs:LL×Bool×LI×Int×Int=>s.2.2.1=b4∧DK b4 s.2.2.2.1∧(s.2.1=true→GOk s.1)) ?_ ?_
      ·refine(DrawOrder_dw hk z3 hg.few).then λo i4 z4 ho hk=> ?_
       dsimp only
       obtain⟨r,er,hr⟩:=renamed_few hg ho
       rw[er,bs]
       exact⟨_,rfl,rfl,hk,hr⟩
      ·rintro⟨y,t,b5,i,z⟩ ⟨hb5,hk',hy⟩
       dsimp only at hb5 hk' hy ⊢
       subst hb5
       cases t with
       |false=>exact⟨_,rfl,hg.few,rfl,hk'⟩
       |true=>exact⟨_,rfl,(hy rfl).few,rfl,hk'⟩
theorem CJ {α β:Type}{P:β→Prop}{e:Option α}{k:α→Option β}{y:β}(h:e.bind k=some y)(hk:∀x y,k x=some y→P y):P y:=by
 cases e with
 |none=>cases h
 |some x=>exact hk x y h
theorem find_no {g:LL}{k:Int}{r:Int×LI×LL×Bool}(h:D.T g k=some r):r.2.2.2=false→r.2.2.1=[]:=by
 unfold D.T at h
 refine CJ (P:=λr:Int×LI×LL×Bool=>r.2.2.2=false→r.2.2.1=[]) h λy5 r h=> ?_
 refine CJ (P:=λr:Int×LI×LL×Bool=>r.2.2.2=false→r.2.2.1=[]) h λy12 r h=> ?_
 cases hc:((!y12)||(y5.1==0)) with
 |true=>rw[hc,cT] at h;obtain rfl:=Option.some.inj h;exact λ_=>rfl
 |false=>
  rw[hc,cF] at h
  refine CJ (P:=λr:Int×LI×LL×Bool=>r.2.2.2=false→r.2.2.1=[]) h λy31 r h=> ?_
  cases hf:D.g y31 k with
  |none=>rw[hf] at h;cases h
  |some z=>
   rw[hf,bs] at h
   obtain rfl:=Option.some.inj h
   dsimp only
   clear h
   unfold D.g at hf
   refine CJ (P:=λr:Int×LI×LL×Bool=>r.2.2.2=false→r.2.2.1=[]) hf λ_ z hf=> ?_
   refine CJ (P:=λr:Int×LI×LL×Bool=>r.2.2.2=false→r.2.2.1=[]) hf λ_ z hf=> ?_
   refine CJ (P:=λr:Int×LI×LL×Bool=>r.2.2.2=false→r.2.2.1=[]) hf λ_ z hf=> ?_
   refine CJ (P:=λr:Int×LI×LL×Bool=>r.2.2.2=false→r.2.2.1=[]) hf λ_ z hf=> ?_
   refine CJ (P:=λr:Int×LI×LL×Bool=>r.2.2.2=false→r.2.2.1=[]) hf λ_ z hf=> ?_
   refine CJ (P:=λr:Int×LI×LL×Bool=>r.2.2.2=false→r.2.2.1=[]) hf λy134 z hf=> ?_
   cases hb:y134.1 with
   |false=>rw[hb,Bool.not_false,cT] at hf;obtain rfl:=Option.some.inj hf;exact λ_=>rfl
   |true=>
    rw[hb,Bool.not_true,cF] at hf
    refine CJ (P:=λr:Int×LI×LL×Bool=>r.2.2.2=false→r.2.2.1=[]) hf λ_ z hf=> ?_
    refine CJ (P:=λr:Int×LI×LL×Bool=>r.2.2.2=false→r.2.2.1=[]) hf λ_ z hf=> ?_
    obtain rfl:=Option.some.inj hf
    intro h;cases h
structure Wys (g:LL)(l:LL):Prop where
 le:l.length≤10
 p:∀p∈l,p.length≤16∧p.Nodup∧∀x∈p,∃v:Nat,x=(v:Int)∧v<16
 two:∀p∈l,2≤p.length
 nd:(l.flatMap stQ).Nodup
 ad:∀e∈l.flatMap stQ,∃a b,adI g a b∧e=eL a b
theorem wys_nil (g:LL):Wys g []:=⟨by simp,λp hp=>(by cases hp),λp hp=>(by cases hp),List.nodup_nil,λe he=>(by cases he)⟩
section
variable {g : LL} (hg : GOk g)
include hg
theorem wys_ok {k:Int}{a b:Nat}(hc:(k=1∧a=5∧b=0)∨(k=2∧a=3∧b=3))(h8:g.length≤8){H:LI}(hH:HubB g.length k a b H){l:LL}(hl:LkW g (B9 H) (Co a b) (λx=>x∈H) l):Wys g l∧l≠[]:=by
 have hpl:=prs_lt (k:=k) (a:=a) (b:=b) (by omega)
 have hHl:=hH.1
 have hHn:=hH.2.2.2.2.1
 have hlens:=hl.lens hg
 have hll:l.length=(prN a b).length:=by rw[hlens.1];unfold Co;rw[List.length_map]
 have hu:∀i,i<a+b→B9 H (i:Int)=H.getD i 0:=λi _=>by unfold B9;rw[Int.toNat_natCast]
 have hin:∀i,i<a+b→H.getD i 0∈H:=λi hi=>by rw[AW (by omega)];exact List.getElem_mem _
 have hinj:∀i j,i<a+b→j<a+b→H.getD i 0=H.getD j 0→i=j:=λi j hi hj e=>by
  rw[AW (by omega),AW (by omega)] at e
  exact(List.getElem_inj hHn).1 e
 have hps:∀e∈Co a b,B9 H e.1∈H∧B9 H e.2∈H∧B9 H e.1≠B9 H e.2:=λe he=>by
  obtain⟨x,hx,rfl⟩:=List.mem_map.1 he
  have:=hpl.1 x hx
  dsimp only
  rw[hu _ (by omega),hu _ (by omega)]
  exact⟨hin _ (by omega),hin _ (by omega),λe=>by have:=hinj _ _ (by omega) (by omega) e;omega⟩
 have hpn:(prN a b).Nodup:=by
  rcases hc with⟨_,rfl,rfl⟩|⟨_,rfl,rfl⟩<;>decide
 have hpw:(Co a b).Pairwise (λe e'=>eL (B9 H e.1) (B9 H e.2)≠eL (B9 H e'.1) (B9 H e'.2)):=by
  refine List.pairwise_map.2 (hpn.imp_of_mem fun{x y} hx hy hxy e=> ?_)
  have h1:=hpl.1 x hx
  have h2:=hpl.1 y hy
  dsimp only at e
  rw[hu _ (by omega),hu _ (by omega),hu _ (by omega),hu _ (by omega)] at e
  rcases eL_eq.1 e with⟨e1,e2⟩|⟨e1,e2⟩
  ·have e1:=hinj _ _ (by omega) (by omega) e1
   have e2:=hinj _ _ (by omega) (by omega) e2
   exact hxy (Prod.ext e1 e2)
  ·have e1:=hinj _ _ (by omega) (by omega) e1
   have e2:=hinj _ _ (by omega) (by omega) e2
   omega
 obtain⟨n1,n2⟩:=lkw_nodup hl hps hpw
 have hHx:∀x∈H,∃v:Nat,x=(v:Int)∧v<16:=λx hx=>⟨x.toNat,by have:=hH.2.2.2.2.2 x hx;omega,by have:=hH.2.2.2.2.2 x hx;omega⟩
 refine⟨⟨by omega,λp hp=>⟨?_,n2 p hp,λx hx=> ?_⟩,λp hp=> ?_,n1,λe he=> ?_⟩,λh0=> ?_⟩
 ·obtain⟨e,he,q,rfl,hq⟩:=Ez hl p hp
  have:=hq.len' hg
  simp;omega
 ·obtain⟨e,he,q,rfl,hq⟩:=Ez hl p hp
  obtain⟨a1,a2,_⟩:=hps e he
  rcases List.mem_cons.1 hx with rfl|hx
  ·exact hHx _ a1
  ·rcases List.mem_append.1 hx with hx|hx
   ·obtain⟨v,rfl,hv⟩:=Gg hg hq.2.2 x hx
    exact⟨v,rfl,by omega⟩
   ·rw[List.mem_singleton.1 hx];exact hHx _ a2
 ·obtain⟨e,he,q,rfl,hq⟩:=Ez hl p hp
  simp
 ·obtain⟨p,hp,hep⟩:=List.mem_flatMap.1 he
  obtain⟨e',he',q,rfl,hq⟩:=Ez hl p hp
  exact stQ_adj hq.2.2 hep
 ·rw[h0] at hll
  rcases hc with⟨_,rfl,rfl⟩|⟨_,rfl,rfl⟩<;>revert hll<;>decide
theorem find_wys {k:Int}(hk:k=1∨k=2)(h8:g.length≤8):∃r,D.T g k=some r∧Wys g r.2.2.1∧(r.2.2.2=true→r.2.2.1≠[]):=by
 obtain⟨a,b,h0,_,hc⟩:=sides_ex k
 have hc':(k=1∧a=5∧b=0)∨(k=2∧a=3∧b=3):=by omega
 obtain⟨r,e1,_,h2⟩:=impl_find_ok hg (a:=a) (b:=b) (by omega) h0 h8
 refine⟨r,e1,?_⟩
 cases hr:r.2.2.2 with
 |false=>rw[find_no e1 hr];exact⟨wys_nil g,λh=>by cases h⟩
 |true=>
  obtain⟨_,s,t,hst,_,h6⟩:=h2 hr
  have:=wys_ok hg hc' h8 ((hubB_iff hg.n16).2 ⟨hst.2.1,s,t,hst.1,rfl⟩) h6
  exact⟨this.1,λ_=>this.2⟩
theorem forb_wys (h8:g.length≤8):∃r,D.E1 g=some r∧Wys g r.2.2.1∧(r.2.2.2=true→r.2.2.1≠[]):=by
 obtain⟨r,e,h1,h2⟩:=find_wys hg (k:=1) (.inl rfl) h8
 obtain⟨r',e',h1',h2'⟩:=find_wys hg (k:=2) (.inr rfl) h8
 unfold D.E1
 rw[e,bs]
 cases hr:r.2.2.2 with
 |true=>exact⟨_,rfl,h1,λ_=>h2 hr⟩
 |false=>
  rw[cF,e',bs]
  exact⟨_,rfl,h1',h2'⟩
end
theorem splitB_eq (g:LL)(x y:Int):D.b2 g x y=D.K g x y:=by
 unfold D.b2 D.K
 congr 1;funext y5
 congr 1;funext y12
 cases (!y12)||(decide ((16:Int)≤y5)) with
 |true=>rfl
 |false=>
  rw[cF,cF]
  congr 1;funext y28
  rw[Option.bind_assoc]
  congr 1;funext y77
  rw[Option.bind_assoc]
  congr 1;funext y80
  rw[Option.bind_assoc]
  rfl
theorem drawB_eq (b:LI)(i z:Int):D.a2 b i z=D.X b i z:=by
 unfold D.a2 D.X
 simp only[splitB_eq]
theorem DrawForb_ok (code:LI)(h:∀x∈code,0≤x∧x≤255)(hl:code.length≤4096):∃y,D.d1 code=some y∧Few y:=by
 obtain⟨z,e,hk⟩:=new_ok code h hl
 unfold D.d1
 rw[e,bs]
 dsimp only
 rw[drawB_eq]
 exact(l23Draw_dw hk z).then λg i z hg hk=>⟨_,rfl,hg⟩
theorem FnSplit_true (code:LI)(hb:∀x∈code,0≤x∧x≤255):D.T1 code=some true:=by
 unfold D.T1 D.O1
 rw[bs]
 by_cases hl:(4096:Int)<(code.length:Int)
 ·rw[decide_eq_true hl,cT]
 ·obtain⟨g,e,hf⟩:=DrawForb_ok code hb (by omega)
  rw[decide_eq_false hl,cF,e,bs,Cp g hf.sh2,bs]
  cases hB:gB g with
  |false=>rfl
  |true=>
   have hg:=(gB_iff g).1 hB
   have h16:=hg.n16
   by_cases h7:(7:Int)≤(g.length:Int)
   ·rw[decide_eq_true h7,Bool.or_true,cT]
   ·rw[decide_eq_false h7,Bool.not_true,Bool.or_self,cF]
    obtain⟨r,er,hw,hne⟩:=forb_wys hg (by omega)
    obtain⟨y,ey,hyl,hya⟩:=EdgesIn_ok hg r.1 r.2.1 hw.le hw.p hw.nd hw.ad
    unfold D.P1
    rw[Cp g hf.sh2,bs,hB,Bool.not_true,cF,FL g hg,bs,bs,er,bs,ey,bs]
    refine some_of ?_
    refine AZ (λs:Int×Int=>∃i:Nat,s.2=(i:Int)∧i≤r.2.2.1.length∧s.1=(((r.2.2.1.take i).flatMap stQ).length:Int)∧((r.2.2.1.take i).flatMap stQ).length≤16*i) (λs=>r.2.2.1.length-s.2.toNat) (λx=>x=((r.2.2.1.flatMap stQ).length:Int)) ?_ ⟨0,rfl,Nat.zero_le _,rfl,Nat.le_refl _⟩ (λx hx=> ?_)
    ·rintro⟨_,_⟩ ⟨i,rfl,hi,rfl,hle⟩
     dsimp only
     have hl10:=hw.le
     by_cases hil:i<r.2.2.1.length
     ·have hp1:=(hw.p _ (List.getElem_mem hil)).1
      have hp2:=hw.two _ (List.getElem_mem hil)
      have htk:((r.2.2.1.take (i+1)).flatMap stQ).length=((r.2.2.1.take i).flatMap stQ).length+(r.2.2.1[i].length-1):=by
       rw[List.take_succ_eq_append_getElem hil,List.flatMap_append,List.flatMap_cons,List.flatMap_nil,List.append_nil,List.length_append,Gj]
      rw[dlt hil,cT,AS hil,bs,wi (by omega),w64 (x:=(((r.2.2.1.take i).flatMap stQ).length:Int)+(r.2.2.1[i].length:Int)) (by omega) (by omega),w64 (by omega) (by omega)]
      exact⟨_,rfl,⟨i+1,rfl,hil,by dsimp only;omega,by omega⟩,by dsimp only;omega⟩
     ·obtain rfl:i=r.2.2.1.length:=by omega
      rw[Bx,cF]
      rw[List.take_length]
      exact⟨_,rfl,rfl⟩
    ·subst hx
     rw[hyl,bne_self_eq_false,Bool.and_false,cF,←hyl]
     refine AZ (λs:Int=>∃i:Nat,s=(i:Int)∧i≤y.length) (λs=>y.length-s.toNat) (λz:Unit ⊕ Bool=>z= .inl ()) ?_ ⟨0,rfl,Nat.zero_le _⟩ (λz hz=> ?_)
     ·rintro _ ⟨i,rfl,hi⟩
      have hyl':y.length≤200:=by
       rw[hyl]
       have h1:∀l:LL,(∀p∈l,p.length≤16)→(l.flatMap stQ).length≤16*l.length:=λl=>by
        induction l with
        |nil=>intro _;simp
        |cons p l ih=>
         intro h
         have h2:=ih λq hq=>h q (by simp[hq])
         have h3:=h p (by simp)
         rw[List.flatMap_cons,List.length_append,Gj,List.length_cons];omega
       have:=h1 r.2.2.1 λp hp=>(hw.p p hp).1
       have:=hw.le
       omega
      by_cases hil:i<y.length
      ·obtain⟨u,v,ee,hu,ha⟩:=hya _ (List.getElem_mem hil)
       rw[dlt hil,cT,AS hil,bs,bs,ee]
       rw[show ((([(u:Int),(v:Int)]:LI).length:Int) !=2)=false from rfl,cF,show idx [(u:Int),(v:Int)] 0=some (u:Int) from rfl,bs,bs,show idx [(u:Int),(v:Int)] 1=some (v:Int) from rfl,bs,EC hg hu ha,bs,bs,Bool.not_true,cF,wi (by omega)]
       exact⟨_,rfl,⟨i+1,rfl,hil⟩,by dsimp only;omega⟩
      ·obtain rfl:i=y.length:=by omega
       rw[Bx,cF]
       exact⟨_,rfl,rfl⟩
     ·subst hz
      dsimp only
      by_cases h0:(CA g).length=0
      ·rw[show (((CA g).length:Int)==0)=true by rw[h0];rfl,cT]
       refine⟨_,rfl,?_⟩
       cases hr:r.2.2.2 with
       |false=>rfl
       |true=>
        exfalso
        obtain⟨p,hp⟩:=List.exists_mem_of_ne_nil _ (hne hr)
        have h2:=hw.two p hp
        have h3:0<(stQ p).length:=by rw[Gj];omega
        obtain⟨e',he'⟩:=List.exists_mem_of_length_pos h3
        obtain⟨_,_,⟨u,v,rfl,rfl,hu,ha⟩,_⟩:=hw.ad e' (List.mem_flatMap.2 ⟨p,hp,he'⟩)
        have hne':u≠v:=λe=>hg.irr u hu (by rw[←e] at ha;exact ha)
        have hE:HasE g:=by
         by_cases hlt:u<v
         ·exact⟨u,v,hu,ha,hlt⟩
         ·exact⟨v,u,hg.lt hu ha,hg.sym u v hu ha,by omega⟩
        have:=hE.ne hg
        omega
      ·obtain⟨z,ez,hk⟩:=roll_ok code 813 hb (by omega)
       rw[show (((CA g).length:Int)==0)=false by rw[beq_eq_false_iff_ne];omega,cF,ez,bs]
       dsimp only
       refine Cb _ (below_then hk z ((CA g).length:Int) (by omega)) ?_
       rintro w ⟨hw0,hw1,_,_⟩
       obtain⟨u,v,e1,hu,ha,huv⟩:=Fz hg hw0 hw1
       obtain⟨s,es,hs,hsl,hsa⟩:=GB hg (by omega) ha
       obtain⟨b1,eb1,hb1⟩:=GF hg (by omega)
       obtain⟨b2,eb2,hb2⟩:=GF hs (by omega)
       rw[e1,bs,show idx [(u:Int),(v:Int)] 0=some (u:Int) from rfl,bs,show idx [(u:Int),(v:Int)] 1=some (v:Int) from rfl,bs,es,bs,bs]
       dsimp only
       rw[cT,Cp s hs.sh2,DL hs,bs,bs,cT,eb2,bs,eb1,bs,bs]
       refine⟨_,rfl,?_⟩
       have:b2=b1:=by rw[Bool.eq_iff_iff,hb1,hb2];exact(pln_split hg (by omega) ha hsl hsa).symm
       rw[this];exact beq_self_eq_true _
end Go.Sx
