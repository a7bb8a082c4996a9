/- Parts. -/
import Derived.Test.YtebbefpdncgoiaaGreatDoorCx5
set_option linter.unusedVariables false
set_option linter.unusedSimpArgs false
set_option linter.unusedSectionVars false
namespace Go.Sx
def Sh {α:Type}(xs:List α):Prop:=xs.length≤4294967296
theorem Ff (a b c:Int):D.f a b c=some (decide (b≤a)&&decide (a≤c)):=rfl
theorem inRange_eq (a b c:Int):D.f2 a b c=some (decide (b≤a)&&decide (a≤c)):=rfl
theorem any_beq (xs:LI)(n:Int):xs.any (λx=>x==n)=decide (n∈xs):=by
 rw[Bool.eq_iff_iff,List.any_eq_true];simp
theorem CW (xs:LI)(n:Int)(h:Sh xs):D.i xs n=some (decide (n∈xs)):=by
 unfold Sh at h
 unfold D.i
 refine(loop_anyb xs.length (λi=>xs.getD i 0==n) true (λi hi=> ?_) ?_ rfl rfl).trans ?_
 ·simp only[dlt hi,cond_true,AB hi,bs,wi' hi (by omega),Az hi]
  cases xs[i]==n<;>rfl
 ·simp only[Bc,cond_false]
 ·rw[E9 xs (λx=>x==n) _ (λi hi=>by rw[Az hi]),any_beq]
theorem Gi (xs:LI)(n:Int)(h:Sh xs):D.y0 xs n=some (decide (n∈xs)):=by
 unfold Sh at h
 unfold D.y0 D.d2
 have e:Aq (σ:=Int) (ρ:=(Unit) ⊕ (Int)) (fun(x_26:Int)=>cond (decide (x_26<(xs.length:Int))) ((idx xs x_26).bind λe_39=>cond (n==e_39) (some (.inr (.inr x_26))) (some (.inl (IntKind.i64.wrap (x_26+1))))) (some (.inr (.inl ())))) 0=
   some (((List.range xs.length).findSome? (λi=>if xs.getD i 0==n then some (Sum.inr (i:Int)) else none)).getD (.inl ())):=by
  refine Di xs.length _ _ (λi hi=> ?_) ?_
  ·simp only[dlt hi,cond_true,AB hi,bs,wi' hi (by omega),Az hi]
   rw[show (n==xs[i])=(xs[i]==n) from Bool.beq_comm ..]
   cases xs[i]==n<;>rfl
  ·simp only[Bc,cond_false]
 rw[e,bs]
 cases hf:(List.range xs.length).findSome? (λi=>if xs.getD i 0==n then some (Sum.inr (i:Int):Unit ⊕ Int) else none) with
 |none=>
  have:n∉xs:=λhm=>by
   obtain⟨i,hi,e⟩:=List.getElem_of_mem hm
   have:=(List.findSome?_eq_none_iff.1 hf) i (List.mem_range.2 hi)
   rw[Az hi,e] at this
   simp at this
  simp[this]
 |some r=>
  obtain⟨i,hi,hr⟩:=List.exists_of_findSome?_eq_some hf
  have hi':=List.mem_range.1 hi
  rw[Az hi'] at hr
  split at hr
  ·rename_i hc
   cases hr
   have:n∈xs:=by rw[←(beq_iff_eq.1 hc)];exact List.getElem_mem _
   simp[this]
  ·cases hr
def SetOf (xs:LI)(n:Int):Prop:=Inc xs∧∀x∈xs,0≤x∧x<n
theorem SetOf.len :∀{xs:LI} {n a:Int},Inc xs→(∀x∈xs,a≤x∧x<n)→xs=[]∨(xs.length:Int)≤n-a
 |[],_,_,_,_=> .inl rfl
 |x::xs,n,a,h,hr=>by
  right
  have h':=List.pairwise_cons.1 h
  have hx:=hr x (by simp)
  rcases SetOf.len (a:=x+1) (n:=n) h'.2 (λy hy=>⟨by have:=h'.1 y hy;omega,(hr y (by simp[hy])).2⟩) with e|e
  ·subst e;simp;omega
  ·simp;omega
theorem SetOf.length_le {xs:LI}{n:Int}(h:SetOf xs n)(hn:0≤n):(xs.length:Int)≤n:=by
 rcases SetOf.len h.1 h.2 with e|e
 ·subst e;simpa using hn
 ·omega
theorem inc_iff (xs:LI):Inc xs↔∀i (hi:i+1<xs.length),xs[i]<xs[i+1]:=by
 unfold Inc
 constructor
 ·intro h i hi
  exact List.pairwise_iff_getElem.1 h i (i+1) (by omega) hi (by omega)
 ·intro h
  rw[List.pairwise_iff_getElem]
  intro i j hi hj hij
  have key:∀k,∀hk:i+k+1<xs.length,xs[i]<xs[i+k+1]:=by
   intro k
   induction k with
   |zero=>intro hk;exact h i hk
   |succ k ih=>intro hk;have:=ih (by omega);have:=h (i+k+1) hk;exact Int.lt_trans (ih (by omega)) this
  obtain⟨k,rfl⟩:∃k,j=i+k+1:=⟨j-i-1,by omega⟩
  exact key k hj
def CA (xs:LI)(n:Int):Bool:=(List.range xs.length).all λi=>(decide (0≤xs.getD i 0)&&decide (xs.getD i 0≤n-1))&& !(decide (0<i)&&decide (xs.getD i 0≤xs.getD (i-1) 0))
theorem C9 (xs:LI)(n:Int):CA xs n=true↔SetOf xs n:=by
 unfold CA SetOf
 rw[Do,inc_iff]
 constructor
 ·intro h
  refine⟨λi hi=> ?_,λx hx=> ?_⟩
  ·have:=h (i+1) hi
   simp[hi,show i<xs.length by omega] at this
   omega
  ·obtain⟨i,hi,rfl⟩:=List.getElem_of_mem hx
   have:=h i hi
   simp[hi] at this
   omega
 ·rintro⟨h1,h2⟩ i hi
  have h3:=h2 _ (List.getElem_mem hi)
  simp[hi]
  refine⟨by omega,?_⟩
  rcases Nat.eq_zero_or_pos i with h0|h0
  ·exact .inl h0
  ·right
   have:=h1 (i-1) (by omega)
   have e:i-1+1=i:=by omega
   simp only[e] at this
   have e2:xs[i-1]?.getD 0=xs[i-1]:=by rw[List.getElem?_eq_getElem (by omega)];rfl
   rw[e2];exact this
theorem DS (xs:LI)(n:Int)(h:Sh xs)(h0:0≤n)(hn:n≤4294967296):D.M xs n=some (CA xs n):=by
 unfold Sh at h
 unfold D.M
 refine C3 xs.length _ false (λi hi=> ?_) ?_ rfl rfl
 ·simp only[dlt hi,cond_true,AB hi,bs,wi' hi (by omega),Az hi,inRange_eq]
  rw[w64 (x:=n-1) (by omega) (by omega)]
  cases (decide (0≤xs[i])&&decide (xs[i]≤n-1))
  ·simp
  ·by_cases h0:0<i
   ·have e1:IntKind.i64.wrap ((i:Int)-1)=((i-1:Nat):Int):=by rw[w64 (by omega) (by omega)];omega
    have hd:decide ((0:Int)<(i:Int))=true:=by simp;omega
    simp only[Bool.not_true,cond_false,hd,cond_true,e1,AB (show i-1<xs.length by omega),bs,Az (show i-1<xs.length by omega),h0,decide_true,Bool.true_and]
    cases decide (xs[i]≤xs[i-1])<;>rfl
   ·have hd:decide ((0:Int)<(i:Int))=false:=by simp;omega
    simp only[Bool.not_true,cond_false,hd,bs,h0,decide_false,Bool.false_and,Bool.not_false,Bool.and_true,if_true]
 ·simp only[Bc,cond_false]
theorem l1Set_eq (xs:LI)(n:Int)(h:Sh xs)(h0:0≤n)(hn:n≤4294967296):D.c0 xs n=some (CA xs n):=by
 have hh:=h
 unfold Sh at h
 unfold D.c0
 by_cases hl:n<xs.length
 ·have:CA xs n=false:=by
   cases hb:CA xs n
   ·rfl
   ·have:=((C9 xs n).1 hb).length_le h0;omega
  simp[hl,this]
 ·simp only[hl,decide_false,cond_false]
  refine C3 xs.length _ false (λi hi=> ?_) ?_ rfl rfl
  ·simp only[dlt hi,cond_true,AB hi,bs,wi' hi (by omega),Az hi,Ff]
   rw[w64 (x:=n-1) (by omega) (by omega)]
   cases (decide (0≤xs[i])&&decide (xs[i]≤n-1))
   ·simp
   ·by_cases h0:0<i
    ·have e1:IntKind.i64.wrap ((i:Int)-1)=((i-1:Nat):Int):=by rw[w64 (by omega) (by omega)];omega
     have hd:decide ((0:Int)<(i:Int))=true:=by simp;omega
     simp only[Bool.not_true,cond_false,hd,cond_true,e1,AB (show i-1<xs.length by omega),bs,Az (show i-1<xs.length by omega),h0,decide_true,Bool.true_and]
     cases decide (xs[i]≤xs[i-1])<;>rfl
    ·have hd:decide ((0:Int)<(i:Int))=false:=by simp;omega
     simp only[Bool.not_true,cond_false,hd,bs,h0,decide_false,Bool.false_and,Bool.not_false,Bool.and_true,if_true]
  ·simp only[Bc,cond_false]
def row (g:LL)(v:Nat):LI:=g.getD v []
theorem El {g:LL}{v:Nat}(h:v<g.length):row g v=g[v]:=Az h _
def adj (g:LL)(u v:Nat):Prop:=(v:Int)∈row g u
structure GOk (g:LL):Prop where
 n1:1≤g.length
 n16:g.length≤16
 rows:∀v,v<g.length→SetOf (row g v) g.length
 irr:∀v,v<g.length→¬adj g v v
 sym:∀u v,u<g.length→adj g u v→adj g v u
theorem GOk.mem {g:LL}(h:GOk g){u:Nat}(hu:u<g.length){x:Int}(hx:x∈row g u):∃v:Nat,x=v∧v<g.length∧adj g u v:=by
 have:=(h.rows u hu).2 x hx
 refine⟨x.toNat,by omega,by omega,?_⟩
 unfold adj
 rw[show ((x.toNat:Nat):Int)=x by omega];exact hx
theorem GOk.row_len {g:LL}(h:GOk g){u:Nat}(hu:u<g.length):(row g u).length≤16:=by
 have:=(h.rows u hu).length_le (by omega)
 have:=h.n16
 omega
theorem GOk.lt {g:LL}(h:GOk g){u v:Nat}(hu:u<g.length)(ha:adj g u v):v<g.length:=by
 obtain⟨w,h1,h2,_⟩:=h.mem hu ha
 omega
def Sh2 (g:LL):Prop:=Sh g∧∀r∈g,Sh r
theorem Sh2.row {g:LL}(h:Sh2 g){v:Nat}(hv:v<g.length):Sh (row g v):=by
 rw[El hv];exact h.2 _ (List.getElem_mem hv)
theorem Cn {g:LL}{v:Nat}(h:v<g.length):idx g (v:Int)=some (row g v):=by rw[El h,AB h]
def gB1 (g:LL):Bool:=(List.range g.length).all λv=>CA (row g v) g.length&& !decide ((v:Int)∈row g v)
def gB2 (g:LL):Bool:=(List.range g.length).all λv=>(row g v).all λx=>decide ((v:Int)∈row g x.toNat)
def gB (g:LL):Bool:=decide (1≤g.length)&&decide (g.length≤16)&&gB1 g&&gB2 g
theorem EB (g:LL):gB g=true↔GOk g:=by
 unfold gB gB1 gB2
 simp only[Bool.and_eq_true,decide_eq_true_eq,C9,Bool.not_eq_true',decide_eq_false_iff_not,List.all_eq_true,List.mem_range]
 constructor
 ·rintro⟨⟨⟨h1,h2⟩,h3⟩,h4⟩
  refine⟨h1,h2,λv hv=>(h3 v hv).1,λv hv=>(h3 v hv).2,λu v hu ha=> ?_⟩
  have:=h4 u hu v ha
  unfold adj
  simpa using this
 ·intro h
  refine⟨⟨⟨h.n1,h.n16⟩,λv hv=>⟨h.rows v hv,h.irr v hv⟩⟩,λv hv x hx=> ?_⟩
  obtain⟨u,rfl,hu,ha⟩:=h.mem hv hx
  have:=h.sym v u hv ha
  simpa [adj] using this
theorem CD (g:LL)(h:Sh2 g):D.J g=some (gB g):=by
 have hl:g.length≤4294967296:=h.1
 unfold D.J D.a
 simp only[bs,Ff]
 by_cases hn:1≤g.length∧g.length≤16
 ·have e:(decide ((1:Int)≤(g.length:Int))&&decide ((g.length:Int)≤16))=true:=by simp;omega
  simp only[e,Bool.not_true,cond_false]
  refine(Ee g.length (λv=>CA (row g v) g.length&& !decide ((v:Int)∈row g v)) (.inl ()) (.inr false) (λv hv=> ?_) ?_).trans ?_
  rotate_left
  ·simp only[Bc,cond_false]
  ·show cond (gB1 g) _ _=_
   have e4:gB g=(gB1 g&&gB2 g):=by unfold gB;simp[hn.1,hn.2]
   rw[e4]
   cases hc:gB1 g with
   |false=>rfl
   |true=>
    rw[cond_true,Bool.true_and]
    refine C3 g.length _ false (λv hv=> ?_) ?_ rfl rfl
    ·have hset:SetOf (row g v) g.length:=by
      have:=(Do _ _).1 hc v hv
      simp only[Bool.and_eq_true] at this
      exact(C9 _ _).1 this.1
     simp only[dlt hv,cond_true]
     refine(Ee (row g v).length (λi=>decide ((v:Int)∈row g ((row g v).getD i 0).toNat)) (.inl ()) (.inr false) (λi hi=> ?_) ?_).trans ?_
     ·have hx:=hset.2 _ (List.getElem_mem hi)
      have e5:idx g (row g v)[i]=some (row g ((row g v)[i]).toNat):=by
       have:=Cn (g:=g) (v:=((row g v)[i]).toNat) (by omega)
       rwa [show ((((row g v)[i]).toNat:Nat):Int)=(row g v)[i] by omega] at this
      have hs:=h.row (v:=((row g v)[i]).toNat) (by omega)
      simp only[Cn hv,bs,dlt hi,cond_true,AB hi,e5,CW _ _ hs,wi (show i<4611686018427387904 by have:=h.row hv;unfold Sh at this;omega),Az hi]
      cases decide ((v:Int)∈row g ((row g v)[i]).toNat)<;>rfl
     ·simp only[Cn hv,bs,Bc,cond_false]
     ·rw[CR (row g v) (λx=>decide ((v:Int)∈row g x.toNat)) _ (λi hi=>by rw[Az hi]),wi' hv (by omega)]
      cases (row g v).all λx=>decide ((v:Int)∈row g x.toNat)<;>rfl
    ·simp only[Bc,cond_false]
  ·simp only[dlt hv,cond_true,Cn hv,bs,l1Set_eq _ _ (h.row hv) (show (0:Int)≤(g.length:Int) by omega) (by omega),CW _ _ (h.row hv),wi' hv (by omega)]
   cases CA (row g v) g.length
   ·rfl
   ·cases decide ((v:Int)∈row g v)<;>rfl
 ·have e:(decide ((1:Int)≤(g.length:Int))&&decide ((g.length:Int)≤16))=false:=by
   rw[Bool.eq_false_iff];simp;omega
  simp only[e,Bool.not_false,cond_true]
  unfold gB
  congr 1
  symm
  rw[Bool.eq_false_iff]
  simp
  omega
theorem CG (g:LL)(h:Sh2 g):D.Q g=some (gB g):=by
 have hl:g.length≤4294967296:=h.1
 unfold D.Q
 by_cases hn:1≤g.length∧g.length≤16
 ·have e:(decide ((g.length:Int)<(1:Int))||decide ((16:Int)<(g.length:Int)))=false:=by simp;omega
  simp only[e,cond_false]
  refine(Ee g.length (λv=>CA (row g v) g.length&& !decide ((v:Int)∈row g v)) (.inl ()) (.inr false) (λv hv=> ?_) ?_).trans ?_
  rotate_left
  ·simp only[Bc,cond_false]
  ·show cond (gB1 g) _ _=_
   have e4:gB g=(gB1 g&&gB2 g):=by unfold gB;simp[hn.1,hn.2]
   rw[e4]
   cases hc:gB1 g with
   |false=>rfl
   |true=>
    rw[cond_true,Bool.true_and]
    refine C3 g.length _ false (λv hv=> ?_) ?_ rfl rfl
    ·have hset:SetOf (row g v) g.length:=by
      have:=(Do _ _).1 hc v hv
      simp only[Bool.and_eq_true] at this
      exact(C9 _ _).1 this.1
     simp only[dlt hv,cond_true,Cn hv,bs]
     refine(Ee (row g v).length (λi=>decide ((v:Int)∈row g ((row g v).getD i 0).toNat)) (.inl ()) (.inr false) (λi hi=> ?_) ?_).trans ?_
     ·have hx:=hset.2 _ (List.getElem_mem hi)
      have e5:idx g (row g v)[i]=some (row g ((row g v)[i]).toNat):=by
       have:=Cn (g:=g) (v:=((row g v)[i]).toNat) (by omega)
       rwa [show ((((row g v)[i]).toNat:Nat):Int)=(row g v)[i] by omega] at this
      have hs:=h.row (v:=((row g v)[i]).toNat) (by omega)
      simp only[bs,dlt hi,cond_true,AB hi,e5,Gi _ _ hs,wi (show i<4611686018427387904 by have:=h.row hv;unfold Sh at this;omega),Az hi]
      cases decide ((v:Int)∈row g ((row g v)[i]).toNat)<;>rfl
     ·simp only[Bc,cond_false]
     ·rw[CR (row g v) (λx=>decide ((v:Int)∈row g x.toNat)) _ (λi hi=>by rw[Az hi]),wi' hv (by omega)]
      cases (row g v).all λx=>decide ((v:Int)∈row g x.toNat)<;>rfl
    ·simp only[Bc,cond_false]
  ·simp only[dlt hv,cond_true,Cn hv,bs,DS _ _ (h.row hv) (show (0:Int)≤(g.length:Int) by omega) (by omega),Gi _ _ (h.row hv),wi' hv (by omega)]
   cases CA (row g v) g.length
   ·rfl
   ·cases decide ((v:Int)∈row g v)<;>rfl
 ·have e:(decide ((g.length:Int)<(1:Int))||decide ((16:Int)<(g.length:Int)))=true:=by
   simp;omega
  simp only[e,cond_true]
  unfold gB
  congr 1
  symm
  rw[Bool.eq_false_iff]
  simp
  omega
structure OOk (g:LL)(o:LI):Prop where
 len:o.length=g.length
 rng:∀x∈o,0≤x∧x<g.length
 nd:o.Nodup
def oB (g:LL)(o:LI):Bool:=(List.range o.length).all λi=>(decide (0≤o.getD i 0)&&decide (o.getD i 0≤(g.length:Int)-1))&& !decide (o.getD i 0∈o.take i)
theorem mem_take_iff {α:Type}{l:List α}{i:Nat}{x:α}:x∈l.take i↔∃j,∃h:j<l.length,j<i∧l[j]=x:=by
 rw[List.mem_take_iff_getElem]
 constructor
 ·rintro⟨j,h,e⟩;exact⟨j,by omega,by omega,e⟩
 ·rintro⟨j,h,h2,e⟩;exact⟨j,by omega,e⟩
theorem nodup_iff {l:LI}:l.Nodup↔∀i (hi:i<l.length),l[i]∉l.take i:=by
 constructor
 ·intro h i hi hm
  obtain⟨j,hj,hji,e⟩:=mem_take_iff.1 hm
  have:=(List.pairwise_iff_getElem.1 h) j i hj hi hji
  exact this e
 ·intro h
  refine List.pairwise_iff_getElem.2 (λi j hi hj hij e=>h j hj (mem_take_iff.2 ⟨i,hi,hij,e⟩))
theorem oB_iff (g:LL)(o:LI)(hl:o.length=g.length):oB g o=true↔OOk g o:=by
 unfold oB
 rw[Do]
 constructor
 ·intro h
  refine⟨hl,λx hx=> ?_,nodup_iff.2 λi hi=> ?_⟩
  ·obtain⟨i,hi,rfl⟩:=List.getElem_of_mem hx
   have:=h i hi
   rw[Az hi] at this
   simp at this;omega
  ·have:=h i hi
   rw[Az hi] at this
   simp at this;exact this.2
 ·intro h i hi
  have h1:=h.rng _ (List.getElem_mem hi)
  have h2:=nodup_iff.1 h.nd i hi
  rw[Az hi]
  simp[h2];omega
def ordB (g:LL)(o:LI):Bool:=decide (o.length=g.length)&&oB g o
theorem ordB_iff (g:LL)(o:LI):ordB g o=true↔OOk g o:=by
 unfold ordB
 by_cases hl:o.length=g.length
 ·simp[hl,oB_iff g o hl]
 ·simp[hl];intro h;exact hl h.len
theorem GB (g:LL)(o:LI)(h:Sh2 g)(ho:Sh o):D.O0 g o=some (gB g&&ordB g o):=by
 have hl:g.length≤4294967296:=h.1
 have hol:o.length≤4294967296:=ho
 unfold D.O0
 rw[CD g h,bs]
 cases hg:gB g
 ·rfl
 ·have hg':=(EB g).1 hg
  simp only[cond_true]
  unfold D.N1 D.a ordB
  simp only[bs]
  by_cases hl:o.length=g.length
  ·have e:((o.length:Int) !=(g.length:Int))=false:=by simp[hl]
   simp only[e,cond_false]
   simp only[Option.bind_fun_some,hl,decide_true,Bool.true_and]
   unfold oB
   rw[←hl]
   refine C3 o.length _ false (λi hi=> ?_) ?_ rfl rfl
   ·have hsh:Sh (o.take i):=by unfold Sh;rw[List.length_take];omega
    simp only[dlt hi,cond_true,AB hi,bs,wi' hi (by omega),Az hi,←hl,D.I1,D.a,Ff,Et (show i≤o.length by omega),CW _ _ hsh]
    rw[w64 (x:=(o.length:Int)-1) (by omega) (by omega)]
    cases (decide (0≤o[i])&&decide (o[i]≤(o.length:Int)-1))
    ·rfl
    ·cases decide (o[i]∈o.take i)<;>rfl
   ·simp only[Bc,cond_false]
  ·have e:((o.length:Int) !=(g.length:Int))=true:=by simp;omega
   simp[e,hl]
theorem sorted_inc {y:LI}(hs:Srt y 0 y.length)(hn:y.Nodup):Inc y:=by
 unfold Inc
 rw[List.pairwise_iff_getElem]
 intro i j hi hj hij
 have h1:=hs i j (by omega) (by omega) (by omega)
 have h2:=(List.pairwise_iff_getElem.1 hn) i j hi hj hij
 simp[at',hi,hj] at h1
 have:y[i]≠y[j]:=h2
 omega
theorem GA (g:LL)(o:LI)(h:Sh2 g)(ho:Sh o):D.l2 g o=some (gB g&&ordB g o):=by
 unfold D.l2
 rw[CG g h,bs]
 cases hg:gB g
 ·rfl
 ·have hg':=(EB g).1 hg
  by_cases hl:o.length=g.length
  ·have e:((o.length:Int) !=(g.length:Int))=false:=by simp[hl]
   have h16:=hg'.n16
   obtain⟨y,h1,h2,h3⟩:=sorted_spec o (by omega)
   have hyl:=h2.length_eq
   simp only[Bool.not_true,e,Bool.or_false,cond_false,h1,bs,Bool.true_and]
   rw[DS y _ (by unfold Sh;omega) (by omega) (by omega),bs]
   congr 1
   unfold ordB
   simp only[hl,decide_true,Bool.true_and]
   rw[Bool.eq_iff_iff,C9,oB_iff g o hl]
   constructor
   ·rintro⟨k1,k2⟩
    refine⟨hl,λx hx=>k2 x (h2.mem_iff.2 hx),h2.nodup_iff.1 ?_⟩
    exact List.Pairwise.imp (λh e=>by omega) k1
   ·intro k
    exact⟨sorted_inc h3 (h2.nodup_iff.2 k.nd),λx hx=>k.rng x (h2.mem_iff.1 hx)⟩
  ·have e:((o.length:Int) !=(g.length:Int))=true:=by simp;omega
   simp[e,ordB,hl]
theorem Cy (v:Nat):D.e (v:Int)=some (ishl .u32 1 (v:Int)):=by
 unfold D.e
 have:decide ((v:Int)<0)=false:=by simp
 rw[this];rfl
theorem impl_one_eq' {x:Int}(h:0≤x):D.e x=some (ishl .u32 1 x):=by
 have:=Cy x.toNat
 rwa [show ((x.toNat:Nat):Int)=x by omega] at this
def mk (xs:LI):Int:=xs.foldl (λs v=>ior .u32 s (ishl .u32 1 v)) 0
theorem maskOf_eq (xs:LI)(h:Sh xs)(h0:∀x∈xs,0≤x):D.p0 xs=some (mk xs):=by
 unfold Sh at h
 unfold D.p0
 refine(loop_listb xs (λs i=>(s,i)) (λs v=>ior .u32 s (ishl .u32 1 v)) (λs=>s) (λ_=>True) 0 trivial (λs i hi _=>⟨?_,trivial⟩) (λs _=> ?_)).trans rfl
 ·simp only[dlt hi,cond_true,AB hi,bs,wi' hi (by omega),impl_one_eq' (h0 _ (List.getElem_mem hi))]
 ·simp only[Bc,cond_false]
theorem FV :∀(xs:LI) (s:Int),VS s→VS (xs.foldl (λs v=>ior .u32 s (ishl .u32 1 v)) s)
 |[],s,h=>h
 |x::xs,s,_=>FV xs _ (VS.ior _ _)
theorem VS.mk (xs:LI):VS (mk xs):=FV xs 0 VS.zero
theorem FD (u:Nat):∀(xs:LI) (s:Int),VS s→(∀x∈xs,0≤x∧x<32)→has (xs.foldl (λs v=>ior .u32 s (ishl .u32 1 v)) s) u=(has s u||decide ((u:Int)∈xs))
 |[],s,_,_=>by simp
 |x::xs,s,hs,h=>by
  have hx:=h x (by simp)
  rw[List.foldl_cons,FD u xs _ (VS.ior _ _) (λy hy=>h y (by simp[hy])),Cu hs (VS.ishl _ _)]
  obtain⟨k,rfl⟩:∃k:Nat,x=k:=⟨x.toNat,by omega⟩
  rw[BY (by omega)]
  by_cases hu:u=k
  ·subst hu;simp
  ·have:¬(u:Int)=(k:Int):=by omega
   simp[hu,this]
theorem CJ {xs:LI}(h:∀x∈xs,0≤x∧x<32)(u:Nat):has (mk xs) u=decide ((u:Int)∈xs):=by
 unfold mk;rw[FD u xs 0 VS.zero h,BI,Bool.false_or]
theorem GOk.mem0 {g:LL}(hg:GOk g){r:LI}(hr:r∈g):r.length≤16∧∀x∈r,0≤x∧x<g.length:=by
 obtain⟨v,hv,rfl⟩:=List.getElem_of_mem hr
 rw[←El hv]
 exact⟨hg.row_len hv,(hg.rows v hv).2⟩
theorem DZ (g:LL)(hg:GOk g):D.F g=some (g.map mk):=by
 have h16:=hg.n16
 unfold D.F
 refine(DW g (λs i=>(s,i)) mk (by omega) (λs i hi _=> ?_) (λs=> ?_)).trans rfl
 ·obtain⟨h1,h2⟩:=hg.mem0 (List.getElem_mem hi)
  simp only[dlt hi,cond_true,AB hi,bs,wi' hi (by omega),maskOf_eq g[i] (by unfold Sh;omega) (λx hx=>(h2 x hx).1)]
 ·simp only[Bc,cond_false]
theorem narrow_eq (xs:LI)(h:Sh xs):D.u2 xs=some xs:=by
 unfold Sh at h
 unfold D.u2
 rw[makeD_zero (by omega) (by omega),bs]
 refine(DW xs (λs i=>(s,i)) (λx=>x) h (λs i hi _=> ?_) (λs=> ?_)).trans (by simp)
 ·simp only[dlt hi,cond_true,AB hi,bs,wi' hi (by omega)]
 ·simp only[Bc,cond_false]
theorem wide_eq (xs:LI)(h:Sh xs):D.u1 xs=some xs:=by
 unfold Sh at h
 unfold D.u1
 rw[makeD_zero (by omega) (by omega),bs]
 refine(DW xs (λs i=>(s,i)) (λx=>x) h (λs i hi _=> ?_) (λs=> ?_)).trans (by simp)
 ·simp only[dlt hi,cond_true,AB hi,bs,wi' hi (by omega)]
 ·simp only[Bc,cond_false]
theorem least_eq {s:Int}(h:VS s)(h0:s≠0):∃k:Nat,k<32∧D.e0 s=some (k:Int)∧has s k=true∧(∀v,v<k→has s v=false)∧
  (∀v,has (iand .u32 s (IntKind.u32.wrap (s-1))) v=(has s v&& !decide (v=k))):=by
 obtain⟨k,h1,h2,h3,h4,h5⟩:=least_spec h h0
 refine⟨k,h1,?_,h2,h3,h5⟩
 unfold D.e0 D.W1
 have e:(s==0)=false:=by simpa using h0
 simp only[e,cond_false,h4,tz_table k h1,bs]
 rw[w64 (by omega) (by omega)]
theorem DF (s:Int)(h:VS s):D.l s=some (An s):=by
 unfold D.l
 have key:∀(n:Nat) (x:Int) (l:LI),VS x→(An x).length=n→l.length+n≤32→
   Aq (σ:=Int×LI) (ρ:=(LI)) (fun(s_52:Int×LI)=>match s_52 with|(x_55,l_56)=>cond (x_55 !=0) ((D.e0 x_55).bind λy_88=>(AS l_56 ([y_88]:LI)).bind λl_99=>some (.inl ((iand .u32 x_55 (IntKind.u32.wrap (x_55-1))),l_99))) (some (.inr l_56))) (x,l)=some (l++An x):=by
  intro n
  induction n with
  |zero=>
   intro x l hx hn _
   have e:An x=[]:=List.eq_nil_of_length_eq_zero hn
   have e0:x=0:=hx.eq_zero.2 λv hv=>by
    cases hc:has x v
    ·rfl
    ·have:=mem_elems.2 ⟨v,hv,hc,rfl⟩;rw[e] at this;simp at this
   rw[e]
   refine Be ?_
   have:(x !=0)=false:=by simp[e0]
   simp only[this,cond_false,List.append_nil]
  |succ n ih=>
   intro x l hx hn hl
   have h0:x≠0:=by rintro rfl;rw[Es] at hn;simp at hn
   obtain⟨k,h1,h2,h3,h4,h5⟩:=least_eq hx h0
   have e:=elems_least h1 h3 h4 h5
   have en:(An (iand .u32 x (IntKind.u32.wrap (x-1)))).length=n:=by rw[e] at hn;simpa using hn
   have hstep:=ih (iand .u32 x (IntKind.u32.wrap (x-1))) (l++[(k:Int)]) (VS.iand _ _) en (by simp;omega)
   have e1:(x !=0)=true:=by simpa using h0
   rw[BB (s':=(iand .u32 x (IntKind.u32.wrap (x-1)),l++[(k:Int)]))]
   ·rw[hstep,e];simp
   ·simp only[e1,cond_true,h2,bs,A9 (xs:=l) (ys:=[(k:Int)]) (by simp;omega)]
 have:=key (An s).length s [] h rfl (by simpa using BF s)
 rw[this];simp
theorem elems_sh (s:Int):Sh (An s):=by have:=BF s;unfold Sh;omega
theorem numbers_eq (s:Int)(h:VS s):D.J0 s=some (An s):=by
 unfold D.J0
 rw[DF s h,bs,wide_eq _ (elems_sh s)];rfl
theorem Fy (xs:LI)(h:Sh xs)(hv:∀s∈xs,VS s):D.Y xs=some (xs.map An):=by
 unfold Sh at h
 unfold D.Y
 refine(DW xs (λs i=>(s,i)) An h (λs i hi _=> ?_) (λs=> ?_)).trans rfl
 ·simp only[dlt hi,cond_true,AB hi,bs,wi' hi (by omega),numbers_eq _ (hv _ (List.getElem_mem hi))]
 ·simp only[Bc,cond_false]
theorem DE (xs:LI)(h:Sh xs):D.g xs=some xs:=by
 unfold Sh at h
 unfold D.g
 rw[A9 (by simpa using h)];rfl
def into (xs:LI)(n:Int):LI:=if n∈xs then xs else xs.takeWhile (λx=>decide (x<n))++n::xs.dropWhile (λx=>decide (x<n))
theorem mem_into {xs:LI}{n x:Int}:x∈into xs n↔x=n∨x∈xs:=by
 unfold into
 split
 ·constructor
  ·intro h;exact .inr h
  ·rintro(rfl|h)
   ·assumption
   ·exact h
 ·have e:x∈xs↔x∈xs.takeWhile (λx=>decide (x<n))++xs.dropWhile (λx=>decide (x<n)):=by rw[List.takeWhile_append_dropWhile]
  rw[e];simp only[List.mem_append,List.mem_cons]
  constructor
  ·rintro(h|h|h)<;>simp[h]
  ·rintro(h|h|h)<;>simp[h]
theorem Fz {xs:LI}{n:Int}(h:Inc xs):∀y∈xs.dropWhile (λx=>decide (x<n)),n≤y:=by
 induction xs with
 |nil=>simp
 |cons x xs ih=>
  have h':=List.pairwise_cons.1 h
  intro y hy
  rw[List.dropWhile_cons] at hy
  split at hy
  ·exact ih h'.2 y hy
  ·rename_i hc
   simp at hc
   rcases List.mem_cons.1 hy with rfl|hy
   ·exact hc
   ·have:=h'.1 y hy;omega
theorem inc_takeWhile {xs:LI}{n:Int}:∀y∈xs.takeWhile (λx=>decide (x<n)),y<n:=by
 intro y hy
 induction xs with
 |nil=>simp at hy
 |cons x xs ih=>
  rw[List.takeWhile_cons] at hy
  split at hy
  ·rename_i hc
   rcases List.mem_cons.1 hy with rfl|hy
   ·simpa using hc
   ·exact ih hy
  ·simp at hy
theorem Inc.into {xs:LI}(h:Inc xs)(n:Int):Inc (into xs n):=by
 unfold Sx.into
 split
 ·exact h
 ·rename_i hn
  unfold Inc
  rw[List.pairwise_append]
  refine⟨List.Pairwise.sublist (List.takeWhile_sublist _) h,List.pairwise_cons.2 ⟨λy hy=> ?_,List.Pairwise.sublist (List.dropWhile_sublist _) h⟩,λa ha b hb=> ?_⟩
  ·have h1:=Fz h y hy
   have h2:y≠n:=λe=>hn (e▸(List.dropWhile_sublist _).mem hy)
   omega
  ·have h1:=inc_takeWhile a ha
   rcases List.mem_cons.1 hb with rfl|hb
   ·exact h1
   ·have:=Fz h b hb;omega
theorem into_len (xs:LI)(n:Int):(into xs n).length≤xs.length+1:=by
 unfold into
 split
 ·omega
 ·have:(xs.takeWhile (λx=>decide (x<n))++xs.dropWhile (λx=>decide (x<n))).length=xs.length:=by rw[List.takeWhile_append_dropWhile]
  simp only[List.length_append,List.length_cons] at this ⊢;omega
theorem DJ {α:Type}(p:α→Bool):∀(xs:List α),xs.takeWhile p=xs.take (xs.takeWhile p).length∧xs.dropWhile p=xs.drop (xs.takeWhile p).length
 |[]=>by simp
 |x::xs=>by
  rw[List.takeWhile_cons,List.dropWhile_cons]
  cases p x
  ·simp
  ·have:=DJ p xs
   simp only[if_true,List.length_cons,List.take_succ_cons,List.drop_succ_cons,←this.1,←this.2,and_self]
theorem DQ {α:Type}(p:α→Bool):∀(xs:List α) (i:Nat) (h:i<(xs.takeWhile p).length) (h':i<xs.length),p xs[i]=true
 |x::xs,i,h,h'=>by
  rw[List.takeWhile_cons] at h
  cases hp:p x
  ·rw[hp] at h;simp at h
  ·rw[hp] at h
   cases i with
   |zero=>simpa using hp
   |succ i=>simp only[if_true,List.length_cons] at h;simpa using DQ p xs i (by omega) (by simpa using h')
theorem Eh {α:Type}(p:α→Bool):∀(xs:List α) (h:(xs.takeWhile p).length<xs.length),p (xs[(xs.takeWhile p).length])=false
 |x::xs,h=>by
  cases hp:p x
  ·simp[List.takeWhile_cons,hp]
  ·have h2:(xs.takeWhile p).length<xs.length:=by simpa [List.takeWhile_cons,hp] using h
   simpa [List.takeWhile_cons,hp] using Eh p xs h2
theorem Gr {α:Type}(p:α→Bool)(xs:List α):(xs.takeWhile p).length≤xs.length:=(List.takeWhile_sublist _).length_le
theorem EP (xs:LI)(n:Int)(h:Inc xs)(hl:xs.length≤4294967295):D.n xs n=some (into xs n):=by
 unfold D.n
 generalize hk:(xs.takeWhile (λx=>decide (x<n))).length=k
 have hkl:k≤xs.length:=by rw[←hk];exact Gr _ _
 have htk:xs.takeWhile (λx=>decide (x<n))=xs.take k:=by rw[←hk];exact(DJ _ xs).1
 have hdk:xs.dropWhile (λx=>decide (x<n))=xs.drop k:=by rw[←hk];exact(DJ _ xs).2
 refine(B8 (λi=>((i:Nat):Int)) k (k:Int) rfl (λi hi=> ?_) ?_).trans ?_
 ·have hi':i<xs.length:=by omega
  have hp:decide (xs[i]<n)=true:=DQ (λx=>decide (x<n)) xs i (by omega) hi'
  simp only[dlt hi',cond_true,AB hi',bs,hp,wq i]
 ·by_cases hlt:k<xs.length
  ·have hp:decide (xs[k]<n)=false:=by
    have:=Eh (λx=>decide (x<n)) xs (by omega)
    simp only[hk] at this;exact this
   simp only[dlt hlt,cond_true,AB hlt,bs,hp,cond_false]
  ·obtain rfl:k=xs.length:=by omega
   simp only[Bc,cond_false,bs]
 ·have hS1:Sh (xs.take k):=by unfold Sh;rw[List.length_take];omega
  have hrest:((Co xs 0 (k:Int)).bind λl_135=>(D.g l_135).bind λy_139=>(AS y_139 ([n]:LI)).bind λl_154=>(Co xs (k:Int) (xs.length:Int)).bind λl_160=>(AS l_154 l_160).bind λl_164=>some l_164)=some (xs.take k++n::xs.drop k):=by
   simp only[Et hkl,E5 hkl,bs,DE _ hS1]
   rw[A9 (by simp;omega),bs,A9 (by simp;omega),bs]
   simp
  by_cases hlt:k<xs.length
  ·simp only[dlt hlt,cond_true,AB hlt,bs]
   by_cases he:xs[k]=n
   ·have hm:n∈xs:=by rw[←he];exact List.getElem_mem _
    have:(xs[k]==n)=true:=by simp[he]
    simp only[this,cond_true]
    unfold into;rw[if_pos hm]
   ·have:(xs[k]==n)=false:=by simpa using he
    simp only[this,cond_false,hrest]
    unfold into
    rw[htk,hdk,if_neg]
    intro hm
    obtain⟨j,hj,e⟩:=List.getElem_of_mem hm
    have hst:decide (xs[k]<n)=false:=by
     have:=Eh (λx=>decide (x<n)) xs (by omega)
     simp only[hk] at this;exact this
    simp at hst
    rcases Nat.lt_trichotomy j k with h1|h1|h1
    ·have:=DQ (λx=>decide (x<n)) xs j (by omega) hj
     simp at this;omega
    ·subst h1;exact he e
    ·have:=(List.pairwise_iff_getElem.1 h) k j hlt hj h1
     omega
  ·obtain rfl:k=xs.length:=by omega
   simp only[Bc,cond_false,bs,hrest]
   unfold into
   rw[htk,hdk,if_neg]
   intro hm
   obtain⟨j,hj,e⟩:=List.getElem_of_mem hm
   have:=DQ (λx=>decide (x<n)) xs j (by omega) hj
   simp at this;omega
theorem Inc.short {s:LI}{n:Nat}(h:Inc s)(hr:∀x∈s,0≤x∧x<n):s.length≤n:=by
 rcases SetOf.len h hr with e|e
 ·subst e;simp
 ·omega
end Go.Sx



namespace Go.Sx
structure DK (b:LI)(i:Int):Prop where
 byte:∀x∈b,0≤x∧x≤255
 len:b.length≤4096
 i0:0≤i
 i1:i≤b.length
theorem tmod_rng {x n:Int}(hx:0≤x)(hn:0<n):0≤Int.tmod x n∧Int.tmod x n<n:=
 ⟨Int.tmod_nonneg _ hx,Int.tmod_lt_of_pos _ hn⟩
theorem row_set {g:LL}{u v:Nat}{r:LI}(hu:u<g.length):row (g.set u r) v=if v=u then r else row g v:=by
 unfold row
 by_cases h:v=u
 ·subst h;simp[hu]
 ·rw[if_neg h,List.getD_eq_getElem?_getD,List.getElem?_set_ne (λe=>h e.symm),←List.getD_eq_getElem?_getD]
theorem ET {g:LL}(hg:GOk g){u v:Nat}(hu:u<g.length)(hv:v<g.length)(huv:u≠v):
  ∃g',D.q g (u:Int) (v:Int)=some g'∧GOk g'∧g'.length=g.length∧∀a b,adj g' a b↔adj g a b∨(a=u∧b=v)∨(a=v∧b=u):=by
 have h16:=hg.n16
 have hru:=hg.rows u hu;have hrv:=hg.rows v hv
 have hlu:=hg.row_len hu;have hlv:=hg.row_len hv
 refine⟨(g.set u (into (row g u) v)).set v (into (row g v) u),?_,?_⟩
 ·unfold D.q
  have e1:row (g.set u (into (row g u) v)) v=row g v:=by rw[row_set hu,if_neg (Ne.symm huv)]
  simp only[Cn hu,bs,EP _ _ hru.1 (show (row g u).length≤4294967295 by omega),Int.toNat_natCast]
  rw[Cn (show v<(g.set u (into (row g u) v)).length by simpa using hv),e1]
  simp only[bs,EP _ _ hrv.1 (show (row g v).length≤4294967295 by omega)]
 ·have hrow:∀w,row ((g.set u (into (row g u) v)).set v (into (row g v) u)) w=if w=v then into (row g v) u else if w=u then into (row g u) v else row g w:=by
   intro w
   rw[row_set (by simpa using hv),row_set hu]
  have hadj:∀a b,adj ((g.set u (into (row g u) v)).set v (into (row g v) u)) a b↔adj g a b∨(a=u∧b=v)∨(a=v∧b=u):=by
   intro a b
   unfold adj
   rw[hrow]
   by_cases ha:a=v
   ·subst ha
    rw[if_pos rfl,mem_into]
    constructor
    ·rintro(h|h)
     ·exact .inr (.inr ⟨rfl,by omega⟩)
     ·exact .inl h
    ·rintro(h|⟨h,_⟩|⟨_,h⟩)
     ·exact .inr h
     ·exact absurd h.symm huv
     ·exact .inl (by omega)
   ·rw[if_neg ha]
    by_cases ha':a=u
    ·subst ha'
     rw[if_pos rfl,mem_into]
     constructor
     ·rintro(h|h)
      ·exact .inr (.inl ⟨rfl,by omega⟩)
      ·exact .inl h
     ·rintro(h|⟨_,h⟩|⟨h,_⟩)
      ·exact .inr h
      ·exact .inl (by omega)
      ·exact absurd h ha
    ·rw[if_neg ha']
     constructor
     ·exact .inl
     ·rintro(h|⟨h,_⟩|⟨h,_⟩)
      ·exact h
      ·exact absurd h ha'
      ·exact absurd h ha
  refine⟨⟨by simpa using hg.n1,by simpa using h16,λw hw=> ?_,λw hw=> ?_,λa b ha hab=> ?_⟩,by simp,hadj⟩
  ·simp only[List.length_set] at hw ⊢
   rw[hrow]
   split
   ·refine⟨hrv.1.into _,λx hx=> ?_⟩
    rcases mem_into.1 hx with rfl|hx
    ·omega
    ·exact hrv.2 x hx
   ·split
    ·refine⟨hru.1.into _,λx hx=> ?_⟩
     rcases mem_into.1 hx with rfl|hx
     ·omega
     ·exact hru.2 x hx
    ·exact hg.rows w hw
  ·simp only[List.length_set] at hw
   rw[hadj]
   rintro(h|⟨h1,h2⟩|⟨h1,h2⟩)
   ·exact hg.irr w hw h
   ·omega
   ·omega
  ·simp only[List.length_set] at ha
   rw[hadj] at hab ⊢
   rcases hab with h|h|h
   ·exact .inl (hg.sym a b ha h)
   ·exact .inr (.inr ⟨h.2,h.1⟩)
   ·exact .inr (.inl ⟨h.2,h.1⟩)
theorem GOk.empty {n:Nat}(h1:1≤n)(h16:n≤16):GOk (List.replicate n []):=by
 have hr:∀v,row (List.replicate n []) v=[]:=λv=>by
  unfold row
  rw[List.getD_eq_getElem?_getD,List.getElem?_replicate];split<;>rfl
 refine⟨by simpa using h1,by simpa using h16,λv _=> ?_,λv _=> ?_,λu v _ h=> ?_⟩
 ·rw[hr];exact⟨by simp[Inc],by simp⟩
 ·unfold adj;rw[hr];simp
 ·unfold adj at h;rw[hr] at h;simp at h
end Go.Sx



namespace Go.Sx
theorem ext_getD {a b:LI}(hl:a.length=b.length)(h:∀j,j<a.length→a.getD j 0=b.getD j 0):a=b:=by
 apply List.ext_getElem hl
 intro j h1 h2
 have:=h j h1
 rwa [Az h1,Az h2] at this
theorem EL (l:LI)(i j:Nat)(x:Int)(hi:i<l.length):(l.set i x).getD j 0=if j=i then x else l.getD j 0:=by
 simp only[List.getD_eq_getElem?_getD,List.getElem?_set]
 by_cases h:j=i
 ·subst h;simp[hi]
 ·rw[if_neg (λe=>h e.symm),if_neg h]
def nb (F:LI)(u w:Nat):Bool:=has (F.getD u 0) w
structure FOk (F:LI)(n:Nat):Prop where
 len:F.length=n
 vs:∀u,u<n→VS (F.getD u 0)
 lt:∀u w,u<n→nb F u w=true→w<n
 irr:∀u,u<n→nb F u u=false
 sym:∀u w,u<n→nb F u w=true→nb F w u=true
theorem FOk.ext {F F':LI}{n:Nat}(h:F.length=n)(h':F'.length=n)(v:∀u,u<n→VS (F.getD u 0))(v':∀u,u<n→VS (F'.getD u 0))(e:∀u w,u<n→nb F u w=nb F' u w):F=F':=by
 refine ext_getD (by omega) (λj hj=> ?_)
 exact(v j (by omega)).ext (v' j (by omega)) (λw _=>e j w (by omega))
theorem Ek (g:LL)(u:Nat):(g.map mk).getD u 0=mk (row g u):=by
 unfold row
 simp only[List.getD_eq_getElem?_getD,List.getElem?_map]
 cases g[u]? with
 |none=>simp[mk]
 |some r=>rfl
theorem CL {g:LL}(hg:GOk g){u w:Nat}(hu:u<g.length):nb (g.map mk) u w=true↔adj g u w:=by
 have h16:=hg.n16
 unfold nb
 rw[Ek,CJ (λx hx=>by have:=(hg.rows u hu).2 x hx;omega)]
 simp[adj]
theorem FOk.of {g:LL}(hg:GOk g):FOk (g.map Sx.mk) g.length:=by
 refine⟨by simp,λu _=>by rw[Ek];exact VS.mk _,λu w hu h=>hg.lt hu ((CL hg hu).1 h),λu hu=> ?_,λu w hu h=> ?_⟩
 ·cases h:nb (g.map Sx.mk) u u
  ·rfl
  ·exact absurd ((CL hg hu).1 h) (hg.irr u hu)
 ·have ha:=(CL hg hu).1 h
  exact(CL hg (hg.lt hu ha)).2 (hg.sym u w hu ha)
def grow (F:LI):LL:=F.map An
theorem row_grow (F:LI)(u:Nat):row (grow F) u=An (F.getD u 0):=by
 unfold row grow
 simp only[List.getD_eq_getElem?_getD,List.getElem?_map]
 cases F[u]? with
 |none=>simp[Es]
 |some r=>rfl
theorem EG {F:LI}{n u w:Nat}(h:FOk F n)(hu:u<n):adj (grow F) u w↔nb F u w=true:=by
 unfold adj nb
 rw[row_grow,AQ (h.vs u hu)]
theorem GOk.grow {F:LI}{n:Nat}(h:FOk F n)(h1:1≤n)(h16:n≤16):GOk (grow F):=by
 have hl:(Sx.grow F).length=n:=by unfold Sx.grow;rw[List.length_map,h.len]
 refine⟨by omega,by omega,λv hv=> ?_,λv hv ha=> ?_,λu v hu ha=> ?_⟩
 ·rw[row_grow,hl]
  refine⟨Bz _,λx hx=> ?_⟩
  obtain⟨w,_,h2,rfl⟩:=mem_elems.1 hx
  have:=h.lt v w (by omega) h2
  omega
 ·rw[EG h (by omega)] at ha
  rw[h.irr v (by omega)] at ha;cases ha
 ·rw[EG h (by omega)] at ha
  have:=h.lt u v (by omega) ha
  rw[EG h (by omega)]
  exact h.sym u v (by omega) ha
theorem EC {s:Int}(h:VS s):mk (An s)=s:=by
 refine(VS.mk _).ext h (λv hv=> ?_)
 rw[CJ (λx hx=>by obtain⟨w,h1,_,rfl⟩:=mem_elems.1 hx;omega),Bool.eq_iff_iff,decide_eq_true_eq,AQ h]
theorem all_mask :∀n:Fin 17,∀v:Fin 32,has (IntKind.u32.wrap (ishl .u32 1 (n.val:Int)-1)) v.val=decide (v.val<n.val):=by decide+kernel
theorem Ej (F:LI)(h:F.length≤16):∃s,D.r F=some s∧VS s∧∀v,has s v=decide (v<F.length):=by
 refine⟨IntKind.u32.wrap (ishl .u32 1 (F.length:Int)-1),?_,VS.wrap _,λv=> ?_⟩
 ·unfold D.r D.T0
  have:decide ((F.length:Int)<0)=false:=by simp
  rw[this];rfl
 ·by_cases hv:v<32
  ·exact all_mask ⟨F.length,by omega⟩ ⟨v,hv⟩
  ·rw[Ey (VS.wrap _) (by omega)];symm;simp;omega
theorem inner_ok {n v:Nat}(F L:LI)(S:Int)(h16:n≤16)(hF:F.length=n)(hV:∀u,u<n→VS (F.getD u 0))(hS:VS S)(hSn:∀w,has S w=true→w<n)(hL:idx L (v:Int)=some S):
  ∃F',(Aq (σ:=LI×Int) (ρ:=(LI)) (fun(s_776:LI×Int)=>match s_776 with|(l_779,x_782)=>cond (decide (x_782<((An S).length:Int))) ((idx (An S) x_782).bind λe_820=>(idx l_779 e_820).bind λe_826=>(idx L (v:Int)).bind λe_832=>(D.e e_820).bind λy_838=>(idx l_779 e_820).bind λe_841=>some (.inl ((l_779.set (Int.toNat e_820) (ior .u32 e_826 (iandNot .u32 e_832 y_838))),(IntKind.i64.wrap (x_782+1))))) (some (.inr l_779))) (F,0))=some F'∧
   (F'.length=n∧(∀u,u<n→VS (F'.getD u 0))∧∀u w,u<n→nb F' u w=(nb F u w||(has S u&&has S w&&decide (w≠u)))):=by
 have key:=AP (k:=λr=>some r) (Q:=λF':LI=>F'.length=n∧(∀u,u<n→VS (F'.getD u 0))∧∀u w,u<n→nb F' u w=(nb F u w||(has S u&&has S w&&decide (w≠u))))
  (step:=(fun(s_776:LI×Int)=>match s_776 with|(l_779,x_782)=>cond (decide (x_782<((An S).length:Int))) ((idx (An S) x_782).bind λe_820=>(idx l_779 e_820).bind λe_826=>(idx L (v:Int)).bind λe_832=>(D.e e_820).bind λy_838=>(idx l_779 e_820).bind λe_841=>some (.inl ((l_779.set (Int.toNat e_820) (ior .u32 e_826 (iandNot .u32 e_832 y_838))),(IntKind.i64.wrap (x_782+1))))) (some (.inr l_779)))) (s:=(F,0))
  (λs=>∃i:Nat,s.2=(i:Int)∧i≤(An S).length∧s.1.length=n∧(∀u,u<n→VS (s.1.getD u 0))∧∀u w,u<n→nb s.1 u w=(nb F u w||(decide ((u:Int)∈(An S).take i)&&has S w&&decide (w≠u)))) (λs=>(An S).length-s.2.toNat)
  (λF'=>F'.length=n∧(∀u,u<n→VS (F'.getD u 0))∧∀u w,u<n→nb F' u w=(nb F u w||(has S u&&has S w&&decide (w≠u)))) ?_ ⟨0,rfl,by omega,hF,hV,λu w _=>by simp⟩ (λr hr=>⟨r,rfl,hr⟩)
 ·obtain⟨y,hy,hq⟩:=key
  rw[Option.bind_eq_some_iff] at hy
  obtain⟨a,ha,hb⟩:=hy
  cases hb
  exact⟨_,ha,hq⟩
 ·rintro⟨l,_⟩ ⟨i,rfl,hi,hl,hv,hh⟩
  dsimp only at hl hv hh ⊢
  have hle:=BF S
  by_cases hlt:i<(An S).length
  ·obtain⟨u0,h1,h2,h3⟩:=mem_elems.1 (List.getElem_mem hlt)
   have h4:=hSn u0 h2
   simp only[dlt hlt,cond_true,AB hlt,bs,h3,AB (show u0<l.length by omega),hL,Cy,wq i,Int.toNat_natCast]
   refine⟨_,rfl,⟨i+1,rfl,by omega,by simp[hl],λu hu=> ?_,λu w hu=> ?_⟩,by dsimp only;omega⟩
   ·rw[EL _ _ _ _ (by omega)]
    split
    ·exact VS.ior _ _
    ·exact hv u hu
   ·have hmem:((u:Int)∈(An S).take (i+1))↔((u:Int)∈(An S).take i∨u=u0):=by
     rw[List.take_succ_eq_append_getElem hlt,List.mem_append,h3]
     simp[Int.natCast_inj]
    unfold nb
    rw[EL _ _ _ _ (by omega)]
    by_cases hc:u=u0
    ·subst hc
     rw[if_pos rfl]
     have hg:l[u]=l.getD u 0:=(Az (by omega) 0).symm
     rw[hg,Cu (hv u hu) (VS.iandNot _ _),Bw hS (VS.ishl _ _),BY (by omega)]
     have:=hh u w hu
     unfold nb at this
     rw[this,decide_eq_true (hmem.2 (.inr rfl))]
     cases has (F.getD u 0) w<;>cases has S w<;>by_cases hw:w=u<;>simp[hw]
    ·rw[if_neg hc]
     have:=hh u w hu
     unfold nb at this
     rw[this]
     have:decide ((u:Int)∈(An S).take (i+1))=decide ((u:Int)∈(An S).take i):=by
      rw[Bool.eq_iff_iff,decide_eq_true_eq,decide_eq_true_eq,hmem];simp[hc]
     rw[this]
  ·obtain rfl:i=(An S).length:=by omega
   simp only[Bc,cond_false]
   refine⟨_,rfl,hl,hv,λu w hu=> ?_⟩
   rw[hh u w hu,List.take_length]
   congr 3
   rw[Bool.eq_iff_iff,decide_eq_true_eq,AQ hS]
def PEO (F:LI)(o:LI):Prop:=∀(j:Nat) (v u w:Nat),o[j]? =some (v:Int)→nb F v u=true→nb F v w=true→(u:Int)∉o.take (j+1)→(w:Int)∉o.take (j+1)→u≠w→nb F u w=true
def Lat (F L:LI)(o:LI)(i:Nat):Prop:=∀(j:Nat) (v:Nat),j<i→o[j]? =some (v:Int)→∀w,nb L v w=(nb F v w&&decide ((w:Int)∉o.take (j+1)))
inductive Via (F:LI)(gone:Nat→Prop)(u:Nat):Nat→Prop
 |me:Via F gone u u
 |step {x y:Nat}:Via F gone u x→nb F x y=true→gone y→Via F gone u y
theorem Via.mono {F:LI}{g g':Nat→Prop}{u x:Nat}(h:Via F g u x)(hg:∀y,g y→g' y):Via F g' u x:=by
 induction h with
 |me=>exact .me
 |step _ h1 h2 ih=>exact .step ih h1 (hg _ h2)
theorem Via.end_ {F:LI}{g:Nat→Prop}{u x:Nat}(h:Via F g u x):x=u∨g x:=by
 cases h with
 |me=>exact .inl rfl
 |step _ _ h2=>exact .inr h2
theorem Via.lt {F:LI}{n:Nat}(hF:FOk F n){g:Nat→Prop}{u x:Nat}(hu:u<n)(h:Via F g u x):x<n:=by
 induction h with
 |me=>exact hu
 |step _ h1 _ ih=>exact hF.lt _ _ ih h1
theorem Via.back {F:LI}{n:Nat}(hF:FOk F n){g g':Nat→Prop}(hg:∀y,g y→g' y){v x:Nat}(hv:v<n)(hgv:g' v)(h:Via F g v x):∀z,Via F g' z x→Via F g' z v:=by
 induction h with
 |me=>exact λz h=>h
 |step hx h1 h2 ih=>
  intro z hz
  have hxn:=Via.lt hF hv hx
  refine ih z (.step hz (hF.sym _ _ hxn h1) ?_)
  rcases hx.end_ with e|e
  ·rw[e];exact hgv
  ·exact hg _ e
def Bhd (F:LI)(gone:Nat→Prop)(v w:Nat):Prop:=∃x,Via F gone v x∧nb F x w=true
structure EInv (n:Nat)(F0 o:LI)(i:Nat)(F L:LI)(left:Int):Prop where
 f:FOk F n
 lenL:L.length=n
 vsL:∀u,u<n→VS (L.getD u 0)
 vsl:VS left
 left:∀v,has left v=decide (v<n∧(v:Int)∉o.take i)
 mono:∀u w,u<n→nb F0 u w=true→nb F u w=true
 lat:Lat F L o i
 peo:∀(j:Nat) (v u w:Nat),j<i→o[j]? =some (v:Int)→nb F v u=true→nb F v w=true→(u:Int)∉o.take (j+1)→(w:Int)∉o.take (j+1)→u≠w→nb F u w=true
 same:PEO F0 o→F=F0
 via:∀u w:Nat,u<n→(u:Int)∉o.take i→(w:Int)∉o.take i→u≠w→(nb F u w=true↔Bhd F0 (λx=>(x:Int)∈o.take i) u w)
 latb:∀(j:Nat) (v:Nat),j<i→o[j]? =some (v:Int)→∀w:Nat,nb L v w=true↔(w:Int)∉o.take (j+1)∧Bhd F0 (λx=>(x:Int)∈o.take j) v w
theorem DP {o:LI}{j i:Nat}(h:j≤i){x:Int}(hx:x∈o.take j):x∈o.take i:=by
 rw[mem_take_iff] at hx ⊢
 obtain⟨k,h1,h2,h3⟩:=hx
 exact⟨k,h1,by omega,h3⟩
theorem EInv.step {n:Nat}{F0 o F L:LI}{i v:Nat}{left:Int}(h16:n≤16)(h0:FOk F0 n)(hn:∀x∈o,0≤x∧x<n)(hnd:o.Nodup)(hi:i<o.length)(hv:o[i]=(v:Int))(h:EInv n F0 o i F L left){F':LI}
  (hl':F'.length=n) (hv':∀u,u<n→VS (F'.getD u 0)) (h':∀u w,u<n→nb F' u w=(nb F u w||(has (iand .u32 (F.getD v 0) (iandNot .u32 left (ishl .u32 1 (v:Int)))) u&&has (iand .u32 (F.getD v 0) (iandNot .u32 left (ishl .u32 1 (v:Int)))) w&&decide (w≠u)))):
  EInv n F0 o (i+1) F' (L.set v (iand .u32 (F.getD v 0) (iandNot .u32 left (ishl .u32 1 (v:Int))))) (iandNot .u32 left (ishl .u32 1 (v:Int))):=by
 have hvn:v<n:=by have:=hn _ (List.getElem_mem hi);omega
 have hvt:(v:Int)∉o.take i:=by rw[←hv];exact nodup_iff.1 hnd i hi
 have htk:∀x:Nat,((x:Int)∈o.take (i+1))↔((x:Int)∈o.take i∨x=v):=λx=>by
  rw[List.take_succ_eq_append_getElem hi,List.mem_append,hv];simp[Int.natCast_inj]
 have hleft:∀w,has (iandNot .u32 left (ishl .u32 1 (v:Int))) w=decide (w<n∧(w:Int)∉o.take (i+1)):=λw=>by
  rw[Bw h.vsl (VS.ishl _ _),BY (by omega),h.left,Bool.eq_iff_iff]
  simp only[Bool.and_eq_true,decide_eq_true_eq,Bool.not_eq_true',decide_eq_false_iff_not,htk]
  constructor
  ·rintro⟨⟨a,b⟩,c⟩;exact⟨a,λhh=>hh.elim b c⟩
  ·rintro⟨a,b⟩;exact⟨⟨a,λhh=>b (.inl hh)⟩,λhh=>b (.inr hh)⟩
 have hS:∀w,has (iand .u32 (F.getD v 0) (iandNot .u32 left (ishl .u32 1 (v:Int)))) w=(nb F v w&&decide ((w:Int)∉o.take (i+1))):=λw=>by
  rw[B6 (h.f.vs v hvn) (VS.iandNot _ _),hleft,Bool.eq_iff_iff]
  show (nb F v w&&_)=true↔_
  simp only[Bool.and_eq_true,decide_eq_true_eq]
  exact⟨fun⟨a,b,c⟩=>⟨a,c⟩,fun⟨a,c⟩=>⟨a,h.f.lt v w hvn a,c⟩⟩
 have hlV:VS (iandNot .u32 left (ishl .u32 1 (v:Int))):=VS.iandNot _ _
 generalize iandNot .u32 left (ishl .u32 1 (v:Int))=left' at*
 generalize hSS:iand .u32 (F.getD v 0) left'=S at*
 have hSV:VS S:=by rw[←hSS];exact VS.iand _ _
 have hSlt:∀w,has S w=true→w<n∧(w:Int)∉o.take (i+1):=λw hw=>by
  rw[hS] at hw
  simp only[Bool.and_eq_true,decide_eq_true_eq] at hw
  exact⟨h.f.lt v w hvn hw.1,hw.2⟩
 have hmono:∀u w,u<n→nb F u w=true→nb F' u w=true:=λu w hu hh=>by rw[h' u w hu,hh];rfl
 have hold:∀x:Nat,x<n→(x:Int)∈o.take (i+1)→∀w,nb F' x w=nb F x w:=λx hx hm w=>by
  rw[h' x w hx]
  have:has S x=false:=by
   cases hc:has S x
   ·rfl
   ·exact absurd hm (hSlt x hc).2
  simp[this]
 have hf':FOk F' n:=by
  refine⟨hl',hv',λu w hu hh=> ?_,λu hu=> ?_,λu w hu hh=> ?_⟩
  ·rw[h' u w hu] at hh
   simp only[Bool.or_eq_true,Bool.and_eq_true] at hh
   rcases hh with hh|⟨⟨_,hh⟩,_⟩
   ·exact h.f.lt u w hu hh
   ·exact(hSlt w hh).1
  ·rw[h' u u hu,h.f.irr u hu];simp
  ·rw[h' u w hu] at hh
   simp only[Bool.or_eq_true,Bool.and_eq_true,decide_eq_true_eq] at hh
   rcases hh with hh|⟨⟨h1,h2⟩,h3⟩
   ·exact hmono w u (h.f.lt u w hu hh) (h.f.sym u w hu hh)
   ·rw[h' w u (hSlt w h2).1,h1,h2]
    have:decide (u≠w)=true:=by simpa using λe=>h3 e.symm
    simp[this]
 have hjv:∀j (x:Nat),o[j]? =some (x:Int)→j<o.length∧x<n∧(x:Int)∈o.take (j+1):=λj x hx=>by
  obtain⟨h1,h2⟩:=List.getElem?_eq_some_iff.1 hx
  have:=hn _ (List.getElem_mem h1)
  refine⟨h1,by omega,?_⟩
  rw[mem_take_iff];exact⟨j,h1,by omega,h2⟩
 refine⟨hf',by simp[h.lenL],λu hu=> ?_,hlV,hleft,λu w hu hh=>hmono u w hu (h.mono u w hu hh),λj x hj hx w=> ?_,λj x u w hj hx h1 h2 h3 h4 h5=> ?_,λhp=> ?_,λu w hu k1 k2 huw=> ?_,λj x hj hx w=> ?_⟩
 ·rw[EL _ _ _ _ (by rw[h.lenL];exact hvn)]
  split
  ·exact hSV
  ·exact h.vsL u hu
 ·obtain⟨k1,k2,k3⟩:=hjv j x hx
  have k4:=DP (show j+1≤i+1 by omega) k3
  rw[hold x k2 k4 w]
  unfold nb
  rw[EL _ _ _ _ (by rw[h.lenL];exact hvn)]
  by_cases hji:j=i
  ·subst hji
   rw[List.getElem?_eq_getElem hi,hv] at hx
   have:x=v:=by
    have:(v:Int)=(x:Int):=by simpa using hx
    omega
   subst this
   rw[if_pos rfl,hS];rfl
  ·have hne:x≠v:=λe=>by
    subst e
    exact hvt (DP (show j+1≤i by omega) k3)
   rw[if_neg hne]
   exact h.lat j x (by omega) hx w
 ·obtain⟨k1,k2,k3⟩:=hjv j x hx
  have k4:=DP (show j+1≤i+1 by omega) k3
  rw[hold x k2 k4] at h1 h2
  by_cases hji:j=i
  ·subst hji
   rw[List.getElem?_eq_getElem hi,hv] at hx
   have:x=v:=by
    have:(v:Int)=(x:Int):=by simpa using hx
    omega
   subst this
   have hu:has S u=true:=by rw[hS,h1];simpa using h3
   have hw:has S w=true:=by rw[hS,h2];simpa using h4
   rw[h' u w (hSlt u hu).1,hu,hw]
   have:decide (w≠u)=true:=by simpa using λe=>h5 e.symm
   simp[this]
  ·exact hmono u w (h.f.lt x u k2 h1) (h.peo j x u w (by omega) hx h1 h2 h3 h4 h5)
 ·have hFF:=h.same hp
  subst hFF
  refine FOk.ext hl' h.f.len hv' h.f.vs (λu w hu=> ?_)
  rw[h' u w hu,Bool.eq_iff_iff]
  simp only[Bool.or_eq_true,Bool.and_eq_true,decide_eq_true_eq]
  constructor
  ·rintro(hh|⟨⟨h1,h2⟩,h3⟩)
   ·exact hh
   ·have k1:=(hSlt u h1).2;have k2:=(hSlt w h2).2
    rw[hS] at h1 h2
    simp only[Bool.and_eq_true] at h1 h2
    exact hp i v u w (by rw[List.getElem?_eq_getElem hi,hv]) h1.1 h2.1 k1 k2 (λe=>h3 e.symm)
  ·exact .inl
 ·have q1:(u:Int)∉o.take i:=λe=>k1 ((htk u).2 (.inl e))
  have q2:(w:Int)∉o.take i:=λe=>k2 ((htk w).2 (.inl e))
  have huv:u≠v:=λe=>k1 ((htk u).2 (.inr e))
  have hwv:w≠v:=λe=>k2 ((htk w).2 (.inr e))
  have hgg:∀y:Nat,(y:Int)∈o.take i→(y:Int)∈o.take (i+1):=λy hy=>(htk y).2 (.inl hy)
  rw[h' u w hu]
  simp only[Bool.or_eq_true,Bool.and_eq_true,decide_eq_true_eq]
  constructor
  ·rintro(hh|⟨⟨a1,a2⟩,_⟩)
   ·obtain⟨x,hx,e⟩:=(h.via u w hu q1 q2 huw).1 hh
    exact⟨x,hx.mono hgg,e⟩
   ·rw[hS] at a1 a2
    simp only[Bool.and_eq_true,decide_eq_true_eq] at a1 a2
    obtain⟨x,hx,ex⟩:=(h.via v u hvn hvt q1 (λe=>huv e.symm)).1 a1.1
    obtain⟨y,hy,ey⟩:=(h.via v w hvn hvt q2 (λe=>hwv e.symm)).1 a2.1
    have hvg:(v:Int)∈o.take (i+1):=(htk v).2 (.inr rfl)
    have hxn:=Via.lt h0 hvn hx
    have hxg:(x:Int)∈o.take (i+1):=by
     rcases hx.end_ with e|e
     ·rw[e];exact hvg
     ·exact hgg x e
    have hux:Via F0 (λx=>(x:Int)∈o.take (i+1)) u x:= .step .me (h0.sym x u hxn ex) hxg
    have huv':=Via.back h0 (g':=λx=>(x:Int)∈o.take (i+1)) hgg hvn hvg hx u hux
    have hgo:∀y,Via F0 (λx=>(x:Int)∈o.take i) v y→Via F0 (λx=>(x:Int)∈o.take (i+1)) u y:=λy hy=>by
     induction hy with
     |me=>exact huv'
     |step _ b1 b2 ih=>exact .step ih b1 (hgg _ b2)
    exact⟨y,hgo y hy,ey⟩
  ·rintro⟨x,hx,ex⟩
   have hcl:∀x,Via F0 (λx=>(x:Int)∈o.take (i+1)) u x→Via F0 (λx=>(x:Int)∈o.take i) u x∨(Bhd F0 (λx=>(x:Int)∈o.take i) u v∧Via F0 (λx=>(x:Int)∈o.take i) v x):=λx hx=>by
    induction hx with
    |me=>exact .inl .me
    | @step a b _ b1 b2 ih=>
     rcases(htk b).1 b2 with b2|b2
     ·rcases ih with ih|⟨ih1,ih2⟩
      ·exact .inl (.step ih b1 b2)
      ·exact .inr ⟨ih1,.step ih2 b1 b2⟩
     ·rcases ih with ih|⟨ih1,ih2⟩
      ·subst b2;exact .inr ⟨⟨a,ih,b1⟩,.me⟩
      ·subst b2;exact .inr ⟨ih1,.me⟩
   rcases hcl x hx with hx|⟨hx1,hx2⟩
   ·exact .inl ((h.via u w hu q1 q2 huw).2 ⟨x,hx,ex⟩)
   ·right
    have a1:=(h.via u v hu q1 hvt huv).2 hx1
    have a2:=(h.via v w hvn hvt q2 (λe=>hwv e.symm)).2 ⟨x,hx2,ex⟩
    refine⟨⟨?_,?_⟩,λe=>huw e.symm⟩
    ·rw[hS,h.f.sym u v hu a1];simpa using k1
    ·rw[hS,a2];simpa using k2
 ·obtain⟨k1,k2,k3⟩:=hjv j x hx
  unfold nb
  rw[EL _ _ _ _ (by rw[h.lenL];exact hvn)]
  by_cases hji:j=i
  ·subst hji
   rw[List.getElem?_eq_getElem hi,hv] at hx
   have:x=v:=by
    have:(v:Int)=(x:Int):=by simpa using hx
    omega
   subst this
   rw[if_pos rfl,hS,Bool.and_eq_true,decide_eq_true_eq]
   constructor
   ·rintro⟨b1,b2⟩
    have b3:(w:Int)∉o.take j:=λe=>b2 ((htk w).2 (.inl e))
    have b4:x≠w:=λe=>b2 ((htk w).2 (.inr e.symm))
    exact⟨b2,(h.via x w hvn hvt b3 b4).1 b1⟩
   ·rintro⟨b2,b1⟩
    have b3:(w:Int)∉o.take j:=λe=>b2 ((htk w).2 (.inl e))
    have b4:x≠w:=λe=>b2 ((htk w).2 (.inr e.symm))
    exact⟨(h.via x w hvn hvt b3 b4).2 b1,b2⟩
  ·have hne:x≠v:=λe=>by
    subst e
    exact hvt (DP (show j+1≤i by omega) k3)
   rw[if_neg hne]
   exact h.latb j x (by omega) hx w
theorem elim_ok {n:Nat}{F0 o:LI}(h16:n≤16)(h0:FOk F0 n)(hl:o.length=n)(hn:∀x∈o,0≤x∧x<n)(hnd:o.Nodup):
  ∃y,D.m2 F0 o=some y∧∃left,EInv n F0 o n y.1 y.2 left:=by
 have hlen:=h0.len
 unfold D.m2
 rw[A9 (by simp;omega),bs]
 obtain⟨s,e1,hs1,hs2⟩:=Ej F0 (by omega)
 rw[e1,bs,DV (by omega) (by omega),bs]
 simp only[bs,List.nil_append]
 refine AP (λst=>∃i:Nat,st.2.2.2=(i:Int)∧i≤n∧EInv n F0 o i st.1 st.2.1 st.2.2.1) (λst=>n-st.2.2.2.toNat) (λr=>∃left,EInv n F0 o n r.1 r.2 left) ?_ ?_ ?_
 ·rintro⟨F,L,left,_⟩ ⟨i,rfl,hi,h⟩
  dsimp only at h ⊢
  rw[hl]
  by_cases hlt:i<n
  ·have hio:i<o.length:=by omega
   obtain⟨v,hv⟩:∃v:Nat,o[i]=(v:Int):=⟨(o[i]).toNat,by have:=hn _ (List.getElem_mem hio);omega⟩
   have hvn:v<n:=by have:=hn _ (List.getElem_mem hio);omega
   have hFv:idx F (v:Int)=some (F.getD v 0):=by rw[AB (by rw[h.f.len];omega),Az (by rw[h.f.len];omega)]
   have hLs:idx (L.set v (iand .u32 (F.getD v 0) (iandNot .u32 left (ishl .u32 1 (v:Int))))) (v:Int)=some (iand .u32 (F.getD v 0) (iandNot .u32 left (ishl .u32 1 (v:Int)))):=by
    rw[AB (by simp[h.lenL];omega)];simp
   simp only[dlt hlt,cond_true,AB hio,hv,bs,Cy,hFv,AB (show v<L.length by rw[h.lenL];omega),Int.toNat_natCast]
   rw[hLs]
   simp only[bs,DF _ (VS.iand _ _)]
   have hSlt:∀w,has (iand .u32 (F.getD v 0) (iandNot .u32 left (ishl .u32 1 (v:Int)))) w=true→w<n:=λw hw=>by
    rw[B6 (h.f.vs v hvn) (VS.iandNot _ _)] at hw
    simp only[Bool.and_eq_true] at hw
    exact h.f.lt v w hvn hw.1
   obtain⟨F',e2,k1,k2,k3⟩:=inner_ok F _ _ h16 h.f.len h.f.vs (VS.iand _ _) hSlt hLs
   rw[hLs] at e2
   refine bind_eq (x:=F') e2 ?_
   rw[wq i]
   exact⟨_,rfl,⟨i+1,rfl,by omega,h.step h16 h0 hn hnd hio hv k1 k2 k3⟩,by dsimp only;omega⟩
  ·obtain rfl:i=n:=by omega
   simp only[Bc,cond_false]
   exact⟨_,rfl,_,h⟩
 ·refine⟨0,rfl,by omega,h0,by simp[hlen],λu hu=> ?_,hs1,λv=>by rw[hs2,hlen];simp,λu w _ h=>h,λj v hj=>by omega,λj v u w hj=>by omega,λ_=>rfl,λu w hu _ _ _=>⟨λhh=>⟨u,.me,hh⟩,fun⟨x,hx,e⟩=> ?_⟩,λj v hj=>by omega⟩
  ·rw[List.getD_eq_getElem?_getD,List.getElem?_replicate]
   split<;>exact VS.zero
  ·rcases hx.end_ with e2|e2
   ·rw[←e2];exact e
   ·simp at e2
 ·rintro⟨F,L⟩ h
  exact⟨_,rfl,h⟩
def cnt (n k:Nat):Nat:=((List.range k).filter (λi=>n.testBit i)).length
theorem cnt_add (n a b:Nat):cnt n (a+b)=cnt n a+cnt (n>>>a) b:=by
 unfold cnt
 rw[List.range_add,List.filter_append,List.length_append,List.filter_map,List.length_map]
 congr 2
 apply List.filter_congr
 intro i _
 simp[Nat.testBit_shiftRight]
theorem cnt_mod (n k:Nat):cnt (n%2^k) k=cnt n k:=by
 unfold cnt
 congr 1
 apply List.filter_congr
 intro i hi
 have:=List.mem_range.1 hi
 rw[Nat.testBit_mod_two_pow];simp[this]
theorem elems_length (n:Nat):(An (n:Int)).length=cnt n 32:=by
 unfold An cnt
 rw[List.length_map]
 rfl
theorem pop_all :∀b:Fin 256,EQ Fd (b.val:Int)=some ((cnt b.val 8:Nat):Int):=by decide+kernel
theorem pop_at {b:Nat}(h:b<256):EQ Fd (b:Int)=some ((cnt b 8:Nat):Int):=pop_all ⟨b,h⟩
theorem cnt_le (n k:Nat):cnt n k≤k:=by
 unfold cnt
 exact Nat.le_trans (List.length_filter_le _ _) (by simp)
theorem wrap8 {x:Int}(h0:0≤x)(h:x<256):IntKind.u8.wrap x=x:=by
 simp[IntKind.wrap,IntKind.signed,IntKind.bits];omega
theorem OnesCount32_eq {s:Int}(h:VS s):D.j1 s=some ((An s).length:Int):=by
 obtain⟨n,rfl,hn⟩:=h.nat
 have s24:BN .u32 (n:Int) 24=((n>>>24:Nat):Int):=shr_eq (n:Int) 24 h (by omega)
 have s16:BN .u32 (n:Int) 16=((n>>>16:Nat):Int):=shr_eq (n:Int) 16 h (by omega)
 have s8:BN .u32 (n:Int) 8=((n>>>8:Nat):Int):=shr_eq (n:Int) 8 h (by omega)
 have lt:∀k,n>>>k<4294967296:=λk=>by
  rw[Nat.shiftRight_eq_div_pow];exact Nat.lt_of_le_of_lt (Nat.div_le_self _ _) hn
 have a255:∀m:Nat,m<4294967296→iand .u32 (m:Int) 255=((m%256:Nat):Int):=λm hm=>by
  have:=EA hm (show (255:Nat)<4294967296 by omega)
  rw[show ((255:Nat):Int)=255 from rfl] at this
  rw[this]
  congr 1
  exact Nat.and_two_pow_sub_one_eq_mod (n:=8) m
 have h24:n>>>24<256:=by rw[Nat.shiftRight_eq_div_pow];exact Nat.div_lt_of_lt_mul (by simpa using hn)
 have ec:cnt n 32=cnt (n%256) 8+cnt (n>>>8%256) 8+cnt (n>>>16%256) 8+cnt (n>>>24) 8:=by
  rw[show (32:Nat)=8+(8+(8+8)) from rfl,cnt_add n 8,cnt_add _ 8,cnt_add _ 8]
  have e1:=cnt_mod n 8;have e2:=cnt_mod (n>>>8) 8;have e3:=cnt_mod (n>>>16) 8
  simp only[show (2:Nat)^8=256 from rfl] at e1 e2 e3
  rw[e1,e2,e3]
  simp only[←Nat.shiftRight_add,Nat.reduceAdd]
  omega
 unfold D.j1
 rw[s24,s16,s8,a255 _ (lt 16),a255 _ (lt 8),a255 n hn,pop_at h24,pop_at (Nat.mod_lt _ (by omega)),pop_at (Nat.mod_lt _ (by omega)),pop_at (Nat.mod_lt _ (by omega))]
 simp only[bs]
 have c1:=cnt_le (n>>>24) 8;have c2:=cnt_le (n>>>16%256) 8;have c3:=cnt_le (n>>>8%256) 8;have c4:=cnt_le (n%256) 8
 generalize cnt (n>>>24) 8=a at*;generalize cnt (n>>>16%256) 8=b at*;generalize cnt (n>>>8%256) 8=c at*;generalize cnt (n%256) 8=d at*
 rw[wrap8 (x:=(a:Int)+b) (by omega) (by omega),wrap8 (x:=(a:Int)+b+c) (by omega) (by omega),wrap8 (x:=(a:Int)+b+c+d) (by omega) (by omega),w64 (by omega) (by omega),elems_length,ec]
 congr 1
 omega
theorem size_eq {s:Int}(h:VS s):D.P s=some ((An s).length:Int):=by
 unfold D.P;rw[OnesCount32_eq h];rfl
theorem BM :∀{l m:LI},l.Nodup→(∀x∈l,x∈m)→l.length≤m.length
 |[],_,_,_=>by simp
 |x::l,m,h,hs=>by
  have h':=List.nodup_cons.1 h
  have hx:=hs x (by simp)
  have:=BM (l:=l) (m:=m.erase x) h'.2 (λy hy=>by
   have hne:y≠x:=λe=>h'.1 (e▸hy)
   exact(List.mem_erase_of_ne hne).2 (hs y (by simp[hy])))
  rw[List.length_erase_of_mem hx] at this
  have hp:0<m.length:=List.length_pos_of_mem hx
  simp;omega
theorem nodup_all {l m:LI}(hl:l.Nodup)(hm:m.Nodup)(h:∀x∈l,x∈m)(h':∀x∈m,x∈l):l.length=m.length:=
 Nat.le_antisymm (BM hl h) (BM hm h')
theorem Inc.nodup {l:LI}(h:Inc l):l.Nodup:=List.Pairwise.imp (λh e=>by omega) h
theorem l1All_eq (n:Nat)(hn:n≤4294967295):D.A (n:Int)=some ((List.range n).map Int.ofNat):=by
 unfold D.A
 refine(B8 (λi=>((List.range i).map Int.ofNat,(i:Int))) n ((List.range n).map Int.ofNat) (by simp) (λi hi=> ?_) ?_).trans rfl
 ·simp only[dlt hi,cond_true,wq i]
  rw[A9 (by simp;omega),bs,List.range_succ,List.map_append];rfl
 ·simp only[Bc,cond_false]
theorem ES (a b:LI)(ha:Sh a)(hb:Sh b):D.s a b=some (a.filter λx=>decide (x∈b)):=by
 unfold Sh at ha
 unfold D.s
 have key:∀(k i:Nat),i+k=a.length→∃y,(Aq (σ:=LI×Int) (ρ:=(LI)) (fun(s_78:LI×Int)=>match s_78 with|(l_81,x_86)=>cond (decide (x_86<(a.length:Int))) ((idx a x_86).bind λe_127=>(D.i b e_127).bind λy_133=>cond y_133 ((idx a x_86).bind λe_141=>(AS l_81 ([e_141]:LI)).bind λl_151=>some (.inl (l_151,(IntKind.i64.wrap (x_86+1))))) (some (.inl (l_81,(IntKind.i64.wrap (x_86+1)))))) (some (.inr l_81))) ((a.take i).filter (λx=>decide (x∈b)),(i:Int)))=some y∧y=a.filter λx=>decide (x∈b):=by
  intro k
  induction k with
  |zero=>
   intro i hi
   obtain rfl:i=a.length:=by omega
   rw[List.take_length]
   exact⟨_,Be (by simp only[Bc,cond_false]),rfl⟩
  |succ k ih=>
   intro i hi
   have hil:i<a.length:=by omega
   obtain⟨y,h1,h2⟩:=ih (i+1) (by omega)
   refine⟨y,?_,h2⟩
   rw[BB]
   ·exact h1
   ·have hlen:((a.take i).filter (λx=>decide (x∈b))).length≤i:=Nat.le_trans (List.length_filter_le _ _) (by simp;omega)
    rw[List.take_succ_eq_append_getElem hil,List.filter_append]
    simp only[dlt hil,cond_true,AB hil,bs,CW b _ hb,wq i]
    by_cases hc:a[i]∈b
    ·simp only[hc,decide_true,cond_true,List.filter_cons,if_true,List.filter_nil]
     rw[A9 (by simp;omega)];rfl
    ·simp[hc]
 obtain⟨y,h1,rfl⟩:=key a.length 0 (by omega)
 simp only[List.take_zero,List.filter_nil] at h1
 rw[show ((0:Nat):Int)=0 from rfl] at h1
 rw[h1];rfl
theorem l9Part_eq (a b:LI)(ha:Sh a)(hb:Sh b):D.N a b=some (a.all λx=>decide (x∈b)):=by
 unfold D.N
 rw[ES a b ha hb,bs]
 congr 1
 rw[Bool.eq_iff_iff,List.all_eq_true]
 constructor
 ·intro h x hx
  have h1:(a.filter λx=>decide (x∈b)).length=a.length:=by have:=beq_iff_eq.1 h;omega
  exact(List.length_filter_eq_length_iff.1 h1) x hx
 ·intro h
  have:(a.filter λx=>decide (x∈b))=a:=List.filter_eq_self.2 h
  simp[this]
theorem l9In_eq (bags links:LL)(l:LI)(hb:Sh2 bags)(hl:Sh l):D.g1 bags links l=some (bags.any λb=>l.all λx=>decide (x∈b)):=by
 have hbl:bags.length≤4294967296:=hb.1
 unfold D.g1
 refine(loop_anyb bags.length (λi=>l.all λx=>decide (x∈bags.getD i [])) true (λi hi=> ?_) ?_ rfl rfl).trans ?_
 ·simp only[dlt hi,cond_true,AB hi,bs,wq i,Az hi,l9Part_eq l _ hl (hb.2 _ (List.getElem_mem hi))]
  cases l.all λx=>decide (x∈bags[i])<;>rfl
 ·simp only[Bc,cond_false]
 ·rw[E9 bags (λb=>l.all λx=>decide (x∈b)) _ (λi hi=>by rw[Az hi])]
def Cd (bags:LL)(v:Int):LI:=((List.range bags.length).filter λb=>decide (v∈bags.getD b [])).map Int.ofNat
theorem mem_withV {bags:LL}{v x:Int}:x∈Cd bags v↔∃b:Nat,x=b∧b<bags.length∧v∈bags.getD b []:=by
 unfold Cd
 rw[List.mem_map]
 constructor
 ·rintro⟨b,hb,rfl⟩
  rw[List.mem_filter,List.mem_range] at hb
  exact⟨b,rfl,hb.1,of_decide_eq_true hb.2⟩
 ·rintro⟨b,rfl,h1,h2⟩
  exact⟨b,List.mem_filter.2 ⟨List.mem_range.2 h1,decide_eq_true h2⟩,rfl⟩
theorem FM (bags:LL)(v:Int):Inc (Cd bags v):=by
 unfold Cd Inc
 rw[List.pairwise_map]
 refine List.Pairwise.filter _ ?_
 refine List.Pairwise.imp ?_ (List.pairwise_lt_range (n:=bags.length))
 intro a b h
 show (a:Int)<(b:Int)
 omega
theorem l9With_eq (bags links:LL)(v:Int)(hb:Sh2 bags)(hl:bags.length≤4294967295):D.h1 bags links v=some (Cd bags v):=by
 unfold D.h1
 refine(B8 (λi=>(((List.range i).filter λb=>decide (v∈bags.getD b [])).map Int.ofNat,(i:Int))) bags.length (Cd bags v) (by simp) (λi hi=> ?_) ?_).trans rfl
 ·have hlen:(((List.range i).filter λb=>decide (v∈bags.getD b [])).map Int.ofNat).length≤i:=by
   rw[List.length_map];exact Nat.le_trans (List.length_filter_le _ _) (by simp)
  simp only[dlt hi,cond_true,AB hi,bs,CW _ _ (hb.2 _ (List.getElem_mem hi)),wq i]
  rw[List.range_succ,List.filter_append,List.map_append]
  by_cases hc:v∈bags[i]
  ·have:decide (v∈bags.getD i [])=true:=by rw[Az hi];simpa using hc
   simp only[hc,decide_true,cond_true,List.filter_cons,this,if_true,List.filter_nil]
   rw[A9 (by simp;simp at hlen;omega)];rfl
  ·have:decide (v∈bags.getD i [])=false:=by rw[Az hi];simpa using hc
   simp only[hc,decide_false,cond_false,List.filter_cons,this,List.filter_nil,List.map_nil,List.append_nil]
   simp
 ·simp only[Bc,cond_false];rfl
def Lk (links:LL)(x y:Int):Prop:=[x,y]∈links∨[y,x]∈links
def Pairs (links:LL):Prop:=∀l∈links,∃a b:Int,l=[a,b]
theorem l9Near_ok (bags links:LL)(b:Int)(hl:links.length≤1000000)(hp:Pairs links):
  ∃y,D.u0 bags links b=some y∧(Inc y∧(∀w,w∈y↔Lk links b w)∧y.length≤2*links.length):=by
 unfold D.u0
 refine AP (λs=>∃i:Nat,s.2=(i:Int)∧i≤links.length∧Inc s.1∧(∀w,w∈s.1↔Lk (links.take i) b w)∧s.1.length≤2*i) (λs=>links.length-s.2.toNat)
  (λr=>Inc r∧(∀w,w∈r↔Lk links b w)∧r.length≤2*links.length) ?_ ⟨0,rfl,by omega,by simp[Inc],by simp[Lk],by simp⟩ ?_
 ·rintro⟨s,_⟩ ⟨i,rfl,hi,hs,hm,hsl⟩
  dsimp only at hs hm hsl ⊢
  by_cases hil:i<links.length
  ·obtain⟨x,y,exy⟩:=hp _ (List.getElem_mem hil)
   have h0:idx [x,y] 0=some x:=rfl
   have h1:idx [x,y] 1=some y:=rfl
   simp only[dlt hil,cond_true,AB hil,exy,h0,h1,bs,wq i]
   have hLk:∀w,Lk (links.take (i+1)) b w↔Lk (links.take i) b w∨(x=b∧y=w)∨(y=b∧x=w):=by
    intro w
    unfold Lk
    rw[List.take_succ_eq_append_getElem hil,exy]
    simp only[List.mem_append,List.mem_singleton,List.cons.injEq,and_true]
    constructor
    ·rintro((h|⟨rfl,rfl⟩)|(h|⟨rfl,rfl⟩))
     ·exact .inl (.inl h)
     ·exact .inr (.inl ⟨rfl,rfl⟩)
     ·exact .inl (.inr h)
     ·exact .inr (.inr ⟨rfl,rfl⟩)
    ·rintro((h|h)|⟨rfl,rfl⟩|⟨rfl,rfl⟩)
     ·exact .inl (.inl h)
     ·exact .inr (.inl h)
     ·exact .inl (.inr ⟨rfl,rfl⟩)
     ·exact .inr (.inr ⟨rfl,rfl⟩)
   refine BO (λt=>Inc t∧(∀w,w∈t↔w∈s∨(x=b∧y=w))∧t.length≤s.length+1) ?_ ?_
   ·by_cases hx:x=b
    ·have:(x==b)=true:=by simp[hx]
     simp only[this,cond_true,EP s y hs (by omega),bs]
     exact⟨_,rfl,hs.into _,λw=>by rw[mem_into];simp[hx];constructor<;>(rintro(h|h)<;>simp[h]),into_len _ _⟩
    ·have:(x==b)=false:=by simpa using hx
     simp only[this,cond_false]
     exact⟨_,rfl,hs,λw=>by simp[hx],by omega⟩
   ·rintro t ⟨ht,htm,htl⟩
    by_cases hy:y=b
    ·have:(y==b)=true:=by simp[hy]
     simp only[this,cond_true,EP t x ht (by omega),bs]
     refine⟨_,rfl,⟨i+1,rfl,by omega,ht.into _,λw=> ?_,?_⟩,by dsimp only;omega⟩
     ·dsimp only
      rw[hLk,mem_into,htm,hm]
      constructor
      ·rintro(rfl|h|h)
       ·exact .inr (.inr ⟨hy,rfl⟩)
       ·exact .inl h
       ·exact .inr (.inl h)
      ·rintro(h|h|⟨_,rfl⟩)
       ·exact .inr (.inl h)
       ·exact .inr (.inr h)
       ·exact .inl rfl
     ·have:=into_len t x;dsimp only;omega
    ·have:(y==b)=false:=by simpa using hy
     simp only[this,cond_false]
     refine⟨_,rfl,⟨i+1,rfl,by omega,ht,λw=> ?_,by dsimp only;omega⟩,by dsimp only;omega⟩
     dsimp only
     rw[hLk,htm,hm]
     constructor
     ·rintro(h|h)
      ·exact .inl h
      ·exact .inr (.inl h)
     ·rintro(h|h|⟨h,_⟩)
      ·exact .inl h
      ·exact .inr h
      ·exact absurd h hy
  ·obtain rfl:i=links.length:=by omega
   simp only[Bc,cond_false]
   rw[List.take_length] at hm
   exact⟨_,rfl,hs,hm,hsl⟩
 ·rintro r hr
  exact⟨_,rfl,hr⟩
structure Closed (links:LL)(sel m:LI):Prop where
 sub:∀x∈m,x∈sel
 first:∀x,sel.head? =some x→x∈m
 step:∀x∈m,∀y∈sel,Lk links x y→y∈m
theorem l9Reached_ok (bags links:LL)(sel:LI)(hl:links.length≤1000000)(hp:Pairs links)(hs:sel.length≤1000000)(hne:sel≠[]):
  ∃y,D.X bags links sel=some y∧∃m:LI,y=m.length∧m.Nodup∧Closed links sel m∧∀m',Closed links sel m'→∀x∈m,x∈m':=by
 unfold D.X
 obtain⟨x0,sel',rfl⟩:∃x l,sel=x::l:=by cases sel with
  |nil=>exact absurd rfl hne
  |cons x l=>exact⟨x,l,rfl⟩
 generalize hsel:x0::sel'=sel at*
 have hsh:Sh sel:=by unfold Sh;omega
 have e0:((sel.length:Int)==0)=false:=by rw[←hsel];simp;omega
 have e1:idx sel 0=some x0:=by rw[←hsel];rfl
 have hx0:x0∈sel:=by rw[←hsel];simp
 simp only[e0,cond_false,e1,bs]
 refine AP (λs=>∃i:Nat,s.2=(i:Int)∧i≤s.1.length∧s.1.Nodup∧(∀x∈s.1,x∈sel)∧x0∈s.1∧(∀m',Closed links sel m'→∀x∈s.1,x∈m')∧∀x∈s.1.take i,∀y∈sel,Lk links x y→y∈s.1) (λs=>sel.length-s.2.toNat)
  (λr=>r.Nodup∧Closed links sel r∧∀m',Closed links sel m'→∀x∈r,x∈m') ?_ ⟨0,rfl,by simp,by simp,by simpa using hx0,by simp,λm' hm' x hx=>by simp at hx;subst hx;exact hm'.first _ (by rw[←hsel];rfl),by simp⟩ ?_
 ·rintro⟨m,_⟩ ⟨i,rfl,hi,hn,hsub,hx,hmn,hc⟩
  dsimp only at hi hn hsub hx hmn hc ⊢
  have hml:=BM hn hsub
  by_cases him:i<m.length
  ·simp only[dlt him,cond_true,AB him,bs]
   refine BO _ (l9Near_ok bags links m[i] hl hp) ?_
   rintro near ⟨hni,hnm,hnl⟩
   refine AP (λs=>∃k:Nat,s.2=(k:Int)∧k≤near.length∧s.1.Nodup∧(∀x∈s.1,x∈sel)∧(∃t,s.1=m++t)∧(∀m',Closed links sel m'→∀x∈s.1,x∈m')∧∀y∈near.take k,y∈sel→y∈s.1) (λs=>near.length-s.2.toNat)
    (λr=>r.Nodup∧(∀x∈r,x∈sel)∧(∃t,r=m++t)∧(∀m',Closed links sel m'→∀x∈r,x∈m')∧∀y∈near,y∈sel→y∈r) ?_ ⟨0,rfl,by simp,hn,hsub,⟨[],by simp⟩,hmn,by simp⟩ ?_
   ·rintro⟨r,_⟩ ⟨k,rfl,hk,hrn,hrs,⟨t,rfl⟩,hrm,hrc⟩
    dsimp only at hrn hrs hrm hrc ⊢
    have hrl:=BM hrn hrs
    have hrsh:Sh (m++t):=by unfold Sh;omega
    by_cases hkn:k<near.length
    ·have htk:=List.take_succ_eq_append_getElem hkn
     simp only[dlt hkn,cond_true,AB hkn,bs,CW _ _ hsh,CW _ _ hrsh,wq k]
     by_cases h1:near[k]∈sel
     ·by_cases h2:near[k]∈m++t
      ·simp only[h1,h2,decide_true,cond_true,Bool.not_true,cond_false,bs]
       refine⟨_,rfl,⟨k+1,rfl,by omega,hrn,hrs,⟨t,rfl⟩,hrm,λy hy hys=> ?_⟩,by dsimp only;omega⟩
       rw[htk] at hy
       rcases List.mem_append.1 hy with hy|hy
       ·exact hrc y hy hys
       ·simp at hy;subst hy;exact h2
      ·simp only[h1,h2,decide_true,decide_false,cond_true,Bool.not_false,bs]
       rw[A9 (by simp at hrl ⊢;omega),bs]
       refine⟨_,rfl,⟨k+1,rfl,by omega,?_,λy hy=> ?_,⟨t++[near[k]],by simp⟩,λm' hm' y hy=> ?_,λy hy hys=> ?_⟩,by dsimp only;omega⟩
       ·have hp:(m++t++[near[k]]).Perm (near[k]::(m++t)):=List.perm_append_comm
        exact hp.nodup_iff.2 (List.nodup_cons.2 ⟨h2,hrn⟩)
       ·rcases List.mem_append.1 hy with hy|hy
        ·exact hrs y hy
        ·simp at hy;subst hy;exact h1
       ·rcases List.mem_append.1 hy with hy|hy
        ·exact hrm m' hm' y hy
        ·simp at hy;subst hy
         exact hm'.step m[i] (hmn m' hm' _ (List.getElem_mem him)) _ h1 ((hnm _).1 (List.getElem_mem hkn))
       ·dsimp only
        rw[htk] at hy
        rcases List.mem_append.1 hy with hy|hy
        ·exact List.mem_append_left _ (hrc y hy hys)
        ·simp at hy;subst hy;simp
     ·simp only[h1,decide_false,cond_false,bs]
      refine⟨_,rfl,⟨k+1,rfl,by omega,hrn,hrs,⟨t,rfl⟩,hrm,λy hy hys=> ?_⟩,by dsimp only;omega⟩
      rw[htk] at hy
      rcases List.mem_append.1 hy with hy|hy
      ·exact hrc y hy hys
      ·simp at hy;subst hy;exact absurd hys h1
    ·obtain rfl:k=near.length:=by omega
     simp only[Bc,cond_false]
     rw[List.take_length] at hrc
     exact⟨_,rfl,hrn,hrs,⟨t,rfl⟩,hrm,hrc⟩
   ·rintro r ⟨hrn,hrs,⟨t,rfl⟩,hrm,hrc⟩
    simp only[wq i]
    refine⟨_,rfl,⟨i+1,rfl,by simp;omega,hrn,hrs,List.mem_append_left _ hx,hrm,λx hx' y hy hxy=> ?_⟩,by dsimp only;omega⟩
    dsimp only at hx' ⊢
    rw[List.take_append_of_le_length (by omega),List.take_succ_eq_append_getElem him] at hx'
    rcases List.mem_append.1 hx' with hx'|hx'
    ·exact List.mem_append_left _ (hc x hx' y hy hxy)
    ·simp at hx';subst hx'
     exact hrc y ((hnm y).2 hxy) hy
  ·obtain rfl:i=m.length:=by omega
   simp only[Bc,cond_false]
   rw[List.take_length] at hc
   exact⟨_,rfl,hn,⟨hsub,λx hx'=>by rw[←hsel] at hx';simp at hx';subst hx';exact hx,hc⟩,hmn⟩
 ·rintro r ⟨h1,h2,h3⟩
  exact⟨_,rfl,r,rfl,h1,h2,h3⟩
def Df (links:LL)(sel:LI):Prop:=∀m,Closed links sel m→∀x∈sel,x∈m
def LinkIn (n:Nat)(l:LI):Prop:=∃a b:Nat,l=[(a:Int),(b:Int)]∧a<b∧b<n
theorem l1Edges_ok (g:LL)(hg:GOk g):∃y,D.l0 g=some y∧(y.length≤256∧∀e∈y,∃u v:Nat,e=[(u:Int),(v:Int)]∧u<g.length∧adj g u v∧u<v):=by
 have h16:=hg.n16
 unfold D.l0
 refine AP (λs=>∃u:Nat,s.2=(u:Int)∧u≤g.length∧s.1.length≤16*u∧∀e∈s.1,∃u v:Nat,e=[(u:Int),(v:Int)]∧u<g.length∧adj g u v∧u<v) (λs=>g.length-s.2.toNat)
  (λr=>r.length≤256∧∀e∈r,∃u v:Nat,e=[(u:Int),(v:Int)]∧u<g.length∧adj g u v∧u<v) ?_ ⟨0,rfl,by omega,by simp,by simp⟩ ?_
 ·rintro⟨l,_⟩ ⟨u,rfl,hu,hl,hE⟩
  dsimp only at hl hE ⊢
  unfold D.a
  simp only[bs]
  by_cases hug:u<g.length
  ·have hrl:=hg.row_len hug
   simp only[dlt hug,cond_true]
   refine AP (λs=>∃i:Nat,s.2=(i:Int)∧i≤(row g u).length∧s.1.length≤16*u+i∧∀e∈s.1,∃u v:Nat,e=[(u:Int),(v:Int)]∧u<g.length∧adj g u v∧u<v) (λs=>(row g u).length-s.2.toNat)
    (λr=>r.length≤16*u+16∧∀e∈r,∃u v:Nat,e=[(u:Int),(v:Int)]∧u<g.length∧adj g u v∧u<v) ?_ ⟨0,rfl,by omega,by dsimp only;omega,hE⟩ ?_
   ·rintro⟨l,_⟩ ⟨i,rfl,hi,hl,hE⟩
    dsimp only at hl hE ⊢
    simp only[Cn hug,bs]
    by_cases hir:i<(row g u).length
    ·obtain⟨v,ev,hv,hav⟩:=hg.mem hug (List.getElem_mem hir)
     simp only[dlt hir,cond_true,AB hir,ev,bs,wq i]
     by_cases huv:u<v
     ·simp only[dlt huv,cond_true]
      rw[A9 (by simp;omega),bs]
      refine⟨_,rfl,⟨i+1,rfl,by omega,by simp;omega,λe he=> ?_⟩,by dsimp only;omega⟩
      rcases List.mem_append.1 he with he|he
      ·exact hE e he
      ·simp at he;subst he;exact⟨u,v,rfl,hug,hav,huv⟩
     ·have:decide ((u:Int)<(v:Int))=false:=by simp;omega
      simp only[this,cond_false]
      exact⟨_,rfl,⟨i+1,rfl,by omega,by dsimp only;omega,hE⟩,by dsimp only;omega⟩
    ·obtain rfl:i=(row g u).length:=by omega
     simp only[Bc,cond_false]
     exact⟨_,rfl,by omega,hE⟩
   ·rintro r ⟨h1,h2⟩
    simp only[wq u]
    exact⟨_,rfl,⟨u+1,rfl,by omega,by dsimp only;omega,h2⟩,by dsimp only;omega⟩
  ·obtain rfl:u=g.length:=by omega
   simp only[Bc,cond_false]
   exact⟨_,rfl,by omega,hE⟩
 ·rintro r hr
  exact⟨_,rfl,hr⟩
structure TB (g bags links:LL):Prop where
 n1:1≤bags.length
 n16:bags.length≤16
 many:links.length+1=bags.length
 lks:∀l∈links,LinkIn bags.length l
 sets:∀b∈bags,SetOf b g.length
 tree:Df links ((List.range bags.length).map Int.ofNat)
 edges:∀u v:Nat,u<g.length→adj g u v→∃b∈bags,(u:Int)∈b∧(v:Int)∈b
 some:∀v,v<g.length→Cd bags v≠[]
 conn:∀v,v<g.length→Df links (Cd bags v)
def rowF (r:LI)(u:Nat)(s:LL):LL:=(List.range r.length).foldl (λs i=>if(u:Int)<r.getD i 0 then s++[[(u:Int),r.getD i 0]] else s) s
theorem Gp (r:LI)(u:Nat)(s0:LL)(h:s0.length+r.length≤4294967296){step:LL×Int→Option ((LL×Int) ⊕ LL)}
  (hstep:∀s (i:Nat) (hi:i<r.length),step (s,(i:Int))=cond (decide ((u:Int)<r[i])) ((AS s [[(u:Int),r[i]]]).bind λl=>some (.inl (l,((i+1:Nat):Int)))) (some (.inl (s,((i+1:Nat):Int)))))
  (hend:∀s,step (s,(r.length:Int))=some (.inr s)):Aq step (s0,0)=some (rowF r u s0)∧(rowF r u s0).length≤s0.length+r.length:=by
 have key:=loop_nat (step:=step) r.length (λs i=>(s,i)) (λs i=>if(u:Int)<r.getD i 0 then s++[[(u:Int),r.getD i 0]] else s) (λs=>s) (λi s=>s.length≤s0.length+i) s0 (by omega)
  (λs i hi hs=> ?_) (λs _=>hend s)
 ·exact key
 ·have hg:r.getD i 0=r[i]:=Az hi 0
  refine⟨?_,?_⟩
  ·rw[hstep s i hi,hg]
   by_cases hc:(u:Int)<r[i]
   ·rw[decide_eq_true hc,cond_true,A9 (by simp;omega),if_pos hc];rfl
   ·rw[decide_eq_false hc,cond_false,if_neg hc]
  ·rw[hg]
   split
   ·rw[List.length_append,List.length_singleton];omega
   ·omega
def CV (g:LL):LL:=(List.range g.length).foldl (λs u=>rowF (row g u) u s) []
theorem GF (g:LL)(hg:GOk g):D.y2 g=some (CV g):=by
 have h16:=hg.n16
 unfold D.y2
 have key:=loop_nat (ρ:=LL) (step:=(fun(s_288:LL×Int)=>match s_288 with|(l_291,x_296)=>cond (decide (x_296<(g.length:Int))) ((idx g x_296).bind λe_441=>(Aq (σ:=LL×Int) (ρ:=(LL)) (fun(s_508:LL×Int)=>match s_508 with|(l_511,x_516)=>cond (decide (x_516<(e_441.length:Int))) ((idx e_441 x_516).bind λe_551=>cond (decide (x_296<e_551)) ((AS l_511 ([([x_296,e_551]:LI)]:LL)).bind λl_569=>some (.inl (l_569,(IntKind.i64.wrap (x_516+1))))) (some (.inl (l_511,(IntKind.i64.wrap (x_516+1)))))) (some (.inr l_511))) (l_291,0)).bind λl_544=>some (.inl (l_544,(IntKind.i64.wrap (x_296+1))))) (some (.inr l_291))))
  g.length (λs i=>(s,i)) (λs u=>rowF (row g u) u s) (λs=>s) (λi s=>s.length≤16*i) [] (by simp) (λs u hu hs=> ?_) (λs _=> ?_)
 ·exact congrArg (λz=>Option.bind z λl=>some l) key.1
 ·have hr:=hg.row_len hu
  obtain⟨k1,k2⟩:=Gp (row g u) u s (by omega) (step:=(fun(s_508:LL×Int)=>match s_508 with|(l_511,x_516)=>cond (decide (x_516<((row g u).length:Int))) ((idx (row g u) x_516).bind λe_551=>cond (decide ((u:Int)<e_551)) ((AS l_511 ([([(u:Int),e_551]:LI)]:LL)).bind λl_569=>some (.inl (l_569,(IntKind.i64.wrap (x_516+1))))) (some (.inl (l_511,(IntKind.i64.wrap (x_516+1)))))) (some (.inr l_511)))) (λs i hi=>by
    simp only[dlt hi,cond_true,AB hi,bs,wq i]) (λs=>by simp only[Bc,cond_false])
  refine⟨?_,by omega⟩
  simp only[dlt hu,cond_true,Cn hu,bs,wq u]
  exact(congrArg (λz=>Option.bind z _) k1).trans rfl
 ·simp only[Bc,cond_false]
theorem l1Edges_eq (g:LL)(hg:GOk g):D.l0 g=some (CV g):=by
 have h16:=hg.n16
 unfold D.l0 D.a
 have key:=loop_nat (ρ:=LL) (step:=(fun(s_482:LL×Int)=>match s_482 with|(l_485,x_490)=>(some (g.length:Int)).bind λy_731=>cond (decide (x_490<y_731)) ((Aq (σ:=LL×Int) (ρ:=(LL)) (fun(s_848:LL×Int)=>match s_848 with|(l_851,x_856)=>(idx g x_490).bind λe_914=>cond (decide (x_856<(e_914.length:Int))) ((idx g x_490).bind λe_921=>(idx e_921 x_856).bind λe_927=>cond (decide (x_490<e_927)) ((idx g x_490).bind λe_934=>(idx e_934 x_856).bind λe_940=>(AS l_851 ([([x_490,e_940]:LI)]:LL)).bind λl_957=>some (.inl (l_957,(IntKind.i64.wrap (x_856+1))))) (some (.inl (l_851,(IntKind.i64.wrap (x_856+1)))))) (some (.inr l_851))) (l_485,0)).bind λl_908=>some (.inl (l_908,(IntKind.i64.wrap (x_490+1))))) (some (.inr l_485))))
  g.length (λs i=>(s,i)) (λs u=>rowF (row g u) u s) (λs=>s) (λi s=>s.length≤16*i) [] (by simp) (λs u hu hs=> ?_) (λs _=> ?_)
 ·exact congrArg (λz=>Option.bind z λl=>some l) key.1
 ·have hr:=hg.row_len hu
  obtain⟨k1,k2⟩:=Gp (row g u) u s (by omega) (step:=(fun(s_848:LL×Int)=>match s_848 with|(l_851,x_856)=>(idx g (u:Int)).bind λe_914=>cond (decide (x_856<(e_914.length:Int))) ((idx g (u:Int)).bind λe_921=>(idx e_921 x_856).bind λe_927=>cond (decide ((u:Int)<e_927)) ((idx g (u:Int)).bind λe_934=>(idx e_934 x_856).bind λe_940=>(AS l_851 ([([(u:Int),e_940]:LI)]:LL)).bind λl_957=>some (.inl (l_957,(IntKind.i64.wrap (x_856+1))))) (some (.inl (l_851,(IntKind.i64.wrap (x_856+1)))))) (some (.inr l_851)))) (λs i hi=>by
    simp only[Cn hu,dlt hi,cond_true,AB hi,bs,wq i]) (λs=>by simp only[Cn hu,bs,Bc,cond_false])
  refine⟨?_,by omega⟩
  simp only[bs,dlt hu,cond_true,wq u]
  exact(congrArg (λz=>Option.bind z _) k1).trans rfl
 ·simp only[bs,Bc,cond_false]
theorem GOk.sh2 {g:LL}(hg:GOk g):Sh2 g:=by
 have h16:=hg.n16
 exact⟨by unfold Sh;omega,λr hr=>by have:=(hg.mem0 hr).1;unfold Sh;omega⟩
theorem Eg {g:LL}(hg:GOk g):gB g=true:=(EB g).2 hg
theorem Er (g:LL)(hg:GOk g):D.r2 g=some ((CV g).length:Int):=by
 unfold D.r2 D.J2
 rw[CG g hg.sh2,Eg hg,bs,Bool.not_true,cond_false,GF g hg];rfl
theorem nets_graph_eq (F:LI)(h:F.length≤16)(hV:∀u,u<F.length→VS (F.getD u 0)):D.E2 F=some (grow F):=by
 unfold D.E2
 refine(DW F (λs i=>(i,s)) An (by omega) (λs i hi _=> ?_) (λs=> ?_)).trans rfl
 ·have:=hV i hi
  rw[Az hi] at this
  simp only[dlt hi,cond_true,AB hi,bs,numbers_eq _ this,wq i]
 ·simp only[Bc,cond_false]
theorem OOk.sh {g:LL}{o:LI}(hg:GOk g)(ho:OOk g o):Sh o:=by
 have:=hg.n16;have:=ho.len;unfold Sh;omega
theorem Ga {g:LL}{o:LI}(hg:GOk g)(ho:OOk g o):D.l2 g o=some true:=by
 rw[GA g o hg.sh2 (ho.sh hg),Eg hg,(ordB_iff g o).2 ho];rfl
structure Fill (g:LL)(o F L:LI):Prop where
 elim:D.m2 (g.map mk) o=some (F,L)
 f:FOk F g.length
 lenL:L.length=g.length
 vsL:∀u,u<g.length→VS (L.getD u 0)
 mono:∀u w,u<g.length→adj g u w→nb F u w=true
 lat:Lat F L o g.length
 peo:PEO F o
 same:PEO (g.map mk) o→F=g.map mk
 latb:∀(j:Nat) (v:Nat),o[j]? =some (v:Int)→∀w:Nat,nb L v w=true↔(w:Int)∉o.take (j+1)∧Bhd (g.map mk) (λx=>(x:Int)∈o.take j) v w
theorem fill_ex {g:LL}{o:LI}(hg:GOk g)(ho:OOk g o):∃F L,Fill g o F L:=by
 obtain⟨⟨F,L⟩,e,left,h⟩:=elim_ok hg.n16 (FOk.of hg) ho.len ho.rng ho.nd
 refine⟨F,L,e,h.f,h.lenL,h.vsL,λu w hu ha=>h.mono u w hu ((CL hg hu).2 ha),h.lat,λj v u w hj=> ?_,h.same,λj v hj=>h.latb j v (by have:=(List.getElem?_eq_some_iff.1 hj).1;have:=ho.len;omega) hj⟩
 have hjl:=(List.getElem?_eq_some_iff.1 hj).1
 have:=ho.len
 exact h.peo j v u w (by omega) hj
theorem Fill.FillOf {g:LL}{o F L:LI}(hg:GOk g)(ho:OOk g o)(h:Fill g o F L):D.w2 g o=some (grow F,true):=by
 have h16:=hg.n16
 unfold D.w2
 rw[Ga hg ho,bs,Bool.not_true,cond_false,DZ g hg,bs,narrow_eq o (ho.sh hg),bs,h.elim,bs,nets_graph_eq F (by rw[h.f.len];omega) (λu hu=>h.f.vs u (by rw[h.f.len] at hu;exact hu))]
 rfl
theorem Fill.gok {g:LL}{o F L:LI}(hg:GOk g)(h:Fill g o F L):GOk (grow F):=GOk.grow h.f hg.n1 hg.n16
theorem grow_len (F:LI):(grow F).length=F.length:=by simp[grow]
theorem D5 {g:LL}{o:LI}(ho:OOk g o){v:Nat}(hv:v<g.length):∃i:Nat,i<g.length∧o[i]? =some (v:Int):=by
 have hsub:∀x∈o,x∈(List.range g.length).map Int.ofNat:=λx hx=>by
  have:=ho.rng x hx
  exact List.mem_map.2 ⟨x.toNat,List.mem_range.2 (by omega),by show ((x.toNat:Nat):Int)=x;omega⟩
 by_cases hm:(v:Int)∈o
 ·obtain⟨i,hi,e⟩:=List.getElem_of_mem hm
  exact⟨i,by have:=ho.len;omega,by rw[List.getElem?_eq_getElem hi,e]⟩
 ·exfalso
  have h1:((v:Int)::o).length≤((List.range g.length).map Int.ofNat).length:=BM (List.nodup_cons.2 ⟨hm,ho.nd⟩) (λx hx=>by
   rcases List.mem_cons.1 hx with rfl|hx
   ·exact List.mem_map.2 ⟨v,List.mem_range.2 hv,rfl⟩
   ·exact hsub x hx)
  have:=ho.len
  simp at h1
  omega
theorem least_of {P:Nat→Prop}(h:∃j,P j):∃j,P j∧∀i,i<j→¬P i:=by
 obtain⟨j,hj⟩:=h
 induction j using Nat.strongRecOn with
 |ind j ih=>
  by_cases hc:∃i,i<j∧P i
  ·obtain⟨i,h1,h2⟩:=hc;exact ih i h1 h2
  ·exact⟨j,hj,λi hi hp=>hc ⟨i,hi,hp⟩⟩
theorem Gx {α:Type}(p:α→Bool){l:List α}{i:Nat}(hi:i<l.length):(l.take (i+1)).filter p=(l.take i).filter p++(if p l[i] then [l[i]] else []):=by
 rw[List.take_succ_eq_append_getElem hi,List.filter_append]
 congr 1
 rw[List.filter_cons,List.filter_nil]
def lft (g:LL)(v:Nat)(gone:List Bool):LI:=(row g v).filter λx=> !gone.getD x.toNat false
theorem FI (g:LL)(hg:GOk g){v:Nat}(hv:v<g.length)(gone:List Bool)(hl:gone.length=g.length):D.V g (v:Int) gone=some (lft g v gone):=by
 have hr:=hg.row_len hv
 unfold D.V lft
 refine(B8 (λi=>(((row g v).take i).filter (λx=> !gone.getD x.toNat false),(i:Int))) (row g v).length ((row g v).filter λx=> !gone.getD x.toNat false) (by simp) (λi hi=> ?_) ?_).trans rfl
 ·obtain⟨w,e1,h1,_⟩:=hg.mem hv (List.getElem_mem hi)
  have hlen:(((row g v).take i).filter (λx=> !gone.getD x.toNat false)).length≤16:=Nat.le_trans (List.length_filter_le _ _) (by simp;omega)
  simp only[Cn hv,bs,dlt hi,cond_true,AB hi,e1,AB (show w<gone.length by omega),wq i]
  have e3:=Gx (λx:Int=> !gone.getD x.toNat false) hi
  rw[e1] at e3
  simp only[Int.toNat_natCast,Az (show w<gone.length by omega)] at e3
  rw[e3]
  cases hc:gone[w]
  ·rw[Bool.not_false,cond_true,A9 (by rw[List.length_singleton];omega),bs];rfl
  ·rw[Bool.not_true,cond_false];simp
 ·simp only[Cn hv,bs,Bc,cond_false,List.take_length]
theorem l1Edge_eq (g:LL)(hg:GOk g){u:Nat}(hu:u<g.length)(w:Int):D.u g (u:Int) w=some (decide (w∈row g u)):=by
 unfold D.u
 rw[Cn hu,bs,CW _ _ (hg.sh2.row hu)];rfl
def Clq (g:LL)(l:LI)(n:Nat):Prop:=∀i k,i<n→k<i→adj g (l.getD k 0).toNat (l.getD i 0).toNat
theorem l7Missing_ok (g:LL)(hg:GOk g)(l:LI)(hl:l.length≤16)(hr:∀x∈l,0≤x∧x<g.length):
  ∃y,D.s0 g l=some y∧(0≤y∧y≤256∧(y=0↔Clq g l l.length)):=by
 unfold D.s0
 refine AP (λs=>∃i:Nat,s.2=(i:Int)∧i≤l.length∧0≤s.1∧s.1≤16*i∧(s.1=0↔Clq g l i)) (λs=>l.length-s.2.toNat) (λr=>0≤r∧r≤256∧(r=0↔Clq g l l.length)) ?_ ⟨0,rfl,by omega,by simp,by simp,by simp[Clq]⟩ (λr h=>⟨r,rfl,h⟩)
 rintro⟨m,_⟩ ⟨i,rfl,hi,h0,h1,h2⟩
 dsimp only at h0 h1 h2 ⊢
 by_cases hlt:i<l.length
 ·simp only[dlt hlt,cond_true]
  refine AP (λs=>∃k:Nat,s.2=(k:Int)∧k≤i∧0≤s.1∧s.1≤16*i+k∧(s.1=0↔(Clq g l i∧∀k',k'<k→adj g (l.getD k' 0).toNat (l.getD i 0).toNat))) (λs=>i-s.2.toNat)
   (λr=>0≤r∧r≤16*i+i∧(r=0↔Clq g l (i+1))) ?_ ⟨0,rfl,by omega,h0,by omega,by simpa using h2⟩ ?_
  ·rintro⟨m,_⟩ ⟨k,rfl,hk,h0,h1,h2⟩
   dsimp only at h0 h1 h2 ⊢
   by_cases hkl:k<i
   ·have hkk:k<l.length:=by omega
    have r1:=hr _ (List.getElem_mem hkk)
    obtain⟨a,ea⟩:∃a:Nat,l[k]=(a:Int):=⟨l[k].toNat,by omega⟩
    have r2:=hr _ (List.getElem_mem hlt)
    obtain⟨b,eb⟩:∃b:Nat,l[i]=(b:Int):=⟨l[i].toNat,by omega⟩
    have hA:adj g (l.getD k 0).toNat (l.getD i 0).toNat↔(b:Int)∈row g a:=by
     rw[Az hkk,Az hlt,ea,eb];rfl
    simp only[dlt hkl,cond_true,AB hkk,AB hlt,bs,ea,eb,l1Edge_eq g hg (show a<g.length by omega),wq k]
    have hsplit:(∀k',k'<k+1→adj g (l.getD k' 0).toNat (l.getD i 0).toNat)↔((∀k',k'<k→adj g (l.getD k' 0).toNat (l.getD i 0).toNat)∧(b:Int)∈row g a):=by
     rw[←hA]
     constructor
     ·intro h;exact⟨λk' hk'=>h k' (by omega),h k (by omega)⟩
     ·rintro⟨h3,h4⟩ k' hk'
      rcases Nat.lt_or_ge k' k with hc|hc
      ·exact h3 k' hc
      ·obtain rfl:k'=k:=by omega
       exact h4
    by_cases hm:(b:Int)∈row g a
    ·simp only[decide_eq_true hm,Bool.not_true,cond_false]
     refine⟨_,rfl,⟨k+1,rfl,by omega,h0,by dsimp only;omega,?_⟩,by dsimp only;omega⟩
     dsimp only
     rw[hsplit,h2]
     exact⟨fun⟨p,q⟩=>⟨p,q,hm⟩,fun⟨p,q,_⟩=>⟨p,q⟩⟩
    ·simp only[decide_eq_false hm,Bool.not_false,cond_true]
     rw[w64 (show (-9223372036854775808:Int)≤m+1 by omega) (by omega)]
     refine⟨_,rfl,⟨k+1,rfl,by omega,by dsimp only;omega,by dsimp only;omega,?_⟩,by dsimp only;omega⟩
     dsimp only
     rw[hsplit]
     constructor
     ·intro h;omega
     ·rintro⟨_,_,h⟩;exact absurd h hm
   ·obtain rfl:k=i:=by omega
    simp only[Bc,cond_false]
    refine⟨_,rfl,h0,by omega,?_⟩
    rw[h2]
    constructor
    ·rintro⟨h3,h4⟩ i' k' hi' hk'
     rcases Nat.lt_or_ge i' k with hc|hc
     ·exact h3 i' k' hc hk'
     ·obtain rfl:i'=k:=by omega
      exact h4 k' hk'
    ·intro h
     exact⟨λi' k' hi' hk'=>h i' k' (by omega) hk',λk' hk'=>h k k' (by omega) hk'⟩
  ·rintro m ⟨h3,h4,h5⟩
   rw[wq i]
   exact⟨_,rfl,⟨i+1,rfl,by omega,h3,by dsimp only;omega,h5⟩,by dsimp only;omega⟩
 ·obtain rfl:i=l.length:=by omega
  simp only[Bc,cond_false]
  exact⟨_,rfl,h0,by omega,h2⟩
theorem l8Clique_ok (g:LL)(hg:GOk g)(l:LI)(hl:l.length≤16)(hr:∀x∈l,0≤x∧x<g.length):∃b,D.h g l=some b∧(b=true↔Clq g l l.length):=by
 obtain⟨y,e,_,_,h⟩:=l7Missing_ok g hg l hl hr
 unfold D.h
 rw[e,bs]
 exact⟨_,rfl,by rw[beq_iff_eq];exact h⟩
theorem lft_len {g:LL}(hg:GOk g){v:Nat}(hv:v<g.length)(gone:List Bool):(lft g v gone).length≤16:=Nat.le_trans (List.length_filter_le _ _) (hg.row_len hv)
theorem lft_rng {g:LL}(hg:GOk g){v:Nat}(hv:v<g.length)(gone:List Bool):∀x∈lft g v gone,0≤x∧x<g.length:=λx hx=>(hg.rows v hv).2 x (List.mem_filter.1 hx).1
theorem lft_inc {g:LL}(hg:GOk g){v:Nat}(hv:v<g.length)(gone:List Bool):Inc (lft g v gone):=List.Pairwise.filter _ (hg.rows v hv).1
def PEOg (g:LL)(o:LI):Prop:=∀(j:Nat) (v u w:Nat),o[j]? =some (v:Int)→adj g v u→adj g v w→(u:Int)∉o.take (j+1)→(w:Int)∉o.take (j+1)→u≠w→adj g u w
def Cc (f:Nat→Nat):Nat→Nat
 |0=>0
 |n+1=>Cc f n+f n
theorem CK {f g:Nat→Nat}:∀{n:Nat},(∀i,i<n→f i=g i)→Cc f n=Cc g n
 |0,_=>rfl
 |n+1,h=>by simp only[Cc];rw[CK (n:=n) (λi hi=>h i (by omega)),h n (by omega)]
theorem Fk (f g:Nat→Nat):∀n,Cc (λi=>f i+g i) n=Cc f n+Cc g n
 |0=>rfl
 |n+1=>by simp only[Cc];rw[Fk f g n];omega
theorem FX :∀n,Cc (λ_=>0) n=0
 |0=>rfl
 |n+1=>by simp only[Cc];rw[FX n]
theorem sumN_swap (f:Nat→Nat→Nat)(m:Nat):∀n,Cc (λi=>Cc (f i) m) n=Cc (λj=>Cc (λi=>f i j) n) m
 |0=>by simp only[Cc];rw[FX]
 |n+1=>by simp only[Cc];rw[sumN_swap f m n,←Fk]
def bit (b:Bool):Nat:=if b then 1 else 0
theorem Fu (p:Nat→Bool):∀n,((List.range n).filter p).length=Cc (λi=>bit (p i)) n
 |0=>rfl
 |n+1=>by
  rw[List.range_succ,List.filter_append,List.length_append,Fu p n]
  simp only[Cc,bit]
  cases h:p n<;>simp[h]
theorem sumN_tail {f : Nat → Nat} {n m : Nat} (h : n ≤ m) (hz : ∀ i, n ≤ i → f i = 0) : Cc f m = Cc f n := by
  induction m with
  | zero => obtain rfl : n = 0 := by omega
            rfl
  | succ m ih =>
    by_cases hm : n = m + 1
    · rw [hm]
    · simp only [Cc]; rw [ih (by omega), hz m (by omega)]; rfl
theorem elems_sum {s:Int}{n:Nat}(hn:n≤32)(h:∀v,has s v=true→v<n):(An s).length=Cc (λv=>bit (has s v)) n:=by
 unfold An
 rw[List.length_map,Fu]
 refine sumN_tail hn (λi hi=> ?_)
 unfold bit
 cases hc:has s i
 ·rfl
 ·have:=h i hc;omega
def S2 (n:Nat)(p:Nat→Nat→Bool):Nat:=Cc (λu=>Cc (λw=>bit (p u w)) n) n
theorem S2_congr {n:Nat}{p q:Nat→Nat→Bool}(h:∀u w,u<n→w<n→p u w=q u w):S2 n p=S2 n q:=
 CK λu hu=>CK λw hw=>by rw[h u w hu hw]
theorem S2_swap (n:Nat)(p:Nat→Nat→Bool):S2 n p=S2 n (λu w=>p w u):=by
 unfold S2
 rw[sumN_swap]
theorem S2_or (n:Nat)(p q:Nat→Nat→Bool)(h:∀u w,u<n→w<n→p u w=true→q u w=true→False):S2 n (λu w=>p u w||q u w)=S2 n p+S2 n q:=by
 unfold S2
 rw[←Fk]
 refine CK λu hu=> ?_
 rw[←Fk]
 refine CK λw hw=> ?_
 have:=h u w hu hw
 unfold bit
 cases h1:p u w<;>cases h2:q u w<;>simp_all
theorem S2_half {n:Nat}{A:Nat→Nat→Bool}{lt:Nat→Nat→Bool}(hs:∀u w,u<n→w<n→A u w=A w u)(h1:∀u w,u<n→w<n→A u w=true→(lt u w=true∨lt w u=true))(h2:∀u w,u<n→w<n→lt u w=true→lt w u=true→False):
  S2 n A=2*S2 n (λu w=>A u w&&lt u w):=by
 have e1:S2 n A=S2 n (λu w=>(A u w&&lt u w)||(A u w&&lt w u)):=S2_congr λu w hu hw=>by
  have:=h1 u w hu hw
  cases ha:A u w
  ·simp
  ·rcases this ha with h|h<;>simp[h]
 have e2:S2 n (λu w=>A u w&&lt w u)=S2 n (λu w=>A u w&&lt u w):=by
  rw[S2_swap]
  exact S2_congr λu w hu hw=>by rw[hs u w hu hw]
 rw[e1,S2_or,e2]
 ·omega
 ·intro u w hu hw h3 h4
  simp only[Bool.and_eq_true] at h3 h4
  exact h2 u w hu hw h3.2 h4.2
theorem Gv {s:Int}{n:Nat}(hn:n≤32)(h:∀v,has s v=true→v<n)(p:Int→Bool):((An s).filter p).length=Cc (λv=>bit (has s v&&p (v:Int))) n:=by
 unfold An
 rw[List.filter_map,List.length_map,List.filter_filter,Fu]
 have e:Cc (λi=>bit ((p∘Int.ofNat) i&&has s i)) 32=Cc (λv=>bit (has s v&&p (v:Int))) 32:=CK λi _=>by
  rw[Bool.and_comm];rfl
 rw[e]
 refine sumN_tail hn (λi hi=> ?_)
 cases hc:has s i
 ·rfl
 ·have:=h i hc;omega
def ast (f:Int→Int)(s:Int×Int)(v:Int):Int×Int:=if s.1<0∨f v<s.2 then(v,f v) else s
def amin (f:Int→Int)(l:LI):Int×Int:=l.foldl (ast f) (-1,0)
theorem ast_run (f:Int→Int):∀(l:LI) (b:Int),0≤b→(∀x∈l,0≤x)→∃c,l.foldl (ast f) (b,f b)=(c,f c)∧(c=b∨c∈l)∧0≤c∧f c≤f b∧∀x∈l,f c≤f x
 |[],b,hb,_=>⟨b,rfl,.inl rfl,hb,Int.le_refl _,by simp⟩
 |x::l,b,hb,hl=>by
  have hx:=hl x (by simp)
  have hl':=λy hy=>hl y (List.mem_cons_of_mem x hy)
  rw[List.foldl_cons]
  by_cases hc:f x<f b
  ·have e:ast f (b,f b) x=(x,f x):=by unfold ast;rw[if_pos (.inr hc)]
   rw[e]
   obtain⟨c,h1,h2,h3,h4,h5⟩:=ast_run f l x hx hl'
   refine⟨c,h1,.inr ?_,h3,by omega,λy hy=> ?_⟩
   ·rcases h2 with rfl|h2
    ·simp
    ·exact List.mem_cons_of_mem _ h2
   ·rcases List.mem_cons.1 hy with rfl|hy
    ·exact h4
    ·exact h5 y hy
  ·have e:ast f (b,f b) x=(b,f b):=by unfold ast;rw[if_neg (λh=>h.elim (λh=>by dsimp only at h;omega) hc)]
   rw[e]
   obtain⟨c,h1,h2,h3,h4,h5⟩:=ast_run f l b hb hl'
   refine⟨c,h1,?_,h3,h4,λy hy=> ?_⟩
   ·rcases h2 with h2|h2
    ·exact .inl h2
    ·exact .inr (List.mem_cons_of_mem _ h2)
   ·rcases List.mem_cons.1 hy with rfl|hy
    ·omega
    ·exact h5 y hy
theorem ast_first (f:Int→Int)(x:Int):ast f (-1,0) x=(x,f x):=by unfold ast;rw[if_pos (.inl (by decide))]
theorem amin_ok (f:Int→Int){l:LI}(hne:l≠[])(hl:∀x∈l,0≤x):∃c,amin f l=(c,f c)∧c∈l∧∀x∈l,f c≤f x:=by
 cases l with
 |nil=>exact absurd rfl hne
 |cons x l=>
  unfold amin
  rw[List.foldl_cons,ast_first]
  obtain⟨c,h1,h2,h3,h4,h5⟩:=ast_run f l x (hl x (by simp)) (λy hy=>hl y (List.mem_cons_of_mem _ hy))
  refine⟨c,h1,?_,λy hy=> ?_⟩
  ·rcases h2 with rfl|h2
   ·simp
   ·exact List.mem_cons_of_mem _ h2
  ·rcases List.mem_cons.1 hy with rfl|hy
   ·exact h4
   ·exact h5 y hy
def els (s:Int)(i:Nat):LI:=((List.range i).filter (has s)).map Int.ofNat
theorem els_succ (s:Int)(i:Nat):els s (i+1)=if has s i then els s i++[(i:Int)] else els s i:=by
 unfold els
 rw[List.range_succ,List.filter_append,List.map_append]
 cases h:has s i<;>simp[h]
theorem FY {s:Int}{n:Nat}(hn:n≤32)(h:∀v,has s v=true→v<n):els s n=An s:=by
 unfold els An
 obtain⟨k,hk⟩:∃k,32=n+k:=⟨32-n,by omega⟩
 rw[hk,List.range_add,List.filter_append]
 have:((List.range k).map (λx=>n+x)).filter (has s)=[]:=by
  rw[List.filter_eq_nil_iff]
  intro x hx hc
  obtain⟨y,_,rfl⟩:=List.mem_map.1 hx
  have:=h _ hc;omega
 rw[this,List.append_nil]
theorem elems_nonneg (s:Int):∀x∈An s,0≤x:=λx hx=>by
 obtain⟨v,_,_,rfl⟩:=mem_elems.1 hx;omega
theorem elems_rm {s:Int}{b:Nat}(h:VS s)(hb:has s b=true):(An s).length=(An (iandNot .u32 s (ishl .u32 1 (b:Int)))).length+1:=by
 have hb32:b<32:=by
  by_cases hv:b<32
  ·exact hv
  ·rw[Ey h (by omega)] at hb;cases hb
 have hm:∀x,x∈An s↔x∈(b:Int)::An (iandNot .u32 s (ishl .u32 1 (b:Int))):=λx=>by
  rw[List.mem_cons,mem_elems,mem_elems]
  constructor
  ·rintro⟨v,h1,h2,rfl⟩
   by_cases e:v=b
   ·left;omega
   ·right;exact⟨v,h1,by rw[Bw h (VS.ishl _ _),BY hb32,h2];simp[e],rfl⟩
  ·rintro(rfl|⟨v,h1,h2,rfl⟩)
   ·exact⟨b,hb32,hb,rfl⟩
   ·rw[Bw h (VS.ishl _ _),Bool.and_eq_true] at h2
    exact⟨v,h1,h2.1,rfl⟩
 have hn:((b:Int)::An (iandNot .u32 s (ishl .u32 1 (b:Int)))).Nodup:=by
  refine List.nodup_cons.2 ⟨λhc=> ?_,(Bz _).nodup⟩
  rw[AQ (VS.iandNot _ _),Bw h (VS.ishl _ _),BY hb32] at hc
  simp at hc
 have:=nodup_all (Bz s).nodup hn (λx hx=>(hm x).1 hx) (λx hx=>(hm x).2 hx)
 simpa using this
def full (n:Nat):Int:=IntKind.u32.wrap (ishl .u32 1 (n:Int)-1)
theorem Dr (n:Nat):VS (full n):=VS.wrap _
theorem C7 {n:Nat}(h:n≤16)(v:Nat):has (full n) v=decide (v<n):=by
 by_cases hv:v<32
 ·exact all_mask ⟨n,by omega⟩ ⟨v,hv⟩
 ·rw[Ey (Dr n) (by omega)];symm;simp;omega
theorem nets_all_full (F:LI):D.r F=some (full F.length):=by
 unfold D.r D.T0
 have:decide ((F.length:Int)<0)=false:=by simp
 rw[this];rfl
def Cm (n:Nat)(s:Int):List Bool:=(List.range n).map λv=> !has s v
theorem Fs (n:Nat)(s:Int):(Cm n s).length=n:=by simp[Cm]
theorem FW {n:Nat}{s:Int}{v:Nat}(h:v<n){h':v<(Cm n s).length}:(Cm n s)[v]= !has s v:=by
 simp[Cm]
theorem Ft {n:Nat}{s:Int}{v:Nat}(h:v<n):(Cm n s).getD v false= !has s v:=by
 unfold Cm
 rw[Az (by simpa using h)];simp
theorem goneOf_idx {n:Nat}{s:Int}{v:Nat}(h:v<n):idx (Cm n s) (v:Int)=some (!has s v):=by
 rw[AB (by rw[Fs];exact h),←Ft h,Az (by rw[Fs];exact h)]
theorem goneOf_set {n b:Nat}{s:Int}(hs:VS s)(hb:b<n)(hn:n≤32):(Cm n s).set b true=Cm n (iandNot .u32 s (ishl .u32 1 (b:Int))):=by
 apply List.ext_getElem
 ·simp[Cm]
 ·intro i h1 h2
  have hi:i<n:=by simpa [Cm] using h2
  rw[List.getElem_set,FW hi,FW hi,Bw hs (VS.ishl _ _),BY (by omega)]
  by_cases e:b=i
  ·subst e;simp
  ·rw[if_neg e]
   have:decide (i=b)=false:=by simp;omega
   simp[this]
theorem goneOf_full {n:Nat}(h:n≤16):List.replicate n false=Cm n (full n):=by
 apply List.ext_getElem
 ·simp[Cm]
 ·intro i h1 h2
  have hi:i<n:=by simpa [Cm] using h2
  rw[List.getElem_replicate,FW hi,C7 h]
  simp[hi]
theorem lft_gone {g:LL}(hg:GOk g){s:Int}(hs:VS s){v:Nat}(hv:v<g.length):lft g v (Cm g.length s)=An (iand .u32 (mk (row g v)) s):=by
 have h16:=hg.n16
 refine Inc.ext (lft_inc hg hv _) (Bz _) (λx=> ?_)
 unfold lft
 rw[List.mem_filter,mem_elems]
 constructor
 ·rintro⟨h1,h2⟩
  obtain⟨w,rfl,hw,ha⟩:=hg.mem hv h1
  rw[Int.toNat_natCast,Ft hw,Bool.not_not] at h2
  refine⟨w,by omega,?_,rfl⟩
  rw[B6 (VS.mk _) hs,h2,CJ (λx hx=>by have:=(hg.rows v hv).2 x hx;omega)]
  simpa using h1
 ·rintro⟨w,_,h2,rfl⟩
  rw[B6 (VS.mk _) hs,CJ (λx hx=>by have:=(hg.rows v hv).2 x hx;omega)] at h2
  simp only[Bool.and_eq_true,decide_eq_true_eq] at h2
  have hw:w<g.length:=by have:=(hg.rows v hv).2 _ h2.1;omega
  exact⟨h2.1,by rw[Int.toNat_natCast,Ft hw,h2.2];rfl⟩
theorem Fill.many {g:LL}{o F L:LI}(hg:GOk g)(ho:OOk g o)(h:Fill g o F L):D.H2 g o=some (IntKind.i64.wrap (((CV (grow F)).length:Int)-((CV g).length:Int))):=by
 unfold D.H2
 rw[h.FillOf hg ho,bs]
 simp only[Bool.not_true,cond_false]
 rw[Er _ (h.gok hg),bs,Er _ hg]
 rfl
section
variable {g : LL} {o : LI} (hg : GOk g) (ho : OOk g o)
include hg ho
end
end Go.Sx

namespace Go.Sx
section
variable {g : LL} {o : LI} (hg : GOk g) (ho : OOk g o)
include hg ho
def mx (f:Nat→Int):Nat→Int
 |0=>0
 |n+1=>max (mx f n) (f n)
end
end Go.Sx

namespace Go.Sx
def dg (g:LL)(s:Int)(v:Int):Int:=((An (iand .u32 (mk (row g v.toNat)) s)).length:Int)
structure SQ (n:Nat)(s:Int)(k:Nat):Prop where
 vs:VS s
 lt:∀v,has s v=true→v<n
 card:(An s).length=k
theorem SQ.full {n:Nat}(h:n≤16):SQ n (full n) n:=by
 refine⟨Dr n,λv hv=>by rw[C7 h] at hv;exact of_decide_eq_true hv,?_⟩
 rw[←FY (n:=n) (by omega) (λv hv=>by rw[C7 h] at hv;exact of_decide_eq_true hv)]
 unfold els
 rw[List.length_map,List.filter_eq_self.2 (λv hv=>by rw[C7 h];exact decide_eq_true (List.mem_range.1 hv)),List.length_range]
theorem SQ.rm {n k b:Nat}{s:Int}(h:SQ n s (k+1))(hb:has s b=true):SQ n (iandNot .u32 s (ishl .u32 1 (b:Int))) k:=by
 refine⟨VS.iandNot _ _,λv hv=> ?_,?_⟩
 ·rw[Bw h.vs (VS.ishl _ _),Bool.and_eq_true] at hv
  exact h.lt v hv.1
 ·have:=elems_rm h.vs hb
  have:=h.card
  omega
theorem SQ.ne {n k:Nat}{s:Int}(h:SQ n s (k+1)):An s≠[]:=λe=>by have:=h.card;rw[e] at this;simp at this
theorem SQ.nz {n k:Nat}{s:Int}(h:SQ n s (k+1)):s≠0:=λe=>by have:=h.ne;rw[e,Es] at this;exact this rfl
theorem SQ.z {n:Nat}{s:Int}(h:SQ n s 0):s=0:=by
 rw[h.vs.eq_zero]
 intro v hv
 cases hc:has s v
 ·rfl
 ·have:(v:Int)∈An s:=(AQ h.vs).2 hc
  have h0:=h.card
  rw[List.length_eq_zero_iff] at h0
  rw[h0] at this;simp at this
theorem SQ.min {n k:Nat}{s:Int}(h:SQ n s (k+1))(f:Int→Int):∃c:Nat,c<n∧has s c=true∧amin f (An s)=((c:Int),f c)∧∀v:Nat,has s v=true→f c≤f v:=by
 obtain⟨c,h1,h2,h3⟩:=amin_ok f h.ne (elems_nonneg s)
 obtain⟨v,_,h5,rfl⟩:=mem_elems.1 h2
 exact⟨v,h.lt v h5,h5,h1,λw hw=>h3 w ((AQ h.vs).2 hw)⟩
theorem elems_head {s:Int}(h:VS s){k:Nat}(hk:has s k=true)(hm:∀v,v<k→has s v=false):∃t,An s=(k:Int)::t:=by
 cases he:An s with
 |nil=>have:=(AQ h).2 hk;rw[he] at this;simp at this
 |cons x t=>
  refine⟨t,?_⟩
  congr 1
  have hx:x∈An s:=by rw[he];simp
  obtain⟨v,_,h2,rfl⟩:=mem_elems.1 hx
  have hkm:=(AQ h).2 hk
  rw[he] at hkm
  have hi:=Bz s
  rw[he] at hi
  rcases List.mem_cons.1 hkm with e|e
  ·exact e.symm
  ·have:=(List.pairwise_cons.1 hi).1 _ e
   have:=hm v (by omega)
   rw[this] at h2;cases h2
theorem graph_ext {g g':LL}(hg:GOk g)(hg':GOk g')(hl:g.length=g'.length)(h:∀a b:Nat,a<g.length→(adj g a b↔adj g' a b)):g=g':=by
 apply List.ext_getElem hl
 intro i h1 h2
 rw[←El h1,←El h2]
 refine Inc.ext (hg.rows i h1).1 (hg'.rows i h2).1 (λx=> ?_)
 constructor
 ·intro hx
  obtain⟨w,rfl,_,ha⟩:=hg.mem h1 hx
  exact(h i w h1).1 ha
 ·intro hx
  obtain⟨w,rfl,_,ha⟩:=hg'.mem h2 hx
  exact(h i w h1).2 ha
theorem grow_of {g:LL}(hg:GOk g):grow (g.map mk)=g:=by
 have hf:=FOk.of hg
 refine graph_ext (GOk.grow hf hg.n1 hg.n16) hg (by rw[grow_len,hf.len]) (λa b ha=> ?_)
 rw[grow_len,hf.len] at ha
 rw[EG hf ha,CL hg ha]
theorem l7Clique_ok {g:LL}(hg:GOk g){l:LI}(hi:Inc l)(hr:∀x∈l,0≤x∧x<g.length):
  ∃g',D.P0 g l=some g'∧(GOk g'∧g'.length=g.length∧∀a b:Nat,adj g' a b↔adj g a b∨(a≠b∧(a:Int)∈l∧(b:Int)∈l)):=by
 have h16:=hg.n16
 have hl:=hi.short (n:=g.length) hr
 unfold D.P0
 refine AP (λs=>∃i:Nat,s.2=(i:Int)∧i≤l.length∧GOk s.1∧s.1.length=g.length∧∀a b:Nat,adj s.1 a b↔adj g a b∨(a≠b∧(a:Int)∈l.take i∧(b:Int)∈l.take i)) (λs=>l.length-s.2.toNat)
  (λr=>GOk r∧r.length=g.length∧∀a b:Nat,adj r a b↔adj g a b∨(a≠b∧(a:Int)∈l∧(b:Int)∈l)) ?_ ⟨0,rfl,by omega,hg,rfl,λa b=>by simp⟩ (λr h=>⟨r,rfl,h⟩)
 rintro⟨G,_⟩ ⟨i,rfl,hil,hG,hGl,hA⟩
 dsimp only at hG hGl hA ⊢
 by_cases hlt:i<l.length
 ·have r1:=hr _ (List.getElem_mem hlt)
  obtain⟨v,ev⟩:∃v:Nat,l[i]=(v:Int):=⟨l[i].toNat,by omega⟩
  simp only[dlt hlt,cond_true]
  refine AP (λs=>∃k:Nat,s.2=(k:Int)∧k≤i∧GOk s.1∧s.1.length=g.length∧∀a b:Nat,adj s.1 a b↔adj G a b∨(a=v∧(b:Int)∈l.take k)∨(b=v∧(a:Int)∈l.take k)) (λs=>i-s.2.toNat)
   (λr=>GOk r∧r.length=g.length∧∀a b:Nat,adj r a b↔adj G a b∨(a=v∧(b:Int)∈l.take i)∨(b=v∧(a:Int)∈l.take i)) ?_ ⟨0,rfl,by omega,hG,hGl,λa b=>by simp⟩ ?_
  ·rintro⟨G',_⟩ ⟨k,rfl,hk,hG',hGl',hA'⟩
   dsimp only at hG' hGl' hA' ⊢
   by_cases hkl:k<i
   ·have hkk:k<l.length:=by omega
    have r2:=hr _ (List.getElem_mem hkk)
    obtain⟨u,eu⟩:∃u:Nat,l[k]=(u:Int):=⟨l[k].toNat,by omega⟩
    have hne:l[k]<l[i]:=(List.pairwise_iff_getElem.1 hi) k i hkk hlt hkl
    obtain⟨g2,q1,q2,q3,q4⟩:=ET hG' (u:=u) (v:=v) (by omega) (by omega) (by omega)
    simp only[dlt hkl,cond_true,AB hkk,AB hlt,bs,eu,ev,q1,wq k]
    refine⟨_,rfl,⟨k+1,rfl,by omega,q2,by dsimp only;omega,λa b=> ?_⟩,by dsimp only;omega⟩
    dsimp only
    rw[q4,hA',List.take_succ_eq_append_getElem hkk,eu]
    simp only[List.mem_append,List.mem_singleton,Int.natCast_inj]
    constructor
    ·rintro((h|⟨h1,h2⟩|⟨h1,h2⟩)|⟨h1,h2⟩|⟨h1,h2⟩)
     ·exact .inl h
     ·exact .inr (.inl ⟨h1,.inl h2⟩)
     ·exact .inr (.inr ⟨h1,.inl h2⟩)
     ·exact .inr (.inr ⟨h2,.inr h1⟩)
     ·exact .inr (.inl ⟨h1,.inr h2⟩)
    ·rintro(h|⟨h1,h2|h2⟩|⟨h1,h2|h2⟩)
     ·exact .inl (.inl h)
     ·exact .inl (.inr (.inl ⟨h1,h2⟩))
     ·exact .inr (.inr ⟨h1,h2⟩)
     ·exact .inl (.inr (.inr ⟨h1,h2⟩))
     ·exact .inr (.inl ⟨h2,h1⟩)
   ·obtain rfl:k=i:=by omega
    simp only[Bc,cond_false]
    exact⟨_,rfl,hG',hGl',hA'⟩
  ·rintro r ⟨q1,q2,q3⟩
   rw[wq i]
   refine⟨_,rfl,⟨i+1,rfl,by omega,q1,q2,λa b=> ?_⟩,by dsimp only;omega⟩
   dsimp only
   have hvt:(v:Int)∉l.take i:=by
    rw[←ev];exact nodup_iff.1 hi.nodup i hlt
   rw[q3,hA,List.take_succ_eq_append_getElem hlt,ev]
   simp only[List.mem_append,List.mem_singleton,Int.natCast_inj]
   constructor
   ·rintro((h|⟨h0,h1,h2⟩)|⟨h1,h2⟩|⟨h1,h2⟩)
    ·exact .inl h
    ·exact .inr ⟨h0,.inl h1,.inl h2⟩
    ·refine .inr ⟨λe=> ?_,.inr h1,.inl h2⟩
     subst e;subst h1;exact hvt h2
    ·refine .inr ⟨λe=> ?_,.inl h2,.inr h1⟩
     subst e;subst h1;exact hvt h2
   ·rintro(h|⟨h0,h1|h1,h2|h2⟩)
    ·exact .inl (.inl h)
    ·exact .inl (.inr ⟨h0,h1,h2⟩)
    ·exact .inr (.inr ⟨h2,h1⟩)
    ·exact .inr (.inl ⟨h1,h2⟩)
    ·exact absurd (h1.trans h2.symm) h0
 ·obtain rfl:i=l.length:=by omega
  simp only[Bc,cond_false]
  rw[List.take_length] at hA
  exact⟨_,rfl,hG,hGl,hA⟩
noncomputable def elimF (F:LI)(s b:Int):LI:=(D.P2 F s b).getD []
structure GQ (n i:Nat)(F o:LI)(s:Int):Prop where
 f:FOk F n
 left:SQ n s (n-i)
 len:o.length=i
 rng:∀x∈o,∃v:Nat,x=v∧v<n∧has s v=false
 nd:o.Nodup
theorem idx_F {F:LI}{n v:Nat}(h:FOk F n)(hv:v<n):idx F (v:Int)=some (F.getD v 0):=by
 have:=h.len
 rw[AB (by omega),Az (by omega)]
theorem l1CopyGraph_eq {g:LL}(hg:GOk g):D.t1 g=some g:=by
 have h16:=hg.n16
 unfold D.t1
 refine(DW g (λs i=>(i,s)) (λr=>r) (by omega) (λs i hi _=> ?_) (λs=> ?_)).trans (by simp)
 ·simp only[dlt hi,cond_true,AB hi,bs,DE _ (hg.sh2.2 _ (List.getElem_mem hi)),wq i]
 ·simp only[Bc,cond_false]
noncomputable def ef (g:LL)(o:LI):Nat→LI×LI×Int
 |0=>(g.map mk,List.replicate g.length 0,full g.length)
 |i+1=>(elimF (ef g o i).1 (ef g o i).2.2 (o.getD i 0),(ef g o i).2.1.set (o.getD i 0).toNat (iand .u32 ((ef g o i).1.getD (o.getD i 0).toNat 0) (iandNot .u32 (ef g o i).2.2 (ishl .u32 1 (o.getD i 0)))),
   iandNot .u32 (ef g o i).2.2 (ishl .u32 1 (o.getD i 0)))
section
variable {g : LL} {o : LI} (hg : GOk g) (ho : OOk g o)
include hg ho
end
end Go.Sx

namespace Go.Sx
theorem less2 (a b c d:Int):D.J1 [a,b] [c,d]=some (decide (a<c∨(a=c∧b<d))):=by
 unfold D.J1
 have i0:∀x y:Int,idx [x,y] 0=some x:=λx y=>by unfold idx;simp
 have i1:∀x y:Int,idx [x,y] 1=some y:=λx y=>by unfold idx;simp
 have w1:IntKind.i64.wrap 1=1:=by decide
 have w2:IntKind.i64.wrap 2=2:=by decide
 have e0:((([a,b]:LI).length:Int) !=(([c,d]:LI).length:Int))=false:=by simp
 rw[e0,cond_false]
 by_cases h1:a=c
 ·subst h1
  rw[BB (s':=1) (by simp[i0,w1])]
  by_cases h2:b=d
  ·subst h2
   rw[BB (s':=2) (by simp[i1,w2]),Be (r:= .inl ()) (by simp)];simp
  ·have e:(b !=d)=true:=by simpa using h2
   rw[Be (r:= .inr (decide (b<d))) (by simp[i1,e])];simp
 ·have e:(a !=c)=true:=by simpa using h1
  rw[Be (r:= .inr (decide (a<c))) (by simp[i0,e])];simp[h1]
theorem less_key {x y:LI}(hx:Cv x)(hy:Cv y):D.J1 x y=some (decide (Bn x<Bn y)):=by
 obtain⟨h1,h2,h3,h4,h5⟩:=hx
 obtain⟨k1,k2,k3,k4,k5⟩:=hy
 obtain⟨a,b,rfl⟩:=list2 h1
 obtain⟨c,d,rfl⟩:=list2 k1
 rw[less2]
 unfold Bn
 simp only[List.getD_cons_zero,List.getD_cons_succ] at*
 congr 1
 rw[decide_eq_decide]
 constructor<;>intro h<;>omega
def D6 (l:LI)(xs:LL):Nat:=xs.findIdx λx=>decide (Bn l<Bn x)
def ins (l:LI)(xs:LL):LL:=xs.take (D6 l xs)++l::xs.drop (D6 l xs)
theorem ins_perm (l:LI)(xs:LL):(ins l xs).Perm (l::xs):=by
 unfold ins
 refine List.perm_middle.trans ?_
 rw[List.take_append_drop]
def DR (xs:LL):Prop:=xs.Pairwise (λa b=>Bn a≤Bn b)
theorem ins_sorted (l:LI){xs:LL}(h:DR xs):DR (ins l xs):=by
 unfold ins DR
 have hlt:∀x∈xs.take (D6 l xs),Bn x≤Bn l:=λx hx=>by
  obtain⟨j,hj,hji,rfl⟩:=mem_take_iff.1 hx
  have:=List.not_of_lt_findIdx (p:=λx=>decide (Bn l<Bn x)) (xs:=xs) hji
  simp at this
  omega
 have hge:∀x∈xs.drop (D6 l xs),Bn l<Bn x:=λx hx=>by
  obtain⟨j,hj,rfl⟩:=List.getElem_of_mem hx
  have hk:D6 l xs<xs.length:=by simp at hj;omega
  have h1:decide (Bn l<Bn (xs[D6 l xs]))=true:=List.findIdx_getElem (p:=λx=>decide (Bn l<Bn x)) (xs:=xs) (w:=hk)
  have h1:=of_decide_eq_true h1
  rw[List.getElem_drop]
  rcases Nat.eq_zero_or_pos j with e|e
  ·subst e;simpa using h1
  ·have:=(List.pairwise_iff_getElem.1 h) (D6 l xs) (D6 l xs+j) hk (by simp at hj;omega) (by omega)
   omega
 rw[List.pairwise_append]
 refine⟨h.sublist (List.take_sublist _ _),?_,λa ha b hb=> ?_⟩
 ·rw[List.pairwise_cons]
  exact⟨λb hb=>by have:=hge b hb;omega,h.sublist (List.drop_sublist _ _)⟩
 ·have:=hlt a ha
  rcases List.mem_cons.1 hb with rfl|hb
  ·exact this
  ·have:=hge b hb;omega
def BP (a b:Int):LI:=[min a b,max a b]
theorem l1Min_eq (a b:Int):D.k0 a b=some (min a b):=by
 unfold D.k0
 by_cases h:a<b
 ·simp only[h,decide_true,cond_true];congr 1;omega
 ·simp only[h,decide_false,cond_false];congr 1;omega
theorem l1Max_eq2 (a b:Int):D.x2 a b=some (max a b):=by
 unfold D.x2
 by_cases h:b<a
 ·simp only[h,decide_true,cond_true];congr 1;omega
 ·simp only[h,decide_false,cond_false];congr 1;omega
theorem FB (a b:Int):D.R a b=some (BP a b):=by
 unfold D.R BP
 congr 2
 ·split<;>omega
 ·congr 1;split<;>omega
theorem FN {xs:LL}{a b:Int}(hg:∀x∈xs,Cv x)(hl:Cv (BP a b))(hx:xs.length≤1000000):D.L0 xs a b=some (ins (BP a b) xs):=by
 unfold D.L0
 rw[l1Min_eq,bs,l1Max_eq2,bs]
 have el:([min a b,max a b]:LI)=BP a b:=rfl
 simp only[el]
 have hk:=List.findIdx_le_length (p:=λx=>decide (Bn (BP a b)<Bn x)) (xs:=xs)
 generalize hkk:D6 (BP a b) xs=k
 have hkl:k≤xs.length:=by rw[←hkk];exact hk
 generalize hL:BP a b=l at*
 have hlo:∀i (hi:i<xs.length),i<k→D.J1 l xs[i]=some false:=λi hi hik=>by
  rw[less_key hl (hg _ (List.getElem_mem hi))]
  have:=List.not_of_lt_findIdx (p:=λx=>decide (Bn l<Bn x)) (xs:=xs) (i:=i) (by unfold D6 at hkk;omega)
  simp at this
  simp;omega
 have hhi:∀(h:k<xs.length),D.J1 l xs[k]=some true:=λh=>by
  rw[less_key hl (hg _ (List.getElem_mem h))]
  unfold D6 at hkk
  have h1:decide (Bn l<Bn (xs[xs.findIdx λx=>decide (Bn l<Bn x)]'(by rw[hkk];exact h)))=true:=List.findIdx_getElem (p:=λx=>decide (Bn l<Bn x)) (xs:=xs) (w:=by rw[hkk];exact h)
  simp only[hkk] at h1
  rw[h1]
 let st:Nat→LI×LL×Bool×Int:=λi=>if i≤k then(l,xs.take i,false,(i:Int)) else(l,xs.take k++l::(xs.drop k).take (i-k),true,(i:Int))
 have hst:st xs.length=(l,if k=xs.length then xs else ins l xs,decide (k<xs.length),(xs.length:Int)):=by
  by_cases e:k=xs.length
  ·simp[st,e]
  ·have h1:¬xs.length≤k:=by omega
   have h2:k<xs.length:=by omega
   simp only[st,h1,if_false,e,h2,decide_true]
   unfold ins;rw[hkk,List.take_of_length_le (l:=xs.drop k) (by simp)]
 refine(B8 st xs.length (l,if k=xs.length then xs else ins l xs,decide (k<xs.length)) (by simp[st]) (λi hi=> ?_) ?_).trans ?_
 ·by_cases h1:i<k
  ·have e1:st i=(l,xs.take i,false,(i:Int)):=by simp only[st];rw[if_pos (by omega)]
   have e2:st (i+1)=(l,xs.take (i+1),false,((i+1:Nat):Int)):=by simp only[st];rw[if_pos (by omega)]
   rw[e1,e2]
   simp only[dlt hi,cond_true,Bool.not_false,AB hi,bs,hlo i hi h1,cond_false,wq i]
   rw[A9 (by simp;omega),bs,List.take_succ_eq_append_getElem hi]
  ·by_cases h2:i=k
   ·subst h2
    have e1:st i=(l,xs.take i,false,(i:Int)):=by simp only[st];rw[if_pos (by omega)]
    have e2:st (i+1)=(l,xs.take i++l::(xs.drop i).take 1,true,((i+1:Nat):Int)):=by simp only[st];rw[if_neg (by omega)];congr;omega
    rw[e1,e2]
    simp only[dlt hi,cond_true,Bool.not_false,AB hi,bs,hhi hi,wq i]
    rw[A9 (by simp;omega),bs,A9 (by simp;omega),bs]
    have:(xs.drop i).take 1=[xs[i]]:=by rw[List.drop_eq_getElem_cons hi,List.take_succ_cons,List.take_zero]
    rw[this];simp
   ·have e1:st i=(l,xs.take k++l::(xs.drop k).take (i-k),true,(i:Int)):=by simp only[st];rw[if_neg (by omega)]
    have e2:st (i+1)=(l,xs.take k++l::(xs.drop k).take (i+1-k),true,((i+1:Nat):Int)):=by simp only[st];rw[if_neg (by omega)]
    rw[e1,e2]
    simp only[dlt hi,cond_true,Bool.not_true,cond_false,bs,AB hi,wq i]
    rw[A9 (by simp;omega),bs]
    have:(xs.drop k).take (i+1-k)=(xs.drop k).take (i-k)++[xs[i]]:=by
     rw[show i+1-k=(i-k)+1 by omega,List.take_succ_eq_append_getElem (by simp;omega)]
     congr 2
     rw[List.getElem_drop];congr 1;omega
    rw[this];simp
 ·rw[hst]
  simp only[Bc,cond_false]
 ·by_cases e:k=xs.length
  ·simp only[e,if_true,Nat.lt_irrefl,decide_false,Bool.not_false,cond_true]
   rw[A9 (by simp;omega),bs]
   unfold ins;rw[hkk,e];simp
  ·have h2:k<xs.length:=by omega
   simp only[e,if_false,h2,decide_true,Bool.not_true,cond_false]
end Go.Sx



namespace Go.Sx
theorem into_elems' {s:Int}(hs:VS s){v:Nat}(hv:v<32):into (An s) (v:Int)=An (ior .u32 s (ishl .u32 1 (v:Int))):=by
 refine Inc.ext ((Bz _).into _) (Bz _) (λz=> ?_)
 rw[mem_into,mem_elems,mem_elems]
 constructor
 ·rintro(rfl|⟨w,h3,h4,rfl⟩)
  ·exact⟨v,hv,by rw[Cu hs (VS.ishl _ _),BY hv];simp,rfl⟩
  ·exact⟨w,h3,by rw[Cu hs (VS.ishl _ _),h4];rfl,rfl⟩
 ·rintro⟨w,h3,h4,rfl⟩
  rw[Cu hs (VS.ishl _ _),BY hv,Bool.or_eq_true] at h4
  rcases h4 with h4|h4
  ·exact .inr ⟨w,h3,h4,rfl⟩
  ·exact .inl (by rw[of_decide_eq_true h4])
theorem Dz {o:LI}(h:o.Nodup){i j:Nat}(hi:i<o.length)(hj:j<o.length)(e:o[i]=o[j]):i=j:=by
 rcases Nat.lt_trichotomy i j with c|c|c
 ·exact absurd (mem_take_iff.2 ⟨i,hi,c,e⟩) (nodup_iff.1 h j hj)
 ·exact c
 ·exact absurd (mem_take_iff.2 ⟨j,hj,c,e.symm⟩) (nodup_iff.1 h i hi)
def nxt (o l:LI)(i:Nat):Nat:=(i+1)+(o.drop (i+1)).findIdx (λx=>decide (l=[])||decide (x∈l))
theorem nxt_gt (o l:LI)(i:Nat):i<nxt o l i:=by unfold nxt;omega
section
variable {g : LL} {o F L : LI} (hg : GOk g) (ho : OOk g o) (hF : Fill g o F L)
include hg ho hF
theorem later_pos {i v m:Nat}(hi:o[i]? =some (v:Int))(hm:m<o.length)(h:o[m]∈An (L.getD v 0)):i+1≤m:=by
 have hl:=ho.len
 obtain⟨hio,hv⟩:=List.getElem?_eq_some_iff.1 hi
 have hr:=ho.rng _ (List.getElem_mem hio)
 obtain⟨w,_,h2,h3⟩:=mem_elems.1 h
 have hlat:=hF.lat i v (by omega) hi w
 unfold nb at hlat
 rw[hlat] at h2
 simp only[Bool.and_eq_true,decide_eq_true_eq] at h2
 apply Classical.byContradiction
 intro hc
 exact h2.2 (mem_take_iff.2 ⟨m,hm,by omega,h3⟩)
theorem later_in {v:Nat}(hv:v<g.length){x:Int}(h:x∈An (L.getD v 0)):∃m:Nat,∃hm:m<o.length,o[m]=x∧0≤x∧x<g.length:=by
 have hl:=ho.len
 obtain⟨i,h1,h2⟩:=D5 ho hv
 obtain⟨w,_,h3,rfl⟩:=mem_elems.1 h
 have hlat:=hF.lat i v h1 h2 w
 unfold nb at hlat
 rw[hlat] at h3
 simp only[Bool.and_eq_true,decide_eq_true_eq] at h3
 have hw:=hF.f.lt v w hv h3.1
 obtain⟨m,h4,h5⟩:=D5 ho hw
 obtain⟨h6,h7⟩:=List.getElem?_eq_some_iff.1 h5
 exact⟨m,h6,h7,by omega,by omega⟩
noncomputable def CN (o L:LI)(i:Nat):LI:=into (An (L.getD (o.getD i 0).toNat 0)) (o.getD i 0)
noncomputable def lnkD (o L:LI)(i:Nat):LI:=BP (i:Int) ((nxt o (An (L.getD (o.getD i 0).toNat 0)) i:Nat):Int)
omit hg ho hF in
theorem lnkD_eq (i:Nat):lnkD o L i=[(i:Int),((nxt o (An (L.getD (o.getD i 0).toNat 0)) i:Nat):Int)]:=by
 have:=nxt_gt o (An (L.getD (o.getD i 0).toNat 0)) i
 unfold lnkD BP
 rw[show min (i:Int) ((nxt o (An (L.getD (o.getD i 0).toNat 0)) i:Nat):Int)=i by omega,show max (i:Int) ((nxt o (An (L.getD (o.getD i 0).toNat 0)) i:Nat):Int)=((nxt o (An (L.getD (o.getD i 0).toNat 0)) i:Nat):Int) by omega]
theorem nxt_lt {i:Nat}(hi:i+1<o.length):nxt o (An (L.getD (o.getD i 0).toNat 0)) i<o.length:=by
 have hio:i<o.length:=by omega
 have hl:=ho.len
 have hr:=ho.rng _ (List.getElem_mem hio)
 obtain⟨v,hv⟩:∃v:Nat,o[i]=(v:Int):=⟨o[i].toNat,by omega⟩
 have hvn:v<g.length:=by omega
 have hd:o.getD i 0=(v:Int):=by rw[Az hio,hv]
 rw[hd,Int.toNat_natCast]
 have hin:=λx hx=>later_in hg ho hF hvn (x:=x) hx
 have hps:=λm hm hh=>later_pos hg ho hF (i:=i) (v:=v) (m:=m) (by rw[List.getElem?_eq_getElem hio,hv]) hm hh
 generalize An (L.getD v 0)=l at hin hps ⊢
 have:(o.drop (i+1)).findIdx (λx=>decide (l=[])||decide (x∈l))<(o.drop (i+1)).length:=by
  rw[List.findIdx_lt_length]
  by_cases hn:l=[]
  ·exact⟨(o.drop (i+1))[0]'(by simp;omega),List.getElem_mem _,by simp[hn]⟩
  ·obtain⟨x,hx⟩:=List.exists_mem_of_ne_nil _ hn
   obtain⟨m,hm,hmx,_⟩:=hin x hx
   have hp:=hps m hm (by rw[hmx];exact hx)
   refine⟨x,?_,by simp[hx]⟩
   have:(o.drop (i+1))[m-(i+1)]'(by simp;omega)=x:=by
    rw[List.getElem_drop,←hmx];congr 1;omega
   rw[←this];exact List.getElem_mem _
 unfold nxt
 simp at this
 omega
theorem bagD_mask {i v:Nat}(hi:i<o.length)(hv:o[i]=(v:Int))(hvn:v<g.length):An (ior .u32 (L.getD v 0) (ishl .u32 1 (v:Int)))=CN o L i:=by
 have h16:=hg.n16
 unfold CN
 rw[Az hi,hv,Int.toNat_natCast,into_elems' (hF.vsL v hvn) (by omega)]
end
end Go.Sx

namespace Go.Sx
theorem conn_up {links:LL}{sel:LI}{n:Nat}(hr:∀x∈sel,∃i:Nat,x=i∧i<n)(p:Int)(hp:p∈sel)(hup:∀x∈sel,x≠p→∃y∈sel,x<y∧Lk links x y):Df links sel:=by
 intro m hm
 have hs:∀x y,x∈sel→y∈sel→Lk links x y→(x∈m↔y∈m):=λx y hx hy h=>
  ⟨λhxm=>hm.step x hxm y hy h,λhym=>hm.step y hym x hx (Or.elim h (λh=>Or.inr h) (λh=>Or.inl h))⟩
 have key:∀(k:Nat) (x:Int),x∈sel→n-x.toNat≤k→(x∈m↔p∈m):=by
  intro k
  induction k with
  |zero=>intro x hx hk;obtain⟨i,rfl,hi⟩:=hr x hx;omega
  |succ k ih=>
   intro x hx hk
   by_cases hxp:x=p
   ·rw[hxp]
   ·obtain⟨y,hy,hxy,hl⟩:=hup x hx hxp
    rw[hs x y hx hy hl]
    obtain⟨i,rfl,hi⟩:=hr x hx
    obtain⟨j,rfl,hj⟩:=hr y hy
    exact ih _ hy (by omega)
 have hpm:p∈m:=by
  cases hsel:sel with
  |nil=>rw[hsel] at hp;simp at hp
  |cons x0 t=>
   have h0:x0∈m:=hm.first x0 (by rw[hsel];rfl)
   exact(key n x0 (by rw[hsel];simp) (by omega)).1 h0
 exact λx hx=>(key n x hx (by omega)).2 hpm
section
variable {g : LL} {o F L : LI} (hg : GOk g) (ho : OOk g o) (hF : Fill g o F L)
include hg ho hF
theorem Dm {i v:Nat}(hi:i<o.length)(hv:o[i]=(v:Int)){w:Nat}:(w:Int)∈CN o L i↔w=v∨(nb F v w=true∧(w:Int)∉o.take (i+1)):=by
 have hl:=ho.len
 have hr:=ho.rng _ (List.getElem_mem hi)
 unfold CN
 rw[Az hi,hv,Int.toNat_natCast,mem_into,AQ (hF.vsL v (by omega))]
 have:=hF.lat i v (by omega) (by rw[List.getElem?_eq_getElem hi,hv]) w
 unfold nb at this ⊢
 rw[this,Bool.and_eq_true,decide_eq_true_eq]
 constructor
 ·rintro(h|h)
  ·exact .inl (by omega)
  ·exact .inr h
 ·rintro(h|h)
  ·exact .inl (by rw[h])
  ·exact .inr h
theorem bagD_pos {i w:Nat}(hi:i<o.length)(h:(w:Int)∈CN o L i):∃m,∃hm:m<o.length,o[m]=(w:Int)∧i≤m:=by
 have hl:=ho.len
 have hr:=ho.rng _ (List.getElem_mem hi)
 obtain⟨v,hv⟩:∃v:Nat,o[i]=(v:Int):=⟨o[i].toNat,by omega⟩
 rcases(Dm hg ho hF hi hv).1 h with rfl|⟨h1,h2⟩
 ·exact⟨i,hi,hv,Nat.le_refl _⟩
 ·have hwn:=hF.f.lt v w (by omega) h1
  obtain⟨m,hm,e⟩:=D5 ho hwn
  obtain⟨hm',e'⟩:=List.getElem?_eq_some_iff.1 e
  refine⟨m,hm',e',?_⟩
  apply Classical.byContradiction
  intro hc
  exact h2 (mem_take_iff.2 ⟨m,hm',by omega,e'⟩)
theorem nxt_first {i:Nat}(hi:i<o.length){w m:Nat}(hm:m<o.length)(e:o[m]=(w:Int))(him:i<m)(h:(w:Int)∈CN o L i):nxt o (An (L.getD (o.getD i 0).toNat 0)) i≤m∧∃hx:nxt o (An (L.getD (o.getD i 0).toNat 0)) i<o.length,o[nxt o (An (L.getD (o.getD i 0).toNat 0)) i]∈CN o L i:=by
 have hb:(w:Int)∈An (L.getD (o.getD i 0).toNat 0):=by
  unfold CN at h
  rcases mem_into.1 h with h|h
  ·have hr:=Az hi 0
   rw[hr] at h
   have:=Dz ho.nd hm hi (by rw[e,h])
   omega
  ·exact h
 generalize hls:An (L.getD (o.getD i 0).toNat 0)=l at hb
 have hdl:(o.drop (i+1))[m-(i+1)]'(by simp;omega)=(w:Int):=by
  rw[List.getElem_drop,←e];congr 1;omega
 have h1:(o.drop (i+1)).findIdx (λx=>decide (l=[])||decide (x∈l))≤m-(i+1):=by
  apply Classical.byContradiction
  intro hc
  have:=List.not_of_lt_findIdx (p:=λx=>decide (l=[])||decide (x∈l)) (xs:=o.drop (i+1)) (i:=m-(i+1)) (by omega)
  rw[hdl] at this
  simp[hb] at this
 have h2:(o.drop (i+1)).findIdx (λx=>decide (l=[])||decide (x∈l))<(o.drop (i+1)).length:=by simp;omega
 have h3:=List.findIdx_getElem (w:=h2)
 have hne:l≠[]:=λe=>by rw[e] at hb;simp at hb
 rw[Bool.or_eq_true,decide_eq_true_eq,decide_eq_true_eq] at h3
 have h3:=h3.resolve_left hne
 rw[List.getElem_drop] at h3
 unfold nxt
 refine⟨by omega,by omega,?_⟩
 unfold CN
 rw[hls]
 exact mem_into.2 (.inr h3)
theorem bagD_next {i w m:Nat}(hi:i<o.length)(hm:m<o.length)(e:o[m]=(w:Int))(him:i<m)(h:(w:Int)∈CN o L i):∃j,j<o.length∧i<j∧i+1<o.length∧lnkD o L i=[(i:Int),(j:Int)]∧(w:Int)∈CN o L j:=by
 have hl:=ho.len
 obtain⟨h1,h2,h3⟩:=nxt_first hg ho hF hi hm e him h
 have hgt:=nxt_gt o (An (L.getD (o.getD i 0).toNat 0)) i
 refine⟨nxt o (An (L.getD (o.getD i 0).toNat 0)) i,h2,hgt,by omega,lnkD_eq i,?_⟩
 generalize nxt o (An (L.getD (o.getD i 0).toNat 0)) i=j at*
 have hri:=ho.rng _ (List.getElem_mem hi);have hrj:=ho.rng _ (List.getElem_mem h2)
 obtain⟨v,hv⟩:∃v:Nat,o[i]=(v:Int):=⟨o[i].toNat,by omega⟩
 obtain⟨u,hu⟩:∃u:Nat,o[j]=(u:Int):=⟨o[j].toNat,by omega⟩
 rw[hu] at h3
 by_cases hjm:j=m
 ·subst hjm
  rw[Dm hg ho hF h2 hu]
  left;omega
 ·have hnp:∀{a b:Nat} {x:Nat} (hb:b<o.length),o[b]=(x:Int)→a≤b→(x:Int)∉o.take a:=by
   intro a b x hb ex hab hc
   obtain⟨c,hc1,hc2,hc3⟩:=mem_take_iff.1 hc
   have:=Dz ho.nd hc1 hb (by rw[hc3,ex])
   omega
  have hwv:w≠v:=λe2=>by
   have:=Dz ho.nd hm hi (by rw[e,hv,e2]);omega
  have huv:u≠v:=λe2=>by
   have:=Dz ho.nd h2 hi (by rw[hu,hv,e2]);omega
  have huw:u≠w:=λe2=>hjm (Dz ho.nd h2 hm (by rw[hu,e,e2]))
  have hw1:nb F v w=true:=by
   rcases(Dm hg ho hF hi hv).1 h with h|h
   ·exact absurd h hwv
   ·exact h.1
  have hu1:nb F v u=true:=by
   rcases(Dm hg ho hF hi hv).1 h3 with h|h
   ·exact absurd h huv
   ·exact h.1
  have hp:=hF.peo i v u w (by rw[List.getElem?_eq_getElem hi,hv]) hu1 hw1 (hnp h2 hu (by omega)) (hnp hm e (by omega)) huw
  exact(Dm hg ho hF h2 hu).2 (.inr ⟨hp,hnp hm e (by omega)⟩)
theorem DecompBy_TB :TB g ((List.range o.length).map (CN o L)) ((List.range (o.length-1)).map (lnkD o L)):=by
 have hl:=ho.len;have hn1:=hg.n1;have hn16:=hg.n16
 have hbl:((List.range o.length).map (CN o L)).length=o.length:=by simp
 have hbg:∀i,i<o.length→((List.range o.length).map (CN o L)).getD i []=CN o L i:=λi hi=>by rw[Az (by simpa using hi)];simp
 have hlk:∀i,i+1<o.length→lnkD o L i∈(List.range (o.length-1)).map (lnkD o L):=λi hi=>List.mem_map.2 ⟨i,List.mem_range.2 (by omega),rfl⟩
 have hwith:∀(v:Nat) (x:Int),x∈Cd ((List.range o.length).map (CN o L)) (v:Int)↔∃b:Nat,x=b∧b<o.length∧(v:Int)∈CN o L b:=λv x=>by
  rw[mem_withV,hbl]
  constructor
  ·rintro⟨b,h1,h2,h3⟩;rw[hbg b h2] at h3;exact⟨b,h1,h2,h3⟩
  ·rintro⟨b,h1,h2,h3⟩;exact⟨b,h1,h2,by rw[hbg b h2];exact h3⟩
 have hself:∀(p v:Nat) (hp:p<o.length),o[p]=(v:Int)→(v:Int)∈CN o L p:=λp v hp e=>(Dm hg ho hF hp e).2 (.inl rfl)
 refine⟨by omega,by omega,by simp;omega,λl h=> ?_,λb h=> ?_,?_,λu v hu ha=> ?_,λv hv=> ?_,λv hv=> ?_⟩
 ·obtain⟨i,hi,rfl⟩:=List.mem_map.1 h
  have hi:=List.mem_range.1 hi
  have:=nxt_lt hg ho hF (show i+1<o.length by omega)
  have:=nxt_gt o (An (L.getD (o.getD i 0).toNat 0)) i
  exact⟨i,_,lnkD_eq i,by omega,by omega⟩
 ·obtain⟨i,hi,rfl⟩:=List.mem_map.1 h
  have hi:=List.mem_range.1 hi
  have hr:=ho.rng _ (List.getElem_mem hi)
  refine⟨(Bz _).into _,λx hx=> ?_⟩
  have hx0:0≤x:=by
   unfold CN at hx
   rcases mem_into.1 hx with hx|hx
   ·rw[hx,Az hi];omega
   ·obtain⟨w,_,_,rfl⟩:=mem_elems.1 hx;omega
  obtain⟨m,hm,e,_⟩:=bagD_pos hg ho hF hi (w:=x.toNat) (by rw[show ((x.toNat:Nat):Int)=x by omega];exact hx)
  have:=ho.rng _ (List.getElem_mem hm)
  omega
 ·rw[hbl]
  refine conn_up (n:=o.length) (λx hx=> ?_) ((o.length-1:Nat):Int) (List.mem_map.2 ⟨o.length-1,List.mem_range.2 (by omega),rfl⟩) (λx hx hne=> ?_)
  ·obtain⟨i,hi,rfl⟩:=List.mem_map.1 hx
   exact⟨i,rfl,List.mem_range.1 hi⟩
  ·obtain⟨i,hi,rfl⟩:=List.mem_map.1 hx
   have hi:=List.mem_range.1 hi
   have hi2:i+1<o.length:=by
    apply Classical.byContradiction
    intro hc
    exact hne (by show (i:Int)=_;congr 1;omega)
   have h1:=nxt_lt hg ho hF hi2
   have h2:=nxt_gt o (An (L.getD (o.getD i 0).toNat 0)) i
   refine⟨_,List.mem_map.2 ⟨_,List.mem_range.2 h1,rfl⟩,?_,.inl ?_⟩
   ·show (i:Int)<((_:Nat):Int)
    omega
   ·have:=hlk i hi2
    rw[lnkD_eq] at this
    exact this
 ·have hv:=hg.lt hu ha
  obtain⟨p,hp,ep⟩:=D5 ho hu
  obtain⟨q,hq,eq⟩:=D5 ho hv
  obtain⟨hp',ep'⟩:=List.getElem?_eq_some_iff.1 ep
  obtain⟨hq',eq'⟩:=List.getElem?_eq_some_iff.1 eq
  have hne:u≠v:=λe=>hg.irr u hu (by rw[e] at ha ⊢;exact ha)
  have hmn:=hF.mono u v hu ha
  have hmn2:=hF.f.sym u v hu hmn
  have hbm:∀i,i<o.length→CN o L i∈(List.range o.length).map (CN o L):=λi hi=>List.mem_map.2 ⟨i,List.mem_range.2 hi,rfl⟩
  have hnp:∀{a b:Nat} {x:Nat} (hb:b<o.length),o[b]=(x:Int)→a≤b→(x:Int)∉o.take a:=by
   intro a b x hb ex hab hc
   obtain⟨c,hc1,hc2,hc3⟩:=mem_take_iff.1 hc
   have:=Dz ho.nd hc1 hb (by rw[hc3,ex])
   omega
  rcases Nat.lt_trichotomy p q with c|c|c
  ·exact⟨_,hbm p hp',hself p u hp' ep',(Dm hg ho hF hp' ep').2 (.inr ⟨hmn,hnp hq' eq' (by omega)⟩)⟩
  ·subst c;rw[ep'] at eq';omega
  ·exact⟨_,hbm q hq',(Dm hg ho hF hq' eq').2 (.inr ⟨hmn2,hnp hp' ep' (by omega)⟩),hself q v hq' eq'⟩
 ·obtain⟨p,hp,ep⟩:=D5 ho hv
  obtain⟨hp',ep'⟩:=List.getElem?_eq_some_iff.1 ep
  intro hc
  have:=(hwith v p).2 ⟨p,rfl,hp',hself p v hp' ep'⟩
  rw[hc] at this
  simp at this
 ·obtain⟨p,hp,ep⟩:=D5 ho hv
  obtain⟨hp',ep'⟩:=List.getElem?_eq_some_iff.1 ep
  refine conn_up (n:=o.length) (λx hx=> ?_) (p:Int) ((hwith v p).2 ⟨p,rfl,hp',hself p v hp' ep'⟩) (λx hx hne=> ?_)
  ·obtain⟨b,rfl,hb,_⟩:=(hwith v x).1 hx
   exact⟨b,rfl,hb⟩
  ·obtain⟨b,rfl,hb,hvb⟩:=(hwith v x).1 hx
   obtain⟨m,hm,em,hbm⟩:=bagD_pos hg ho hF hb hvb
   have hmp:m=p:=Dz ho.nd hm hp' (by rw[em,ep'])
   subst hmp
   have hbp:b≠m:=λe=>hne (by rw[e])
   obtain⟨j,hj,hbj,hb1,hlj,hvj⟩:=bagD_next hg ho hF hb hm em (by omega) hvb
   refine⟨(j:Int),(hwith v j).2 ⟨j,rfl,hj,hvj⟩,by omega,.inl ?_⟩
   have:=hlk b hb1
   rw[hlj] at this
   exact this
end
end Go.Sx

namespace Go.Sx
structure Net (A:LI)(n:Nat):Prop where
 len:A.length=n
 vs:∀u,u<n→VS (A.getD u 0)
 lt:∀u w,u<n→nb A u w=true→w<n
theorem FOk.net {A:LI}{n:Nat}(h:FOk A n):Net A n:=⟨h.len,h.vs,h.lt⟩
structure Rch (A:LI)(W:Int)(v:Nat)(S:Int):Prop where
 vs:VS S
 me:has S v=true
 step:∀x y,has S x=true→nb A x y=true→has W y=true→has S y=true
 least:∀T:Nat→Prop,T v→(∀x y,T x→nb A x y=true→has W y=true→T y)→∀x,has S x=true→T x
theorem reach_ok {A:LI}{n:Nat}(hn:n≤16)(hA:Net A n){v:Nat}(hv:v<n){W:Int}(hW:VS W):∃S,D.K A (v:Int) W=some S∧Rch A W v S∧∀x,has S x=true→x<n:=by
 unfold D.K
 rw[Cy,bs]
 refine AP (λS=>VS S∧has S v=true∧(∀x,has S x=true→x<n)∧∀T:Nat→Prop,T v→(∀x y,T x→nb A x y=true→has W y=true→T y)→∀x,has S x=true→T x) (λS=>n-(An S).length)
  (λS=>Rch A W v S∧∀x,has S x=true→x<n) ?_ ?_ (λr hr=>⟨r,rfl,hr⟩)
 ·rintro S ⟨hS,hv',hlt,hT⟩
  have hle:=BF S
  simp only[DF S hS,bs]
  have hin:=AP (step:=(fun(s_223:Int×Int)=>match s_223 with|(x_226,x_227)=>cond (decide (x_227<((An S).length:Int))) ((idx (An S) x_227).bind λe_246=>(idx A e_246).bind λe_252=>some (.inl ((ior .u32 x_226 (iand .u32 e_252 W)),(IntKind.i64.wrap (x_227+1))))) (some (.inr x_226)))) (s:=(S,0)) (k:=λr=>some r) (Q:=λX:Int=>VS X∧∀y,has X y=true↔has S y=true∨∃u:Nat,has S u=true∧nb A u y=true∧has W y=true)
   (λs=>∃k:Nat,s.2=(k:Int)∧k≤(An S).length∧VS s.1∧∀y,has s.1 y=true↔has S y=true∨∃u:Nat,(u:Int)∈(An S).take k∧nb A u y=true∧has W y=true) (λs=>(An S).length-s.2.toNat) (λX=>VS X∧∀y,has X y=true↔has S y=true∨∃u:Nat,has S u=true∧nb A u y=true∧has W y=true)
   ?_ ⟨0,rfl,by omega,hS,λy=>by simp⟩ (λr hr=>⟨r,rfl,hr⟩)
  ·obtain⟨X,hX,hX1,hX2⟩:=hin
   rw[Option.bind_eq_some_iff] at hX
   obtain⟨z,e1,e2⟩:=hX
   cases e2
   rw[e1,bs]
   by_cases hc:X=S
   ·subst hc
    simp only[beq_self_eq_true,cond_true]
    refine⟨_,rfl,⟨hS,hv',λx y h1 h2 h3=>(hX2 y).2 (.inr ⟨x,h1,h2,h3⟩),hT⟩,hlt⟩
   ·have e3:(X==S)=false:=by simpa using hc
    simp only[e3,cond_false]
    have hXlt:∀x,has X x=true→x<n:=λx hx=>by
     rcases(hX2 x).1 hx with h|⟨u,h1,h2,_⟩
     ·exact hlt x h
     ·exact hA.lt u x (hlt u h1) h2
    refine⟨_,rfl,⟨hX1,(hX2 v).2 (.inl hv'),hXlt,λT h1 h2 x hx=> ?_⟩,?_⟩
    ·rcases(hX2 x).1 hx with h|⟨u,h3,h4,h5⟩
     ·exact hT T h1 h2 x h
     ·exact h2 u x (hT T h1 h2 u h3) h4 h5
    ·
     obtain⟨w,hw,hws⟩:∃w:Nat,has X w=true∧has S w=false:=by
      apply Classical.byContradiction
      intro hno
      refine hc (hX1.ext hS (λw _=> ?_))
      rw[Bool.eq_iff_iff]
      refine⟨λh=> ?_,λh=>(hX2 w).2 (.inl h)⟩
      cases hh:has S w
      ·exact absurd ⟨w,h,hh⟩ hno
      ·rfl
     have h1:((w:Int)::An S).length≤(An X).length:=BM (List.nodup_cons.2 ⟨λhm=>by rw[AQ hS,hws] at hm;exact Bool.noConfusion hm,(Bz S).nodup⟩) (λx hx=>by
      rcases List.mem_cons.1 hx with rfl|hx
      ·rw[AQ hX1];exact hw
      ·obtain⟨u,_,h2,rfl⟩:=mem_elems.1 hx
       rw[AQ hX1];exact(hX2 u).2 (.inl h2))
     have h2:(An X).length≤n:=(Bz X).short (n:=n) (λx hx=>by
      obtain⟨u,_,h2,rfl⟩:=mem_elems.1 hx
      have:=hXlt u h2;omega)
     simp at h1
     show n-(An X).length<n-(An S).length
     omega
  ·rintro⟨X,_⟩ ⟨k,rfl,hk,hX1,hX2⟩
   dsimp only at hX1 hX2 ⊢
   by_cases hkl:k<(An S).length
   ·obtain⟨u,_,h2,h3⟩:=mem_elems.1 (List.getElem_mem hkl)
    have hu:=hlt u h2
    have hAu:idx A (u:Int)=some (A.getD u 0):=by rw[AB (by rw[hA.len];exact hu),Az (by rw[hA.len];exact hu)]
    simp only[dlt hkl,cond_true,AB hkl,bs,h3,hAu,wq k]
    refine⟨_,rfl,⟨k+1,rfl,hkl,VS.ior _ _,λy=> ?_⟩,by dsimp only;omega⟩
    dsimp only
    rw[Cu hX1 (VS.iand _ _),Bool.or_eq_true,B6 (hA.vs u hu) hW,Bool.and_eq_true,hX2,List.take_succ_eq_append_getElem hkl,h3]
    constructor
    ·rintro((h|⟨u',h4,h5⟩)|⟨h4,h5⟩)
     ·exact .inl h
     ·exact .inr ⟨u',List.mem_append_left _ h4,h5⟩
     ·exact .inr ⟨u,List.mem_append_right _ (by simp),h4,h5⟩
    ·rintro(h|⟨u',h4,h5,h6⟩)
     ·exact .inl (.inl h)
     ·rcases List.mem_append.1 h4 with h4|h4
      ·exact .inl (.inr ⟨u',h4,h5,h6⟩)
      ·simp at h4
       obtain rfl:u'=u:=by omega
       exact .inr ⟨h5,h6⟩
   ·obtain rfl:k=(An S).length:=by omega
    simp only[Bc,cond_false]
    refine⟨_,rfl,hX1,λy=> ?_⟩
    rw[hX2,List.take_length]
    constructor
    ·rintro(h|⟨u,h1,h2⟩)
     ·exact .inl h
     ·exact .inr ⟨u,(AQ hS).1 h1,h2⟩
    ·rintro(h|⟨u,h1,h2⟩)
     ·exact .inl h
     ·exact .inr ⟨u,(AQ hS).2 h1,h2⟩
 ·refine⟨VS.ishl _ _,by rw[BY (by omega)];simp,λx hx=> ?_,λT h1 _ x hx=> ?_⟩
  ·rw[BY (by omega)] at hx
   have:=of_decide_eq_true hx;omega
  ·rw[BY (by omega)] at hx
   rw[of_decide_eq_true hx];exact h1
theorem join_net {n:Nat}(hn:n≤16){X:LI}(hX:Net X n){v t:Nat}(hv:v<n)(ht:t<n)(hvt:v≠t):
  ∃y,D.L X (v:Int) (t:Int)=some y∧Net y n∧∀u w,u<n→nb y u w=(nb X u w||(decide (u=v)&&decide (w=t))||(decide (u=t)&&decide (w=v))):=by
 have hl:=hX.len;have hV:=hX.vs
 have hx:∀k,k<n→idx X (k:Int)=some (X.getD k 0):=λk hk=>by rw[AB (by omega),Az (by omega)]
 have hform:∀u w,u<n→nb ((X.set v (ior .u32 (X.getD v 0) (ishl .u32 1 (t:Int)))).set t (ior .u32 (X.getD t 0) (ishl .u32 1 (v:Int)))) u w=(nb X u w||(decide (u=v)&&decide (w=t))||(decide (u=t)&&decide (w=v))):=λu w hu=>by
  unfold nb
  rw[List.getD_eq_getElem?_getD,List.getElem?_set]
  by_cases h:t=u
  ·subst h
   rw[if_pos rfl,if_pos (by simp;omega),Option.getD_some,Cu (hV _ hu) (VS.ishl _ _),BY (by omega)]
   have:decide (t=v)=false:=decide_eq_false (λe=>hvt e.symm)
   rw[this];simp
  ·rw[if_neg h,List.getElem?_set]
   have e2:decide (u=t)=false:=decide_eq_false (λe=>h e.symm)
   by_cases h2:v=u
   ·subst h2
    rw[if_pos rfl,if_pos (by omega),Option.getD_some,Cu (hV _ hu) (VS.ishl _ _),BY (by omega),e2]
    simp
   ·have e3:decide (u=v)=false:=decide_eq_false (λe=>h2 e.symm)
    rw[if_neg h2,←List.getD_eq_getElem?_getD,e2,e3];simp
 refine⟨(X.set v (ior .u32 (X.getD v 0) (ishl .u32 1 (t:Int)))).set t (ior .u32 (X.getD t 0) (ishl .u32 1 (v:Int))),?_,⟨by simp[hl],λu hu=> ?_,λu w hu hw=> ?_⟩,hform⟩
 ·unfold D.L
  have e1:idx (X.set v (ior .u32 (X.getD v 0) (ishl .u32 1 (t:Int)))) (t:Int)=some (X.getD t 0):=by
   rw[AB (by simp;omega),List.getElem_set_ne hvt]
   exact congrArg some (Az (by omega) 0).symm
  simp only[hx v hv,bs,Cy,Int.toNat_natCast,e1]
 ·rw[List.getD_eq_getElem?_getD,List.getElem?_set]
  by_cases h:t=u
  ·rw[if_pos h,if_pos (by simp;omega)];exact VS.ior _ _
  ·rw[if_neg h,List.getElem?_set]
   by_cases h2:v=u
   ·rw[if_pos h2,if_pos (by omega)];exact VS.ior _ _
   ·rw[if_neg h2,←List.getD_eq_getElem?_getD];exact hV u hu
 ·rw[hform u w hu] at hw
  simp only[Bool.or_eq_true,Bool.and_eq_true,decide_eq_true_eq] at hw
  rcases hw with(h|h)|h
  ·exact hX.lt u w hu h
  ·omega
  ·omega
structure KOk (n:Nat)(K:LL):Prop where
 nd:K.Nodup
 lk:∀l∈K,LinkIn n l
theorem LinkIn.good {n:Nat}(hn:n≤1000){l:LI}(h:LinkIn n l):Cv l:=by
 obtain⟨a,b,rfl,h1,h2⟩:=h
 refine⟨rfl,?_⟩
 simp only[List.getD_cons_zero,List.getD_cons_succ]
 omega
theorem KOk.len {n:Nat}(hn:n≤16){K:LL}(h:KOk n K):K.length≤256:=by
 have h1:(K.map Bn).Nodup:=by
  unfold List.Nodup
  rw[List.pairwise_map]
  refine List.Pairwise.imp_of_mem (fun{a b} ha hb hab e=> ?_) h.nd
  exact hab (row_inj ((h.lk a ha).good (by omega)) ((h.lk b hb).good (by omega)) e)
 have h2:=BM (m:=(List.range 16).flatMap (λa=>(List.range 16).map λb=>((a:Nat):Int)*1048576+((b:Nat):Int))) h1 (λx hx=>by
  obtain⟨l,hl,rfl⟩:=List.mem_map.1 hx
  obtain⟨a,b,rfl,h3,h4⟩:=h.lk l hl
  exact List.mem_flatMap.2 ⟨a,List.mem_range.2 (by omega),List.mem_map.2 ⟨b,List.mem_range.2 (by omega),rfl⟩⟩)
 have h3:((List.range 16).flatMap (λa=>(List.range 16).map λb=>((a:Nat):Int)*1048576+((b:Nat):Int))).length=256:=by decide+kernel
 rw[h3,List.length_map] at h2
 exact h2
def WayP (K:LL)(a b:Int):Prop:=∀T:Int→Prop,T a→(∀x y,T x→Lk K x y→T y)→T b
theorem Lk.perm {K K':LL}(h:K.Perm K'){x y:Int}:Lk K x y↔Lk K' x y:=by
 unfold Lk;rw[h.mem_iff,h.mem_iff]
theorem WayP.perm {K K':LL}(h:K.Perm K'){a b:Int}:WayP K a b↔WayP K' a b:=by
 unfold WayP
 constructor
 ·intro hh T h1 h2;exact hh T h1 (λx y hx hl=>h2 x y hx ((Lk.perm h).1 hl))
 ·intro hh T h1 h2;exact hh T h1 (λx y hx hl=>h2 x y hx ((Lk.perm h).2 hl))
open Classical in
theorem l9Way_ok (bags K:LL){n:Nat}(hn:n≤16)(hl:K.length≤1000000)(hk:∀l∈K,LinkIn n l){a:Nat}(ha:a<n)(b:Int):D.U1 bags K (a:Int) b=some (decide (WayP K a b)):=by
 have hp:Pairs K:=λl hl'=>by obtain⟨x,y,e,_⟩:=hk l hl';exact⟨x,y,e⟩
 have hrng:∀x y,Lk K x y→0≤y∧y<n:=λx y h=>by
  rcases h with h|h
  ·obtain⟨u,v,e,h1,h2⟩:=hk _ h
   simp at e;omega
  ·obtain⟨u,v,e,h1,h2⟩:=hk _ h
   simp at e;omega
 have hsub:∀m:LI,m.Nodup→(∀x∈m,0≤x∧x<n)→m.length≤n:=λm hm hr=>by
  have:=BM (m:=(List.range n).map Int.ofNat) hm (λx hx=>List.mem_map.2 ⟨x.toNat,List.mem_range.2 (by have:=hr x hx;omega),by have:=hr x hx;show ((x.toNat:Nat):Int)=x;omega⟩)
  simpa using this
 unfold D.U1
 have key:=AP (step:=(fun(s_388:LI×Int)=>match s_388 with|(l_391,x_396)=>cond (decide (x_396<(l_391.length:Int))) ((idx l_391 x_396).bind λe_591=>(D.u0 bags K e_591).bind λy_600=>(Aq (σ:=LI×Int) (ρ:=(LI)) (fun(s_690:LI×Int)=>match s_690 with|(l_693,x_698)=>cond (decide (x_698<(y_600.length:Int))) ((idx y_600 x_698).bind λe_742=>(D.i l_693 e_742).bind λy_748=>cond (!y_748) ((idx y_600 x_698).bind λe_759=>(AS l_693 ([e_759]:LI)).bind λl_769=>some (.inl (l_769,(IntKind.i64.wrap (x_698+1))))) (some (.inl (l_693,(IntKind.i64.wrap (x_698+1)))))) (some (.inr l_693))) (l_391,0)).bind λl_735=>some (.inl (l_735,(IntKind.i64.wrap (x_396+1))))) (some (.inr l_391)))) (s:=(([(a:Int)]:LI),0)) (k:=λr=>some r) (Q:=λm:LI=>m.length≤n∧∀x,x∈m↔WayP K a x)
  (λs=>∃i:Nat,s.2=(i:Int)∧i≤s.1.length∧s.1.Nodup∧(∀x∈s.1,0≤x∧x<n)∧(a:Int)∈s.1∧(∀x∈s.1,WayP K a x)∧∀x∈s.1.take i,∀y,Lk K x y→y∈s.1) (λs=>n-s.2.toNat)
  (λm=>m.length≤n∧∀x,x∈m↔WayP K a x) ?_ ⟨0,rfl,by simp,by simp,by simp;omega,by simp,by simp;exact λT h _=>h,by simp⟩ (λr hr=>⟨r,rfl,hr⟩)
 ·obtain⟨m,hm,h1,h2⟩:=key
  rw[Option.bind_eq_some_iff] at hm
  obtain⟨z,e1,e2⟩:=hm
  cases e2
  rw[e1,bs,CW _ _ (by unfold Sh;omega),bs]
  congr 1
  rw[decide_eq_decide]
  exact h2 b
 ·rintro⟨m,_⟩ ⟨i,rfl,hi,hn',hr,hx,hw,hc⟩
  dsimp only at hi hn' hr hx hw hc ⊢
  have hml:=hsub m hn' hr
  by_cases him:i<m.length
  ·simp only[dlt him,cond_true,AB him,bs]
   refine BO _ (l9Near_ok bags K m[i] hl hp) ?_
   rintro near ⟨hni,hnm,hnl⟩
   refine AP (λs=>∃k:Nat,s.2=(k:Int)∧k≤near.length∧s.1.Nodup∧(∀x∈s.1,0≤x∧x<n)∧(∃t,s.1=m++t)∧(∀x∈s.1,WayP K a x)∧∀y∈near.take k,y∈s.1) (λs=>near.length-s.2.toNat)
    (λr=>r.Nodup∧(∀x∈r,0≤x∧x<n)∧(∃t,r=m++t)∧(∀x∈r,WayP K a x)∧∀y∈near,y∈r) ?_ ⟨0,rfl,by simp,hn',hr,⟨[],by simp⟩,hw,by simp⟩ ?_
   ·rintro⟨r,_⟩ ⟨k,rfl,hk',hrn,hrr,⟨t,rfl⟩,hrw,hrc⟩
    dsimp only at hrn hrr hrw hrc ⊢
    have hrl:=hsub _ hrn hrr
    have hrsh:Sh (m++t):=by unfold Sh;omega
    by_cases hkn:k<near.length
    ·have htk:=List.take_succ_eq_append_getElem hkn
     have hlk:Lk K m[i] near[k]:=(hnm _).1 (List.getElem_mem hkn)
     simp only[dlt hkn,cond_true,AB hkn,bs,CW _ _ hrsh,wq k]
     by_cases h2:near[k]∈m++t
     ·simp only[h2,decide_true,Bool.not_true,cond_false]
      refine⟨_,rfl,⟨k+1,rfl,by omega,hrn,hrr,⟨t,rfl⟩,hrw,λy hy=> ?_⟩,by dsimp only;omega⟩
      rw[htk] at hy
      rcases List.mem_append.1 hy with hy|hy
      ·exact hrc y hy
      ·simp at hy;subst hy;exact h2
     ·simp only[h2,decide_false,Bool.not_false,cond_true]
      rw[A9 (by simp at hrl ⊢;omega),bs]
      refine⟨_,rfl,⟨k+1,rfl,by omega,?_,λy hy=> ?_,⟨t++[near[k]],by simp⟩,λy hy=> ?_,λy hy=> ?_⟩,by dsimp only;omega⟩
      ·have hp:(m++t++[near[k]]).Perm (near[k]::(m++t)):=List.perm_append_comm
       exact hp.nodup_iff.2 (List.nodup_cons.2 ⟨h2,hrn⟩)
      ·rcases List.mem_append.1 hy with hy|hy
       ·exact hrr y hy
       ·simp at hy;subst hy;exact hrng _ _ hlk
      ·rcases List.mem_append.1 hy with hy|hy
       ·exact hrw y hy
       ·simp at hy;subst hy
        exact λT h1 h3=>h3 _ _ (hw m[i] (List.getElem_mem him) T h1 h3) hlk
      ·dsimp only
       rw[htk] at hy
       rcases List.mem_append.1 hy with hy|hy
       ·exact List.mem_append_left _ (hrc y hy)
       ·simp at hy;subst hy;simp
    ·obtain rfl:k=near.length:=by omega
     simp only[Bc,cond_false]
     rw[List.take_length] at hrc
     exact⟨_,rfl,hrn,hrr,⟨t,rfl⟩,hrw,hrc⟩
   ·rintro r ⟨hrn,hrr,⟨t,rfl⟩,hrw,hrc⟩
    simp only[wq i]
    refine⟨_,rfl,⟨i+1,rfl,by simp;omega,hrn,hrr,List.mem_append_left _ hx,hrw,λx hx' y hxy=> ?_⟩,by dsimp only;omega⟩
    dsimp only at hx' ⊢
    rw[List.take_append_of_le_length (by omega),List.take_succ_eq_append_getElem him] at hx'
    rcases List.mem_append.1 hx' with hx'|hx'
    ·exact List.mem_append_left _ (hc x hx' y hxy)
    ·simp at hx';subst hx'
     exact hrc y ((hnm y).2 hxy)
  ·obtain rfl:i=m.length:=by omega
   simp only[Bc,cond_false]
   rw[List.take_length] at hc
   exact⟨_,rfl,hml,λx=>⟨hw x,λh=>h (λz=>z∈m) hx (λx y hx' hxy=>hc x hx' y hxy)⟩⟩
structure NetL (A:LI)(n:Nat)(K:LL):Prop where
 net:Net A n
 nb:∀x y,x<n→y<n→(nb A x y=true↔Lk K (x:Int) (y:Int))
theorem NetL.way {A:LI}{n:Nat}{K:LL}(hn:n≤16)(h:NetL A n K)(hk:∀l∈K,LinkIn n l){W:Int}(hW:∀y,y<n→has W y=true){v:Nat}(hv:v<n){S:Int}(hS:Rch A W v S)(hSn:∀x,has S x=true→x<n){b:Nat}(hb:b<n):has S b=true↔WayP K (v:Int) (b:Int):=by
 constructor
 ·intro hh T h1 h2
  exact hS.least (λx=>x<n∧T (x:Int)) ⟨hv,h1⟩ (λx y hx hxy _=>by
   have hy:=h.net.lt x y hx.1 hxy
   exact⟨hy,h2 _ _ hx.2 ((h.nb x y hx.1 hy).1 hxy)⟩) b hh|>.2
 ·intro hh
  obtain⟨u,hu,_,hu2⟩:=hh (λz=>∃u:Nat,z=(u:Int)∧u<n∧has S u=true) ⟨v,rfl,hv,hS.me⟩ (λx y ⟨u,e,hu,hs⟩ hl=>by
   subst e
   obtain⟨w,rfl,hw⟩:∃w:Nat,y=(w:Int)∧w<n:=by
    rcases hl with hl|hl
    ·obtain⟨p,q,e,h1,h2⟩:=hk _ hl
     simp at e;exact⟨q,e.2,h2⟩
    ·obtain⟨p,q,e,h1,h2⟩:=hk _ hl
     simp at e;exact⟨p,e.1,by omega⟩
   exact⟨w,rfl,hw,hS.step u w hs ((h.nb u w hu hw).2 hl) (hW w hw)⟩)
  have:b=u:=by omega
  rw[this];exact hu2
def iter {σ:Type}(f:Nat→σ→σ):Nat→Nat→σ→σ
 |_,0,s=>s
 |a,m+1,s=>iter f (a+1) m (f a s)
theorem EV {σ S ρ:Type}{step:S→Option (S ⊕ ρ)}(Rel:σ→Nat→S→Prop)(f:Nat→σ→σ)(hi:Nat)(Post:σ→ρ→Prop)
  (hstep:∀K k s,k<hi→Rel K k s→∃s',step s=some (.inl s')∧Rel (f k K) (k+1) s') (hend:∀K s,Rel K hi s→∃r,step s=some (.inr r)∧Post K r):
  ∀m a K s,a+m=hi→Rel K a s→∃r,Aq step s=some r∧Post (iter f a m K) r
 |0,a,K,s,h,hr=>by
  obtain rfl:a=hi:=by omega
  obtain⟨r,e,hp⟩:=hend K s hr
  exact⟨r,Be e,hp⟩
 |m+1,a,K,s,h,hr=>by
  obtain⟨s',e,hr'⟩:=hstep K a s (by omega) hr
  obtain⟨r,e2,hp⟩:=EV Rel f hi Post hstep hend m (a+1) (f a K) s' (by omega) hr'
  exact⟨r,(BB e).trans e2,hp⟩
theorem DI {σ S ρ β:Type}{step:S→Option (S ⊕ ρ)}{k:ρ→Option β}{Q:β→Prop}(Rel:σ→Nat→S→Prop)(f:Nat→σ→σ)(hi:Nat)(Post:σ→ρ→Prop){m a:Nat}{K:σ}{s:S}
  (hstep:∀K k s,k<hi→Rel K k s→∃s',step s=some (.inl s')∧Rel (f k K) (k+1) s') (hend:∀K s,Rel K hi s→∃r,step s=some (.inr r)∧Post K r)
  (h:a+m=hi) (hr:Rel K a s) (hk:∀r,Post (iter f a m K) r→∃y,k r=some y∧Q y):∃y,(Aq step s).bind k=some y∧Q y:=by
 obtain⟨r,e,hp⟩:=EV Rel f hi Post hstep hend m a K s h hr
 rw[e,bs]
 exact hk r hp
theorem GOk.shr {g:LL}(hg:GOk g):Sh2 g:=by
 have h16:=hg.n16
 exact⟨by unfold Sh;omega,λr hr=>by have:=(hg.mem0 hr).1;unfold Sh;omega⟩
structure PB (g bags:LL):Prop where
 n16:bags.length≤16
 sets:∀i,i<bags.length→SetOf (bags.getD i []) g.length
 some:∀i,i<bags.length→bags.getD i []≠[]
 all:∀v:Nat,v<g.length→∃i,i<bags.length∧(v:Int)∈bags.getD i []
 edge:∀u v:Nat,u<g.length→adj g u v→∃i,i<bags.length∧(u:Int)∈bags.getD i []∧(v:Int)∈bags.getD i []
 run:∀(v:Nat) (i j k:Nat),i<j→j<k→k<bags.length→(v:Int)∈bags.getD i []→(v:Int)∈bags.getD k []→(v:Int)∈bags.getD j []
theorem PB.sh {g bags:LL}(hg:GOk g)(h:PB g bags):Sh2 bags:=by
 have:=h.n16;have:=hg.n16
 refine⟨by unfold Sh;omega,λb hb=> ?_⟩
 obtain⟨i,hi,rfl⟩:=List.getElem_of_mem hb
 have:=(h.sets i hi).length_le (by omega)
 rw[Az hi] at this
 unfold Sh;omega
section
variable {g : LL} {o : LI} (hg : GOk g) (ho : OOk g o)
include hg ho
end
section
variable {g : LL} {o : LI} (hg : GOk g) (ho : OOk g o)
include hg ho
end
section
variable {g bags : LL} (hg : GOk g) (h : PB g bags)
include hg h
end
section
variable {g : LL} {o : LI} (hg : GOk g) (ho : OOk g o)
include hg ho
end
end Go.Sx

namespace Go.Sx
theorem link_iff (n:Nat)(l:LI):LinkIn n l↔l.length=2∧SetOf l (n:Int):=by
 constructor
 ·rintro⟨a,b,rfl,h1,h2⟩
  refine⟨rfl,by simp[Inc];omega,λx hx=> ?_⟩
  simp at hx;omega
 ·rintro⟨h1,h2,h3⟩
  obtain⟨x,y,rfl⟩:=list2 h1
  have a1:=h3 x (by simp);have a2:=h3 y (by simp)
  simp[Inc] at h2
  exact⟨x.toNat,y.toNat,by rw[show ((x.toNat:Nat):Int)=x by omega,show ((y.toNat:Nat):Int)=y by omega],by omega,by omega⟩
def lkB (n:Nat)(l:LI):Bool:=decide (l.length=2)&&CA l (n:Int)
theorem Ex (n:Nat)(l:LI):lkB n l=true↔LinkIn n l:=by
 unfold lkB
 rw[link_iff,Bool.and_eq_true,decide_eq_true_eq,C9]
section
variable {B K : LL} (hB : Sh2 B) (hK : Sh2 K)
include hB hK
theorem l9Form_eq :D.g0 B K=some ((decide (1≤B.length)&&decide (B.length≤16))&&decide (K.length≤16)&&K.all (lkB B.length)):=by
 have hBl:B.length≤4294967296:=hB.1
 have hKl:K.length≤4294967296:=hK.1
 unfold D.g0
 rw[Ff,bs]
 have e1:(decide ((1:Int)≤(B.length:Int))&&decide ((B.length:Int)≤16))=(decide (1≤B.length)&&decide (B.length≤16)):=by
  congr 1<;>rw[decide_eq_decide]<;>omega
 rw[e1]
 cases hb:(decide (1≤B.length)&&decide (B.length≤16))
 ·simp
 ·by_cases hk:K.length≤16
  ·have e2:decide ((16:Int)<(K.length:Int))=false:=by rw[decide_eq_false_iff_not];omega
   rw[e2,decide_eq_true hk,Bool.not_true,Bool.or_self,cond_false,Bool.and_self,Bool.true_and]
   refine(C3 K.length (λi=>lkB B.length (K.getD i [])) false (λi hi=> ?_) ?_ rfl rfl).trans ?_
   ·have hs:=hK.2 _ (List.getElem_mem hi)
    simp only[dlt hi,cond_true,AB hi,bs,wq i,Az hi]
    unfold lkB
    by_cases h2:K[i].length=2
    ·have:((K[i].length:Int) !=2)=false:=by simp;omega
     rw[this,cond_false,l1Set_eq _ _ hs (by omega) (by omega),bs,decide_eq_true h2,Bool.true_and,bs]
     cases CA K[i] (B.length:Int)<;>rfl
    ·have:((K[i].length:Int) !=2)=true:=by simp;omega
     rw[this,cond_true,bs,decide_eq_false h2,Bool.false_and];rfl
   ·simp only[Bc,cond_false]
   ·rw[CR K (lkB B.length) _ (λi hi=>by rw[Az hi])]
  ·have e2:decide ((16:Int)<(K.length:Int))=true:=by rw[decide_eq_true_eq];omega
   rw[e2,decide_eq_false hk,Bool.or_true,cond_true];simp
theorem FU (hn:B.length≤16):D.t K (B.length:Int)=some (K.all (lkB B.length)):=by
 have hKl:K.length≤4294967296:=hK.1
 unfold D.t D.S1 D.e2
 have key:=Di (ρ:=Unit ⊕ Int) (step:=(fun(x_40:Int)=>cond (decide (x_40<(K.length:Int))) ((idx K x_40).bind λe_60=>(D.m1 e_60 (B.length:Int)).bind λy_66=>cond y_66 (some (.inr (.inr x_40))) (some (.inl (IntKind.i64.wrap (x_40+1))))) (some (.inr (.inl ()))))) K.length (λi=>if lkB B.length (K.getD i []) then none else some (.inr (i:Int))) (.inl ()) (λi hi=>by
   have hs:=hK.2 _ (List.getElem_mem hi)
   simp only[dlt hi,cond_true,AB hi,bs,wq i,Az hi]
   unfold D.m1 lkB
   by_cases h2:K[i].length=2
   ·have:((K[i].length:Int) !=2)=false:=by simp;omega
    rw[this,cond_false,DS _ _ hs (by omega) (by omega),bs,decide_eq_true h2,Bool.true_and,bs,bs]
    cases CA K[i] (B.length:Int)<;>rfl
   ·have:((K[i].length:Int) !=2)=true:=by simp;omega
    rw[this,cond_true,bs,decide_eq_false h2,Bool.false_and];rfl) (by simp only[Bc,cond_false])
 rw[key,bs]
 by_cases ha:K.all (lkB B.length)=true
 ·have:(List.range K.length).findSome? (λi=>if lkB B.length (K.getD i []) then none else some (Sum.inr (α:=Unit) (i:Int)))=none:=by
   rw[List.findSome?_eq_none_iff]
   intro i hi
   have hi':=List.mem_range.1 hi
   rw[if_pos]
   rw[Az hi']
   exact List.all_eq_true.1 ha _ (List.getElem_mem hi')
  rw[this,ha];rfl
 ·have ha:K.all (lkB B.length)=false:=by simpa using ha
  obtain⟨x,hx,hxb⟩:=List.all_eq_false.1 ha
  obtain⟨i,hi,rfl⟩:=List.getElem_of_mem hx
  cases hf:(List.range K.length).findSome? (λi=>if lkB B.length (K.getD i []) then none else some (Sum.inr (α:=Unit) (i:Int))) with
  |none=>
   rw[List.findSome?_eq_none_iff] at hf
   have:=hf i (List.mem_range.2 hi)
   rw[Az hi,if_neg (by simpa using hxb)] at this
   cases this
  |some z=>
   obtain⟨j,_,hj⟩:=List.exists_of_findSome?_eq_some hf
   split at hj
   ·cases hj
   ·cases hj
    have:decide ((0:Int)≤(j:Int))=true:=by rw[decide_eq_true_eq];omega
    simp[ha]
open Classical in
theorem reached_eq (sel:LI)(hl:K.length≤1000000)(hp:Pairs K)(hs:sel.length≤1000000)(hne:sel≠[])(hn:sel.Nodup):
  ∃y,D.X B K sel=some y∧(y=(sel.length:Int)↔Df K sel):=by
 obtain⟨y,h1,m,rfl,h2,h3,h4⟩:=l9Reached_ok B K sel hl hp hs hne
 refine⟨_,h1,λh m' hm' x hx=> ?_,λhc=> ?_⟩
 ·have hxm:x∈m:=by
   apply Classical.byContradiction
   intro hno
   have:=BM (l:=x::m) (m:=sel) (List.nodup_cons.2 ⟨hno,h2⟩) (λz hz=>by
    rcases List.mem_cons.1 hz with rfl|hz
    ·exact hx
    ·exact h3.sub z hz)
   simp at this;omega
  exact h4 m' hm' x hxm
 ·rw[nodup_all h2 hn h3.sub (hc m h3)]
end
def Ep (n:Nat):LI:=(List.range n).map Int.ofNat
theorem allB_nodup (n:Nat):(Ep n).Nodup:=by
 refine Inc.nodup ?_
 unfold Inc Ep
 rw[List.pairwise_map]
 exact List.Pairwise.imp (fun{a b} h=>by show (a:Int)<(b:Int);omega) List.pairwise_lt_range
theorem allB_ne {n:Nat}(h:1≤n):Ep n≠[]:=by
 intro hc
 have:=congrArg List.length hc
 simp[Ep] at this;omega
theorem FF {α:Type}(p:Nat→Bool)(f:Nat→α)(s0:List α)(x:α):∀n,x∈(List.range n).foldl (λs i=>if p i then s++[f i] else s) s0↔x∈s0∨∃i,i<n∧p i=true∧x=f i
 |0=>by simp
 |n+1=>by
  rw[List.range_succ,List.foldl_append,List.foldl_cons,List.foldl_nil]
  have ih:=FF p f s0 x n
  by_cases hp:p n=true
  ·rw[if_pos hp,List.mem_append,ih]
   constructor
   ·rintro((h|⟨i,h1,h2⟩)|h)
    ·exact .inl h
    ·exact .inr ⟨i,by omega,h2⟩
    ·simp at h;exact .inr ⟨n,by omega,hp,h⟩
   ·rintro(h|⟨i,h1,h2,h3⟩)
    ·exact .inl (.inl h)
    ·by_cases e:i=n
     ·subst e;exact .inr (by simp[h3])
     ·exact .inl (.inr ⟨i,by omega,h2,h3⟩)
  ·rw[if_neg hp,ih]
   constructor
   ·rintro(h|⟨i,h1,h2⟩)
    ·exact .inl h
    ·exact .inr ⟨i,by omega,h2⟩
   ·rintro(h|⟨i,h1,h2,h3⟩)
    ·exact .inl h
    ·by_cases e:i=n
     ·subst e;exact absurd h2 hp
     ·exact .inr ⟨i,by omega,h2,h3⟩
theorem mem_rowF (r:LI)(u:Nat)(s:LL)(x:LI):x∈rowF r u s↔x∈s∨∃v∈r,(u:Int)<v∧x=[(u:Int),v]:=by
 unfold rowF
 have:=FF (λi=>decide ((u:Int)<r.getD i 0)) (λi=>[(u:Int),r.getD i 0]) s x r.length
 simp only[decide_eq_true_eq] at this
 rw[this]
 constructor
 ·rintro(h|⟨i,h1,h2,h3⟩)
  ·exact .inl h
  ·rw[Az h1] at h2 h3
   exact .inr ⟨r[i],List.getElem_mem h1,h2,h3⟩
 ·rintro(h|⟨v,h1,h2,h3⟩)
  ·exact .inl h
  ·obtain⟨i,hi,rfl⟩:=List.getElem_of_mem h1
   exact .inr ⟨i,hi,by rw[Az hi];exact h2,by rw[Az hi];exact h3⟩
theorem Fp {g:LL}(hg:GOk g)(x:LI):x∈CV g↔∃u v:Nat,u<g.length∧adj g u v∧u<v∧x=[(u:Int),(v:Int)]:=by
 have key:∀n,n≤g.length→(x∈(List.range n).foldl (λs u=>rowF (row g u) u s) []↔∃u v:Nat,u<n∧adj g u v∧u<v∧x=[(u:Int),(v:Int)]):=by
  intro n
  induction n with
  |zero=>intro _;simp
  |succ n ih=>
   intro hn
   rw[List.range_succ,List.foldl_append,List.foldl_cons,List.foldl_nil,mem_rowF,ih (by omega)]
   constructor
   ·rintro(⟨u,v,h1,h2⟩|⟨v,h1,h2,h3⟩)
    ·exact⟨u,v,by omega,h2⟩
    ·obtain⟨w,rfl,hw,ha⟩:=hg.mem (by omega) h1
     exact⟨n,w,by omega,ha,by omega,h3⟩
   ·rintro⟨u,v,h1,h2,h3,h4⟩
    by_cases e:u=n
    ·subst e;exact .inr ⟨v,h2,by omega,h4⟩
    ·exact .inl ⟨u,v,by omega,h2,h3,h4⟩
 exact key g.length (Nat.le_refl _)
section
variable {g B K : LL} (hg : GOk g) (hB : Sh2 B) (hK : Sh2 K)
include hg hB hK
open Classical in
theorem Gw :D.f1 g B K=some (decide (TB g B K)):=by
 have h16:=hg.n16
 have hKl:K.length≤4294967296:=hK.1
 have hBl:B.length≤4294967296:=hB.1
 unfold D.f1
 rw[CD g hg.shr,(EB g).2 hg]
 simp only[bs,Bool.not_true,cond_false]
 unfold D.M1
 rw[l9Form_eq hB hK,bs]
 by_cases hform:(1≤B.length∧B.length≤16∧K.length+1=B.length)∧∀l∈K,LinkIn B.length l
 case neg=>
  have hT:¬TB g B K:=λh=>hform ⟨⟨h.n1,h.n16,h.many⟩,h.lks⟩
  have e:(((decide (1≤B.length)&&decide (B.length≤16))&&decide (K.length≤16)&&K.all (lkB B.length))&&((K.length:Int)==IntKind.i64.wrap ((B.length:Int)-1)))=false:=by
   rw[w64 (by omega) (by omega)]
   cases hc:(((decide (1≤B.length)&&decide (B.length≤16))&&decide (K.length≤16)&&K.all (lkB B.length))&&((K.length:Int)==(B.length:Int)-1))
   ·rfl
   ·exfalso
    simp only[Bool.and_eq_true,decide_eq_true_eq,beq_iff_eq,List.all_eq_true] at hc
    exact hform ⟨⟨hc.1.1.1.1,hc.1.1.1.2,by omega⟩,λl hl=>(Ex _ _).1 (hc.1.2 l hl)⟩
  rw[e,cond_false,decide_eq_false hT]
  rfl
 case pos=>
  obtain⟨⟨n1,n16,hm⟩,hlk⟩:=hform
  have hpairs:Pairs K:=λl hl=>by obtain⟨a,b,e,_⟩:=hlk l hl;exact⟨a,b,e⟩
  have e:(((decide (1≤B.length)&&decide (B.length≤16))&&decide (K.length≤16)&&K.all (lkB B.length))&&((K.length:Int)==IntKind.i64.wrap ((B.length:Int)-1)))=true:=by
   rw[w64 (by omega) (by omega)]
   simp only[Bool.and_eq_true,decide_eq_true_eq,beq_iff_eq,List.all_eq_true]
   exact⟨⟨⟨⟨n1,n16⟩,by omega⟩,λl hl=>(Ex _ _).2 (hlk l hl)⟩,by omega⟩
  rw[e,cond_true,l1All_eq B.length (by omega),bs]
  obtain⟨y,e1,hy⟩:=reached_eq hB hK (Ep B.length) (by omega) hpairs (by simp[Ep];omega) (allB_ne n1) (allB_nodup _)
  have hal:(Ep B.length).length=B.length:=by simp[Ep]
  rw[hal] at hy
  have e1':D.X B K ((List.range B.length).map Int.ofNat)=some y:=e1
  rw[e1',bs,bs,bs]
  by_cases hc:Df K (Ep B.length)
  case neg=>
   have:(y==(B.length:Int))=false:=by rw[beq_eq_false_iff_ne];exact λh=>hc (hy.1 h)
   rw[this,Bool.not_false,cond_true,decide_eq_false (λh=>hc h.tree)]
  case pos=>
   have:(y==(B.length:Int))=true:=by rw[beq_iff_eq];exact hy.2 hc
   rw[this,Bool.not_true,cond_false]
   unfold D.a
   refine(Ee B.length (λi=>CA (B.getD i []) g.length) (.inl ()) (.inr false) (λi hi=> ?_) ?_).trans ?_
   ·simp only[dlt hi,cond_true,AB hi,bs,l1Set_eq _ _ (hB.2 _ (List.getElem_mem hi)) (show (0:Int)≤(g.length:Int) by omega) (by omega),wq i,Az hi]
    cases CA B[i] (g.length:Int)<;>rfl
   ·simp only[Bc,cond_false]
   ·rw[CR B (λb=>CA b g.length) _ (λi hi=>by rw[Az hi])]
    by_cases hs:∀b∈B,SetOf b (g.length:Int)
    case neg=>
     have:(B.all λb=>CA b g.length)=false:=by
      cases hh:(B.all λb=>CA b g.length)
      ·rfl
      ·exact absurd (λb hb=>(C9 _ _).1 (List.all_eq_true.1 hh b hb)) hs
     rw[this,cond_false,decide_eq_false (λh=>hs h.sets)]
    case pos=>
     have:(B.all λb=>CA b g.length)=true:=List.all_eq_true.2 (λb hb=>(C9 _ _).2 (hs b hb))
     rw[this,cond_true]
     dsimp only
     rw[l1Edges_eq g hg,bs]
     have hel:(CV g).length≤256:=by
      obtain⟨y,y1,y2,_⟩:=l1Edges_ok g hg
      rw[l1Edges_eq g hg] at y1
      cases y1;exact y2
     refine(Ee (CV g).length (λi=>B.any λb=>((CV g).getD i []).all λx=>decide (x∈b)) (.inl ()) (.inr false) (λi hi=> ?_) ?_).trans ?_
     ·obtain⟨u,v,_,_,_,e2⟩:=(Fp hg _).1 (List.getElem_mem hi)
      simp only[dlt hi,cond_true,AB hi,bs,l9In_eq B K (CV g)[i] hB (by rw[e2];simp[Sh]),wq i,Az hi]
      cases (B.any λb=>((CV g)[i]).all λx=>decide (x∈b))<;>rfl
     ·simp only[Bc,cond_false]
     ·rw[CR (CV g) (λe=>B.any λb=>e.all λx=>decide (x∈b)) _ (λi hi=>by rw[Az hi])]
      by_cases hE:∀u v:Nat,u<g.length→adj g u v→∃b∈B,(u:Int)∈b∧(v:Int)∈b
      case neg=>
       have:((CV g).all λe=>B.any λb=>e.all λx=>decide (x∈b))=false:=by
        cases hh:((CV g).all λe=>B.any λb=>e.all λx=>decide (x∈b))
        ·rfl
        ·exfalso
         refine hE (λu v hu ha=> ?_)
         have hlt:∀u v:Nat,u<g.length→adj g u v→u<v→∃b∈B,(u:Int)∈b∧(v:Int)∈b:=λu v hu ha huv=>by
          obtain⟨b,hb,hbb⟩:=List.any_eq_true.1 (List.all_eq_true.1 hh _ ((Fp hg _).2 ⟨u,v,hu,ha,huv,rfl⟩))
          simp at hbb
          exact⟨b,hb,hbb⟩
         rcases Nat.lt_trichotomy u v with c|c|c
         ·exact hlt u v hu ha c
         ·subst c;exact absurd ha (hg.irr u hu)
         ·obtain⟨b,hb,h1,h2⟩:=hlt v u (hg.lt hu ha) (hg.sym u v hu ha) c
          exact⟨b,hb,h2,h1⟩
       rw[this,cond_false,decide_eq_false (λh=>hE h.edges)]
      case pos=>
       have:((CV g).all λe=>B.any λb=>e.all λx=>decide (x∈b))=true:=List.all_eq_true.2 (λe he=>by
        obtain⟨u,v,hu,ha,_,rfl⟩:=(Fp hg _).1 he
        obtain⟨b,hb,h1,h2⟩:=hE u v hu ha
        exact List.any_eq_true.2 ⟨b,hb,by simp[h1,h2]⟩)
       rw[this,cond_true]
       dsimp only
       refine(C3 g.length (λv=>decide (Cd B (v:Int)≠[]∧Df K (Cd B (v:Int)))) false (λv hv=> ?_) ?_ rfl rfl).trans ?_
       ·have hwl:(Cd B (v:Int)).length≤16:=by
         have:=(FM B (v:Int)).short (n:=B.length) (λx hx=>by
          obtain⟨b,rfl,hb,_⟩:=mem_withV.1 hx;omega)
         omega
        simp only[bs,dlt hv,cond_true,l9With_eq B K (v:Int) hB (by omega),wq v]
        by_cases hne:Cd B (v:Int)=[]
        ·rw[hne];simp
        ·have e0:(((Cd B (v:Int)).length:Int)==0)=false:=by
          rw[beq_eq_false_iff_ne]
          have:=List.length_pos_iff.2 hne
          omega
         obtain⟨y,e2,hy2⟩:=reached_eq hB hK (Cd B (v:Int)) (by omega) hpairs (by omega) hne (FM B (v:Int)).nodup
         rw[e0,cond_false,e2,bs,bs]
         by_cases hcv:Df K (Cd B (v:Int))
         ·have:(y !=((Cd B (v:Int)).length:Int))=false:=by rw[bne_eq_false_iff_eq];exact hy2.2 hcv
          rw[this,cond_false,if_pos (decide_eq_true ⟨hne,hcv⟩)]
         ·have:(y !=((Cd B (v:Int)).length:Int))=true:=by rw[bne_iff_ne];exact λh=>hcv (hy2.1 h)
          rw[this,cond_true,if_neg (by simpa using λh=>hcv)]
       ·simp only[bs,Bc,cond_false]
       ·congr 1
        rw[Bool.eq_iff_iff,Do,decide_eq_true_eq]
        simp only[decide_eq_true_eq]
        constructor
        ·intro hv
         exact⟨n1,n16,hm,hlk,hs,hc,hE,λv h=>(hv v h).1,λv h=>(hv v h).2⟩
        ·intro h v hv
         exact⟨h.some v hv,h.conn v hv⟩
end
end Go.Sx

namespace Go.Sx
theorem least_mem {s:Int}(hs:VS s){k:Nat}(hk:has s k=true)(hm:∀v,v<k→has s v=false):(An s).head? =some (k:Int):=by
 obtain⟨t,e⟩:=elems_head hs hk hm
 rw[e];rfl
open Classical in
theorem FP {A:LI}{n:Nat}{K:LL}(hn:n≤16)(h:NetL A n K)(hk:∀l∈K,LinkIn n l){W:Int}(hW:VS W)(hlt:∀v,has W v=true→v<n):
  D.A0 A W=some (decide (An W≠[]∧Df K (An W))):=by
 unfold D.A0
 by_cases hz:W=0
 ·subst hz
  have:An 0=[]:=Es
  simp[this]
 ·have e1:(W !=0)=true:=by simpa using hz
  obtain⟨v,hv32,e2,hv,hmin,_⟩:=least_eq hW hz
  obtain⟨S,e3,hS,hSn⟩:=reach_ok hn h.net (hlt v hv) hW
  have hhead:=least_mem hW hv hmin
  have hne:An W≠[]:=by intro e;rw[e] at hhead;cases hhead
  rw[e1,cond_true,e2,bs,e3,bs,bs]
  congr 1
  rw[Bool.eq_iff_iff,beq_iff_eq,decide_eq_true_eq]
  have hsub:∀x,has S x=true→has W x=true:=hS.least (λx=>has W x=true) hv (λx y _ _ hy=>hy)
  constructor
  ·rintro rfl
   refine⟨hne,λm hm x hx=> ?_⟩
   obtain⟨u,_,hu,rfl⟩:=mem_elems.1 hx
   refine hS.least (λz=>(z:Int)∈m) (hm.first _ hhead) (λp q hp hpq hq=> ?_) u hu
   have hpW:has S p=true:=(AQ hW).1 (hm.sub _ hp)
   exact hm.step _ hp _ ((AQ hW).2 hq) ((h.nb p q (hlt p hpW) (hlt q hq)).1 hpq)
  ·rintro⟨_,hc⟩
   refine hS.vs.ext hW (λw _=> ?_)
   rw[Bool.eq_iff_iff]
   refine⟨hsub w,λhw=> ?_⟩
   have:=hc (An S) ⟨λx hx=>by
    obtain⟨u,_,hu,rfl⟩:=mem_elems.1 hx
    exact(AQ hW).2 (hsub u hu),λx hx=>by
    rw[hhead] at hx;cases hx;exact(AQ hS.vs).2 hS.me,λx hx y hy hxy=>by
    obtain⟨p,_,hp,rfl⟩:=mem_elems.1 hx
    obtain⟨q,_,hq,rfl⟩:=mem_elems.1 hy
    exact(AQ hS.vs).2 (hS.step p q hp ((h.nb p q (hSn p hp) (hlt q hq)).2 hxy) hq)⟩ (w:Int) ((AQ hW).2 hw)
   exact(AQ hS.vs).1 this
theorem linkNets_ok {B K:LL}(hn:B.length≤16)(hk:∀l∈K,LinkIn B.length l)(hKl:K.length≤1000000):∃A,D.c1 B K=some A∧NetL A B.length K:=by
 unfold D.c1
 rw[DV (by omega) (by omega),bs]
 refine AP (λs=>∃i:Nat,s.2=(i:Int)∧i≤K.length∧NetL s.1 B.length (K.take i)) (λs=>K.length-s.2.toNat) (λA=>NetL A B.length K) ?_ ⟨0,rfl,by omega,?_⟩ (λr hr=>⟨r,rfl,hr⟩)
 ·rintro⟨A,_⟩ ⟨i,rfl,hi,hA⟩
  dsimp only at hA ⊢
  by_cases hil:i<K.length
  ·obtain⟨a,b,e,hab,hb⟩:=hk _ (List.getElem_mem hil)
   have i0:idx K[i] 0=some (a:Int):=by rw[e];rfl
   have i1:idx K[i] 1=some (b:Int):=by rw[e];rfl
   obtain⟨A',e2,h1,h2⟩:=join_net hn hA.net (show a<B.length by omega) hb (by omega)
   simp only[dlt hil,cond_true,AB hil,bs,i0,i1,e2,wq i]
   refine⟨_,rfl,⟨i+1,rfl,hil,h1,λx y hx hy=> ?_⟩,by dsimp only;omega⟩
   dsimp only
   rw[h2 x y hx,List.take_succ_eq_append_getElem hil,e]
   simp only[Bool.or_eq_true,Bool.and_eq_true,decide_eq_true_eq]
   rw[hA.nb x y hx hy]
   unfold Lk
   simp only[List.mem_append,List.mem_singleton,List.cons.injEq,and_true,Int.natCast_inj]
   constructor
   ·rintro((h1|h1)|⟨h1,h2⟩)
    ·exact h1.elim (λh=> .inl (.inl h)) (λh=> .inr (.inl h))
    ·exact .inl (.inr h1)
    ·exact .inr (.inr ⟨h2,h1⟩)
   ·rintro((h1|h1)|(h1|⟨h1,h2⟩))
    ·exact .inl (.inl (.inl h1))
    ·exact .inl (.inr h1)
    ·exact .inl (.inl (.inr h1))
    ·exact .inr ⟨h2,h1⟩
  ·obtain rfl:i=K.length:=by omega
   simp only[Bc,cond_false]
   rw[List.take_length] at hA
   exact⟨_,rfl,hA⟩
 ·have hz:∀u,(List.replicate B.length (0:Int)).getD u 0=0:=λu=>by
   rw[List.getD_eq_getElem?_getD,List.getElem?_replicate];split<;>rfl
  refine⟨⟨by simp,λu _=>by rw[hz];exact VS.zero,λu w _ h=>by unfold nb at h;rw[hz,BI] at h;cases h⟩,λx y _ _=> ?_⟩
  unfold nb Lk
  rw[hz,BI];simp
section
variable {g B K : LL} (hg : GOk g) (hs : ∀ b ∈ B, SetOf b (g.length : Int)) (hBl : B.length ≤ 16)
include hg hs hBl
theorem masks_eq :D.E0 B=some (B.map mk):=by
 have h16:=hg.n16
 unfold D.E0
 refine(DW B (λs i=>(s,i)) mk (by omega) (λs i hi _=> ?_) (λs=> ?_)).trans rfl
 ·have hb:=hs _ (List.getElem_mem hi)
  have hl:=hb.length_le (by omega)
  simp only[dlt hi,cond_true,AB hi,bs,maskOf_eq _ (show Sh B[i] by unfold Sh;omega) (λx hx=>(hb.2 x hx).1),wq i]
 ·simp only[Bc,cond_false]
theorem has_mask {i:Nat}(hi:i<B.length)(v:Nat):has (mk B[i]) v=decide ((v:Int)∈B[i]):=by
 have h16:=hg.n16
 have hb:=hs _ (List.getElem_mem hi)
 exact CJ (λx hx=>by have:=hb.2 x hx;omega) v
open Classical in
theorem coversEdges_eq :D.U0 (g.map mk) (B.map mk)=some (decide (∀v,v<g.length→(∃j,∃hj:j<B.length,(v:Int)∈B[j])∧∀w,adj g v w→∃j,∃hj:j<B.length,(v:Int)∈B[j]∧(w:Int)∈B[j])):=by
 have h16:=hg.n16
 unfold D.U0
 refine(C3 g.length (λv=>decide ((∃j,∃hj:j<B.length,(v:Int)∈B[j])∧∀w,adj g v w→∃j,∃hj:j<B.length,(v:Int)∈B[j]∧(w:Int)∈B[j])) false (λv hv=> ?_) ?_ rfl rfl).trans ?_
 ·have hv':v<(g.map mk).length:=by simpa using hv
  have e1:decide ((v:Int)<((g.map mk).length:Int))=true:=dlt hv'
  simp only[e1,cond_true,AB hv',bs,List.getElem_map]
  obtain⟨y,hy,hq⟩:=AP (step:=(fun(s_340:Int×Int)=>match s_340 with|(x_343,x_344)=>cond (decide (x_344<((B.map mk).length:Int))) ((idx (B.map mk) x_344).bind λe_365=>(D.j e_365 (v:Int)).bind λy_371=>cond y_371 (some (.inl ((ior .u32 x_343 e_365),(IntKind.i64.wrap (x_344+1))))) (some (.inl (x_343,(IntKind.i64.wrap (x_344+1)))))) (some (.inr x_343)))) (s:=(0,0))
   (k:=λr=>some r) (Q:=λx=>VS x∧∀u,has x u=true↔∃j,∃hj:j<B.length,(v:Int)∈B[j]∧(u:Int)∈B[j])
   (λs=>∃i:Nat,s.2=(i:Int)∧i≤B.length∧VS s.1∧∀u,has s.1 u=true↔∃j,∃hj:j<B.length,j<i∧(v:Int)∈B[j]∧(u:Int)∈B[j]) (λs=>B.length-s.2.toNat)
   (λx=>VS x∧∀u,has x u=true↔∃j,∃hj:j<B.length,(v:Int)∈B[j]∧(u:Int)∈B[j]) (by
    rintro⟨x,_⟩ ⟨i,rfl,hi,hx,hh⟩
    dsimp only at hx hh ⊢
    by_cases hlt:i<B.length
    ·have hlt':i<(B.map mk).length:=by simpa using hlt
     have hhas:D.j (mk B[i]) (v:Int)=some (has (mk B[i]) v):=by
      unfold D.j
      have:decide ((v:Int)<0)=false:=by simp
      rw[this,cond_false,Fm (VS.mk _) (by omega)]
     simp only[dlt hlt',cond_true,AB hlt',bs,List.getElem_map,hhas,has_mask hg hs hBl hlt,wq i]
     by_cases hm:(v:Int)∈B[i]
     ·simp only[hm,decide_true,cond_true]
      refine⟨_,rfl,⟨i+1,rfl,by omega,VS.ior _ _,λu=> ?_⟩,by dsimp only;omega⟩
      dsimp only
      rw[Cu hx (VS.mk _),Bool.or_eq_true,hh,has_mask hg hs hBl hlt,decide_eq_true_eq]
      constructor
      ·rintro(⟨j,h0,h1,h2,h3⟩|h1)
       ·exact⟨j,h0,by omega,h2,h3⟩
       ·exact⟨i,hlt,by omega,hm,h1⟩
      ·rintro⟨j,h0,h1,h2,h3⟩
       by_cases hji:j=i
       ·subst hji;exact .inr h3
       ·exact .inl ⟨j,h0,by omega,h2,h3⟩
     ·simp only[hm,decide_false,cond_false]
      refine⟨_,rfl,⟨i+1,rfl,by omega,hx,λu=> ?_⟩,by dsimp only;omega⟩
      dsimp only
      rw[hh]
      constructor
      ·rintro⟨j,h0,h1,h2⟩;exact⟨j,h0,by omega,h2⟩
      ·rintro⟨j,h0,h1,h2,h3⟩
       by_cases hji:j=i
       ·subst hji;exact absurd h2 hm
       ·exact⟨j,h0,by omega,h2,h3⟩
    ·obtain rfl:i=B.length:=by omega
     have:decide (((B.length:Nat):Int)<((B.map mk).length:Int))=false:=by simp
     simp only[this,cond_false]
     refine⟨_,rfl,hx,λu=> ?_⟩
     rw[hh]
     exact⟨fun⟨j,h0,_,h2⟩=>⟨j,h0,h2⟩,fun⟨j,h0,h2⟩=>⟨j,h0,h0,h2⟩⟩) ⟨0,rfl,by omega,VS.zero,λu=>by simp[BI]⟩ (λr hr=>⟨r,rfl,hr⟩)
  rw[Option.bind_eq_some_iff] at hy
  obtain⟨a,ha,hb⟩:=hy
  cases hb
  obtain⟨hy1,hy2⟩:=hq
  rw[ha,bs]
  have hhas:D.j y (v:Int)=some (has y v):=by
   unfold D.j
   have:decide ((v:Int)<0)=false:=by simp
   rw[this,cond_false,Fm hy1 (by omega)]
  rw[hhas,bs,wq v]
  have hrow:∀x∈g[v],0≤x∧x<32:=λx hx=>by
   rw[←El hv] at hx
   have:=(hg.rows v hv).2 x hx;omega
  by_cases h1:∃j,∃hj:j<B.length,(v:Int)∈B[j]
  case neg=>
   have:has y v=false:=by
    cases hh:has y v
    ·rfl
    ·obtain⟨j,hj,m1,_⟩:=(hy2 v).1 hh
     exact absurd ⟨j,hj,m1⟩ h1
   rw[this,Bool.not_false,Bool.true_or,cond_true,if_neg (by rw[decide_eq_true_eq];exact λh=>h1 h.1)]
  case pos=>
   have:has y v=true:=by
    obtain⟨j,hj,m1⟩:=h1
    exact(hy2 v).2 ⟨j,hj,m1,m1⟩
   rw[this,Bool.not_true,Bool.false_or]
   by_cases h2:∀w,adj g v w→∃j,∃hj:j<B.length,(v:Int)∈B[j]∧(w:Int)∈B[j]
   case neg=>
    have hz:(iandNot .u32 (mk g[v]) y !=0)=true:=by
     rw[bne_iff_ne]
     intro hz
     rw[(VS.iandNot _ _).eq_zero] at hz
     refine h2 (λw hw=> ?_)
     have hw':=hg.lt hv hw
     have:=hz w (by omega)
     rw[Bw (VS.mk _) hy1,CJ hrow] at this
     have hm:(w:Int)∈g[v]:=by rw[←El hv];exact hw
     simp only[hm,decide_true,Bool.true_and,Bool.not_eq_false'] at this
     exact(hy2 w).1 this
    rw[hz,cond_true,if_neg (by rw[decide_eq_true_eq];exact λh=>h2 h.2)]
   case pos=>
    have hz:(iandNot .u32 (mk g[v]) y !=0)=false:=by
     rw[bne_eq_false_iff_eq,(VS.iandNot _ _).eq_zero]
     intro u hu
     rw[Bw (VS.mk _) hy1,CJ hrow]
     by_cases ha:(u:Int)∈g[v]
     ·rw[←El hv] at ha
      have:has y u=true:=(hy2 u).2 (h2 u ha)
      simp[this]
     ·simp[ha]
    rw[hz,cond_false,if_pos (decide_eq_true ⟨h1,h2⟩)]
 ·have:decide (((g.length:Nat):Int)<((g.map mk).length:Int))=false:=by simp
  simp only[this,cond_false]
 ·congr 1
  rw[Bool.eq_iff_iff,Do,decide_eq_true_eq]
  simp only[decide_eq_true_eq]
theorem with_ok {v:Nat}(hv:v<g.length):∃x,(Aq (σ:=Int×Int) (ρ:=(Int)) (fun(s_662:Int×Int)=>match s_662 with|(x_665,x_666)=>cond (decide (x_666<((B.map mk).length:Int))) ((idx (B.map mk) x_666).bind λe_694=>(D.j e_694 (v:Int)).bind λy_700=>cond y_700 ((D.e x_666).bind λy_708=>some (.inl ((ior .u32 x_665 y_708),(IntKind.i64.wrap (x_666+1))))) (some (.inl (x_665,(IntKind.i64.wrap (x_666+1)))))) (some (.inr x_665))) (0,0))=some x∧VS x∧(∀u,has x u=true→u<B.length)∧An x=Cd B (v:Int):=by
 have h16:=hg.n16
 obtain⟨y,hy,hq⟩:=AP (step:=(fun(s_662:Int×Int)=>match s_662 with|(x_665,x_666)=>cond (decide (x_666<((B.map mk).length:Int))) ((idx (B.map mk) x_666).bind λe_694=>(D.j e_694 (v:Int)).bind λy_700=>cond y_700 ((D.e x_666).bind λy_708=>some (.inl ((ior .u32 x_665 y_708),(IntKind.i64.wrap (x_666+1))))) (some (.inl (x_665,(IntKind.i64.wrap (x_666+1)))))) (some (.inr x_665)))) (s:=(0,0))
  (k:=λr=>some r) (Q:=λx=>VS x∧∀u,has x u=true↔∃hj:u<B.length,(v:Int)∈B[u])
  (λs=>∃i:Nat,s.2=(i:Int)∧i≤B.length∧VS s.1∧∀u,has s.1 u=true↔∃hj:u<B.length,u<i∧(v:Int)∈B[u]) (λs=>B.length-s.2.toNat)
  (λx=>VS x∧∀u,has x u=true↔∃hj:u<B.length,(v:Int)∈B[u]) (by
   rintro⟨x,_⟩ ⟨i,rfl,hi,hx,hh⟩
   dsimp only at hx hh ⊢
   by_cases hlt:i<B.length
   ·have hlt':i<(B.map mk).length:=by simpa using hlt
    have hhas:D.j (mk B[i]) (v:Int)=some (has (mk B[i]) v):=by
     unfold D.j
     have:decide ((v:Int)<0)=false:=by simp
     rw[this,cond_false,Fm (VS.mk _) (by omega)]
    simp only[dlt hlt',cond_true,AB hlt',bs,List.getElem_map,hhas,has_mask hg hs hBl hlt,Cy,wq i]
    by_cases hm:(v:Int)∈B[i]
    ·simp only[hm,decide_true,cond_true]
     refine⟨_,rfl,⟨i+1,rfl,by omega,VS.ior _ _,λu=> ?_⟩,by dsimp only;omega⟩
     dsimp only
     rw[Cu hx (VS.ishl _ _),Bool.or_eq_true,hh,BY (by omega),decide_eq_true_eq]
     constructor
     ·rintro(⟨h0,h1,h2⟩|rfl)
      ·exact⟨h0,by omega,h2⟩
      ·exact⟨hlt,by omega,hm⟩
     ·rintro⟨h0,h1,h2⟩
      by_cases hji:u=i
      ·exact .inr hji
      ·exact .inl ⟨h0,by omega,h2⟩
    ·simp only[hm,decide_false,cond_false]
     refine⟨_,rfl,⟨i+1,rfl,by omega,hx,λu=> ?_⟩,by dsimp only;omega⟩
     dsimp only
     rw[hh]
     constructor
     ·rintro⟨h0,h1,h2⟩;exact⟨h0,by omega,h2⟩
     ·rintro⟨h0,h1,h2⟩
      by_cases hji:u=i
      ·subst hji;exact absurd h2 hm
      ·exact⟨h0,by omega,h2⟩
   ·obtain rfl:i=B.length:=by omega
    have:decide (((B.length:Nat):Int)<((B.map mk).length:Int))=false:=by simp
    simp only[this,cond_false]
    refine⟨_,rfl,hx,λu=> ?_⟩
    rw[hh]
    exact⟨fun⟨h0,_,h2⟩=>⟨h0,h2⟩,fun⟨h0,h2⟩=>⟨h0,h0,h2⟩⟩) ⟨0,rfl,by omega,VS.zero,λu=>by simp[BI]⟩ (λr hr=>⟨r,rfl,hr⟩)
 rw[Option.bind_eq_some_iff] at hy
 obtain⟨a,ha,hb⟩:=hy
 cases hb
 obtain⟨hy1,hy2⟩:=hq
 refine⟨_,ha,hy1,λu hu=>((hy2 u).1 hu).1,?_⟩
 refine Inc.ext (Bz _) (FM B (v:Int)) (λx=> ?_)
 rw[mem_elems,mem_withV]
 constructor
 ·rintro⟨u,_,h2,rfl⟩
  obtain⟨h3,h4⟩:=(hy2 u).1 h2
  exact⟨u,rfl,h3,by rw[Az h3];exact h4⟩
 ·rintro⟨u,rfl,h3,h4⟩
  rw[Az h3] at h4
  exact⟨u,by omega,(hy2 u).2 ⟨h3,h4⟩,rfl⟩
end
section
variable {g B K : LL} (hg : GOk g) (hB : Sh2 B) (hK : Sh2 K)
include hg hB hK
open Classical in
theorem Gu :D.z1 g B K=some (decide (TB g B K)):=by
 have h16:=hg.n16
 have hKl:K.length≤4294967296:=hK.1
 have hBl:B.length≤4294967296:=hB.1
 unfold D.z1
 rw[CG g hg.shr,(EB g).2 hg]
 simp only[bs,Bool.not_true,Bool.false_or]
 rw[w64 (by omega) (by omega)]
 by_cases hb:1≤B.length∧B.length≤16∧K.length+1=B.length
 case neg=>
  have hT:¬TB g B K:=λh=>hb ⟨h.n1,h.n16,h.many⟩
  have e:((decide ((B.length:Int)<1)||decide ((16:Int)<(B.length:Int)))||((K.length:Int) !=(B.length:Int)-1))=true:=by
   simp only[Bool.or_eq_true,decide_eq_true_eq,bne_iff_ne]
   omega
  rw[e,cond_true,bs,cond_true,decide_eq_false hT]
 case pos=>
  obtain⟨n1,n16,hm⟩:=hb
  have e:((decide ((B.length:Int)<1)||decide ((16:Int)<(B.length:Int)))||((K.length:Int) !=(B.length:Int)-1))=false:=by
   cases hc:((decide ((B.length:Int)<1)||decide ((16:Int)<(B.length:Int)))||((K.length:Int) !=(B.length:Int)-1))
   ·rfl
   ·simp only[Bool.or_eq_true,decide_eq_true_eq,bne_iff_ne] at hc;omega
  rw[e,cond_false,FU hB hK n16,bs,bs]
  by_cases hlk:∀l∈K,LinkIn B.length l
  case neg=>
   have:K.all (lkB B.length)=false:=by
    cases hh:K.all (lkB B.length)
    ·rfl
    ·exact absurd (λl hl=>(Ex _ _).1 (List.all_eq_true.1 hh l hl)) hlk
   rw[this,Bool.not_false,cond_true,decide_eq_false (λh=>hlk h.lks)]
  case pos=>
   have:K.all (lkB B.length)=true:=List.all_eq_true.2 (λl hl=>(Ex _ _).2 (hlk l hl))
   rw[this,Bool.not_true,cond_false]
   refine(Ee B.length (λi=>CA (B.getD i []) g.length) (.inl ()) (.inr false) (λi hi=> ?_) ?_).trans ?_
   ·simp only[dlt hi,cond_true,AB hi,bs,DS _ _ (hB.2 _ (List.getElem_mem hi)) (show (0:Int)≤(g.length:Int) by omega) (by omega),wq i,Az hi]
    cases CA B[i] (g.length:Int)<;>rfl
   ·simp only[Bc,cond_false]
   ·rw[CR B (λb=>CA b g.length) _ (λi hi=>by rw[Az hi])]
    by_cases hs:∀b∈B,SetOf b (g.length:Int)
    case neg=>
     have:(B.all λb=>CA b g.length)=false:=by
      cases hh:(B.all λb=>CA b g.length)
      ·rfl
      ·exact absurd (λb hb=>(C9 _ _).1 (List.all_eq_true.1 hh b hb)) hs
     rw[this,cond_false,decide_eq_false (λh=>hs h.sets)]
    case pos=>
     have:(B.all λb=>CA b g.length)=true:=List.all_eq_true.2 (λb hb=>(C9 _ _).2 (hs b hb))
     rw[this,cond_true]
     dsimp only
     obtain⟨A,e1,hA⟩:=linkNets_ok n16 hlk (by omega)
     obtain⟨s,e2,hs1,hs2⟩:=Ej A (by rw[hA.net.len];omega)
     have hsel:An s=Ep B.length:=by
      have hsn:∀v,has s v=true→v<B.length:=λv hv=>by rw[hs2,hA.net.len] at hv;exact of_decide_eq_true hv
      rw[←FY (n:=B.length) (by omega) hsn]
      unfold els Ep
      congr 1
      rw[List.filter_eq_self]
      intro v hv
      rw[hs2,hA.net.len];exact decide_eq_true (List.mem_range.1 hv)
     rw[e1,bs,masks_eq hg hs n16,bs,e2,bs,FP n16 hA hlk hs1 (λv hv=>by rw[hs2,hA.net.len] at hv;exact of_decide_eq_true hv),bs,hsel]
     by_cases hc:Df K (Ep B.length)
     case neg=>
      rw[decide_eq_false (λh=>hc h.2),Bool.not_false,cond_true,bs,cond_true,decide_eq_false (λh=>hc h.tree)]
     case pos=>
      rw[decide_eq_true (⟨allB_ne n1,hc⟩:_∧_),Bool.not_true,cond_false,DZ g hg,bs,coversEdges_eq hg hs n16,bs,bs]
      by_cases hE:∀v,v<g.length→(∃j,∃hj:j<B.length,(v:Int)∈B[j])∧∀w,adj g v w→∃j,∃hj:j<B.length,(v:Int)∈B[j]∧(w:Int)∈B[j]
      case neg=>
       rw[decide_eq_false hE,Bool.not_false,cond_true,decide_eq_false]
       intro h
       refine hE (λv hv=>⟨?_,λw hw=> ?_⟩)
       ·obtain⟨x,hx⟩:=List.exists_mem_of_ne_nil _ (h.some v hv)
        obtain⟨b,_,hb,hvb⟩:=mem_withV.1 hx
        rw[Az hb] at hvb
        exact⟨b,hb,hvb⟩
       ·obtain⟨b,hb,h1,h2⟩:=h.edges v w hv hw
        obtain⟨j,hj,rfl⟩:=List.getElem_of_mem hb
        exact⟨j,hj,h1,h2⟩
      case pos=>
       rw[decide_eq_true hE,Bool.not_true,cond_false]
       refine(C3 g.length (λv=>decide (Cd B (v:Int)≠[]∧Df K (Cd B (v:Int)))) false (λv hv=> ?_) ?_ rfl rfl).trans ?_
       ·obtain⟨x,e3,hx1,hx2,hx3⟩:=with_ok hg hs n16 hv
        rw[dlt hv,cond_true,e3,bs,FP n16 hA hlk hx1 hx2,bs,hx3,wq v]
        cases decide (Cd B (v:Int)≠[]∧Df K (Cd B (v:Int)))<;>rfl
       ·simp only[Bc,cond_false]
       ·congr 1
        rw[Bool.eq_iff_iff,Do,decide_eq_true_eq]
        simp only[decide_eq_true_eq]
        constructor
        ·intro hv
         refine⟨n1,n16,hm,hlk,hs,hc,λu v hu ha=> ?_,λv h=>(hv v h).1,λv h=>(hv v h).2⟩
         obtain⟨j,hj,h1,h2⟩:=(hE u hu).2 v ha
         exact⟨B[j],List.getElem_mem hj,h1,h2⟩
        ·intro h v hv
         exact⟨h.some v hv,h.conn v hv⟩
end
end Go.Sx

namespace Go.Sx
theorem elems_mk' {n:Nat}{x:LI}(hn:n≤16)(hi:Inc x)(hr:∀z∈x,0≤z∧z<n):An (mk x)=x:=by
 refine Inc.ext (Bz _) hi (λz=> ?_)
 rw[mem_elems]
 constructor
 ·rintro⟨v,_,h2,rfl⟩
  rw[CJ (λy hy=>by have:=hr y hy;omega)] at h2
  exact of_decide_eq_true h2
 ·intro hz
  have:=hr z hz
  refine⟨z.toNat,by omega,?_,by omega⟩
  rw[CJ (λy hy=>by have:=hr y hy;omega)]
  exact decide_eq_true (by rw[show ((z.toNat:Nat):Int)=z by omega];exact hz)
theorem Ez {α β γ:Type}(f:α→Option β)(h:β→γ):∀xs:List α,xs.findSome? (λi=>(f i).map h)=(xs.findSome? f).map h
 |[]=>rfl
 |x::xs=>by
  rw[List.findSome?_cons,List.findSome?_cons]
  cases f x with
  |none=>exact Ez f h xs
  |some y=>rfl
def prt (s t:Int):Bool:=(iandNot .u32 s t)==0
theorem FO {s t:Int}(hs:VS s)(ht:VS t):D.N (An s) (An t)=some (prt s t):=by
 have h1:=BF s;have h2:=BF t
 rw[l9Part_eq _ _ (show Sh (An s) by unfold Sh;omega) (show Sh (An t) by unfold Sh;omega)]
 congr 1
 unfold prt
 rw[Bool.eq_iff_iff,List.all_eq_true,beq_iff_eq,(VS.iandNot _ _).eq_zero]
 constructor
 ·intro h v hv
  rw[Bw hs ht]
  cases hh:has s v
  ·rfl
  ·have:=h (v:Int) ((AQ hs).2 hh)
   rw[decide_eq_true_eq,AQ ht] at this
   rw[this];rfl
 ·intro h x hx
  obtain⟨v,hv,h3,rfl⟩:=mem_elems.1 hx
  have:=h v hv
  rw[Bw hs ht,h3,Bool.true_and,Bool.not_eq_false'] at this
  rw[decide_eq_true_eq,AQ ht];exact this
def ren (gone kept x:Int):Int:=if gone<(if x=gone then kept else x) then(if x=gone then kept else x)-1 else(if x=gone then kept else x)
def lnk (gone kept:Int)(l:LI):Option LI:=if ren gone kept (l.getD 0 0)=ren gone kept (l.getD 1 0) then none else some (BP (ren gone kept (l.getD 0 0)) (ren gone kept (l.getD 1 0)))
structure TS (M:LI)(K:LL):Prop where
 n16:M.length≤16
 vs:∀s∈M,VS s
 lk:∀l∈K,LinkIn M.length l
 k16:K.length≤16
theorem F7 {n g k:Nat}(hg:g<n)(hk:k<n)(hgk:g≠k){a:Nat}(ha:a<n):0≤ren g k a∧ren g k a<((n-1:Nat):Int):=by
 unfold ren
 by_cases e:(a:Int)=g
 ·simp only[e,if_true];split<;>omega
 ·simp only[e,if_false];split<;>omega
theorem lnk_in {n g k:Nat}(hg:g<n)(hk:k<n)(hgk:g≠k){l r:LI}(hl:LinkIn n l)(h:lnk g k l=some r):LinkIn (n-1) r:=by
 obtain⟨a,b,rfl,hab,hb⟩:=hl
 unfold lnk at h
 simp only[List.getD_cons_zero,List.getD_cons_succ] at h
 have h1:=F7 hg hk hgk (show a<n by omega)
 have h2:=F7 hg hk hgk hb
 split at h
 ·cases h
 ·rename_i hne
  cases h
  generalize ren g k a=x at*
  generalize ren g k b=y at*
  refine⟨(min x y).toNat,(max x y).toNat,?_,by omega,by omega⟩
  unfold BP
  rw[show (((min x y).toNat:Nat):Int)=min x y by omega,show (((max x y).toNat:Nat):Int)=max x y by omega]
def Cg (g k:Nat)(K:LL):LL:=K.filterMap (lnk g k)
theorem Ew {n g k:Nat}{K:LL}(hK:∀l∈K,LinkIn n l)(hg:g<n)(hk:k<n)(hgk:g≠k):∀r∈Cg g k K,LinkIn (n-1) r:=λr hr=>by
 obtain⟨l,hl,e⟩:=List.mem_filterMap.1 hr
 exact lnk_in hg hk hgk (hK l hl) e
theorem merged_len (g k:Nat)(K:LL):(Cg g k K).length≤K.length:=List.length_filterMap_le _ _
theorem FH {xs:LL}(hl:xs.length≤1000000)(hg:∀x∈xs,Cv x):CH xs=some (xs.mergeSort B4):=by
 unfold CH;rw[if_pos ⟨hl,hg⟩]
theorem EU {g k:Nat}(hg:g≤1000000)(hk:k≤1000000){x:Int}(h0:0≤x)(h1:x≤1000000):D.q0 x (g:Int) (k:Int)=some (ren g k x):=by
 unfold D.q0 ren
 rw[w64 (by omega) (by omega),w64 (by omega) (by omega)]
 by_cases e:x=(g:Int)
 ·have:(x==(g:Int))=true:=by simpa using e
  rw[this,cond_true]
  simp only[e,if_true]
  by_cases h:(g:Int)<(k:Int)
  ·rw[decide_eq_true h,cond_true,if_pos h]
  ·rw[decide_eq_false h,cond_false,if_neg h]
 ·have:(x==(g:Int))=false:=by simpa using e
  rw[this,cond_false]
  simp only[e,if_false]
  by_cases h:(g:Int)<x
  ·rw[decide_eq_true h,cond_true,if_pos h]
  ·rw[decide_eq_false h,cond_false,if_neg h]
theorem Ec {α β:Type}(f:α→Option β){l:List α}{i:Nat}(hi:i<l.length):(l.take (i+1)).filterMap f=(l.take i).filterMap f++(f l[i]).toList:=by
 rw[List.take_succ_eq_append_getElem hi,List.filterMap_append]
 cases hf:f l[i]<;>simp[hf]
section
variable {M : LI} {K : LL} (h : TS M K) {g k : Nat} (hg : g < M.length) (hk : k < M.length) (hgk : g ≠ k)
include h hg hk hgk
theorem impl_merge :D.k M K (g:Int) (k:Int)=some (M.eraseIdx g,(Cg g k K).mergeSort B4):=by
 have h16:=h.n16;have hk16:=h.k16
 unfold D.k
 refine(B8 (λi=>((K.take i).filterMap (lnk g k),(i:Int))) K.length (Cg g k K) (by simp) (λi hi=> ?_) ?_).trans ?_
 ·obtain⟨a,b,e,hab,hb⟩:=h.lk _ (List.getElem_mem hi)
  have i0:idx K[i] 0=some (a:Int):=by rw[e];rfl
  have i1:idx K[i] 1=some (b:Int):=by rw[e];rfl
  simp only[dlt hi,cond_true,AB hi,bs,i0,i1,EU (show g≤1000000 by omega) (show k≤1000000 by omega) (show (0:Int)≤(a:Int) by omega) (by omega),EU (show g≤1000000 by omega) (show k≤1000000 by omega) (show (0:Int)≤(b:Int) by omega) (by omega),wq i,Ec (lnk g k) hi]
  have el:lnk (g:Int) (k:Int) K[i]=if ren g k a=ren g k b then none else some (BP (ren g k a) (ren g k b)):=by rw[e];rfl
  rw[el]
  have hfl:((K.take i).filterMap (lnk g k)).length≤16:=by
   have:=List.length_filterMap_le (lnk (g:Int) (k:Int)) (K.take i)
   rw[List.length_take] at this;omega
  by_cases hc:ren g k a=ren g k b
  ·have:(ren g k a !=ren g k b)=false:=by simpa using hc
   rw[this,cond_false,if_pos hc];simp
  ·have:(ren g k a !=ren g k b)=true:=by simpa using hc
   rw[this,cond_true,if_neg hc,FB,bs,A9 (by simp;omega),bs];simp
 ·simp only[Bc,cond_false,List.take_length];rfl
 ·have hml:=merged_len g k K
  rw[FH (by omega) (λx hx=>(Ew h.lk hg hk hgk x hx).good (by omega)),bs]
  unfold D.P1 D.C1 delD
  rw[A9 (by simp;omega)]
  simp only[bs,List.nil_append]
  rw[wq g,if_pos ⟨by omega,by omega,by omega⟩,bs]
  congr 2
  rw[Int.toNat_natCast,Int.toNat_natCast,List.eraseIdx_eq_take_drop_succ]
def C5 (acc xs:LL):LL:=xs.foldl (λacc l=>ins l acc) acc
omit h hg hk hgk in
theorem Em :∀(xs acc:LL),DR acc→(C5 acc xs).Perm (xs++acc)∧DR (C5 acc xs)
 |[],acc,h=>⟨List.Perm.refl _,h⟩
 |x::xs,acc,h=>by
  obtain⟨h1,h2⟩:=Em xs (ins x acc) (ins_sorted x h)
  refine⟨h1.trans ?_,h2⟩
  exact((ins_perm x acc).append_left xs).trans List.perm_middle
omit h hg hk hgk in
theorem Gg {xs:LL}(hx:∀x∈xs,Cv x):C5 [] xs=xs.mergeSort B4:=by
 obtain⟨h1,h2⟩:=Em xs [] (by simp[DR])
 rw[List.append_nil] at h1
 exact E3 (h1.trans (BR xs).symm) (λx hx'=>hx x ((BR xs).mem_iff.1 hx')) h2 (D7 xs)
omit h hg hk hgk in
theorem Gk (acc xs:LL)(x:LI):C5 acc (xs++[x])=ins x (C5 acc xs):=by
 unfold C5;rw[List.foldl_append];rfl
theorem spec_merge :D.n2 (M.map An) K (g:Int) (k:Int)=some ((M.eraseIdx g).map An,(Cg g k K).mergeSort B4):=by
 have h16:=h.n16;have hk16:=h.k16
 unfold D.n2
 refine(B8 (λi=>((i:Int),(if i≤g then M.take i else M.take g++(M.drop (g+1)).take (i-(g+1))).map An)) M.length ((M.eraseIdx g).map An) (by simp) (λi hi=> ?_) ?_).trans ?_
 ·have hd:decide ((i:Int)<((M.map An).length:Int))=true:=by simp;omega
  have hcp:D.g (An M[i])=some (An M[i]):=DE _ (by have:=BF M[i];unfold Sh;omega)
  simp only[hd,cond_true,wq i]
  by_cases e:i=g
  ·subst e
   have:(((i:Nat):Int) !=(i:Int))=false:=by simp
   rw[this,cond_false,if_pos (Nat.le_refl i),if_neg (by omega)];simp
  ·have:(((i:Nat):Int) !=(g:Int))=true:=by rw[bne_iff_ne];omega
   rw[this,cond_true,AB (show i<(M.map An).length by simpa using hi),bs,List.getElem_map,hcp,bs]
   rcases Nat.lt_or_gt_of_ne e with c|c
   ·rw[if_pos (by omega),if_pos (by omega),A9 (by simp;omega),bs,List.take_succ_eq_append_getElem hi,List.map_append];rfl
   ·rw[if_neg (by omega),if_neg (by omega),A9 (by simp;omega),bs]
    have e2:(M.drop (g+1)).take (i+1-(g+1))=(M.drop (g+1)).take (i-(g+1))++[M[i]]:=by
     rw[show i+1-(g+1)=(i-(g+1))+1 by omega,List.take_succ_eq_append_getElem (by simp;omega)]
     congr 2
     rw[List.getElem_drop];congr 1;omega
    rw[e2];simp
 ·have hd:decide (((M.length:Nat):Int)<((M.map An).length:Int))=false:=by simp
  simp only[hd,cond_false]
  rw[if_neg (by omega),List.eraseIdx_eq_take_drop_succ,List.take_of_length_le (l:=M.drop (g+1)) (by simp)]
 ·refine(B8 (λi=>((i:Int),C5 [] ((K.take i).filterMap (lnk g k)))) K.length (C5 [] (Cg g k K)) (by simp[C5]) (λi hi=> ?_) ?_).trans ?_
  ·obtain⟨a,b,e,hab,hb⟩:=h.lk _ (List.getElem_mem hi)
   have i0:idx K[i] 0=some (a:Int):=by rw[e];rfl
   have i1:idx K[i] 1=some (b:Int):=by rw[e];rfl
   have ra:=F7 hg hk hgk (show a<M.length by omega)
   have rb:=F7 hg hk hgk hb
   have el:lnk (g:Int) (k:Int) K[i]=if ren g k a=ren g k b then none else some (BP (ren g k a) (ren g k b)):=by rw[e];rfl
   simp only[dlt hi,cond_true,AB hi,bs,i0,i1,wq i,Ec (lnk g k) hi,el]
   have hsub:∀x:Int,(cond (x==(g:Int)) (some (k:Int)) (some x))=some (if x=(g:Int) then(k:Int) else x):=λx=>by
    by_cases hx:x=(g:Int)
    ·simp[hx]
    ·have:(x==(g:Int))=false:=by simpa using hx
     rw[this,cond_false,if_neg hx]
   have hfl:∀x:Int,D.q2 (decide ((g:Int)<x))=some (if(g:Int)<x then 1 else 0):=λx=>by
    unfold D.q2
    by_cases hx:(g:Int)<x
    ·simp[hx]
    ·simp[hx]
   have hren:∀x:Int,ren g k x=(if x=(g:Int) then(k:Int) else x)-(if(g:Int)<(if x=(g:Int) then(k:Int) else x) then 1 else 0):=λx=>by
    unfold ren
    by_cases hx:(g:Int)<(if x=(g:Int) then(k:Int) else x)
    ·rw[if_pos hx,if_pos hx]
    ·rw[if_neg hx,if_neg hx];omega
   have ne1:(if(a:Int)=(g:Int) then(k:Int) else a)≠(g:Int):=by split<;>omega
   have ne2:(if(b:Int)=(g:Int) then(k:Int) else b)≠(g:Int):=by split<;>omega
   have hA:=hren (a:Int);have hBb:=hren (b:Int)
   rw[hsub,bs,hsub,bs]
   generalize (if(a:Int)=(g:Int) then(k:Int) else a)=x at*
   generalize (if(b:Int)=(g:Int) then(k:Int) else b)=y at*
   have hiff:ren g k a=ren g k b↔x=y:=by
    rw[hA,hBb]
    constructor
    ·intro hh;split at hh<;>split at hh<;>omega
    ·rintro rfl;rfl
   by_cases hc:x=y
   ·have:(x !=y)=false:=by simpa using hc
    rw[this,cond_false,if_pos (hiff.2 hc)];simp
   ·have:(x !=y)=true:=by simpa using hc
    rw[this,cond_true,if_neg (λhh=>hc (hiff.1 hh)),hfl,bs,hfl,bs,←hA,←hBb,w64 (by omega) (by omega),w64 (by omega) (by omega)]
    have hlen:(C5 [] ((K.take i).filterMap (lnk g k))).length≤16:=by
     obtain⟨hp,_⟩:=Em ((K.take i).filterMap (lnk g k)) [] (by simp[DR])
     rw[hp.length_eq,List.append_nil]
     have:=List.length_filterMap_le (lnk (g:Int) (k:Int)) (K.take i)
     rw[List.length_take] at this;omega
    have hin:LinkIn (M.length-1) (BP (ren g k a) (ren g k b)):=lnk_in hg hk hgk (h.lk _ (List.getElem_mem hi)) (by rw[el,if_neg (λhh=>hc (hiff.1 hh))])
    rw[FN (λx hx=> ?_) (hin.good (by omega)) (by omega),bs,Option.toList_some,Gk]
    obtain⟨hp,_⟩:=Em ((K.take i).filterMap (lnk g k)) [] (by simp[DR])
    rw[List.append_nil] at hp
    exact((Ew (λl hl=>h.lk l (List.mem_of_mem_take hl)) hg hk hgk x (hp.mem_iff.1 hx))).good (by omega)
  ·simp only[Bc,cond_false,List.take_length];rfl
  ·rw[Gg (λx hx=>(Ew h.lk hg hk hgk x hx).good (by omega))]
theorem TS.merge :TS (M.eraseIdx g) ((Cg g k K).mergeSort B4):=by
 have h16:=h.n16
 have hl:(M.eraseIdx g).length=M.length-1:=by rw[List.length_eraseIdx,if_pos hg]
 refine⟨by omega,λs hs=>h.vs s (List.mem_of_mem_eraseIdx hs),λl hl'=> ?_,?_⟩
 ·rw[hl]
  exact Ew h.lk hg hk hgk l ((BR _).mem_iff.1 hl')
 ·rw[(BR _).length_eq]
  exact Nat.le_trans (merged_len g k K) h.k16
end
def De (M:LI)(l:LI):Option (Nat×Nat):=
 if prt (M.getD (l.getD 1 0).toNat 0) (M.getD (l.getD 0 0).toNat 0) then some ((l.getD 1 0).toNat,(l.getD 0 0).toNat)
 else if prt (M.getD (l.getD 0 0).toNat 0) (M.getD (l.getD 1 0).toNat 0) then some ((l.getD 0 0).toNat,(l.getD 1 0).toNat) else none
def Cx (M:LI)(K:LL):Option (Nat×Nat):=(List.range K.length).findSome? (λi=>De M (K.getD i []))
section
variable {M : LI} {K : LL} (h : TS M K)
include h
theorem spareM_in {l:LI}(hl:l∈K){g k:Nat}(e:De M l=some (g,k)):g<M.length∧k<M.length∧g≠k:=by
 obtain⟨a,b,rfl,hab,hb⟩:=h.lk l hl
 unfold De at e
 simp only[List.getD_cons_zero,List.getD_cons_succ,Int.toNat_natCast] at e
 split at e
 ·cases e;omega
 ·split at e
  ·cases e;omega
  ·cases e
theorem spare_in {g k:Nat}(e:Cx M K=some (g,k)):g<M.length∧k<M.length∧g≠k:=by
 obtain⟨i,hi,e2⟩:=List.exists_of_findSome?_eq_some e
 have hi':=List.mem_range.1 hi
 rw[Az hi'] at e2
 exact spareM_in h (List.getElem_mem hi') e2
theorem Fj :D.p2 (M.map An) K=some (match Cx M K with|some (g,k)=>((g:Int),(k:Int))|none=>(-1,-1)):=by
 have h16:=h.n16;have hk16:=h.k16
 unfold D.p2
 have key:=Di (ρ:=Unit ⊕ (Int×Int)) (step:=(fun(x_134:Int)=>cond (decide (x_134<(K.length:Int))) ((idx K x_134).bind λe_200=>(idx e_200 0).bind λe_206=>(idx K x_134).bind λe_212=>(idx e_212 1).bind λe_218=>(idx (M.map An) e_218).bind λe_224=>(idx (M.map An) e_206).bind λe_230=>(D.N e_224 e_230).bind λy_236=>cond y_236 (some (.inr (.inr (e_218,e_206)))) ((idx (M.map An) e_206).bind λe_242=>(idx (M.map An) e_218).bind λe_248=>(D.N e_242 e_248).bind λy_254=>cond y_254 (some (.inr (.inr (e_206,e_218)))) (some (.inl (IntKind.i64.wrap (x_134+1)))))) (some (.inr (.inl ()))))) K.length (λi=>(De M (K.getD i [])).map λp=> .inr ((p.1:Int),(p.2:Int))) (.inl ()) (λi hi=>by
  obtain⟨a,b,e,hab,hb⟩:=h.lk _ (List.getElem_mem hi)
  have i0:idx K[i] 0=some (a:Int):=by rw[e];rfl
  have i1:idx K[i] 1=some (b:Int):=by rw[e];rfl
  have hm:∀x:Nat,x<M.length→idx (M.map An) (x:Int)=some (An (M.getD x 0))∧VS (M.getD x 0):=λx hx=>by
   rw[AB (by simpa using hx),List.getElem_map,Az hx]
   exact⟨rfl,h.vs _ (List.getElem_mem hx)⟩
  obtain⟨ma,va⟩:=hm a (by omega)
  obtain⟨mb,vb⟩:=hm b hb
  simp only[dlt hi,cond_true,AB hi,bs,i0,i1,ma,mb,FO vb va,FO va vb,wq i,Az hi]
  have es:De M K[i]=if prt (M.getD b 0) (M.getD a 0) then some (b,a) else if prt (M.getD a 0) (M.getD b 0) then some (a,b) else none:=by rw[e];rfl
  rw[es]
  cases prt (M.getD b 0) (M.getD a 0)
  ·cases prt (M.getD a 0) (M.getD b 0)<;>rfl
  ·rfl) (by simp only[Bc,cond_false])
 rw[key,bs,Ez]
 unfold Cx
 cases (List.range K.length).findSome? (λi=>De M (K.getD i [])) with
 |none=>rfl
 |some p=>rfl
theorem Fx :Aq (σ:=Int) (ρ:=(LI×LL×Bool)) (fun(x_1473:Int)=>cond (decide (x_1473<(K.length:Int))) ((idx K x_1473).bind λe_1582=>(idx e_1582 0).bind λe_1588=>(idx e_1582 1).bind λe_1594=>(idx M e_1594).bind λe_1602=>(idx M e_1588).bind λe_1608=>cond ((iandNot .u32 e_1602 e_1608)==0) ((D.k M K e_1594 e_1588).bind λy_1623=>some (.inr (y_1623.1,y_1623.2,true))) ((idx M e_1588).bind λe_1638=>(idx M e_1594).bind λe_1644=>cond ((iandNot .u32 e_1638 e_1644)==0) ((D.k M K e_1588 e_1594).bind λy_1659=>some (.inr (y_1659.1,y_1659.2,true))) (some (.inl (IntKind.i64.wrap (x_1473+1)))))) (some (.inr (M,K,false)))) 0=
  some (match Cx M K with|some (g,k)=>(M.eraseIdx g,(Cg g k K).mergeSort B4,true)|none=>(M,K,false)):=by
 have h16:=h.n16;have hk16:=h.k16
 have key:=Di (ρ:=(LI×LL×Bool)) (step:=(fun(x_1473:Int)=>cond (decide (x_1473<(K.length:Int))) ((idx K x_1473).bind λe_1582=>(idx e_1582 0).bind λe_1588=>(idx e_1582 1).bind λe_1594=>(idx M e_1594).bind λe_1602=>(idx M e_1588).bind λe_1608=>cond ((iandNot .u32 e_1602 e_1608)==0) ((D.k M K e_1594 e_1588).bind λy_1623=>some (.inr (y_1623.1,y_1623.2,true))) ((idx M e_1588).bind λe_1638=>(idx M e_1594).bind λe_1644=>cond ((iandNot .u32 e_1638 e_1644)==0) ((D.k M K e_1588 e_1594).bind λy_1659=>some (.inr (y_1659.1,y_1659.2,true))) (some (.inl (IntKind.i64.wrap (x_1473+1)))))) (some (.inr (M,K,false))))) K.length (λi=>(De M (K.getD i [])).map λp=>(M.eraseIdx p.1,(Cg p.1 p.2 K).mergeSort B4,true)) (M,K,false) (λi hi=>by
  obtain⟨a,b,e,hab,hb⟩:=h.lk _ (List.getElem_mem hi)
  have i0:idx K[i] 0=some (a:Int):=by rw[e];rfl
  have i1:idx K[i] 1=some (b:Int):=by rw[e];rfl
  have hm:∀x:Nat,x<M.length→idx M (x:Int)=some (M.getD x 0):=λx hx=>by
   rw[AB hx,Az hx]
  have ma:=hm a (by omega)
  have mb:=hm b hb
  simp only[dlt hi,cond_true,AB hi,bs,i0,i1,ma,mb,impl_merge h hb (show a<M.length by omega) (by omega),impl_merge h (show a<M.length by omega) hb (by omega),wq i,Az hi]
  have es:De M K[i]=if prt (M.getD b 0) (M.getD a 0) then some (b,a) else if prt (M.getD a 0) (M.getD b 0) then some (a,b) else none:=by rw[e];rfl
  rw[es]
  have p1:((iandNot .u32 (M.getD b 0) (M.getD a 0))==0)=prt (M.getD b 0) (M.getD a 0):=rfl
  have p2:((iandNot .u32 (M.getD a 0) (M.getD b 0))==0)=prt (M.getD a 0) (M.getD b 0):=rfl
  rw[p1,p2]
  cases prt (M.getD b 0) (M.getD a 0)
  ·cases prt (M.getD a 0) (M.getD b 0)<;>rfl
  ·rfl) (by simp only[Bc,cond_false])
 rw[key,Ez]
 unfold Cx
 cases (List.range K.length).findSome? (λi=>De M (K.getD i [])) with
 |none=>rfl
 |some p=>rfl
end
theorem tidy_both :∀(m:Nat) (M:LI) (K:LL),M.length≤m→TS M K→∃M' K',TS M' K'∧
  Aq (σ:=LI×LL×Bool) (ρ:=(LI×LL)) (fun(s_853:LI×LL×Bool)=>match s_853 with|(l_856,l_861,b_866)=>cond b_866 ((Aq (σ:=Int) (ρ:=(LI×LL×Bool)) (fun(x_1473:Int)=>cond (decide (x_1473<(l_861.length:Int))) ((idx l_861 x_1473).bind λe_1582=>(idx e_1582 0).bind λe_1588=>(idx e_1582 1).bind λe_1594=>(idx l_856 e_1594).bind λe_1602=>(idx l_856 e_1588).bind λe_1608=>cond ((iandNot .u32 e_1602 e_1608)==0) ((D.k l_856 l_861 e_1594 e_1588).bind λy_1623=>some (.inr (y_1623.1,y_1623.2,true))) ((idx l_856 e_1588).bind λe_1638=>(idx l_856 e_1594).bind λe_1644=>cond ((iandNot .u32 e_1638 e_1644)==0) ((D.k l_856 l_861 e_1588 e_1594).bind λy_1659=>some (.inr (y_1659.1,y_1659.2,true))) (some (.inl (IntKind.i64.wrap (x_1473+1)))))) (some (.inr (l_856,l_861,false)))) 0).bind fun(l_1569,l_1574,b_1579)=>some (.inl (l_1569,l_1574,b_1579))) (some (.inr (l_856,l_861)))) (M,K,true)=some (M',K')∧
  Aq (σ:=LL×LL) (ρ:=((LL)×(LL)×Bool)) (fun(s_125:LL×LL)=>match s_125 with|(l_128,l_133)=>(D.p2 l_128 l_133).bind λy_139=>cond (decide (y_139.1<0)) (some (.inr (l_128,l_133,true))) ((D.n2 l_128 l_133 y_139.1 y_139.2).bind λy_160=>some (.inl (y_160.1,y_160.2)))) (M.map An,K)=some (M'.map An,K',true)∧Cx M' K'=none∧
  ∀I:LI→LL→Prop,I M K→(∀M K g k,TS M K→Cx M K=some (g,k)→I M K→I (M.eraseIdx g) ((Cg g k K).mergeSort B4))→I M' K':=by
 intro m
 induction m with
 |zero=>
  intro M K hm h
  have hK:K=[]:=by
   cases K with
   |nil=>rfl
   |cons l K=>
    obtain⟨a,b,_,h1,h2⟩:=h.lk l (by simp)
    omega
  subst hK
  refine⟨M,[],h,?_,?_,rfl,λI hI _=>hI⟩
  ·rw[BB (s':=(M,[],false)) (by simp only[cond_true];rw[Fx h];rfl),Be (r:=(M,[])) (by rfl)]
  ·rw[Be (r:=(M.map An,[],true)) (by simp only[Fj h];rfl)]
 |succ m ih=>
  intro M K hm h
  cases hsp:Cx M K with
  |none=>
   refine⟨M,K,h,?_,?_,hsp,λI hI _=>hI⟩
   ·rw[BB (s':=(M,K,false)) (by simp only[cond_true];rw[Fx h,hsp];rfl),Be (r:=(M,K)) (by rfl)]
   ·rw[Be (r:=(M.map An,K,true)) (by simp only[Fj h,hsp];rfl)]
  |some p=>
   obtain⟨g,k⟩:=p
   obtain⟨hg,hk,hgk⟩:=spare_in h hsp
   obtain⟨M',K',h1,h2,h3,h4,h5⟩:=ih (M.eraseIdx g) ((Cg g k K).mergeSort B4) (by rw[List.length_eraseIdx,if_pos hg];omega) (h.merge hg hk hgk)
   refine⟨M',K',h1,?_,?_,h4,λI hI hs=>h5 I (hs M K g k h hsp hI) hs⟩
   ·rw[BB (s':=(M.eraseIdx g,(Cg g k K).mergeSort B4,true)) (by simp only[cond_true];rw[Fx h,hsp];rfl)]
    exact h2
   ·have hn:decide ((g:Int)<0)=false:=by simp
    rw[BB (s':=((M.eraseIdx g).map An,(Cg g k K).mergeSort B4)) (by simp only[Fj h,hsp,bs,hn,cond_false,spec_merge h hg hk hgk])]
    exact h3
end Go.Sx

namespace Go.Sx
theorem Lk.symm {links:LL}{x y:Int}(h:Lk links x y):Lk links y x:=Or.elim h (λh=>Or.inr h) (λh=>Or.inl h)
theorem conn_iff {links:LL}{sel:LI}:Df links sel↔∀T:Int→Prop,(∃x∈sel,T x)→(∀x y,x∈sel→y∈sel→T x→Lk links x y→T y)→∀x∈sel,T x:=by
 constructor
 ·intro h T ⟨x0,hx0,hT⟩ hs
  classical
  have hall:∀U:Int→Prop,(∀x,sel.head? =some x→U x)→(∀x y,x∈sel→y∈sel→U x→Lk links x y→U y)→∀x∈sel,U x:=λU h1 h2 x hx=>by
   have:=h (sel.filter λz=>decide (U z)) ⟨λz hz=>(List.mem_filter.1 hz).1,λz hz=>List.mem_filter.2 ⟨List.mem_of_mem_head? hz,decide_eq_true (h1 z hz)⟩,λa ha b hb hl=>by
    have ha:=List.mem_filter.1 ha
    exact List.mem_filter.2 ⟨hb,decide_eq_true (h2 a b ha.1 hb (of_decide_eq_true ha.2) hl)⟩⟩ x hx
   exact of_decide_eq_true (List.mem_filter.1 this).2
  cases hsel:sel with
  |nil=>intro x hx;simp at hx
  |cons z t=>
   rw[←hsel]
   have hz:T z:=by
    apply Classical.byContradiction
    intro hc
    have:=hall (λx=>¬T x) (λx hx=>by rw[hsel] at hx;simp at hx;rw[←hx];exact hc) (λa b ha hb hna hl hTb=>hna (hs b a hb ha hTb hl.symm)) x0 hx0
    exact this hT
   exact hall T (λx hx=>by rw[hsel] at hx;simp at hx;rw[←hx];exact hz) hs
 ·intro h m hm x hx
  cases hsel:sel with
  |nil=>rw[hsel] at hx;simp at hx
  |cons z t=>
   exact h (λz=>z∈m) ⟨z,by rw[hsel];simp,hm.first z (by rw[hsel];rfl)⟩ (λa b _ hb ha hl=>hm.step a ha b hb hl) x hx
theorem conn_map {K K':LL}{sel sel':LI}(φ:Int→Int)(h:Df K sel)(h1:∀x∈sel,φ x∈sel')(h2:∀y∈sel',∃x∈sel,φ x=y)(h3:∀x y,x∈sel→y∈sel→Lk K x y→φ x=φ y∨Lk K' (φ x) (φ y)):Df K' sel':=by
 rw[conn_iff] at h ⊢
 intro T ⟨y0,hy0,hT⟩ hs y hy
 obtain⟨x0,hx0,rfl⟩:=h2 y0 hy0
 obtain⟨x,hx,rfl⟩:=h2 y hy
 refine h (λz=>T (φ z)) ⟨x0,hx0,hT⟩ (λa b ha hb hTa hl=> ?_) x hx
 rcases h3 a b ha hb hl with e|e
 ·rw[←e];exact hTa
 ·exact hs _ _ (h1 a ha) (h1 b hb) hTa e
theorem countP_lt {α:Type}{p q:α→Bool}:∀{l:List α},(∀x∈l,p x=true→q x=true)→(∃x∈l,q x=true∧p x=false)→l.countP p+1≤l.countP q
 |[],_,h=>by obtain⟨x,hx,_⟩:=h;simp at hx
 |a::l,h1,h2=>by
  have hm:l.countP p≤l.countP q:=List.countP_mono_left λx hx=>h1 x (List.mem_cons_of_mem _ hx)
  obtain⟨x,hx,hq,hp⟩:=h2
  rw[List.countP_cons,List.countP_cons]
  rcases List.mem_cons.1 hx with rfl|hx
  ·rw[hq,hp];simp;omega
  ·have:=countP_lt (λx hx=>h1 x (List.mem_cons_of_mem _ hx)) ⟨x,hx,hq,hp⟩
   have h3:=h1 a (List.mem_cons_self ..)
   cases hpa:p a
   ·cases q a<;>simp<;>omega
   ·rw[h3 hpa];simp;omega
theorem conn_many {links:LL}{sel:LI}(hn:sel.Nodup)(h:Df links sel):sel.length≤links.length+1:=by
 rw[conn_iff] at h
 have key:∀k,k+1≤sel.length→∃T:LI,T.Nodup∧(∀x∈T,x∈sel)∧T.length=k+1∧k≤links.countP (λl=>decide (l.getD 0 0∈T)&&decide (l.getD 1 0∈T)):=by
  intro k
  induction k with
  |zero=>
   intro hk
   have hs:0<sel.length:=by omega
   exact⟨[sel[0]],by simp,λx hx=>by simp at hx;rw[hx];exact List.getElem_mem hs,rfl,by omega⟩
  |succ k ih=>
   intro hk
   obtain⟨T,hT1,hT2,hT3,hT4⟩:=ih (by omega)
   have hex:∃x y,x∈T∧y∈sel∧y∉T∧Lk links x y:=by
    apply Classical.byContradiction
    intro hc
    have hall:=h (λz=>z∈T) ⟨T[0]'(by omega),hT2 _ (List.getElem_mem _),List.getElem_mem _⟩ (λx y _ hy hx hl=>by
     apply Classical.byContradiction
     intro hy2
     exact hc ⟨x,y,hx,hy,hy2,hl⟩)
    have:=BM hn hall
    omega
   obtain⟨x,y,hx,hy,hyT,hl⟩:=hex
   refine⟨y::T,List.nodup_cons.2 ⟨hyT,hT1⟩,λz hz=> ?_,by simp[hT3],?_⟩
   ·rcases List.mem_cons.1 hz with rfl|hz
    ·exact hy
    ·exact hT2 z hz
   ·refine Nat.le_trans (Nat.succ_le_succ hT4) (countP_lt (λl _ hl=> ?_) ?_)
    ·simp only[Bool.and_eq_true,decide_eq_true_eq] at hl ⊢
     exact⟨List.mem_cons_of_mem _ hl.1,List.mem_cons_of_mem _ hl.2⟩
    ·rcases hl with hl|hl
     ·exact⟨[x,y],hl,by simp[hx],by simp[hyT]⟩
     ·exact⟨[y,x],hl,by simp[hx],by simp[hyT]⟩
 cases hs:sel.length with
 |zero=>omega
 |succ k=>
  obtain⟨T,_,_,_,h4⟩:=key k (by omega)
  have:= @List.countP_le_length _ (λl=>decide (l.getD 0 0∈T)&&decide (l.getD 1 0∈T)) links
  omega
theorem conn_perm {K K':LL}{sel:LI}(h:Df K sel)(hp:∀x y,Lk K x y→Lk K' x y):Df K' sel:=
 conn_map id h (λx hx=>hx) (λy hy=>⟨y,hy,rfl⟩) (λx y _ _ hl=> .inr (hp x y hl))
theorem TB.perm {g B K K':LL}(h:TB g B K)(p:K'.Perm K):TB g B K':=by
 have hl:∀x y,Lk K x y→Lk K' x y:=λx y hl=>Or.elim hl (λh=>Or.inl (p.mem_iff.2 h)) (λh=>Or.inr (p.mem_iff.2 h))
 exact⟨h.n1,h.n16,by rw[p.length_eq];exact h.many,λl hl'=>h.lks l (p.mem_iff.1 hl'),h.sets,conn_perm h.tree hl,h.edges,h.some,λv hv=>conn_perm (h.conn v hv) hl⟩
def phi (g k:Nat)(x:Nat):Nat:=if g<(if x=g then k else x) then(if x=g then k else x)-1 else(if x=g then k else x)
theorem F9 (g k x:Nat):ren (g:Int) (k:Int) (x:Int)=((phi g k x:Nat):Int):=by
 unfold ren phi
 by_cases h:x=g
 ·simp only[h,if_true]
  by_cases h2:g<k
  ·rw[if_pos (by omega),if_pos h2];omega
  ·rw[if_neg (by omega),if_neg h2]
 ·rw[if_neg (show¬(x:Int)=g by omega),if_neg h]
  by_cases h2:g<x
  ·rw[if_pos (by omega),if_pos h2];omega
  ·rw[if_neg (by omega),if_neg h2]
theorem phi_lt {n g k x:Nat}(hg:g<n)(hk:k<n)(hgk:g≠k)(hx:x<n):phi g k x<n-1:=by
 unfold phi
 by_cases h:x=g
 ·simp only[h,if_true]
  by_cases h2:g<k
  ·rw[if_pos h2];omega
  ·rw[if_neg h2];omega
 ·simp only[h,if_false]
  by_cases h2:g<x
  ·rw[if_pos h2];omega
  ·rw[if_neg h2];omega
theorem phi_gk {g k:Nat}(hgk:g≠k):phi g k g=phi g k k:=by
 unfold phi;simp[hgk.symm]
theorem phi_ex {n g k y:Nat}(hg:g<n)(hy:y<n-1):∃x,x<n∧x≠g∧phi g k x=y:=by
 by_cases h:y<g
 ·exact⟨y,by omega,by omega,by unfold phi;rw[if_neg (show¬y=g by omega),if_neg (by omega)]⟩
 ·exact⟨y+1,by omega,by omega,by unfold phi;rw[if_neg (show¬y+1=g by omega),if_pos (by omega)];omega⟩
theorem F5 {M:LI}{g k x:Nat}(hg:g<M.length)(hx:x<M.length)(hxg:x≠g):(M.eraseIdx g).getD (phi g k x) 0=M.getD x 0:=by
 unfold phi
 rw[if_neg hxg,List.getD_eq_getElem?_getD,List.getD_eq_getElem?_getD,List.getElem?_eraseIdx]
 by_cases h:g<x
 ·rw[if_pos h,if_neg (by omega)];congr 2;omega
 ·rw[if_neg h,if_pos (by omega)]
theorem prt_has {s t:Int}(hs:VS s)(ht:VS t)(h:prt s t=true){v:Nat}(hv:has s v=true):has t v=true:=by
 unfold prt at h
 rw[beq_iff_eq] at h
 have:=congrArg (λz=>has z v) h
 rw[Bw hs ht,BI,hv] at this
 simpa using this
section
variable {G : LL} {M : LI} {K : LL} (h : TS M K) (hT : TB G (M.map An) K) {g k : Nat} (hg : g < M.length) (hk : k < M.length) (hgk : g ≠ k)
include h hT hg hk hgk
theorem lnk_of {a b:Nat}(ha:a<M.length)(hb:b<M.length)(hl:Lk K (a:Int) (b:Int)):phi g k a=phi g k b∨Lk ((Cg g k K).mergeSort B4) ((phi g k a:Nat):Int) ((phi g k b:Nat):Int):=by
 by_cases he:phi g k a=phi g k b
 ·exact .inl he
 ·right
  have hm:∀l,lnk (g:Int) (k:Int) l=some (BP ((phi g k a:Nat):Int) ((phi g k b:Nat):Int))→l∈K→Lk ((Cg g k K).mergeSort B4) ((phi g k a:Nat):Int) ((phi g k b:Nat):Int):=λl e hl=>by
   have hin:BP ((phi g k a:Nat):Int) ((phi g k b:Nat):Int)∈(Cg g k K).mergeSort B4:=(BR _).mem_iff.2 (List.mem_filterMap.2 ⟨l,hl,e⟩)
   unfold BP at hin
   rcases Nat.lt_or_ge (phi g k a) (phi g k b) with c|c
   ·rw[Int.min_eq_left (by omega),Int.max_eq_right (by omega)] at hin;exact .inl hin
   ·rw[Int.min_eq_right (by omega),Int.max_eq_left (by omega)] at hin;exact .inr hin
  rcases hl with hl|hl
  ·refine hm _ ?_ hl
   unfold lnk
   simp only[List.getD_cons_zero,List.getD_cons_succ,F9]
   rw[if_neg (by omega)]
  ·refine hm _ ?_ hl
   unfold lnk
   simp only[List.getD_cons_zero,List.getD_cons_succ,F9]
   rw[if_neg (by omega)]
   unfold BP
   rw[Int.min_comm,Int.max_comm]
theorem merge_TB (hsub:∀v,has (M.getD g 0) v=true→has (M.getD k 0) v=true)(hl:Lk K (g:Int) (k:Int)):TB G ((M.eraseIdx g).map An) ((Cg g k K).mergeSort B4):=by
 have hml:(M.eraseIdx g).length=M.length-1:=by rw[List.length_eraseIdx,if_pos hg]
 have hTS:=h.merge hg hk hgk
 have hM:M.length=K.length+1:=by have:=hT.many;simpa using this.symm
 have hmem:∀i (hi:i<M.length) (v:Nat),(v:Int)∈(M.map An).getD i []↔has (M.getD i 0) v=true:=λi hi v=>by
  rw[Az (by simpa using hi),List.getElem_map,Az hi,AQ (h.vs _ (List.getElem_mem hi))]
 have hmem':∀i (hi:i<M.length-1) (v:Nat),(v:Int)∈((M.eraseIdx g).map An).getD i []↔has ((M.eraseIdx g).getD i 0) v=true:=λi hi v=>by
  rw[Az (by simp;omega),List.getElem_map,Az (by omega),AQ (hTS.vs _ (List.getElem_mem _))]
 have hphi:∀x v,x<M.length→has (M.getD x 0) v=true→has ((M.eraseIdx g).getD (phi g k x) 0) v=true:=λx v hx hv=>by
  by_cases hxg:x=g
  ·subst hxg
   rw[phi_gk hgk,F5 hg hk hgk.symm];exact hsub v hv
  ·rw[F5 hg hx hxg];exact hv
 have hwith:∀(v:Nat) (x:Int),x∈Cd (M.map An) (v:Int)↔∃b:Nat,x=b∧b<M.length∧has (M.getD b 0) v=true:=λv x=>by
  rw[mem_withV,List.length_map]
  constructor
  ·rintro⟨b,h1,h2,h3⟩;exact⟨b,h1,h2,(hmem b h2 v).1 h3⟩
  ·rintro⟨b,h1,h2,h3⟩;exact⟨b,h1,h2,(hmem b h2 v).2 h3⟩
 have hwith':∀(v:Nat) (x:Int),x∈Cd ((M.eraseIdx g).map An) (v:Int)↔∃b:Nat,x=b∧b<M.length-1∧has ((M.eraseIdx g).getD b 0) v=true:=λv x=>by
  rw[mem_withV,List.length_map,hml]
  constructor
  ·rintro⟨b,h1,h2,h3⟩;exact⟨b,h1,h2,(hmem' b h2 v).1 h3⟩
  ·rintro⟨b,h1,h2,h3⟩;exact⟨b,h1,h2,(hmem' b h2 v).2 h3⟩
 have htree:Df ((Cg g k K).mergeSort B4) ((List.range ((M.eraseIdx g).map An).length).map Int.ofNat):=by
  have ht:=hT.tree
  rw[List.length_map] at ht ⊢
  rw[hml]
  refine conn_map (λx=>((phi g k x.toNat:Nat):Int)) ht (λx hx=> ?_) (λy hy=> ?_) (λx y hx hy hxy=> ?_)
  ·obtain⟨i,hi,rfl⟩:=List.mem_map.1 hx
   exact List.mem_map.2 ⟨_,List.mem_range.2 (phi_lt hg hk hgk (List.mem_range.1 hi)),rfl⟩
  ·obtain⟨j,hj,rfl⟩:=List.mem_map.1 hy
   obtain⟨x,hx,_,e⟩:=phi_ex (k:=k) hg (List.mem_range.1 hj)
   exact⟨(x:Int),List.mem_map.2 ⟨x,List.mem_range.2 hx,rfl⟩,by rw[Int.toNat_natCast,e];rfl⟩
  ·obtain⟨i,hi,rfl⟩:=List.mem_map.1 hx
   obtain⟨j,hj,rfl⟩:=List.mem_map.1 hy
   rcases lnk_of h hT hg hk hgk (List.mem_range.1 hi) (List.mem_range.1 hj) hxy with e|e
   ·left;show ((phi g k i:Nat):Int)=((phi g k j:Nat):Int);rw[e]
   ·right;exact e
 refine⟨by rw[List.length_map,hml];omega,by rw[List.length_map];exact hTS.n16,?_,by rw[List.length_map];exact hTS.lk,λb hb=> ?_,htree,λu v hu ha=> ?_,λv hv=> ?_,λv hv=> ?_⟩
 ·rw[List.length_map,hml]
  have hnd:((List.range ((M.eraseIdx g).map An).length).map Int.ofNat).Nodup:=by
   unfold List.Nodup
   rw[List.pairwise_map]
   exact List.Pairwise.imp (fun{a b} h e=>by have:(a:Int)=(b:Int):=e;omega) List.pairwise_lt_range
  have h1:=conn_many hnd htree
  rw[List.length_map,List.length_range,List.length_map,hml] at h1
  have h2:(Cg g k K).length+1≤K.length:=by
   have hle:∀L:LL,(∃l∈L,lnk (g:Int) (k:Int) l=none)→(L.filterMap (lnk (g:Int) (k:Int))).length+1≤L.length:=by
    intro L
    induction L with
    |nil=>rintro⟨l,hl,_⟩;simp at hl
    |cons a L ih=>
     rintro⟨l,hl,e⟩
     rcases List.mem_cons.1 hl with rfl|hl
     ·rw[List.filterMap_cons_none e]
      have:=List.length_filterMap_le (lnk (g:Int) (k:Int)) L
      simp only[List.length_cons];omega
     ·have:=ih ⟨l,hl,e⟩
      cases ha:lnk (g:Int) (k:Int) a with
      |none=>rw[List.filterMap_cons_none ha];simp only[List.length_cons];omega
      |some r=>rw[List.filterMap_cons_some ha];simp only[List.length_cons];omega
   refine hle K ?_
   rcases hl with hl|hl
   ·exact⟨_,hl,by unfold lnk;simp only[List.getD_cons_zero,List.getD_cons_succ,F9];rw[if_pos (by rw[phi_gk hgk])]⟩
   ·exact⟨_,hl,by unfold lnk;simp only[List.getD_cons_zero,List.getD_cons_succ,F9];rw[if_pos (by rw[phi_gk hgk])]⟩
  have h3:=(BR (Cg g k K)).length_eq
  rw[h3] at h1 ⊢
  omega
 ·obtain⟨s,hs,rfl⟩:=List.mem_map.1 hb
  exact hT.sets _ (List.mem_map.2 ⟨s,List.mem_of_mem_eraseIdx hs,rfl⟩)
 ·obtain⟨b,hb,hub,hvb⟩:=hT.edges u v hu ha
  obtain⟨i,hi,rfl⟩:=List.getElem_of_mem hb
  have hi':i<M.length:=by simpa using hi
  rw[←Az hi [],hmem i hi'] at hub hvb
  have hp:=phi_lt hg hk hgk hi'
  refine⟨((M.eraseIdx g).map An).getD (phi g k i) [],?_,(hmem' _ hp u).2 (hphi i u hi' hub),(hmem' _ hp v).2 (hphi i v hi' hvb)⟩
  rw[Az (by simp;omega)]
  exact List.getElem_mem _
 ·obtain⟨x,hx⟩:=List.exists_mem_of_ne_nil _ (hT.some v hv)
  obtain⟨b,rfl,hb,hvb⟩:=(hwith v x).1 hx
  intro hc
  have:=(hwith' v _).2 ⟨_,rfl,phi_lt hg hk hgk hb,hphi b v hb hvb⟩
  rw[hc] at this
  simp at this
 ·refine conn_map (λx=>((phi g k x.toNat:Nat):Int)) (hT.conn v hv) (λx hx=> ?_) (λy hy=> ?_) (λx y hx hy hxy=> ?_)
  ·obtain⟨b,rfl,hb,hvb⟩:=(hwith v x).1 hx
   exact(hwith' v _).2 ⟨_,rfl,phi_lt hg hk hgk hb,hphi b v hb hvb⟩
  ·obtain⟨b,rfl,hb,hvb⟩:=(hwith' v y).1 hy
   obtain⟨x,hx,hxg,e⟩:=phi_ex (k:=k) hg hb
   refine⟨(x:Int),(hwith v _).2 ⟨x,rfl,hx,?_⟩,by rw[Int.toNat_natCast,e]⟩
   rw[←e,F5 hg hx hxg] at hvb
   exact hvb
  ·obtain⟨a,rfl,ha,_⟩:=(hwith v x).1 hx
   obtain⟨b,rfl,hb,_⟩:=(hwith v y).1 hy
   rcases lnk_of h hT hg hk hgk ha hb hxy with e|e
   ·left;rw[Int.toNat_natCast,Int.toNat_natCast,e]
   ·right;exact e
end
structure Kept (G:LL)(M0:LI)(M:LI)(K:LL):Prop where
 tb:TB G (M.map An) K
 len:M.length≤M0.length
 old:∀s∈M,s∈M0
 sup:∀s∈M0,∃t∈M,∀v,has s v=true→has t v=true
theorem spare_link {M:LI}{K:LL}(h:TS M K){g k:Nat}(e:Cx M K=some (g,k)):Lk K (g:Int) (k:Int)∧prt (M.getD g 0) (M.getD k 0)=true:=by
 obtain⟨i,hi,e2⟩:=List.exists_of_findSome?_eq_some e
 have hi':=List.mem_range.1 hi
 rw[Az hi'] at e2
 obtain⟨a,b,el,hab,hb⟩:=h.lk _ (List.getElem_mem hi')
 have hm:=List.getElem_mem hi'
 rw[el] at e2 hm
 unfold De at e2
 simp only[List.getD_cons_zero,List.getD_cons_succ,Int.toNat_natCast] at e2
 split at e2
 ·rename_i h1;cases e2;exact⟨.inr hm,h1⟩
 ·split at e2
  ·rename_i h1;cases e2;exact⟨.inl hm,h1⟩
  ·cases e2
theorem Kept.step {G:LL}{M0 M:LI}{K:LL}(hM:Kept G M0 M K)(h:TS M K){g k:Nat}(e:Cx M K=some (g,k)):Kept G M0 (M.eraseIdx g) ((Cg g k K).mergeSort B4):=by
 obtain⟨hg,hk,hgk⟩:=spare_in h e
 obtain⟨hl,hp⟩:=spare_link h e
 have hvs:∀i,i<M.length→VS (M.getD i 0):=λi hi=>by rw[Az hi];exact h.vs _ (List.getElem_mem hi)
 have hsub:∀v,has (M.getD g 0) v=true→has (M.getD k 0) v=true:=λv hv=>prt_has (hvs g hg) (hvs k hk) hp hv
 refine⟨merge_TB h hM.tb hg hk hgk hsub hl,?_,λs hs=>hM.old s (List.mem_of_mem_eraseIdx hs),λs hs=> ?_⟩
 ·have:=hM.len
  rw[List.length_eraseIdx,if_pos hg];omega
 ·obtain⟨t,ht,hst⟩:=hM.sup s hs
  obtain⟨i,hi,rfl⟩:=List.getElem_of_mem ht
  have hml:(M.eraseIdx g).length=M.length-1:=by rw[List.length_eraseIdx,if_pos hg]
  have hin:∀x,x<M.length→x≠g→M.getD x 0∈M.eraseIdx g:=λx hx hxg=>by
   rw[←F5 (k:=k) hg hx hxg,Az (by rw[hml];exact phi_lt hg hk hgk hx)]
   exact List.getElem_mem _
  by_cases hig:i=g
  ·subst hig
   exact⟨_,hin k hk hgk.symm,λv hv=>hsub v (by rw[Az hi];exact hst v hv)⟩
  ·refine⟨_,hin i hi hig,λv hv=>by rw[Az hi];exact hst v hv⟩
end Go.Sx

namespace Go.Sx
def D4 (f:Int→Nat):LI→Nat
 |[]=>0
 |x::l=>f x+D4 f l
theorem sumL_add (f h:Int→Nat):∀l,D4 (λx=>f x+h x) l=D4 f l+D4 h l
 |[]=>rfl
 |x::l=>by simp only[D4];rw[sumL_add f h l];omega
theorem sumL_ge {f:Int→Nat}{c:Nat}:∀{l:LI},(∀x∈l,c≤f x)→c*l.length≤D4 f l
 |[],_=>by simp[D4]
 |x::l,h=>by
  have:=sumL_ge (l:=l) (λy hy=>h y (List.mem_cons_of_mem _ hy))
  have:=h x (by simp)
  simp only[D4,List.length_cons,Nat.mul_add];omega
theorem sumL_pair {a b:Int}:∀{l:LI},l.Nodup→D4 (λx=>if x∈[a,b] then 1 else 0) l≤(if a∈l then 1 else 0)+(if b∈l then 1 else 0)
 |[],_=>by simp[D4]
 |x::l,h=>by
  rw[List.nodup_cons] at h
  have ih:=sumL_pair (a:=a) (b:=b) h.2
  simp only[D4,List.mem_cons,List.not_mem_nil,or_false] at ih ⊢
  by_cases ha:x=a
  ·subst ha
   by_cases hb:x=b
   ·subst hb;simp[h.1] at ih ⊢;omega
   ·have hb':b≠x:=λe=>hb e.symm
    simp[h.1,hb'] at ih ⊢;exact ih
  ·by_cases hb:x=b
   ·subst hb
    have ha':a≠x:=λe=>ha e.symm
    simp[h.1,ha'] at ih ⊢;omega
   ·have ha':a≠x:=λe=>ha e.symm
    have hb':b≠x:=λe=>hb e.symm
    simp[ha,hb,ha',hb'] at ih ⊢;omega
theorem sumL_deg {ns:LI}(hn:ns.Nodup):∀(K:LL),(∀l∈K,∃a b:Int,l=[a,b])→D4 (λx=>K.countP λl=>decide (x∈l)) ns≤2*K.length
 |[],_=>by
  have:∀l:LI,D4 (λ_=>0) l=0:=λl=>by induction l with|nil=>rfl|cons x l ih=>simp only[D4,ih]
  simp[this]
 |l::K,h=>by
  have ih:=sumL_deg hn K (λx hx=>h x (List.mem_cons_of_mem _ hx))
  obtain⟨a,b,rfl⟩:=h l (by simp)
  have e:(λx=>([a,b]::K).countP λl=>decide (x∈l))=λx=>(K.countP λl=>decide (x∈l))+(if x∈[a,b] then 1 else 0):=by
   funext x;rw[List.countP_cons];simp
  rw[e,sumL_add]
  have h2:=sumL_pair (a:=a) (b:=b) hn
  simp only[List.length_cons]
  have:(if a∈ns then 1 else 0)+(if b∈ns then 1 else 0)≤2:=by split<;>split<;>omega
  omega
theorem Lk.mem_erase {K:LL}{l:LI}{x y z:Int}(h:Lk K x y)(hz:z∈l)(hx:x≠z)(hy:y≠z):Lk (K.erase l) x y:=by
 have key:∀p:LI,p∈K→z∉p→p∈K.erase l:=λp hp hn=>(List.mem_erase_of_ne (λe=>hn (by rw[e];exact hz))).2 hp
 rcases h with h|h
 ·exact .inl (key _ h (by simp;exact⟨λe=>hx e.symm,λe=>hy e.symm⟩))
 ·exact .inr (key _ h (by simp;exact⟨λe=>hy e.symm,λe=>hx e.symm⟩))
theorem Lk.of_erase {K:LL}{l:LI}{x y:Int}(h:Lk (K.erase l) x y):Lk K x y:=Or.elim h (λh=> .inl (List.mem_of_mem_erase h)) (λh=> .inr (List.mem_of_mem_erase h))
theorem tree_leaf {K:LL}{ns:LI}(hn:ns.Nodup)(h2:2≤ns.length)(hK:K.length+1=ns.length)(hc:Df K ns)(hl:∀l∈K,∃a b:Int,l=[a,b]∧a≠b∧a∈ns∧b∈ns):
  ∃z k l,z∈ns∧k∈ns∧k≠z∧l∈K∧(l=[z,k]∨l=[k,z])∧(∀p∈K.erase l,z∉p):=by
 obtain⟨z,hz,hd⟩:∃z∈ns,(K.countP λl=>decide (z∈l))≤1:=by
  apply Classical.byContradiction
  intro hcon
  have h1:=sumL_ge (f:=λx=>K.countP λl=>decide (x∈l)) (c:=2) (l:=ns) (λx hx=>by
   have:¬(K.countP λl=>decide (x∈l))≤1:=λh=>hcon ⟨x,hx,h⟩
   omega)
  have h2:=sumL_deg hn K (λl hll=>by obtain⟨a,b,e,_⟩:=hl l hll;exact⟨a,b,e⟩)
  omega
 obtain⟨l,hlK,hzl⟩:∃l∈K,z∈l:=by
  apply Classical.byContradiction
  intro hcon
  have hall:=(conn_iff.1 hc) (λx=>x=z) ⟨z,hz,rfl⟩ (λx y _ _ e hlk=>by
   subst e
   exfalso
   rcases hlk with h|h
   ·exact hcon ⟨_,h,by simp⟩
   ·exact hcon ⟨_,h,by simp⟩)
  have:=BM hn (m:=[z]) (λx hx=>by simp[hall x hx])
  simp at this;omega
 obtain⟨a,b,rfl,hab,ha,hb⟩:=hl l hlK
 have herase:∀p∈K.erase [a,b],z∉p:=λp hp hzp=>by
  have e:(K.countP λl=>decide (z∈l))=((K.erase [a,b]).countP λl=>decide (z∈l))+1:=by
   have:=(List.perm_cons_erase hlK).countP_eq (λl=>decide (z∈l))
   rw[this,List.countP_cons,if_pos (by simpa using hzl)]
  have:0<((K.erase [a,b]).countP λl=>decide (z∈l)):=List.countP_pos_iff.2 ⟨p,hp,by simpa using hzp⟩
  omega
 simp only[List.mem_cons,List.not_mem_nil,or_false] at hzl
 rcases hzl with rfl|rfl
 ·exact⟨z,b,[z,b],hz,hb,λe=>hab e.symm,hlK,.inl rfl,herase⟩
 ·exact⟨z,a,[a,z],hz,ha,hab,hlK,.inr rfl,herase⟩
theorem leaf_lk {K:LL}{z k y:Int}{l:LI}(hl:l=[z,k]∨l=[k,z])(he:∀p∈K.erase l,z∉p)(hy:y≠z)(h:Lk K z y):y=k:=by
 have key:∀p:LI,p∈K→z∈p→p=l:=λp hp hzp=>by
  apply Classical.byContradiction
  intro hne
  exact he p ((List.mem_erase_of_ne hne).2 hp) hzp
 rcases h with h|h
 ·have:=key _ h (by simp)
  rcases hl with rfl|rfl<;>simp at this
  ·exact this
  ·exact absurd this.2 hy
 ·have:=key _ h (by simp)
  rcases hl with rfl|rfl<;>simp at this
  ·exact absurd this.1 hy
  ·exact this
def Wy (ns:LI)(E:Int→Int→Prop)(W:Int→Int→Nat)(c:Nat)(p q:Int):Prop:=∀P:Int→Prop,(∀x y,x∈ns→y∈ns→P x→E x y→c≤W x y→P y)→P p→P q
theorem Wy.down {ns:LI}{E:Int→Int→Prop}{W:Int→Int→Nat}{c c':Nat}{p q:Int}(h:Wy ns E W c p q)(hc:c'≤c):Wy ns E W c' p q:=
 λP hP hp=>h P (λx y hx hy hPx hE hw=>hP x y hx hy hPx hE (Nat.le_trans hc hw)) hp
theorem Wy.trans {ns:LI}{E:Int→Int→Prop}{W:Int→Int→Nat}{c:Nat}{p q r:Int}(h:Wy ns E W c p q)(h':Wy ns E W c q r):Wy ns E W c p r:=λP hP hp=>h' P hP (h P hP hp)
theorem Wy.refl {ns:LI}{E:Int→Int→Prop}{W:Int→Int→Nat}{c:Nat}{p:Int}:Wy ns E W c p p:=λ_ _ hp=>hp
theorem Wy.one {ns:LI}{E:Int→Int→Prop}{W:Int→Int→Nat}{c:Nat}{p q:Int}(hp:p∈ns)(hq:q∈ns)(hE:E p q)(hw:c≤W p q):Wy ns E W c p q:=λ_ hP h=>hP p q hp hq h hE hw
def Hang (C:Int→Nat→Prop)(ns:LI)(E:Int→Int→Prop)(v:Nat):Prop:=∀T:Int→Prop,(∃x∈ns,C x v∧T x)→(∀x y,x∈ns→y∈ns→C x v→C y v→T x→E x y→T y)→∀x∈ns,C x v→T x
structure CT (C:Int→Nat→Prop)(n:Nat)(ns:LI)(K:LL):Prop where
 len:ns.length=n+1
 nd:ns.Nodup
 many:K.length=n
 conn:Df K ns
 lk:∀l∈K,∃a b:Int,l=[a,b]∧a≠b∧a∈ns∧b∈ns
 hang:∀v,Hang C ns (Lk K) v
theorem CT.leaf {C:Int→Nat→Prop}{n:Nat}{ns:LI}{K:LL}(h:CT C (n+1) ns K):
  ∃z k l,z∈ns∧k∈ns∧k≠z∧l∈K∧(l=[z,k]∨l=[k,z])∧CT C n (ns.erase z) (K.erase l)∧(∀x,x∈ns.erase z↔x∈ns∧x≠z)∧∀x∈ns,x≠z→∀u,C z u→C x u→C k u:=by
 obtain⟨hn,hnd,hK,hc,hl,hcn⟩:=h
 obtain⟨z,k,l,hz,hk,hkz,hlK,hlz,her⟩:=tree_leaf hnd (by omega) (by omega) hc hl
 have hzl:z∈l:=by rcases hlz with rfl|rfl<;>simp
 have hmem:∀x,x∈ns.erase z↔x∈ns∧x≠z:=λx=>by rw[hnd.mem_erase_iff];exact And.comm
 have hclose:∀(S:Int→Prop) (T:Int→Prop),(∀x y,x∈ns.erase z→y∈ns.erase z→S x→S y→T x→Lk (K.erase l) x y→T y)→
   ∀a b,a∈ns→b∈ns→S a→S b→(if a=z then T k else T a)→Lk K a b→if b=z then T k else T b:=λS T hcl a b ha hb hSa hSb hTa hlk=>by
  by_cases ea:a=z
  ·subst ea
   rw[if_pos rfl] at hTa
   by_cases eb:b=a
   ·rw[if_pos eb];exact hTa
   ·rw[if_neg eb,leaf_lk hlz her eb hlk];exact hTa
  ·rw[if_neg ea] at hTa
   by_cases eb:b=z
   ·subst eb
    rw[if_pos rfl,←leaf_lk hlz her ea hlk.symm];exact hTa
   ·rw[if_neg eb]
    exact hcl a b ((hmem a).2 ⟨ha,ea⟩) ((hmem b).2 ⟨hb,eb⟩) hSa hSb hTa (hlk.mem_erase hzl ea eb)
 refine⟨z,k,l,hz,hk,hkz,hlK,hlz,⟨by rw[List.length_erase_of_mem hz];omega,hnd.erase z,by rw[List.length_erase_of_mem hlK];omega,?_,λp hp=> ?_,λu T ⟨x0,hx0,hb0,hT⟩ hcl x hx hbx=> ?_⟩,hmem,λx hx hxz u hzu hxu=> ?_⟩
 ·refine conn_iff.2 λT ⟨x0,hx0,hT⟩ hcl x hx=> ?_
  obtain⟨h1,h2⟩:=(hmem x).1 hx
  obtain⟨h3,h4⟩:=(hmem x0).1 hx0
  have:=(conn_iff.1 hc) (λy=>if y=z then T k else T y) ⟨x0,h3,by rw[if_neg h4];exact hT⟩ (λa b ha hb hTa hlk=>hclose (λ_=>True) T (λx y hx hy _ _ h1 h2=>hcl x y hx hy h1 h2) a b ha hb trivial trivial hTa hlk) x h1
  rwa [if_neg h2] at this
 ·obtain⟨a,b,rfl,hab,ha,hb⟩:=hl p (List.mem_of_mem_erase hp)
  have hnz:=her _ hp
  simp only[List.mem_cons,List.not_mem_nil,or_false,not_or] at hnz
  exact⟨a,b,rfl,hab,(hmem a).2 ⟨ha,λe=>hnz.1 e.symm⟩,(hmem b).2 ⟨hb,λe=>hnz.2 e.symm⟩⟩
 ·obtain⟨h1,h2⟩:=(hmem x).1 hx
  obtain⟨h3,h4⟩:=(hmem x0).1 hx0
  have:=hcn u (λy=>if y=z then T k else T y) ⟨x0,h3,hb0,by rw[if_neg h4];exact hT⟩ (λa b ha hb hba hbb hTa hlk=>hclose (λy=>C y u) T hcl a b ha hb hba hbb hTa hlk) x h1 hbx
  rwa [if_neg h2] at this
 ·apply Classical.byContradiction
  intro hnk
  have:=hcn u (λy=>y=z) ⟨z,hz,hzu,rfl⟩ (λa b _ _ _ hb e hlk=>by
   subst e
   by_cases e:b=a
   ·exact e
   ·have:=leaf_lk hlz her e hlk
    subst this
    exact absurd hb hnk) x hx hxu
  exact hxz this
theorem CT.nested {C:Int→Nat→Prop}:∀{n:Nat} {ns:LI} {K:LL},CT C n ns K→∀{i j:Int},i∈ns→j∈ns→i≠j→(∀u,C i u→C j u)→∃a b,Lk K a b∧∀u,C a u→C b u
 |0,ns,K,h,i,j,hi,hj,hij,_=>by
  match ns,h.len with
  |[x],_=>
   simp at hi hj
   exact absurd (hi.trans hj.symm) hij
 |n+1,ns,K,h,i,j,hi,hj,hij,hs=>by
  obtain⟨z,k,l,hz,hk,hkz,hlK,hlz,h',hmem,hleaf⟩:=h.leaf
  have hlk:Lk K z k:=by rcases hlz with rfl|rfl;exact .inl hlK;exact .inr hlK
  have hof:(∃a b,Lk (K.erase l) a b∧∀u,C a u→C b u)→∃a b,Lk K a b∧∀u,C a u→C b u:=fun⟨a,b,h1,h2⟩=>⟨a,b,h1.of_erase,h2⟩
  by_cases ei:i=z
  ·subst ei
   exact⟨i,k,hlk,λu hu=>hleaf j hj (λe=>hij e.symm) u hu (hs u hu)⟩
  ·by_cases ej:j=z
   ·subst ej
    have hik:∀u,C i u→C k u:=λu hu=>hleaf i hi ei u (hs u hu) hu
    by_cases e:i=k
    ·subst e
     exact⟨i,j,hlk.symm,hs⟩
    ·exact hof (h'.nested ((hmem i).2 ⟨hi,ei⟩) ((hmem k).2 ⟨hk,hkz⟩) e hik)
   ·exact hof (h'.nested ((hmem i).2 ⟨hi,ei⟩) ((hmem j).2 ⟨hj,ej⟩) hij hs)
theorem heavy_tree (C:Int→Nat→Prop)(W:Int→Int→Nat)(top:Nat)(hsym:∀p q,W p q=W q p)(htop:∀p q,W p q≤top)
  (hmono:∀p q r s,(∀v,C p v→C q v→C r v∧C s v)→W p q≤W r s)
  (hstr:∀p q r s,(∀v,C p v→C q v→C r v∧C s v)→W r s≤W p q→∀v,C r v→C s v→C p v∧C q v):
  ∀(n:Nat) (ns:LI) (K:LL),CT C n ns K→∀E:Int→Int→Prop,(∀x y,E x y→E y x)→(∀p q,p∈ns→q∈ns→Wy ns E W (W p q) p q)→∀v,Hang C ns E v
 |0,ns,K,h,E,_,_,v=>by
  match ns,h.len with
  |[i],_=>
   intro T ⟨x,hx,_,hT⟩ _ y hy _
   obtain rfl:x=i:=by simpa using hx
   obtain rfl:y=x:=by simpa using hy
   exact hT
 |n+1,ns,K,hct,E,hE,hB,v=>by
  obtain⟨z,k,l,hz,hk,hkz,hlK,hlz,hct',hmem,hleaf⟩:=hct.leaf
  obtain⟨x1,hx1,hx1z,hEx1,hWx1⟩:∃x1∈ns,x1≠z∧E z x1∧W z k≤W z x1:=by
   apply Classical.byContradiction
   intro hno
   have:=hB z k hz hk (λy=>y=z) (λx y _ hy e hxy hw=>by
    subst e
    by_cases e:y=x
    ·exact e
    ·exact absurd ⟨y,hy,e,hxy,hw⟩ hno) rfl
   exact hkz this
  have hx1m:x1∈ns.erase z:=(hmem x1).2 ⟨hx1,hx1z⟩
  have hkx1:∀u,C z u→C k u→C x1 u:=λu h1 h2=>(hstr z x1 z k (λu h1 h2=>⟨h1,hleaf x1 hx1 hx1z u h1 h2⟩) hWx1 u h1 h2).2
  have hz1:∀x∈ns,x≠z→∀u,C z u→C x u→C x1 u:=λx hx hxz u h1 h2=>hkx1 u h1 (hleaf x hx hxz u h1 h2)
  have hW1:∀x∈ns,x≠z→W z x≤W x1 x:=λx hx hxz=>hmono z x x1 x (λu h1 h2=>⟨hz1 x hx hxz u h1 h2,h2⟩)
  let E1:Int→Int→Prop:=λa b=>E a b∨(a=x1∧E z b∧W x1 b≤W z b)∨(b=x1∧E z a∧W x1 a≤W z a)
  have hE1:∀x y,E1 x y→E1 y x:=λx y h=>by
   rcases h with h|h|h
   ·exact .inl (hE _ _ h)
   ·exact .inr (.inr h)
   ·exact .inr (.inl h)
  have key:∀(d c:Nat),c+d=top+1→∀p q,p∈ns→q∈ns→Wy ns E W c p q→∀p' q',(p'=if p=z then x1 else p)→(q'=if q=z then x1 else q)→Wy (ns.erase z) E1 W c p' q':=by
   intro d
   induction d with
   |zero=>
    intro c hc p q hp hq h p' q' ep eq
    have:=h (λy=>y=p) (λx y _ _ _ _ hw=>by have:=htop x y;omega) rfl
    subst this
    subst ep;subst eq
    exact Wy.refl
   |succ d ih=>
    intro c hc p q hp hq h p' q' ep eq
    subst ep;subst eq
    refine h (λy=>Wy (ns.erase z) E1 W c (if p=z then x1 else p) (if y=z then x1 else y)) (λx y hx hy hPx hxy hw=> ?_) Wy.refl
    refine hPx.trans ?_
    have hstep:∀b∈ns,b≠z→E z b→c≤W z b→Wy (ns.erase z) E1 W c x1 b:=λb hb hbz hzb hwb=>by
     have hle:=hW1 b hb hbz
     by_cases hk:W x1 b≤W z b
     ·exact Wy.one hx1m ((hmem b).2 ⟨hb,hbz⟩) (.inr (.inl ⟨rfl,hzb,hk⟩)) (by omega)
     ·have hgt:c+1≤W x1 b:=by omega
      have:=ih (c+1) (by omega) x1 b hx1 hb ((hB x1 b hx1 hb).down hgt) x1 b (by rw[if_neg hx1z]) (by rw[if_neg hbz])
      exact this.down (by omega)
    have hback:∀b∈ns,b≠z→E z b→c≤W z b→Wy (ns.erase z) E1 W c b x1:=λb hb hbz hzb hwb=>by
     have hle:=hW1 b hb hbz
     by_cases hk:W x1 b≤W z b
     ·exact Wy.one ((hmem b).2 ⟨hb,hbz⟩) hx1m (.inr (.inr ⟨rfl,hzb,hk⟩)) (by rw[hsym];omega)
     ·have hgt:c+1≤W b x1:=by rw[hsym];omega
      have:=ih (c+1) (by omega) b x1 hb hx1 ((hB b x1 hb hx1).down hgt) b x1 (by rw[if_neg hbz]) (by rw[if_neg hx1z])
      exact this.down (by omega)
    by_cases ex:x=z
    ·subst ex
     by_cases ey:y=x
     ·subst ey;exact Wy.refl
     ·rw[if_pos rfl,if_neg ey];exact hstep y hy ey hxy hw
    ·by_cases ey:y=z
     ·subst ey
      rw[if_neg ex,if_pos rfl];exact hback x hx ex (hE _ _ hxy) (by rw[hsym];exact hw)
     ·rw[if_neg ex,if_neg ey]
      exact Wy.one ((hmem x).2 ⟨hx,ex⟩) ((hmem y).2 ⟨hy,ey⟩) (.inl hxy) hw
  have hrec:=heavy_tree C W top hsym htop hmono hstr n (ns.erase z) (K.erase l) hct'
   E1 hE1
   (λp q hp hq=>by
    obtain⟨hp1,hp2⟩:=(hmem p).1 hp
    obtain⟨hq1,hq2⟩:=(hmem q).1 hq
    have ht:=htop p q
    exact key (top+1-W p q) (W p q) (by omega) p q hp1 hq1 (hB p q hp1 hq1) p q (by rw[if_neg hp2]) (by rw[if_neg hq2])) v
  intro T ⟨x0,hx0,hC0,hT0⟩ hcl x hx hCx
  by_cases hzv:C z v
  ·
   have hT1:∀a∈ns,a≠z→C a v→T z→T a:=λa ha haz hCa hTz=>by
    have hC1:=hz1 a ha haz v hzv hCa
    have hTx1:=hcl z x1 hz hx1 hzv hC1 hTz hEx1
    exact hrec T ⟨x1,hx1m,hC1,hTx1⟩ (λp q hp hq hCp hCq hTp hpq=>by
     obtain⟨hp1,hp2⟩:=(hmem p).1 hp
     obtain⟨hq1,hq2⟩:=(hmem q).1 hq
     rcases hpq with h|⟨rfl,h,_⟩|⟨rfl,h,_⟩
     ·exact hcl p q hp1 hq1 hCp hCq hTp h
     ·exact hcl z q hz hq1 hzv hCq hTz h
     ·exact hcl z q hz hq1 hzv hCq hTz hEx1) a ((hmem a).2 ⟨ha,haz⟩) hCa
   have hTz:T z:=by
    by_cases e0:x0=z
    ·rw[←e0];exact hT0
    ·have hC1:=hz1 x0 hx0 e0 v hzv hC0
     apply Classical.byContradiction
     intro hnz
     have:=hrec (λy=>T y) ⟨x0,(hmem x0).2 ⟨hx0,e0⟩,hC0,hT0⟩ (λp q hp hq hCp hCq hTp hpq=>by
      obtain⟨hp1,hp2⟩:=(hmem p).1 hp
      obtain⟨hq1,hq2⟩:=(hmem q).1 hq
      rcases hpq with h|⟨rfl,h,_⟩|⟨rfl,h,_⟩
      ·exact hcl p q hp1 hq1 hCp hCq hTp h
      ·exact absurd (hcl p z hp1 hz hCp hzv hTp (hE _ _ hEx1)) hnz
      ·exact absurd (hcl p z hp1 hz hCp hzv hTp (hE _ _ h)) hnz) x1 hx1m hC1
     exact hnz (hcl x1 z hx1 hz hC1 hzv this (hE _ _ hEx1))
   by_cases ex:x=z
   ·rw[ex];exact hTz
   ·exact hT1 x hx ex hCx hTz
  ·have ex:x≠z:=λe=>hzv (e▸hCx)
   have e0:x0≠z:=λe=>hzv (e▸hC0)
   refine hrec T ⟨x0,(hmem x0).2 ⟨hx0,e0⟩,hC0,hT0⟩ (λp q hp hq hCp hCq hTp hpq=> ?_) x ((hmem x).2 ⟨hx,ex⟩) hCx
   obtain⟨hp1,hp2⟩:=(hmem p).1 hp
   obtain⟨hq1,hq2⟩:=(hmem q).1 hq
   have hno:∀b∈ns,b≠z→C x1 v→C b v→W x1 b≤W z b→False:=λb hb hbz h1 h2 hw=>
    hzv (hstr z b x1 b (λu h1 h2=>⟨hz1 b hb hbz u h1 h2,h2⟩) hw v h1 h2).1
   rcases hpq with h|⟨rfl,h,hw⟩|⟨rfl,h,hw⟩
   ·exact hcl p q hp1 hq1 hCp hCq hTp h
   ·exact(hno q hq1 hq2 hCp hCq hw).elim
   ·exact(hno p hp1 hp2 hCq hCp hw).elim
def CI (f:Int→Nat):LI→Nat
 |[]=>0
 |x::l=>f x+CI f l
theorem isum_app (f:Int→Nat):∀l l',CI f (l++l')=CI f l+CI f l'
 |[],l'=>by simp[CI]
 |x::l,l'=>by simp only[List.cons_append,CI];rw[isum_app f l l'];omega
theorem FR (f:Int→Nat)(l:LI)(x:Int):CI f (l++[x])=CI f l+f x:=by rw[isum_app];simp[CI]
theorem isum_els (f:Int→Nat)(s:Int):∀n,CI f (els s n)=Cc (λv=>if has s v then f (v:Int) else 0) n
 |0=>rfl
 |n+1=>by
  rw[els_succ]
  simp only[Cc]
  rw[←isum_els f s n]
  cases has s n
  ·simp
  ·simp only[if_true];rw[FR]
theorem isum_elems (f:Int→Nat){s:Int}{n:Nat}(hn:n≤32)(h:∀v,has s v=true→v<n):CI f (An s)=Cc (λv=>if has s v then f (v:Int) else 0) n:=by
 rw[←FY hn h,isum_els]
theorem isum_le (f:Int→Nat)(b:Nat):∀(l:LI),(∀x∈l,f x≤b)→CI f l≤l.length*b
 |[],_=>by simp[CI]
 |x::l,h=>by
  have h1:=isum_le f b l (λy hy=>h y (List.mem_cons_of_mem _ hy))
  have h2:=h x (by simp)
  simp only[CI,List.length_cons,Nat.succ_mul]
  omega
theorem sum_bit (c:Bool)(p:Nat→Bool)(n:Nat):Cc (λw=>bit (c&&p w)) n=if c then Cc (λw=>bit (p w)) n else 0:=by
 cases c
 ·simp only[Bool.false_and];exact FX n
 ·simp
def mis (F:LI)(n:Nat)(S:Int):Nat:=S2 n (λu w=>has S u&&(has S w&&(decide (w<u)&& !nb F w u)))
theorem GG {F:LI}{n:Nat}{S:Int}(h16:n≤16)(h:FOk F n)(hS:VS S)(hlt:∀v,has S v=true→v<n):D.F0 F S=some (mis F n S:Int):=by
 have hel:=BF S
 have hf:∀(S':Int),(An S').length≤32:=BF
 have hb:∀i,CI (λu=>(An (iandNot .u32 (iandNot .u32 S (F.getD u.toNat 0)) (ishl .u32 1 u))).length) ((An S).take i)≤1024:=λi=>by
  have:=isum_le (λu=>(An (iandNot .u32 (iandNot .u32 S (F.getD u.toNat 0)) (ishl .u32 1 u))).length) 32 ((An S).take i) (λx _=>hf _)
  have h2:((An S).take i).length≤32:=by rw[List.length_take];omega
  have:=Nat.mul_le_mul_right 32 h2
  omega
 have hsum:CI (λu=>(An (iandNot .u32 (iandNot .u32 S (F.getD u.toNat 0)) (ishl .u32 1 u))).length) (An S)=2*mis F n S:=by
  rw[isum_elems _ (n:=n) (by omega) hlt]
  have e1:S2 n (λu w=>has S u&&(has S w&&(!nb F u w&&decide (w≠u))))=Cc (λv=>if has S v then(An (iandNot .u32 (iandNot .u32 S (F.getD v 0)) (ishl .u32 1 (v:Int)))).length else 0) n:=by
   unfold S2
   refine CK λu hu=> ?_
   rw[sum_bit]
   have hh:∀w,has (iandNot .u32 (iandNot .u32 S (F.getD u 0)) (ishl .u32 1 (u:Int))) w=(has S w&&(!nb F u w&&decide (w≠u))):=λw=>by
    rw[Bw (VS.iandNot _ _) (VS.ishl _ _),Bw hS (h.vs u hu),BY (by omega)]
    unfold nb
    by_cases e:w=u<;>simp[e]
   rw[elems_sum (n:=n) (by omega) (λv hv=>by rw[hh,Bool.and_eq_true] at hv;exact hlt v hv.1)]
   simp only[hh]
  have e2:(λv:Nat=>if has S v then(λu:Int=>(An (iandNot .u32 (iandNot .u32 S (F.getD u.toNat 0)) (ishl .u32 1 u))).length) (v:Int) else 0)=(λv:Nat=>if has S v then(An (iandNot .u32 (iandNot .u32 S (F.getD v 0)) (ishl .u32 1 (v:Int)))).length else 0):=by
   funext v;simp only[Int.toNat_natCast]
  rw[e2,←e1]
  rw[S2_half (n:=n) (A:=λu w=>has S u&&(has S w&&(!nb F u w&&decide (w≠u)))) (lt:=λu w=>decide (w<u)) ?_ ?_ ?_]
  ·congr 1
   unfold mis
   refine S2_congr λu w hu hw=> ?_
   have hsym:nb F u w=nb F w u:=by
    rw[Bool.eq_iff_iff]
    exact⟨h.sym u w hu,h.sym w u hw⟩
   rw[hsym]
   by_cases e:w<u
   ·have:decide (w≠u)=true:=by simp;omega
    simp[e,this]
   ·simp[e]
  ·intro u w hu hw
   have hsym:nb F u w=nb F w u:=by
    rw[Bool.eq_iff_iff]
    exact⟨h.sym u w hu,h.sym w u hw⟩
   rw[hsym]
   by_cases e:w=u
   ·subst e;rfl
   ·have e':¬u=w:=λx=>e x.symm
    cases has S u<;>cases has S w<;>simp[e,e']
  ·intro u w hu hw ha
   simp only[Bool.and_eq_true,decide_eq_true_eq] at ha ⊢
   omega
  ·intro u w hu hw h1 h2
   simp only[decide_eq_true_eq] at h1 h2
   omega
 unfold D.F0
 rw[DF S hS,bs]
 refine(B8 (λi=>(((CI (λu=>(An (iandNot .u32 (iandNot .u32 S (F.getD u.toNat 0)) (ishl .u32 1 u))).length) ((An S).take i):Nat):Int),(i:Int))) (An S).length ((CI (λu=>(An (iandNot .u32 (iandNot .u32 S (F.getD u.toNat 0)) (ishl .u32 1 u))).length) (An S):Nat):Int) (by simp[CI]) (λi hi=> ?_) ?_).trans ?_
 ·obtain⟨v,_,q1,q2⟩:=mem_elems.1 (List.getElem_mem hi)
  have hb1:=hb i
  have hb2:=hf (iandNot .u32 (iandNot .u32 S (F.getD v 0)) (ishl .u32 1 (v:Int)))
  rw[List.take_succ_eq_append_getElem hi,FR,q2]
  simp only[dlt hi,cond_true,AB hi,q2,bs,idx_F h (hlt v q1),Cy,size_eq (VS.iandNot _ _),wq i,Int.toNat_natCast]
  rw[w64 (by omega) (by omega)]
  rfl
 ·simp only[Bc,cond_false,List.take_length]
 ·have:=hb (An S).length
  rw[List.take_length,hsum] at this
  rw[hsum]
  congr 1
  rw[Int.tdiv_eq_ediv_of_nonneg (by omega)]
  have e:((2*mis F n S:Nat):Int)/2=(mis F n S:Int):=by omega
  rw[e,w64 (by omega) (by omega)]
theorem take_less {l:LI}(h:Inc l){i:Nat}(hi:i<l.length)(q:Int→Bool):(l.take i).filter q=l.filter (λy=>decide (y<l[i])&&q y):=by
 have e:=List.take_append_drop i l
 have h1:∀y∈l.take i,y<l[i]:=λy hy=>by
  obtain⟨k,hk,hki,rfl⟩:=mem_take_iff.1 hy
  exact(List.pairwise_iff_getElem.1 h) k i hk hi hki
 have h2:∀y∈l.drop i,¬y<l[i]:=λy hy=>by
  obtain⟨k,hk,rfl⟩:=List.getElem_of_mem hy
  rw[List.getElem_drop]
  rw[List.length_drop] at hk
  by_cases hk0:k=0
  ·subst hk0;simp
  ·have:=(List.pairwise_iff_getElem.1 h) i (i+k) hi (by omega) (by omega)
   omega
 have h3:l.filter (λy=>decide (y<l[i])&&q y)=(l.take i).filter (λy=>decide (y<l[i])&&q y)++(l.drop i).filter (λy=>decide (y<l[i])&&q y):=by
  rw[←List.filter_append,e]
 have h4:(l.drop i).filter (λy=>decide (y<l[i])&&q y)=[]:=List.filter_eq_nil_iff.2 (λy hy=>by simp[h2 y hy])
 rw[h3,h4,List.append_nil]
 exact List.filter_congr λy hy=>by simp[h1 y hy]
theorem Gz {F:LI}{n:Nat}{S:Int}(h1:1≤n)(h16:n≤16)(h:FOk F n)(hS:VS S)(hlt:∀v,has S v=true→v<n):D.s0 (grow F) (An S)=some (mis F n S:Int):=by
 have hel:=BF S
 have hG:=GOk.grow h h1 h16
 have hGl:(grow F).length=n:=by rw[grow_len,h.len]
 have hsum:CI (λx=>((An S).filter λy=>decide (y<x)&& !decide (x∈row (grow F) y.toNat)).length) (An S)=mis F n S:=by
  rw[isum_elems _ (n:=n) (by omega) hlt]
  unfold mis S2
  refine CK λu hu=> ?_
  rw[sum_bit]
  by_cases hu':has S u=true
  ·rw[if_pos hu',if_pos hu',Gv (n:=n) (by omega) hlt]
   refine CK λw hw=> ?_
   congr 2
   have e1:decide ((w:Int)<(u:Int))=decide (w<u):=by simp
   have e2:decide ((u:Int)∈row (grow F) ((w:Int).toNat))=nb F w u:=by
    rw[Bool.eq_iff_iff,decide_eq_true_eq,Int.toNat_natCast]
    exact EG h hw
   rw[e1,e2]
  ·rw[if_neg hu',if_neg hu']
 have hb:∀i,CI (λx=>((An S).filter λy=>decide (y<x)&& !decide (x∈row (grow F) y.toNat)).length) ((An S).take i)≤1024:=λi=>by
  have:=isum_le (λx=>((An S).filter λy=>decide (y<x)&& !decide (x∈row (grow F) y.toNat)).length) 32 ((An S).take i) (λx _=>Nat.le_trans (List.length_filter_le _ _) hel)
  have h2:((An S).take i).length≤32:=by rw[List.length_take];omega
  have:=Nat.mul_le_mul_right 32 h2
  omega
 unfold D.s0
 refine(B8 (λi=>(((CI (λx=>((An S).filter λy=>decide (y<x)&& !decide (x∈row (grow F) y.toNat)).length) ((An S).take i):Nat):Int),(i:Int))) (An S).length (mis F n S:Int) (by simp[CI]) (λi hi=> ?_) ?_).trans rfl
 ·obtain⟨u,_,q1,q2⟩:=mem_elems.1 (List.getElem_mem hi)
  have hb1:=hb i
  simp only[dlt hi,cond_true]
  refine(B8 (λk=>(((CI (λx=>((An S).filter λy=>decide (y<x)&& !decide (x∈row (grow F) y.toNat)).length) ((An S).take i)+(((An S).take k).filter (λy=> !decide ((An S)[i]∈row (grow F) y.toNat))).length:Nat):Int),(k:Int))) i ((CI (λx=>((An S).filter λy=>decide (y<x)&& !decide (x∈row (grow F) y.toNat)).length) ((An S).take (i+1)):Nat):Int) (by simp) (λk hk=> ?_) ?_).trans ?_
  ·have hkl:k<(An S).length:=by omega
   obtain⟨w,_,p1,p2⟩:=mem_elems.1 (List.getElem_mem hkl)
   have hlen:(((An S).take k).filter (λy=> !decide ((An S)[i]∈row (grow F) y.toNat))).length≤32:=Nat.le_trans (List.length_filter_le _ _) (by rw[List.length_take];omega)
   rw[List.take_succ_eq_append_getElem hkl,List.filter_append,List.length_append]
   simp only[dlt hk,cond_true,AB hkl,AB hi,p2,q2,bs,l1Edge_eq (grow F) hG (show w<(grow F).length by rw[hGl];exact hlt w p1),wq k,List.filter_cons,List.filter_nil,Int.toNat_natCast]
   rw[q2] at hlen
   by_cases hm:(u:Int)∈row (grow F) w
   ·simp only[hm,decide_true,Bool.not_true,cond_false,Bool.false_eq_true,if_false,List.length_nil,Nat.add_zero]
   ·simp only[hm,decide_false,Bool.not_false,cond_true,if_true,List.length_singleton]
    rw[w64 (by omega) (by omega)]
    rfl
  ·simp only[Bc,cond_false]
   rw[take_less (Bz S) hi,List.take_succ_eq_append_getElem hi,FR]
  ·rw[wq i]
 ·simp only[Bc,cond_false,List.take_length,hsum]
def cd (F:LI)(s v:Int):Int:=((An (iand .u32 (F.getD v.toNat 0) s)).length:Int)
def cf (n:Nat)(F:LI)(s v:Int):Int:=(mis F n (iand .u32 (F.getD v.toNat 0) s):Int)
section
variable {g : LL} (hg : GOk g)
include hg
theorem near_lt {F:LI}{s:Int}{v:Nat}(h:FOk F g.length)(hs:VS s)(hv:v<g.length):∀w,has (iand .u32 (F.getD v 0) s) w=true→w<g.length:=λw hw=>by
 rw[B6 (h.vs v hv) hs,Bool.and_eq_true] at hw
 exact h.lt v w hv hw.1
theorem OOk.shl {o:LI}(ho:OOk g o):Sh o:=ho.sh hg
end
theorem likeInts_self (x:LI)(h:Sh x):D.q1 x x=some true:=by
 unfold Sh at h
 unfold D.q1
 have e:((x.length:Int) !=(x.length:Int))=false:=by simp
 rw[e,cond_false]
 refine(B8 (λi=>(i:Int)) x.length (.inl ()) rfl (λi hi=> ?_) ?_).trans rfl
 ·simp only[dlt hi,cond_true,AB hi,bs,bne_self_eq_false,cond_false,wq i]
 ·simp only[Bc,cond_false]
end Go.Sx

namespace Go.Sx
theorem loop_first {ρ:Type}{step:Int→Option (Int ⊕ ρ)}(xs:LI)(p:Int→Bool)(mkr:Int→ρ)(fin:ρ)
  (hstep:∀i (h:i<xs.length),step (i:Int)=if p xs[i] then some (.inr (mkr xs[i])) else some (.inl ((i+1:Nat):Int))) (hend:step (xs.length:Int)=some (.inr fin)):
  Aq step 0=some (match xs.find? p with|some x=>mkr x|none=>fin):=by
 have key:∀(k i:Nat),i+k=xs.length→Aq step (i:Int)=some (match(xs.drop i).find? p with|some x=>mkr x|none=>fin):=by
  intro k
  induction k with
  |zero=>
   intro i hi
   obtain rfl:i=xs.length:=by omega
   rw[Be hend,List.drop_length];rfl
  |succ k ih=>
   intro i hi
   have hil:i<xs.length:=by omega
   rw[List.drop_eq_getElem_cons hil,List.find?_cons]
   by_cases hp:p xs[i]=true
   ·rw[Be (r:=mkr xs[i]) (by rw[hstep i hil,if_pos hp]),hp]
   ·rw[BB (s':=((i+1:Nat):Int)) (by rw[hstep i hil,if_neg hp]),ih (i+1) (by omega)]
    have:p xs[i]=false:=by simpa using hp
    rw[this]
 exact key xs.length 0 (by omega)
def okv (F:LI)(n:Nat)(s v:Int):Bool:=decide (mis F n (iand .u32 (F.getD v.toNat 0) s)=0)
def pk (F:LI)(n:Nat):Nat→Int→Option LI
 |0,_=>some []
 |k+1,s=>match(An s).find? (okv F n s) with
  |none=>none
  |some v=>(pk F n k (iandNot .u32 s (ishl .u32 1 v))).map (v::·)
theorem pk_len {F:LI}{n:Nat}:∀{k:Nat} {s:Int} {l:LI},pk F n k s=some l→l.length=k
 |0,s,l,h=>by simp[pk] at h;subst h;rfl
 |k+1,s,l,h=>by
  unfold pk at h
  split at h
  ·cases h
  ·rename_i v hv
   rw[Option.map_eq_some_iff] at h
   obtain⟨t,ht,rfl⟩:=h
   simp[pk_len ht]
section
variable {g : LL} (hg : GOk g)
include hg
theorem impl_pk :∀(k:Nat) (s:Int) (out:LI),SQ g.length s k→out.length+k≤1000000→
  Aq (σ:=LI×Int) (ρ:=(LI) ⊕ ((LI))) (fun(s_279:LI×Int)=>match s_279 with|(l_282,x_287)=>cond (x_287 !=0) ((D.l x_287).bind λy_425=>(Aq (σ:=Int) (ρ:=(Int)) (fun(x_487:Int)=>cond (decide (x_487<(y_425.length:Int))) ((idx y_425 x_487).bind λe_514=>(idx (g.map mk) e_514).bind λe_520=>(D.F0 (g.map mk) (iand .u32 e_520 x_287)).bind λy_526=>cond (y_526==0) (some (.inr e_514)) (some (.inl (IntKind.i64.wrap (x_487+1))))) (some (.inr (-1)))) 0).bind λx_511=>cond (decide (x_511<0)) (some (.inr (.inr ([]:LI)))) ((D.e x_511).bind λy_538=>(AS l_282 ([x_511]:LI)).bind λl_549=>some (.inl (l_549,(iandNot .u32 x_287 y_538))))) (some (.inr (.inl l_282)))) (out,s)=
  some (match pk (g.map mk) g.length k s with|none=> .inr []|some l=> .inl (out++l))
 |0,s,out,hs,_=>by
  rw[hs.z,Be (r:= .inl out) (by simp)];simp[pk]
 |k+1,s,out,hs,hk=>by
  have h16:=hg.n16
  have hnz:(s !=0)=true:=by simpa using hs.nz
  have hF:=FOk.of hg
  have hin:=loop_first (step:=fun(x_487:Int)=>cond (decide (x_487<((An s).length:Int))) ((idx (An s) x_487).bind λe_514=>(idx (g.map mk) e_514).bind λe_520=>(D.F0 (g.map mk) (iand .u32 e_520 s)).bind λy_526=>cond (y_526==0) (some (.inr e_514)) (some (.inl (IntKind.i64.wrap (x_487+1))))) (some (.inr (-1)))) (An s) (okv (g.map mk) g.length s) (λx=>x) (-1) (λi hi=>by
   have hel:=BF s
   obtain⟨v,_,h2,h3⟩:=mem_elems.1 (List.getElem_mem hi)
   have hvn:=hs.lt v h2
   have hidx:idx (g.map mk) (v:Int)=some ((g.map mk).getD v 0):=by rw[AB (by simpa using hvn),Az (by simpa using hvn)]
   simp only[dlt hi,cond_true,AB hi,bs,h3,hidx,GG h16 hF (VS.iand _ _) (λw hw=>near_lt hg hF hs.vs hvn w hw),wq i,okv,Int.toNat_natCast]
   by_cases hz:mis (g.map mk) g.length (iand .u32 ((g.map mk).getD v 0) s)=0
   ·have:((mis (g.map mk) g.length (iand .u32 ((g.map mk).getD v 0) s):Int)==0)=true:=by simpa using hz
    rw[this,cond_true,if_pos (decide_eq_true hz)]
   ·have:((mis (g.map mk) g.length (iand .u32 ((g.map mk).getD v 0) s):Int)==0)=false:=by simpa using hz
    rw[this,cond_false,if_neg (by simpa using hz)]) (by simp only[Bc,cond_false])
  unfold pk
  cases hf:(An s).find? (okv (g.map mk) g.length s) with
  |none=>
   rw[hf] at hin
   rw[Be (r:= .inr [])]
   simp only[hnz,cond_true,DF s hs.vs,bs,hin]
   rfl
  |some x=>
   rw[hf] at hin
   obtain⟨v,_,h2,rfl⟩:=mem_elems.1 (List.mem_of_find?_eq_some hf)
   have hn0:decide ((v:Int)<0)=false:=by simp
   rw[BB (s':=(out++[(v:Int)],iandNot .u32 s (ishl .u32 1 (v:Int))))]
   ·rw[impl_pk k _ (out++[(v:Int)]) (hs.rm h2) (by simp;omega)]
    cases hq:pk (g.map mk) g.length k (iandNot .u32 s (ishl .u32 1 (v:Int))) with
    |none=>simp[hq]
    |some l=>simp[hq]
   ·simp only[hnz,cond_true,DF s hs.vs,bs,hin,hn0,cond_false,Cy]
    rw[A9 (by simp;omega),bs]
theorem find_all {s:Int}{k:Nat}(hs:SQ g.length s k)(p:Int→Bool):((List.range g.length).map Int.ofNat).find? (λx=>has s x.toNat&&p x)=(An s).find? p:=by
 have h16:=hg.n16
 have e:=FY (s:=s) (n:=g.length) (by omega) hs.lt
 rw[←e]
 unfold els
 rw[List.find?_map,List.find?_map,List.find?_filter]
 congr 2
 funext a
 simp only[Function.comp]
 have:(Int.ofNat a).toNat=a:=by simp
 rw[this]
 cases has s a<;>simp
theorem spec_pk :∀(k:Nat) (s:Int) (out:LI),SQ g.length s k→out.length+k=g.length→
  Aq (σ:=(List Bool)×LI) (ρ:=(LI) ⊕ ((LI)×Bool)) (fun(s_529:(List Bool)×LI)=>match s_529 with|(l_532,l_535)=>(D.a g).bind λy_790=>cond (decide ((l_535.length:Int)<y_790)) ((Aq (σ:=Int) (ρ:=(Int)) (fun(x_903:Int)=>(D.a g).bind λy_956=>cond (decide (x_903<y_956)) ((idx l_532 x_903).bind λe_960=>cond e_960 (some (.inl (IntKind.i64.wrap (x_903+1)))) ((D.V g x_903 l_532).bind λy_970=>(D.h g y_970).bind λy_987=>cond (!y_987) (some (.inl (IntKind.i64.wrap (x_903+1)))) (some (.inr x_903)))) (some (.inr x_903))) 0).bind λx_954=>(D.a g).bind λy_1004=>cond (x_954==y_1004) (some (.inr (.inr (([]:LI),false)))) ((idx l_532 x_954).bind λe_1016=>(AS l_535 ([x_954]:LI)).bind λl_1026=>some (.inl ((l_532.set (Int.toNat x_954) true),l_1026)))) (some (.inr (.inl l_535)))) (Cm g.length s,out)=
  some (match pk (g.map mk) g.length k s with|none=> .inr ([],false)|some l=> .inl (out++l))
 |0,s,out,hs,hk=>by
  have e:decide ((out.length:Int)<(g.length:Int))=false:=by simp;omega
  rw[Be (r:= .inl out) (by unfold D.a;simp only[bs,e,cond_false])];simp[pk]
 |k+1,s,out,hs,hk=>by
  have h16:=hg.n16;have hn1:=hg.n1
  have hF:=FOk.of hg
  have hlt:decide ((out.length:Int)<(g.length:Int))=true:=by simp;omega
  have hin:=loop_first (step:=fun(x_903:Int)=>(D.a g).bind λy_956=>cond (decide (x_903<y_956)) ((idx (Cm g.length s) x_903).bind λe_960=>cond e_960 (some (.inl (IntKind.i64.wrap (x_903+1)))) ((D.V g x_903 (Cm g.length s)).bind λy_970=>(D.h g y_970).bind λy_987=>cond (!y_987) (some (.inl (IntKind.i64.wrap (x_903+1)))) (some (.inr x_903)))) (some (.inr x_903))) ((List.range g.length).map Int.ofNat) (λx=>has s x.toNat&&okv (g.map mk) g.length s x) (λx=>x) (g.length:Int) (λi hi=>by
   have hin:i<g.length:=by simpa using hi
   have hgi:((List.range g.length).map Int.ofNat)[i]=(i:Int):=by simp
   rw[hgi]
   unfold D.a
   simp only[bs,dlt hin,cond_true,goneOf_idx hin,Int.toNat_natCast,wq i]
   by_cases hh:has s i=true
   case neg=>
    have hh:has s i=false:=by simpa using hh
    simp[hh]
   case pos=>
    simp only[hh,Bool.not_true,cond_false,Bool.true_and]
    rw[FI g hg hin _ (by rw[Fs]),bs,lft_gone hg hs.vs hin]
    have hmis:=Gz hn1 h16 hF (VS.iand (mk (row g i)) s) (λw hw=>by
     have:=near_lt hg (v:=i) hF hs.vs hin w
     rw[Ek] at this
     exact this hw)
    rw[grow_of hg] at hmis
    unfold D.h
    rw[hmis]
    simp only[bs]
    have eo:okv (g.map mk) g.length s (i:Int)=decide (mis (g.map mk) g.length (iand .u32 (mk (row g i)) s)=0):=by
     unfold okv;rw[Int.toNat_natCast,Ek]
    rw[eo]
    by_cases hz:mis (g.map mk) g.length (iand .u32 (mk (row g i)) s)=0
    ·simp[hz]
    ·have:((mis (g.map mk) g.length (iand .u32 (mk (row g i)) s):Int)==0)=false:=by simpa using hz
     simp only[this,Bool.not_false,cond_true];simp[hz]) (by unfold D.a;simp)
  rw[find_all hg hs] at hin
  unfold pk
  cases hf:(An s).find? (okv (g.map mk) g.length s) with
  |none=>
   rw[hf] at hin
   rw[Be (r:= .inr ([],false))]
   unfold D.a at hin ⊢
   simp only[bs] at hin
   simp only[bs,hlt,cond_true,hin,beq_self_eq_true]
  |some x=>
   rw[hf] at hin
   obtain⟨v,_,h2,rfl⟩:=mem_elems.1 (List.mem_of_find?_eq_some hf)
   have hvn:=hs.lt v h2
   have hne:(((v:Nat):Int)==(g.length:Int))=false:=by simp;omega
   rw[BB (s':=(Cm g.length (iandNot .u32 s (ishl .u32 1 (v:Int))),out++[(v:Int)]))]
   ·rw[spec_pk k _ (out++[(v:Int)]) (hs.rm h2) (by simp;omega)]
    cases hq:pk (g.map mk) g.length k (iandNot .u32 s (ishl .u32 1 (v:Int))) with
    |none=>simp[hq]
    |some l=>simp[hq]
   ·unfold D.a at hin ⊢
    simp only[bs] at hin
    simp only[bs,hlt,cond_true,hin,hne,cond_false,goneOf_idx hvn,Int.toNat_natCast,goneOf_set hs.vs hvn (show g.length≤32 by omega)]
    rw[A9 (by simp;omega),bs]
theorem chordal_both :∃b,D.H0 g=some b∧D.T g=some b:=by
 have h16:=hg.n16;have hn1:=hg.n1
 refine⟨(pk (g.map mk) g.length g.length (full g.length)).isSome,?_,?_⟩
 ·unfold D.H0 D.K1
  have hlm:(g.map mk).length=g.length:=by simp
  obtain⟨s,e1,hs1,hs2⟩:=Ej (g.map mk) (by omega)
  have hsf:s=full g.length:=hs1.ext (Dr _) (λw _=>by rw[hs2,C7 h16,hlm])
  rw[CG g hg.sh2,Eg hg,bs,cond_true,DZ g hg,bs,e1,bs,hsf,impl_pk hg g.length (full g.length) [] (SQ.full h16) (by simp;omega),bs]
  cases hp:pk (g.map mk) g.length g.length (full g.length) with
  |none=>rfl
  |some l=>
   have:=pk_len hp
   cases l with
   |nil=>simp at this;omega
   |cons x t=>rfl
 ·unfold D.T D.w0
  rw[CD g hg.sh2,Eg hg,bs,Bool.not_true,cond_false]
  have:=spec_pk hg g.length (full g.length) [] (SQ.full h16) (by simp)
  unfold D.a at this ⊢
  simp only[bs] at this ⊢
  rw[DV (by omega) (by omega),bs,goneOf_full h16,this,bs]
  cases hp:pk (g.map mk) g.length g.length (full g.length) with
  |none=>rfl
  |some l=>rfl
end
end Go.Sx
