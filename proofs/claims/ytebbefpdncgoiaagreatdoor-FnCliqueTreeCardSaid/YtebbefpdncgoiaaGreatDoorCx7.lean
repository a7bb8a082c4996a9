/- Parts. -/
import Derived.Test.YtebbefpdncgoiaaGreatDoorCx6
import Derived.KernelRfl
set_option linter.unusedVariables false
set_option linter.unusedSimpArgs false
set_option linter.unusedSectionVars false
namespace Go.Sx
def cz :LI→LI→Int
 |[],[]=>0
 |[],_::_=> -1
 |_::_,[]=>1
 |a::x,b::y=>if a<b then-1 else if b<a then 1 else cz x y
theorem cz_range :∀x y,cz x y= -1∨cz x y=0∨cz x y=1
 |[],[]=> .inr (.inl rfl)
 |[],_::_=> .inl rfl
 |_::_,[]=> .inr (.inr rfl)
 |a::x,b::y=>by
  unfold cz
  split
  ·exact .inl rfl
  ·split
   ·exact .inr (.inr rfl)
   ·exact cz_range x y
theorem cmp_int (a b:Int):D.y a b=some (if a<b then-1 else if b<a then 1 else 0):=by
 unfold D.y D.m
 simp only[bne_self_eq_false,bs,cond_false]
 by_cases h:a<b
 ·simp[h]
 ·by_cases h2:b<a<;>simp[h,h2]
theorem compare_eq (x y:LI)(hx:Sh x)(hy:Sh y):D.v1 x y=some (cz x y):=by
 unfold Sh at hx hy
 unfold D.v1
 have key:∀(K:Unit ⊕ Int→Option Int),K (.inl ())=cond (decide ((x.length:Int)<(y.length:Int))) (some (-1)) (some 0)→(∀z,K (.inr z)=some z)→∀(k i:Nat),i+k=x.length→(i≤y.length)→(Aq (σ:=Int) (ρ:=(Unit) ⊕ (Int)) (fun(x_54:Int)=>cond (decide (x_54<(x.length:Int))) ((idx x x_54).bind λe_81=>cond (decide ((y.length:Int)≤x_54)) (some (.inr (.inr 1))) ((idx y x_54).bind λe_88=>(D.y e_81 e_88).bind λy_94=>cond (y_94 !=0) (some (.inr (.inr y_94))) (some (.inl (IntKind.i64.wrap (x_54+1)))))) (some (.inr (.inl ())))) (i:Int)).bind K=some (cz (x.drop i) (y.drop i)):=by
  intro K hK1 hK2 k
  induction k with
  |zero=>
   intro i hi hiy
   obtain rfl:i=x.length:=by omega
   rw[Be (r:=Sum.inl ()) (by simp only[Bc,cond_false])]
   simp only[bs,List.drop_length,hK1]
   by_cases h:x.length<y.length
   ·have e:decide ((x.length:Int)<(y.length:Int))=true:=by simp;omega
    rw[e,cond_true,List.drop_eq_getElem_cons h];rfl
   ·have e:decide ((x.length:Int)<(y.length:Int))=false:=by simp;omega
    rw[e,cond_false,List.drop_eq_nil_of_le (by omega)];rfl
  |succ k ih=>
   intro i hi hiy
   have hix:i<x.length:=by omega
   by_cases h:i<y.length
   ·have e:decide ((y.length:Int)≤(i:Int))=false:=by simp;omega
    rw[List.drop_eq_getElem_cons hix,List.drop_eq_getElem_cons h]
    by_cases h1:x[i]<y[i]
    ·rw[Be (r:=Sum.inr (-1)) (by simp only[dlt hix,cond_true,AB hix,AB h,bs,e,cond_false,cmp_int,h1,if_true];rfl),bs,hK2]
     simp[cz,h1]
    ·by_cases h2:y[i]<x[i]
     ·rw[Be (r:=Sum.inr 1) (by simp only[dlt hix,cond_true,AB hix,AB h,bs,e,cond_false,cmp_int,h1,h2,if_true,if_false];rfl),bs,hK2]
      simp[cz,h1,h2]
     ·rw[BB (s':=((i+1:Nat):Int)) (by simp only[dlt hix,cond_true,AB hix,AB h,bs,e,cond_false,cmp_int,h1,h2,if_false,wq i];rfl),ih (i+1) (by omega) (by omega)]
      simp[cz,h1,h2]
   ·obtain rfl:i=y.length:=by omega
    have e:decide ((y.length:Int)≤(y.length:Int))=true:=by simp
    rw[Be (r:=Sum.inr 1) (by simp only[dlt hix,cond_true,AB hix,bs,e]),bs,hK2]
    simp only[List.drop_length]
    rw[List.drop_eq_getElem_cons hix];rfl
 exact key _ rfl (λ_=>rfl) x.length 0 (by omega) (by omega)
def lk :Nat→LI→Int
 |0,_=>0
 |_+1,[]=>0
 |d+1,a::l=>(a+1)*33^d+lk d l
theorem pow33 (d:Nat):(1:Int)≤33^d:=by
 have:(0:Int)<33^d:=Int.pow_pos (by omega)
 omega
theorem EJ :∀(d:Nat) (l:LI),(∀x∈l,0≤x∧x<32)→0≤lk d l∧lk d l<33^d
 |0,l,_=>by simp[lk]
 |d+1,[],_=>by have:=pow33 (d+1);simp only[lk];omega
 |d+1,a::l,h=>by
  have h1:=EJ d l (λx hx=>h x (List.mem_cons_of_mem _ hx))
  have ha:=h a (by simp)
  have hp:=pow33 d
  simp only[lk]
  generalize hq:(33:Int)^d=p at*
  have e:(33:Int)^(d+1)=p*33:=by rw[←hq,Int.pow_succ]
  rw[e]
  have h2:(a+1)*p≤32*p:=Int.mul_le_mul_of_nonneg_right (by omega) (by omega)
  have h3:0≤(a+1)*p:=Int.mul_nonneg (by omega) (by omega)
  omega
theorem lk_cmp :∀(d:Nat) (x y:LI),x.length≤d→y.length≤d→(∀z∈x,0≤z∧z<32)→(∀z∈y,0≤z∧z<32)→(cz x y<0↔lk d x<lk d y)
 |d,[],[],_,_,_,_=>by cases d<;>simp[cz,lk]
 |0,_::_,_,h,_,_,_=>by simp at h
 |0,_,_::_,_,h,_,_=>by simp at h
 |d+1,[],b::y,_,h,_,hy=>by
  have h1:=EJ d y (λx hx=>hy x (List.mem_cons_of_mem _ hx))
  have hb:=hy b (by simp)
  have hp:=pow33 d
  simp only[cz,lk]
  have h3:1*(33:Int)^d≤(b+1)*33^d:=Int.mul_le_mul_of_nonneg_right (by omega) (by omega)
  constructor
  ·intro _;omega
  ·intro _;omega
 |d+1,a::x,[],h,_,hx,_=>by
  have h1:=EJ d x (λz hz=>hx z (List.mem_cons_of_mem _ hz))
  have ha:=hx a (by simp)
  have hp:=pow33 d
  simp only[cz,lk]
  have h3:1*(33:Int)^d≤(a+1)*33^d:=Int.mul_le_mul_of_nonneg_right (by omega) (by omega)
  constructor
  ·intro hc;omega
  ·intro hc;omega
 |d+1,a::x,b::y,hlx,hly,hx,hy=>by
  have ih:=lk_cmp d x y (by simpa using hlx) (by simpa using hly) (λz hz=>hx z (List.mem_cons_of_mem _ hz)) (λz hz=>hy z (List.mem_cons_of_mem _ hz))
  have h1:=EJ d x (λz hz=>hx z (List.mem_cons_of_mem _ hz))
  have h2:=EJ d y (λz hz=>hy z (List.mem_cons_of_mem _ hz))
  have hp:=pow33 d
  simp only[cz,lk]
  by_cases hab:a<b
  ·rw[if_pos hab]
   have h3:(a+1+1)*(33:Int)^d≤(b+1)*33^d:=Int.mul_le_mul_of_nonneg_right (by omega) (by omega)
   have h4:(a+1+1)*(33:Int)^d=(a+1)*33^d+33^d:=by rw[Int.add_mul (a+1) 1,Int.one_mul]
   constructor
   ·intro _;omega
   ·intro _;omega
  ·by_cases hba:b<a
   ·rw[if_neg hab,if_pos hba]
    have h3:(b+1+1)*(33:Int)^d≤(a+1)*33^d:=Int.mul_le_mul_of_nonneg_right (by omega) (by omega)
    have h4:(b+1+1)*(33:Int)^d=(b+1)*33^d+33^d:=by rw[Int.add_mul (b+1) 1,Int.one_mul]
    constructor
    ·intro hc;omega
    ·intro hc;omega
   ·rw[if_neg hab,if_neg hba]
    obtain rfl:a=b:=by omega
    rw[ih];omega
theorem cz_zero :∀x y,cz x y=0↔x=y
 |[],[]=>by simp[cz]
 |[],_::_=>by simp[cz]
 |_::_,[]=>by simp[cz]
 |a::x,b::y=>by
  unfold cz
  by_cases h:a<b
  ·simp[h];omega
  ·by_cases h2:b<a
   ·simp[h,h2];omega
   ·obtain rfl:a=b:=by omega
    simp[cz_zero x y]
theorem cz_anti :∀x y,cz y x= -cz x y
 |[],[]=>rfl
 |[],_::_=>rfl
 |_::_,[]=>rfl
 |a::x,b::y=>by
  unfold cz
  by_cases h:a<b
  ·have h2:¬b<a:=by omega
   simp[h,h2]
  ·by_cases h2:b<a
   ·simp[h,h2]
   ·simp[h,h2,cz_anti x y]
theorem lk_inj {d:Nat}{x y:LI}(hx:x.length≤d)(hy:y.length≤d)(h1:∀z∈x,0≤z∧z<32)(h2:∀z∈y,0≤z∧z<32)(h:lk d x=lk d y):x=y:=by
 have a:=lk_cmp d x y hx hy h1 h2
 have b:=lk_cmp d y x hy hx h2 h1
 rw[cz_anti x y] at b
 rw[←cz_zero]
 rcases cz_range x y with e|e|e<;>omega
theorem EX (s:Int):∀z∈An s,0≤z∧z<32:=λz hz=>by
 obtain⟨v,h1,_,rfl⟩:=mem_elems.1 hz;omega
def lkey (s:Int):Int:=lk 32 (An s)
theorem elems_inj {s t:Int}(hs:VS s)(ht:VS t)(h:An s=An t):s=t:=by rw[←EC hs,←EC ht,h]
theorem lkey_inj {s t:Int}(hs:VS s)(ht:VS t)(h:lkey s=lkey t):s=t:=
 elems_inj hs ht (lk_inj (BF s) (BF t) (EX s) (EX t) h)
theorem compareSets_eq {s t:Int}(hs:VS s)(ht:VS t):D.b s t=some (cz (An s) (An t)):=by
 unfold D.b
 rw[DF s hs,bs,DF t ht,bs,compare_eq _ _ (elems_sh s) (elems_sh t)]
 rfl
noncomputable abbrev byLex :Gs.Srtd Int where
 dflt:=0
 key:=lkey
 good:=VS
 cmp:=D.b
 law:=λs t hs ht=>⟨_,compareSets_eq hs ht,by rw[decide_eq_decide];exact lk_cmp 32 _ _ (BF s) (BF t) (EX s) (EX t)⟩
theorem Gq {k:Int→Int}:∀{l l':LI},l.Pairwise (λa b=>k a<k b)→l'.Pairwise (λa b=>k a<k b)→(∀x,x∈l↔x∈l')→l=l'
 |[],[],_,_,_=>rfl
 |[],y::l',_,_,h=>by have:=(h y).2 (by simp);simp at this
 |x::l,[],_,_,h=>by have:=(h x).1 (by simp);simp at this
 |x::l,y::l',h1,h2,h=>by
  have h1':=List.pairwise_cons.1 h1;have h2':=List.pairwise_cons.1 h2
  have e:x=y:=by
   rcases List.mem_cons.1 ((h x).1 (by simp)) with e|e
   ·exact e
   ·rcases List.mem_cons.1 ((h y).2 (by simp)) with e'|e'
    ·exact e'.symm
    ·have:=h2'.1 x e;have:=h1'.1 y e';omega
  subst e
  have:l=l':=by
   refine Gq h1'.2 h2'.2 (λz=> ?_)
   constructor
   ·intro hz
    rcases List.mem_cons.1 ((h z).1 (List.mem_cons_of_mem _ hz)) with e|e
    ·subst e;have:=h1'.1 z hz;omega
    ·exact e
   ·intro hz
    rcases List.mem_cons.1 ((h z).2 (List.mem_cons_of_mem _ hz)) with e|e
    ·subst e;have:=h2'.1 z hz;omega
    ·exact e
  rw[this]
theorem sorted_rise (I:Gs.Srtd Int)(hinj:∀x y,I.good x→I.good y→I.key x=I.key y→x=y)(l:LI)(hG:∀x∈l,I.good x)(hn:l.Nodup)(hlen:l.length≤1000000):
  ∃l',DG.Sort I.cmp l=some l'∧List.Perm l' l∧l'.Pairwise (λa b=>I.key a<I.key b):=by
 obtain⟨l',e,hp,hs⟩:= @Gs.sort_spec Int I l hG hlen
 refine⟨l',e,hp,?_⟩
 rw[List.pairwise_iff_getElem]
 intro i j hi hj hij
 have h:=hs i j (by omega) (by omega) (by omega)
 unfold Gs.at' Gs.el at h
 rw[Int.toNat_natCast,Int.toNat_natCast,Az hi,Az hj] at h
 have hne:l'[i]≠l'[j]:=λe=>by
  have hn':=hp.nodup_iff.2 hn
  have:=(List.nodup_iff_pairwise_ne.1 hn')
  exact(List.pairwise_iff_getElem.1 this) i j hi hj hij e
 have g1:=hG _ (hp.mem_iff.1 (List.getElem_mem hi))
 have g2:=hG _ (hp.mem_iff.1 (List.getElem_mem hj))
 have hk:I.key l'[i]≠I.key l'[j]:=λe=>hne (hinj _ _ g1 g2 e)
 omega
theorem Da :D.c2=DG.insertionSort D.b:=by kernel_rfl
theorem Du :D.D1=DG.heapSort D.b:=by kernel_rfl
theorem Db :D.G1=DG.breakPatterns D.b:=by kernel_rfl
theorem Dh :D.T1=DG.choosePivot D.b:=by kernel_rfl
theorem Dd :D.B1=DG.reverseRange D.b:=by kernel_rfl
theorem CM :D.L1=DG.partialInsertionSort D.b:=by kernel_rfl
theorem C8 :D.X1=DG.partitionEqual D.b:=by kernel_rfl
theorem Dq :D.Z1=DG.partition D.b:=by kernel_rfl
theorem Cw :∀(n:Nat) x a b c,D.f0 n x a b c=DG.pdqsortR D.b n x a b c
 |0,_,_,_,_=>rfl
 |n+1,x,a,b,c=>by
  unfold D.f0 DG.pdqsortR
  rw[Da,Du,Db,Dh,Dd,CM,C8,Dq,funext (λx=>funext λa=>funext λb=>funext λc=>Cw n x a b c)]
  kernel_rfl
theorem Eb (x):D.V0 x=DG.Sort D.b x:=by
 unfold D.V0 DG.Sort D.z DG.pdqsort
 simp only[Cw]
def CQ (F:LI)(K:Int):Prop:=∀u w,has K u=true→has K w=true→u≠w→nb F u w=true
def MX (F:LI)(n:Nat)(K:Int):Prop:=CQ F K∧∀w,w<n→has K w=false→∃u,has K u=true∧nb F u w=false
def In (n:Nat)(K:Int):Prop:=VS K∧∀w,has K w=true→w<n
structure Tgt (F:LI)(n:Nat)(C O K:Int):Prop where
 ok:In n K
 mx:MX F n K
 sup:∀w,has C w=true→has K w=true
 sub:∀w,has K w=true→has C w=true∨has O w=true
theorem In.lt {n:Nat}{K:Int}(h:In n K)(hn:n≤16):0≤K∧K<65536:=by
 obtain⟨m,rfl,hm⟩:=h.1.nat
 refine⟨by omega,?_⟩
 have:m<2^16:=by
  apply Nat.lt_pow_two_of_testBit
  intro i hi
  cases hc:m.testBit i
  ·rfl
  ·have:=h.2 i (by rw[Cp];exact hc)
   omega
 omega
theorem EZ {n:Nat}{l:LI}(hn:n≤16)(h:∀K∈l,In n K)(hd:l.Nodup):l.length≤65536:=by
 have:=BM (m:=(List.range 65536).map Int.ofNat) hd (λK hK=>by
  have:=(h K hK).lt hn
  exact List.mem_map.2 ⟨K.toNat,List.mem_range.2 (by omega),by show ((K.toNat:Nat):Int)=K;omega⟩)
 simpa using this
structure BK (F:LI)(n:Nat)(C O S:Int):Prop where
 c:In n C
 o:In n O
 s:In n S
 cq:CQ F C
 cn:∀w,w<n→((has O w=true∨has S w=true)↔∀u,has C u=true→nb F u w=true)
 dis:∀w,has O w=true→has S w=false
theorem BK.notin {F:LI}{n:Nat}{C O S:Int}(hF:FOk F n)(h:BK F n C O S){w:Nat}(hw:has O w=true):has C w=false:=by
 cases hc:has C w
 ·rfl
 ·have:=(h.cn w (h.o.2 w hw)).1 (.inl hw) w hc
  rw[hF.irr w (h.o.2 w hw)] at this;cases this
theorem grow_ok {F:LI}{n:Nat}(hn:n≤16)(hF:FOk F n):∀(fuel:Nat) (C O S:Int) (x4:LI),(An O).length<fuel→BK F n C O S→x4.Nodup→(∀K∈x4,In n K)→(∀K∈x4,¬Tgt F n C O K)→
  ∃y,D.n0 fuel F C O S x4=some y∧∃R,y=x4++R∧(x4++R).Nodup∧∀K,K∈R↔Tgt F n C O K
 |0,_,_,_,_,h,_,_,_,_=>by omega
 |fuel+1,C,O,S,x4,hf,hB,hd,hi,ht=>by
  have hlen:=hF.len
  have hx4:=EZ hn hi hd
  unfold D.n0
  by_cases hO:O=0
  ·subst hO
   have e0:((0:Int)==0)=true:=rfl
   rw[e0,cond_true]
   by_cases hS:S=0
   ·subst hS
    rw[e0,cond_true,A9 (by simp;omega)]
    have hT:Tgt F n C 0 C:=⟨hB.c,⟨hB.cq,λw hw hc=>by
     apply Classical.byContradiction
     intro hne
     have:=(hB.cn w hw).2 (λu hu=>by
      cases h:nb F u w
      ·exact absurd ⟨u,hu,h⟩ hne
      ·rfl)
     simp[BI] at this⟩,λw h=>h,λw h=> .inl h⟩
    refine⟨_,rfl,[C],rfl,?_,λK=> ?_⟩
    ·rw[List.nodup_append]
     refine⟨hd,by simp,λa ha b hb e=> ?_⟩
     rw[List.mem_singleton] at hb
     subst hb;subst e
     exact ht a ha hT
    ·rw[List.mem_singleton]
     constructor
     ·rintro rfl;exact hT
     ·intro h
      refine h.ok.1.ext hB.c.1 (λv _=> ?_)
      rw[Bool.eq_iff_iff]
      refine⟨λhv=> ?_,h.sup v⟩
      rcases h.sub v hv with h|h
      ·exact h
      ·rw[BI] at h;cases h
   ·have e1:(S==0)=false:=by simpa using hS
    rw[e1,cond_false]
    refine⟨_,rfl,[],by simp,by simpa using hd,λK=> ?_⟩
    simp only[List.not_mem_nil,false_iff]
    intro h
    have hK:K=C:=by
     refine h.ok.1.ext hB.c.1 (λv _=> ?_)
     rw[Bool.eq_iff_iff]
     refine⟨λhv=> ?_,h.sup v⟩
     rcases h.sub v hv with h|h
     ·exact h
     ·rw[BI] at h;cases h
    subst hK
    apply hS
    rw[hB.s.1.eq_zero]
    intro w hw
    cases hc:has S w
    ·rfl
    ·have hwn:=hB.s.2 w hc
     have hcn:=(hB.cn w hwn).1 (.inr hc)
     have hKw:has K w=false:=by
      cases hk:has K w
      ·rfl
      ·have:=hcn w hk
       rw[hF.irr w hwn] at this;cases this
     obtain⟨u,h1,h2⟩:=h.mx.2 w hwn hKw
     rw[hcn u h1] at h2;cases h2
  ·have e1:(O==0)=false:=by simpa using hO
   rw[e1,cond_false,DF O hB.o.1,bs]
   have hel:=BF O
   refine AP (λst=>∃i:Nat,st.2.2.2=(i:Int)∧i≤(An O).length∧VS st.1∧VS st.2.1∧(∀w:Nat,has st.1 w=(has O w&&decide ((w:Int)∉(An O).take i)))∧(∀w:Nat,has st.2.1 w=(has S w||decide ((w:Int)∈(An O).take i)))∧
     ∃R,st.2.2.1=x4++R∧(x4++R).Nodup∧∀K,K∈R↔Tgt F n C O K∧∃w:Nat,(w:Int)∈(An O).take i∧has K w=true) (λst=>(An O).length-st.2.2.2.toNat)
    (λr=>∃R,r=x4++R∧(x4++R).Nodup∧∀K,K∈R↔Tgt F n C O K) ?_ ⟨0,rfl,by omega,hB.o.1,hB.s.1,λw=>by simp,λw=>by simp,[],by simp,by simpa using hd,λK=>by simp⟩ (λr hr=>⟨r,rfl,hr⟩)
   rintro⟨o,s,acc,_⟩ ⟨i,rfl,hil,ho,hs,hho,hhs,R,rfl,hRn,hR⟩
   dsimp only at ho hs hho hhs hRn hR ⊢
   by_cases hlt:i<(An O).length
   ·obtain⟨v,hv32,hv1,hv2⟩:=mem_elems.1 (List.getElem_mem hlt)
    have hvn:=hB.o.2 v hv1
    have hvC:=hB.notin hF hv1
    have htk:∀w:Nat,((w:Int)∈(An O).take (i+1))↔((w:Int)∈(An O).take i∨w=v):=λw=>by
     rw[List.take_succ_eq_append_getElem hlt,List.mem_append,hv2];simp[Int.natCast_inj]
    have hvt:(v:Int)∉(An O).take i:=by rw[←hv2];exact nodup_iff.1 (Bz O).nodup i hlt
    have hle:∀w:Nat,(w:Int)∈(An O).take i→has O w=true:=λw hw=>(AQ hB.o.1).1 (List.mem_of_mem_take hw)
    simp only[dlt hlt,cond_true,AB hlt,hv2,bs,Cy,idx_F hF hvn]
    have hC':∀w,has (ior .u32 C (ishl .u32 1 (v:Int))) w=(has C w||decide (w=v)):=λw=>by rw[Cu hB.c.1 (VS.ishl _ _),BY hv32]
    have hO':∀w,has (iand .u32 o (F.getD v 0)) w=(has o w&&nb F v w):=λw=>B6 ho (hF.vs v hvn) w
    have hS':∀w,has (iand .u32 s (F.getD v 0)) w=(has s w&&nb F v w):=λw=>B6 hs (hF.vs v hvn) w
    have hB':BK F n (ior .u32 C (ishl .u32 1 (v:Int))) (iand .u32 o (F.getD v 0)) (iand .u32 s (F.getD v 0)):=by
     have hcnv:=(hB.cn v hvn).1 (.inl hv1)
     refine⟨⟨VS.ior _ _,λw hw=> ?_⟩,⟨VS.iand _ _,λw hw=> ?_⟩,⟨VS.iand _ _,λw hw=> ?_⟩,λu w hu hw huw=> ?_,λw hw=> ?_,λw hw=> ?_⟩
     ·rw[hC',Bool.or_eq_true,decide_eq_true_eq] at hw
      rcases hw with h|rfl
      ·exact hB.c.2 w h
      ·exact hvn
     ·rw[hO',Bool.and_eq_true] at hw;exact hF.lt v w hvn hw.2
     ·rw[hS',Bool.and_eq_true] at hw;exact hF.lt v w hvn hw.2
     ·rw[hC',Bool.or_eq_true,decide_eq_true_eq] at hu hw
      rcases hu with hu|rfl
      ·rcases hw with hw|rfl
       ·exact hB.cq u w hu hw huw
       ·exact hcnv u hu
      ·rcases hw with hw|rfl
       ·exact hF.sym w u (hB.c.2 w hw) (hcnv w hw)
       ·exact absurd rfl huw
     ·rw[hO',hS',hho,hhs]
      simp only[Bool.and_eq_true,Bool.or_eq_true,decide_eq_true_eq]
      constructor
      ·intro h u hu
       rw[hC',Bool.or_eq_true,decide_eq_true_eq] at hu
       have hos:has O w=true∨has S w=true:=by
        rcases h with⟨⟨h,_⟩,_⟩|⟨h|h,_⟩
        ·exact .inl h
        ·exact .inr h
        ·exact .inl (hle w h)
       have hvw:nb F v w=true:=by rcases h with⟨_,h⟩|⟨_,h⟩<;>exact h
       rcases hu with hu|rfl
       ·exact(hB.cn w hw).1 hos u hu
       ·exact hvw
      ·intro h
       have hvw:nb F v w=true:=h v (by rw[hC'];simp)
       have hos:=(hB.cn w hw).2 (λu hu=>h u (by rw[hC',hu];rfl))
       by_cases hm:(w:Int)∈(An O).take i
       ·exact .inr ⟨.inr hm,hvw⟩
       ·rcases hos with hos|hos
        ·exact .inl ⟨⟨hos,hm⟩,hvw⟩
        ·exact .inr ⟨.inl hos,hvw⟩
     ·rw[hO',hho] at hw
      simp only[Bool.and_eq_true,decide_eq_true_eq] at hw
      rw[hS',hhs,hB.dis w hw.1.1,decide_eq_false hw.1.2];rfl
    have hfu:(An (iand .u32 o (F.getD v 0))).length<fuel:=by
     have h1:((v:Int)::An (iand .u32 o (F.getD v 0))).length≤(An O).length:=by
      refine BM (List.nodup_cons.2 ⟨λhc=> ?_,(Bz _).nodup⟩) (λx hx=> ?_)
      ·rw[AQ (VS.iand _ _),hO',hF.irr v hvn] at hc;simp at hc
      ·rcases List.mem_cons.1 hx with rfl|hx
       ·exact(AQ hB.o.1).2 hv1
       ·obtain⟨w,_,h2,rfl⟩:=mem_elems.1 hx
        rw[hO',hho] at h2
        simp only[Bool.and_eq_true] at h2
        exact(AQ hB.o.1).2 h2.1.1
     rw[List.length_cons] at h1;omega
    have hsubT:∀K,Tgt F n (ior .u32 C (ishl .u32 1 (v:Int))) (iand .u32 o (F.getD v 0)) K→Tgt F n C O K∧has K v=true∧∀w:Nat,(w:Int)∈(An O).take i→has K w=false:=λK hK=>by
     refine⟨⟨hK.ok,hK.mx,λw hw=>hK.sup w (by rw[hC',hw];rfl),λw hw=> ?_⟩,hK.sup v (by rw[hC'];simp),λw hw=> ?_⟩
     ·rcases hK.sub w hw with h|h
      ·rw[hC',Bool.or_eq_true,decide_eq_true_eq] at h
       rcases h with h|rfl
       ·exact .inl h
       ·exact .inr hv1
      ·rw[hO',hho] at h
       simp only[Bool.and_eq_true] at h
       exact .inr h.1.1
     ·cases hk:has K w
      ·rfl
      ·exfalso
       rcases hK.sub w hk with h|h
       ·rw[hC',Bool.or_eq_true,decide_eq_true_eq] at h
        rcases h with h|rfl
        ·rw[hB.notin hF (hle w hw)] at h;cases h
        ·exact hvt hw
       ·rw[hO',hho] at h
        simp only[Bool.and_eq_true,decide_eq_true_eq] at h
        exact h.1.2 hw
    have hRi:∀K∈x4++R,In n K:=λK hK=>by
     rcases List.mem_append.1 hK with h|h
     ·exact hi K h
     ·exact((hR K).1 h).1.ok
    obtain⟨y,e2,R2,rfl,hn2,hm2⟩:=grow_ok hn hF fuel _ _ _ (x4++R) hfu hB' hRn hRi (λK hK hT=>by
     obtain⟨k1,k2,k3⟩:=hsubT K hT
     rcases List.mem_append.1 hK with h|h
     ·exact ht K h k1
     ·obtain⟨_,w,hw1,hw2⟩:=(hR K).1 h
      rw[k3 w hw1] at hw2;cases hw2)
    rw[e2,bs,wq i]
    refine⟨_,rfl,⟨i+1,rfl,by omega,VS.iandNot _ _,VS.ior _ _,λw=> ?_,λw=> ?_,R++R2,by rw[List.append_assoc],by rw[←List.append_assoc];exact hn2,λK=> ?_⟩,by dsimp only;omega⟩
    ·dsimp only
     rw[Bw ho (VS.ishl _ _),BY hv32,hho]
     have:decide ((w:Int)∉(An O).take (i+1))=(decide ((w:Int)∉(An O).take i)&& !decide (w=v)):=by
      rw[Bool.eq_iff_iff];simp only[decide_eq_true_eq,Bool.and_eq_true,Bool.not_eq_true',decide_eq_false_iff_not,htk,not_or]
     rw[this,Bool.and_assoc]
    ·dsimp only
     rw[Cu hs (VS.ishl _ _),BY hv32,hhs]
     have:decide ((w:Int)∈(An O).take (i+1))=(decide ((w:Int)∈(An O).take i)||decide (w=v)):=by
      rw[Bool.eq_iff_iff];simp only[decide_eq_true_eq,Bool.or_eq_true,htk]
     rw[this,Bool.or_assoc]
    ·rw[List.mem_append,hR,hm2]
     constructor
     ·rintro(⟨h1,w,hw1,hw2⟩|h)
      ·exact⟨h1,w,(htk w).2 (.inl hw1),hw2⟩
      ·obtain⟨k1,k2,_⟩:=hsubT K h
       exact⟨k1,v,(htk v).2 (.inr rfl),k2⟩
     ·rintro⟨h1,w,hw1,hw2⟩
      by_cases hex:∃w:Nat,(w:Int)∈(An O).take i∧has K w=true
      ·exact .inl ⟨h1,hex⟩
      ·right
       have hno:∀w:Nat,(w:Int)∈(An O).take i→has K w=false:=λw hw=>by
        cases hk:has K w
        ·rfl
        ·exact absurd ⟨w,hw,hk⟩ hex
       have hKv:has K v=true:=by
        rcases(htk w).1 hw1 with h|rfl
        ·rw[hno w h] at hw2;cases hw2
        ·exact hw2
       refine⟨h1.ok,h1.mx,λu hu=> ?_,λu hu=> ?_⟩
       ·rw[hC',Bool.or_eq_true,decide_eq_true_eq] at hu
        rcases hu with hu|rfl
        ·exact h1.sup u hu
        ·exact hKv
       ·rw[hC',hO',hho]
        simp only[Bool.or_eq_true,Bool.and_eq_true,decide_eq_true_eq]
        by_cases huv:u=v
        ·exact .inl (.inr huv)
        ·rcases h1.sub u hu with h|h
         ·exact .inl (.inl h)
         ·refine .inr ⟨⟨h,λhm=> ?_⟩,h1.mx.1 v u hKv hu (λe=>huv e.symm)⟩
          rw[hno u hm] at hu;cases hu
   ·obtain rfl:i=(An O).length:=by omega
    simp only[Bc,cond_false]
    refine⟨_,rfl,R,rfl,hRn,λK=> ?_⟩
    rw[hR,List.take_length]
    constructor
    ·exact λh=>h.1
    ·intro h
     refine⟨h,?_⟩
     obtain⟨b,hb32,hb1,hb2,_⟩:=least_spec hB.o.1 hO
     have hbn:=hB.o.2 b hb1
     apply Classical.byContradiction
     intro hne
     have hKC:∀w,has K w=true→has C w=true:=λw hw=>by
      rcases h.sub w hw with h|h
      ·exact h
      ·exact absurd ⟨w,(AQ hB.o.1).2 h,hw⟩ hne
     have hKb:has K b=false:=by
      cases hk:has K b
      ·rfl
      ·have:=hB.notin hF hb1
       rw[hKC b hk] at this;cases this
     obtain⟨u,h1,h2⟩:=h.mx.2 b hbn hKb
     have:=(hB.cn b hbn).1 (.inl hb1) u (hKC u h1)
     rw[this] at h2;cases h2
theorem recFuel_33 :33≤Cf:=by have:=E6;omega
theorem cliquesOf_ok {F:LI}{n:Nat}(h1:1≤n)(hn:n≤16)(hF:FOk F n):∃l,D.t0 F=some l∧l.Pairwise (λa b=>lkey a<lkey b)∧∀K,K∈l↔In n K∧MX F n K:=by
 have hlen:=hF.len
 unfold D.t0 D.B
 rw[nets_all_full,bs,hlen]
 have hel:=BF (full n)
 have h33:=recFuel_33
 obtain⟨y,e,R,hy,hd,hR⟩:=grow_ok hn hF Cf 0 (full n) 0 [] (by omega) ⟨⟨VS.zero,λw hw=>by rw[BI] at hw;cases hw⟩,⟨Dr n,λw hw=>by rw[C7 hn] at hw;exact of_decide_eq_true hw⟩,⟨VS.zero,λw hw=>by rw[BI] at hw;cases hw⟩,
  λu w hu=>(by rw[BI] at hu;cases hu),λw hw=>⟨λ_ u hu=>(by rw[BI] at hu;cases hu),λ_=> .inl (by rw[C7 hn];exact decide_eq_true hw)⟩,λw _=>BI w⟩ (by simp) (by simp) (by simp)
 rw[List.nil_append] at hd hy
 subst hy
 have hT:∀K,Tgt F n 0 (full n) K↔In n K∧MX F n K:=λK=>⟨λh=>⟨h.ok,h.mx⟩,fun⟨h1,h2⟩=>⟨h1,h2,λw hw=>(by rw[BI] at hw;cases hw),λw hw=> .inr (by rw[C7 hn];exact decide_eq_true (h1.2 w hw))⟩⟩
 rw[e,bs,Eb]
 obtain⟨l',e2,hp,hs⟩:=sorted_rise byLex (λx y=>lkey_inj) y (λK hK=>((hT K).1 ((hR K).1 hK)).1.1) hd (by
  have:=EZ hn (λK hK=>((hT K).1 ((hR K).1 hK)).1) hd
  omega)
 refine⟨l',by rw[show DG.Sort D.b y=some l' from e2];rfl,hs,λK=> ?_⟩
 rw[hp.mem_iff,hR,hT]
theorem Ev {k:Int→Int}{l:LI}(h:l.Pairwise (λa b=>k a<k b)):l.Nodup:=List.Pairwise.imp (λh e=>by subst e;omega) h
theorem iand255 (a:Int):0≤iand .i64 a 255∧iand .i64 a 255≤255:=by
 have e:(BitVec.ofInt 64 255).toNat=255:=rfl
 have h:(BitVec.ofInt 64 a&&&BitVec.ofInt 64 255).toNat≤255:=by
  rw[BitVec.toNat_and,e];exact Nat.and_le_right
 have e2:iand .i64 a 255=(((BitVec.ofInt 64 a&&&BitVec.ofInt 64 255).toNat:Nat):Int):=by
  show IntKind.i64.wrap (((BitVec.ofInt 64 a&&&BitVec.ofInt 64 255).toNat:Nat):Int)=_
  exact w64 (by omega) (by omega)
 rw[e2];omega
theorem new_ok (code:LI)(h:∀x∈code,0≤x∧x≤255)(hl:code.length≤4096):∃z,D.r1 code=some (code,0,z)∧DK code 0:=by
 unfold D.r1
 refine⟨_,(loop_listb code (λs i=>(s,i)) (λs e=>iand .i64 (IntKind.i64.wrap ((IntKind.i64.wrap ((IntKind.i64.wrap (s*331))+(IntKind.i64.wrap e)))+11)) 1073741823) (λs=>s) (λ_=>True) _ trivial (λs i hi _=>⟨?_,trivial⟩) (λs _=> ?_)).trans rfl,h,hl,by omega,by omega⟩
 ·simp only[dlt hi,cond_true,AB hi,bs,wq i]
 ·simp only[Bc,cond_false]
def Dw {α:Type}(b:LI)(P:α→Prop)(e:Option (α×LI×Int×Int)):Prop:=∃y,e=some y∧(P y.1∧y.2.1=b∧DK b y.2.2.1)
theorem Dw.then {α β:Type}{b:LI}{P:α→Prop}{e:Option (α×LI×Int×Int)}{k:α×LI×Int×Int→Option β}{Q:β→Prop}(h:Dw b P e)
  (hk:∀a i z,P a→DK b i→∃y,k (a,b,i,z)=some y∧Q y):∃y,e.bind k=some y∧Q y:=by
 obtain⟨⟨a,b',i,z⟩,rfl,h1,h2,h3⟩:=h
 dsimp only at h1 h2 h3
 subst h2
 exact hk a i z h1 h3
theorem Fi {b:LI}{i:Int}(h:DK b i)(z:Int):Dw b (λr=>0≤r∧r≤255) (D.C b i z):=by
 obtain⟨h1,h2,h3,h4⟩:=h
 unfold D.C
 by_cases hi:i<b.length
 ·simp only[hi,decide_true,cond_true,E7 h3 hi,bs]
  rw[w64 (x:=i+1) (by omega) (by omega)]
  exact⟨_,rfl,iand255 _,rfl,h1,h2,by dsimp only;omega,by dsimp only;omega⟩
 ·simp only[hi,decide_false,cond_false]
  exact⟨_,rfl,iand255 _,rfl,h1,h2,h3,h4⟩
theorem EI {b:LI}{i:Int}(h:DK b i)(z n:Int):Dw b (λr=>0≤r∧(0<n→r<n)) (D.d b i z n):=by
 unfold D.d
 by_cases h0:n≤0
 ·simp only[h0,decide_true,cond_true]
  exact⟨_,rfl,⟨by dsimp only;omega,λ_=>by omega⟩,rfl,h⟩
 ·have hn0:(n==0)=false:=by simp;omega
  simp only[h0,decide_false,cond_false,hn0]
  by_cases h1:n≤256
  ·simp only[h1,decide_true,cond_true]
   refine(Fi h z).then λr i1 z1 hr hk=> ?_
   have:=tmod_rng (x:=r) (n:=n) hr.1 (by omega)
   exact⟨_,rfl,⟨this.1,λ_=>this.2⟩,rfl,hk⟩
  ·simp only[h1,decide_false,cond_false]
   refine(Fi h z).then λr i1 z1 hr hk=> ?_
   refine(Fi hk z1).then λr2 i2 z2 hr2 hk=> ?_
   refine(Fi hk z2).then λr3 i3 z3 hr3 hk=> ?_
   refine(Fi hk z3).then λr4 i4 z4 hr4 hk=> ?_
   dsimp only
   rw[w64 (x:=r*16777216) (by omega) (by omega),w64 (x:=r2*65536) (by omega) (by omega),w64 (x:=r3*256) (by omega) (by omega),w64 (x:=r*16777216+r2*65536) (by omega) (by omega),w64 (x:=r*16777216+r2*65536+r3*256) (by omega) (by omega),w64 (x:=r*16777216+r2*65536+r3*256+r4) (by omega) (by omega)]
   have:=tmod_rng (x:=r*16777216+r2*65536+r3*256+r4) (n:=n) (by omega) (by omega)
   exact⟨_,rfl,⟨this.1,λ_=>this.2⟩,rfl,hk⟩
theorem Ct {b:LI}{i:Int}(h:DK b i)(z n:Int)(hn:0<n):Dw b (λr=>0≤r∧r<n) (D.d b i z n):=by
 obtain⟨y,e,h1,h2⟩:=EI h z n
 exact⟨y,e,⟨h1.1,h1.2 hn⟩,h2⟩
theorem Fh {b:LI}{i:Int}(h:DK b i)(z n:Int):Dw b (λ_:Bool=>True) (D.v b i z n):=by
 unfold D.v
 exact(EI h z n).then λr i1 z1 _ hk=>⟨_,rfl,trivial,rfl,hk⟩
theorem from_dw {b:LI}{i:Int}(h:DK b i)(z m n:Int):Dw b (λ_:Int=>True) (D.d1 b i z m n):=by
 unfold D.d1
 exact(EI h z _).then λr i1 z1 _ hk=>⟨_,rfl,trivial,rfl,hk⟩
theorem odd_dw {b:LI}{i:Int}(h:DK b i)(z:Int):Dw b (λ_:Int=>True) (D.l1 b i z):=by
 unfold D.l1
 refine(Ct h z 10 (by omega)).then λr i1 z1 hr hk=> ?_
 rw[E7 hr.1 (by simpa using hr.2),bs]
 exact⟨_,rfl,trivial,rfl,hk⟩
theorem min_ok (a b:Int):∃m,D.k0 a b=some m:=by
 unfold D.k0
 by_cases h:a<b
 ·exact⟨a,by simp[h]⟩
 ·exact⟨b,by simp[h]⟩
theorem num_dw {b:LI}{i:Int}(h:DK b i)(z n:Int):Dw b (λ_:Int=>True) (D.o0 b i z n):=by
 unfold D.o0
 refine(Fh h z 10).then λr i1 z1 _ hk=> ?_
 dsimp only
 cases r
 ·simp only[cond_false]
  refine(Fh hk z1 2).then λr i1 z1 _ hk=> ?_
  dsimp only
  cases r
  ·simp only[cond_false]
   exact(EI hk z1 _).then λr i1 z1 _ hk=>⟨_,rfl,trivial,rfl,hk⟩
  ·obtain⟨m,e⟩:=min_ok n 4
   simp only[cond_true,e,bs]
   exact(EI hk z1 _).then λr i1 z1 _ hk=>⟨_,rfl,trivial,rfl,hk⟩
 ·simp only[cond_true]
  refine(odd_dw hk z1).then λq i1 z1 _ hk=> ?_
  refine(Ct hk z1 4 (by omega)).then λr i1 z1 hr hk=> ?_
  dsimp only
  rw[E7 hr.1 (by simpa using hr.2),bs]
  exact⟨_,rfl,trivial,rfl,hk⟩
theorem Fl (n:Nat)(hn:n≤100):D.U (n:Int)=some (List.replicate n []):=by
 unfold D.U
 refine(B8 (λi=>((i:Int),List.replicate i [])) n (List.replicate n []) (by simp) (λi hi=> ?_) ?_).trans rfl
 ·simp only[dlt hi,cond_true,wq i]
  rw[A9 (by simp;omega),bs,←List.replicate_succ']
 ·simp only[Bc,cond_false]
theorem FL :D.j0=D.q:=rfl
theorem Of_deep (n:Nat)(h1:1≤n)(h16:n≤16):D.X0 (n:Int)=some (List.replicate n [],true):=by
 unfold D.X0
 have e1:(decide ((1:Int)≤(n:Int))&&decide ((n:Int)≤16))=true:=by simp;omega
 rw[Ff,bs,e1,Bool.not_true,cond_false,Fl n (by omega)];rfl
theorem Path_deep (n:Nat)(h1:1≤n)(h16:n≤16):∃y,D.x0 (n:Int)=some y∧(GOk y.1∧y.1.length=n∧y.2=true):=by
 unfold D.x0
 rw[Of_deep n h1 h16,bs]
 simp only[Bool.and_true]
 refine AP (λs=>∃v:Nat,s.1=(v:Int)∧1≤v∧v≤n∧GOk s.2∧s.2.length=n) (λs=>n-s.1.toNat) (λr=>GOk r∧r.length=n) ?_ ⟨1,rfl,by omega,h1,GOk.empty h1 h16,by simp⟩ ?_
 ·rintro⟨_,l⟩ ⟨v,rfl,hv1,hvn,hg,hl⟩
  dsimp only at hg hl ⊢
  by_cases hv:v<n
  ·obtain⟨g',k1,k2,k3,_⟩:=ET hg (u:=v-1) (v:=v) (by omega) (by omega) (by omega)
   have e:IntKind.i64.wrap ((v:Int)-1)=((v-1:Nat):Int):=by rw[w64 (by omega) (by omega)];omega
   simp only[dlt hv,cond_true,e,FL,k1,bs,wq v]
   exact⟨_,rfl,⟨v+1,rfl,by omega,by omega,k2,by dsimp only;omega⟩,by dsimp only;omega⟩
  ·obtain rfl:v=n:=by omega
   simp only[Bc,cond_false]
   exact⟨_,rfl,hg,hl⟩
 ·rintro r ⟨hg,hl⟩
  exact⟨_,rfl,hg,hl,rfl⟩
theorem Loop_deep (n:Nat)(h1:3≤n)(h16:n≤16):∃y,D.e1 (n:Int)=some y∧(GOk y.1∧y.1.length=n):=by
 unfold D.e1
 refine BO _ (Path_deep n (by omega) h16) ?_
 rintro⟨g,t⟩ ⟨hg,hl,rfl⟩
 dsimp only at hg hl ⊢
 have e3:decide ((n:Int)<3)=false:=by simp;omega
 obtain⟨g',k1,k2,k3,_⟩:=ET hg (u:=0) (v:=n-1) (by omega) (by omega) (by omega)
 have e:IntKind.i64.wrap ((n:Int)-1)=((n-1:Nat):Int):=by rw[w64 (by omega) (by omega)];omega
 rw[show ((0:Nat):Int)=0 from rfl] at k1
 simp only[Bool.not_true,Bool.false_or,e3,cond_false,FL,e,k1,bs]
 exact⟨_,rfl,k2,by dsimp only;omega⟩
theorem DrawOf_deep {b:LI}{i:Int}(h:DK b i)(z:Int)(n:Nat)(h1:1≤n)(h16:n≤16):Dw b (λg=>GOk g∧g.length=n) (D.x1 b i z (n:Int)):=by
 unfold D.x1
 rw[Fl n (by omega),bs]
 refine(Ct h z 3 (by omega)).then λq i0 z0 hq k2=> ?_
 dsimp only
 refine AP (λs=>∃v:Nat,s.1=(v:Int)∧1≤v∧v≤n∧s.2.1=b∧DK b s.2.2.1∧GOk s.2.2.2.2∧s.2.2.2.2.length=n) (λs=>n-s.1.toNat)
  (λr=>r.2.1=b∧DK b r.2.2.1∧GOk r.1∧r.1.length=n) ?_ ⟨1,rfl,by omega,h1,rfl,k2,GOk.empty h1 h16,by simp⟩ ?_
 ·rintro⟨_,b2,i,z,g⟩ ⟨v,rfl,g1,g2,rfl,hk,hg,hl⟩
  dsimp only at hk hg hl ⊢
  by_cases hv:v<n
  ·simp only[dlt hv,cond_true]
   refine AP (λs=>∃u:Nat,s.1=(u:Int)∧u≤v∧s.2.1=b2∧DK b2 s.2.2.1∧GOk s.2.2.2.2∧s.2.2.2.2.length=n) (λs=>v-s.1.toNat)
    (λr=>r.1=b2∧DK b2 r.2.1∧GOk r.2.2.2∧r.2.2.2.length=n) ?_ ⟨0,rfl,by omega,rfl,hk,hg,hl⟩ ?_
   ·rintro⟨_,b2,i,z,g⟩ ⟨u,rfl,g3,rfl,hk,hg,hl⟩
    dsimp only at hk hg hl ⊢
    by_cases hu:u<v
    ·simp only[dlt hu,cond_true]
     refine(Ct hk z 4 (by omega)).then λt i3 z3 ht hk'=> ?_
     dsimp only
     by_cases hc:t<IntKind.i64.wrap (1+q)
     ·obtain⟨g',k1,k3,k4,_⟩:=ET hg (u:=u) (v:=v) (by omega) (by omega) (by omega)
      simp only[hc,decide_true,cond_true,FL,k1,bs,wq u]
      exact⟨_,rfl,⟨u+1,rfl,by omega,rfl,hk',k3,by dsimp only;omega⟩,by dsimp only;omega⟩
     ·simp only[hc,decide_false,cond_false,wq u]
      exact⟨_,rfl,⟨u+1,rfl,by omega,rfl,hk',hg,hl⟩,by dsimp only;omega⟩
    ·obtain rfl:u=v:=by omega
     simp only[Bc,cond_false]
     exact⟨_,rfl,rfl,hk,hg,hl⟩
   ·rintro⟨b2,i3,z3,g⟩ ⟨rfl,hk',hg',hl'⟩
    dsimp only at hk' hg' hl' ⊢
    simp only[wq v]
    exact⟨_,rfl,⟨v+1,rfl,by omega,by omega,rfl,hk',hg',hl'⟩,by dsimp only;omega⟩
  ·obtain rfl:v=n:=by omega
   simp only[Bc,cond_false]
   exact⟨_,rfl,rfl,hk,hg,hl⟩
 ·rintro⟨g,b2,i3,z3⟩ ⟨rfl,hk,hg,hl⟩
  exact⟨_,rfl,⟨hg,hl⟩,rfl,hk⟩
theorem Draw_deep {b:LI}{i:Int}(h:DK b i)(z:Int):Dw b (λg=>GOk g∧g.length≤7) (D.S0 b i z):=by
 unfold D.S0
 refine(Ct h z 6 (by omega)).then λq i0 z0 hq hk=> ?_
 dsimp only
 by_cases h0:q=0
 ·have e0:(q==0)=true:=by simp[h0]
  simp only[e0,cond_true]
  refine(Ct hk z0 4 (by omega)).then λr i1 z1 hr hk=> ?_
  dsimp only
  have e:IntKind.i64.wrap (3+r)=((3+r.toNat:Nat):Int):=by rw[w64 (by omega) (by omega)];omega
  rw[e]
  refine BO _ (Loop_deep (3+r.toNat) (by omega) (by omega)) ?_
  rintro⟨g,t⟩ ⟨hg,hl⟩
  exact⟨_,rfl,⟨hg,by dsimp only at hl ⊢;omega⟩,rfl,hk⟩
 ·have e0:(q==0)=false:=by simp[h0]
  simp only[e0,cond_false]
  by_cases h1:q=1
  ·have e1:(q==1)=true:=by simp[h1]
   simp only[e1,cond_true]
   refine(Ct hk z0 6 (by omega)).then λr i1 z1 hr hk=> ?_
   dsimp only
   have e:IntKind.i64.wrap (1+r)=((1+r.toNat:Nat):Int):=by rw[w64 (by omega) (by omega)];omega
   rw[e]
   refine BO _ (Path_deep (1+r.toNat) (by omega) (by omega)) ?_
   rintro⟨g,t⟩ ⟨hg,hl,_⟩
   exact⟨_,rfl,⟨hg,by dsimp only at hl ⊢;omega⟩,rfl,hk⟩
  ·have e1:(q==1)=false:=by simp[h1]
   simp only[e1,cond_false]
   refine(Ct hk z0 7 (by omega)).then λr i1 z1 hr hk=> ?_
   dsimp only
   have e:IntKind.i64.wrap (1+r)=((1+r.toNat:Nat):Int):=by rw[w64 (by omega) (by omega)];omega
   rw[e]
   refine(DrawOf_deep hk z1 (1+r.toNat) (by omega) (by omega)).then λg i2 z2 hg hk=> ?_
   exact⟨_,rfl,⟨hg.1,by have:=hg.2;dsimp only;omega⟩,rfl,hk⟩
def Few (g:LL):Prop:=g.length≤17∧∀r∈g,r.length≤17
theorem Few.sh2 {g:LL}(h:Few g):Sh2 g:=⟨by have:=h.1;unfold Sh;omega,λr hr=>by have:=h.2 r hr;unfold Sh;omega⟩
theorem GOk.few {g:LL}(hg:GOk g):Few g:=by
 have h16:=hg.n16
 exact⟨by omega,λr hr=>by have:=(hg.mem0 hr).1;omega⟩
theorem Few.set {g:LL}(h:Few g)(k:Nat){r:LI}(hr:r.length≤17):Few (g.set k r):=by
 refine⟨by have:=h.1;simpa using this,λx hx=> ?_⟩
 rcases List.mem_or_eq_of_mem_set hx with hx|rfl
 ·exact h.2 x hx
 ·exact hr
theorem DrawAny_dw {b:LI}{i:Int}(h:DK b i)(z:Int):Dw b Few (D.I0 b i z):=by
 unfold D.I0
 refine(Draw_deep h z).then λg i0 z0 hg hk=> ?_
 have hn1:=hg.1.n1
 have hf:=hg.1.few
 refine(Fh hk z0 12).then λt i1 z1 _ hk=> ?_
 dsimp only
 cases t
 ·exact⟨_,rfl,hf,rfl,hk⟩
 ·simp only[cond_true]
  refine(Ct hk z1 g.length (by omega)).then λv i2 z2 hv hk=> ?_
  refine(Ct hk z2 5 (by omega)).then λq i3 z3 hq hk=> ?_
  dsimp only
  have hrow:=E7 (xs:=g) hv.1 hv.2
  have hmem:g[v.toNat]'(by omega)∈g:=List.getElem_mem _
  have hrl:=(hg.1.mem0 hmem).1
  rcases(show q=0∨q=1∨q=2∨q=3∨q=4 by omega) with rfl|rfl|rfl|rfl|rfl
  ·simp only[hrow,bs,show ((0:Int)==0)=true from rfl,cond_true]
   refine BO (λy=>Few y.1∧y.2.1=b∧DK b y.2.2.1) ?_ (λy hy=>⟨_,rfl,hy⟩)
   refine(num_dw hk z3 16).then λw i4 z4 _ hk=> ?_
   dsimp only
   rw[A9 (by simp;omega),bs]
   exact⟨_,rfl,hf.set _ (by simp;omega),rfl,hk⟩
  ·simp only[hrow,bs,show ((1:Int)==0)=false from rfl,show ((1:Int)==1)=true from rfl,cond_true,cond_false]
   exact⟨_,rfl,hf.set _ (by simp),rfl,hk⟩
  ·simp only[show ((2:Int)==0)=false from rfl,show ((2:Int)==1)=false from rfl,show ((2:Int)==2)=true from rfl,cond_true,cond_false]
   refine(Ct hk z3 2 (by omega)).then λw i4 z4 hw hk=> ?_
   dsimp only
   have e:IntKind.i64.wrap (16+w)=((16+w.toNat:Nat):Int):=by rw[w64 (by omega) (by omega)];omega
   rw[e,Fl _ (by omega),bs]
   exact⟨_,rfl,⟨by simp;omega,λr hr=>by have:=List.eq_of_mem_replicate hr;subst this;simp⟩,rfl,hk⟩
  ·simp only[show ((3:Int)==0)=false from rfl,show ((3:Int)==1)=false from rfl,show ((3:Int)==2)=false from rfl,show ((3:Int)==3)=true from rfl,cond_true,cond_false]
   exact⟨_,rfl,⟨by simp,by simp⟩,rfl,hk⟩
  ·simp only[hrow,bs,show ((4:Int)==0)=false from rfl,show ((4:Int)==1)=false from rfl,show ((4:Int)==2)=false from rfl,show ((4:Int)==3)=false from rfl,show ((4:Int)==4)=true from rfl,cond_true,cond_false]
   exact⟨_,rfl,hf.set _ (by simp),rfl,hk⟩
theorem DrawOrder_dw {b:LI}{i:Int}(h:DK b i)(z:Int){g:LL}(hg:Few g):Dw b (λo:LI=>o.length≤17) (D.i0 b i z g):=by
 have hgl:=hg.1
 unfold D.i0
 rw[l1All_eq g.length (by omega),bs]
 refine AP (λs=>s.1.length+s.2.1.length=g.length∧s.2.2.1=b∧DK b s.2.2.2.1) (λs=>s.1.length) (λr=>r.1.length≤17∧r.2.1=b∧DK b r.2.2.1) ?_ ⟨by simp,rfl,h⟩ ?_
 ·rintro⟨l,o,b2,i,z⟩ ⟨hl,rfl,hk⟩
  dsimp only at hl hk ⊢
  by_cases h0:0<l.length
  ·have e:decide ((0:Int)<(l.length:Int))=true:=by simp;omega
   simp only[e,cond_true]
   refine(Ct hk z l.length (by omega)).then λv i2 z2 hv hk=> ?_
   dsimp only
   obtain⟨k,rfl⟩:∃k:Nat,v=k:=⟨v.toNat,by omega⟩
   have hkl:k<l.length:=by omega
   rw[AB hkl,bs,A9 (by simp;omega),bs,Et (by omega),bs,wq k,E5 (by omega),bs,
    DE _ (show Sh (l.take k) by unfold Sh;rw[List.length_take];omega),bs,A9 (by simp;omega),bs]
   refine⟨_,rfl,⟨by simp;omega,rfl,hk⟩,by simp;omega⟩
  ·have e:decide ((0:Int)<(l.length:Int))=false:=decide_eq_false (by omega)
   simp only[e,cond_false]
   exact⟨_,rfl,by dsimp only;omega,rfl,hk⟩
 ·rintro⟨o,b2,i2,z2⟩ ⟨ho,rfl,hk⟩
  dsimp only at ho hk ⊢
  refine(Fh hk z2 15).then λt i3 z3 _ hk=> ?_
  dsimp only
  by_cases hc:(t&&decide ((0:Int)<(o.length:Int)))=true
  ·rw[hc,cond_true]
   have h0:0<o.length:=by simp at hc;omega
   refine(Ct hk z3 o.length (by omega)).then λv i4 z4 hv hk=> ?_
   refine(from_dw hk z4 (-1) 7).then λw i5 z5 _ hk=> ?_
   dsimp only
   rw[E7 hv.1 hv.2,bs]
   exact⟨_,rfl,by simpa using ho,rfl,hk⟩
  ·rw[Bool.not_eq_true] at hc
   rw[hc,cond_false]
   exact⟨_,rfl,ho,rfl,hk⟩
theorem elems_mk {n:Nat}{x:LI}(hn:n≤16)(hi:Inc x)(hr:∀z∈x,0≤z∧z<n):An (mk x)=x:=by
 have h32:∀z∈x,0≤z∧z<32:=λz hz=>by have:=hr z hz;omega
 refine Inc.ext (Bz _) hi (λz=> ?_)
 rw[mem_elems]
 constructor
 ·rintro⟨v,_,h,rfl⟩
  rw[CJ h32] at h
  exact of_decide_eq_true h
 ·intro hz
  have:=h32 z hz
  refine⟨z.toNat,by omega,?_,by omega⟩
  rw[CJ h32,show ((z.toNat:Nat):Int)=z by omega]
  exact decide_eq_true hz
theorem cz_app :∀s a b:LI,cz (s++a) (s++b)=cz a b
 |[],_,_=>rfl
 |c::s,a,b=>by
  rw[List.cons_append,List.cons_append,cz,if_neg (by omega),if_neg (by omega),cz_app s a b]
theorem cz_head {a b:Int}(x y:LI)(h:a<b):cz (a::x) (b::y)<0:=by
 rw[cz,if_pos h];decide
theorem cz_nodup {L:LL}(h:L.Pairwise λa b=>cz a b<0):L.Nodup:=List.Pairwise.imp (λh e=>by
 subst e
 rw[(cz_zero _ _).2 rfl] at h;omega) h
def Cq (g:LL)(x:LI):Prop:=∀u w:Nat,(u:Int)∈x→(w:Int)∈x→u≠w→adj g u w
structure Fin' (g:LL)(x:LI):Prop where
 inc:Inc x
 rng:∀z∈x,0≤z∧z<g.length
 cq:Cq g x
 mx:∀w,w<g.length→∃u:Nat,(u:Int)∈x∧¬adj g u w
def Sol (g:LL)(set left x:LI):Prop:=∃y,x=set++y∧(∀z∈y,z∈left)∧Fin' g x
structure SK (g:LL)(set left out:LI):Prop where
 inc:Inc (set++left)
 r1:∀z∈set++left,0≤z∧z<g.length
 r2:∀z∈out,0≤z∧z<g.length
 cq:Cq g set
 cn:∀w:Nat,w<g.length→(((w:Int)∈left∨(w:Int)∈out)↔∀u:Nat,(u:Int)∈set→adj g u w)
 len:out.length+left.length≤16
theorem inc_len {n:Nat}{x:LI}(hi:Inc x)(hr:∀z∈x,0≤z∧z<n):x.length≤n:=by
 have:=BM (m:=(List.range n).map Int.ofNat) hi.nodup (λz hz=>by
  have:=hr z hz
  exact List.mem_map.2 ⟨z.toNat,List.mem_range.2 (by omega),by show ((z.toNat:Nat):Int)=z;omega⟩)
 simpa using this
theorem sols_len {g:LL}(hn:g.length≤16){L:LL}(h:∀x∈L,Fin' g x)(hp:L.Pairwise λa b=>cz a b<0):L.length≤65536:=by
 have h1:(L.map mk).Nodup:=by
  unfold List.Nodup
  rw[List.pairwise_map]
  refine List.Pairwise.imp_of_mem (fun{a b} ha hb hab e=>hab ?_) (cz_nodup hp)
  rw[←elems_mk hn (h a ha).inc (h a ha).rng,←elems_mk hn (h b hb).inc (h b hb).rng,e]
 have h2:=EZ (n:=g.length) (l:=L.map mk) hn (λK hK=>by
  obtain⟨x,hx,rfl⟩:=List.mem_map.1 hK
  refine⟨VS.mk _,λw hw=> ?_⟩
  rw[CJ (λz hz=>by have:=(h x hx).rng z hz;omega)] at hw
  have:=(h x hx).rng _ (of_decide_eq_true hw)
  omega) h1
 simpa using h2
theorem SK.next {g:LL}(hg:GOk g){set left out:LI}(h:SK g set left out){i v:Nat}(hi:i<left.length)(hv:left[i]=(v:Int)):
  SK g (set++[(v:Int)]) ((left.drop (i+1)).filter λx=>decide (x∈row g v)) ((out++left.take i).filter λx=>decide (x∈row g v))∧
  (∀x,Sol g (set++[(v:Int)]) ((left.drop (i+1)).filter λx=>decide (x∈row g v)) x↔∃y,x=set++(v:Int)::y∧(∀z∈y,z∈left)∧Fin' g x):=by
 have hvm:(v:Int)∈left:=by rw[←hv];exact List.getElem_mem hi
 have hvr:=h.r1 _ (List.mem_append.2 (.inr hvm))
 have hvn:v<g.length:=by omega
 have hinc:=List.pairwise_append.1 h.inc
 have hsplit:left=left.take i++(v:Int)::left.drop (i+1):=by
  rw[←hv,List.getElem_cons_drop,List.take_append_drop]
 have hdrop:∀z,z∈left.drop (i+1)↔z∈left∧(v:Int)<z:=λz=>by
  have h2:=hinc.2.1
  rw[hsplit] at h2
  have h3:=List.pairwise_append.1 h2
  have h4:=List.pairwise_cons.1 h3.2.1
  constructor
  ·intro hz
   exact⟨List.mem_of_mem_drop hz,h4.1 z hz⟩
  ·rintro⟨h5,h6⟩
   rw[hsplit] at h5
   rcases List.mem_append.1 h5 with h5|h5
   ·have:=h3.2.2 z h5 (v:Int) (by simp);omega
   ·rcases List.mem_cons.1 h5 with rfl|h5
    ·omega
    ·exact h5
 refine⟨⟨?_,?_,?_,?_,?_,?_⟩,λx=> ?_⟩
 ·rw[List.append_assoc]
  refine List.pairwise_append.2 ⟨hinc.1,?_,λa ha b hb=> ?_⟩
  ·rw[List.singleton_append]
   refine List.pairwise_cons.2 ⟨λz hz=>((hdrop z).1 (List.mem_filter.1 hz).1).2,?_⟩
   exact List.Pairwise.filter _ (List.Pairwise.sublist (List.drop_sublist _ _) hinc.2.1)
  ·refine hinc.2.2 a ha b ?_
   rw[List.singleton_append] at hb
   rcases List.mem_cons.1 hb with rfl|hb
   ·exact hvm
   ·exact((hdrop b).1 (List.mem_filter.1 hb).1).1
 ·intro z hz
  rcases List.mem_append.1 hz with hz|hz
  ·rcases List.mem_append.1 hz with hz|hz
   ·exact h.r1 z (List.mem_append.2 (.inl hz))
   ·simp at hz;subst hz;exact hvr
  ·exact h.r1 z (List.mem_append.2 (.inr ((hdrop z).1 (List.mem_filter.1 hz).1).1))
 ·intro z hz
  rcases List.mem_append.1 (List.mem_filter.1 hz).1 with hz|hz
  ·exact h.r2 z hz
  ·exact h.r1 z (List.mem_append.2 (.inr (List.mem_of_mem_take hz)))
 ·intro u w hu hw hne
  have key:∀a:Nat,(a:Int)∈set→adj g a v:=λa ha=>(h.cn v hvn).1 (.inl hvm) a ha
  rcases List.mem_append.1 hu with hu1|hu1<;>rcases List.mem_append.1 hw with hw1|hw1
  ·exact h.cq u w hu1 hw1 hne
  ·have e:w=v:=by simp at hw1;omega
   rw[e];exact key u hu1
  ·have e:u=v:=by simp at hu1;omega
   rw[e]
   have:=h.r1 _ (List.mem_append.2 (.inl hw1))
   exact hg.sym w v (by omega) (key w hw1)
  ·simp at hu1 hw1;omega
 ·intro w hw
  have h1:=h.cn w hw
  have hself:(w:Int)∈row g v→w≠v:=λha e=>by subst e;exact hg.irr w hw ha
  constructor
  ·intro hm u hu
   have hm':((w:Int)∈left∨(w:Int)∈out)∧(w:Int)∈row g v:=by
    rcases hm with hm|hm
    ·obtain⟨a1,a2⟩:=List.mem_filter.1 hm
     exact⟨.inl ((hdrop _).1 a1).1,of_decide_eq_true a2⟩
    ·obtain⟨a1,a2⟩:=List.mem_filter.1 hm
     refine⟨?_,of_decide_eq_true a2⟩
     rcases List.mem_append.1 a1 with a1|a1
     ·exact .inr a1
     ·exact .inl (List.mem_of_mem_take a1)
   rcases List.mem_append.1 hu with hu|hu
   ·exact h1.1 hm'.1 u hu
   ·have:u=v:=by simp at hu;omega
    subst this;exact hm'.2
  ·intro hA
   have hav:(w:Int)∈row g v:=hA v (by simp)
   have hne:=hself hav
   rcases h1.2 (λu hu=>hA u (List.mem_append.2 (.inl hu))) with hm|hm
   ·rw[hsplit] at hm
    rcases List.mem_append.1 hm with hm|hm
    ·exact .inr (List.mem_filter.2 ⟨List.mem_append.2 (.inr hm),decide_eq_true hav⟩)
    ·rcases List.mem_cons.1 hm with hm|hm
     ·omega
     ·exact .inl (List.mem_filter.2 ⟨hm,decide_eq_true hav⟩)
   ·exact .inr (List.mem_filter.2 ⟨List.mem_append.2 (.inl hm),decide_eq_true hav⟩)
 ·have a1:((left.drop (i+1)).filter λx=>decide (x∈row g v)).length≤(left.drop (i+1)).length:=List.length_filter_le _ _
  have a2:((out++left.take i).filter λx=>decide (x∈row g v)).length≤(out++left.take i).length:=List.length_filter_le _ _
  have:=h.len
  simp only[List.length_drop,List.length_append,List.length_take] at a1 a2
  omega
 ·constructor
  ·rintro⟨y,rfl,hy,hf⟩
   exact⟨y,by simp,λz hz=>((hdrop z).1 (List.mem_filter.1 (hy z hz)).1).1,hf⟩
  ·rintro⟨y,rfl,hy,hf⟩
   refine⟨y,by simp,λz hz=> ?_,hf⟩
   have hz2:=hf.rng z (by simp[hz])
   have h6:=(List.pairwise_cons.1 (List.pairwise_append.1 hf.inc).2.1).1 z hz
   refine List.mem_filter.2 ⟨(hdrop z).2 ⟨hy z hz,h6⟩,decide_eq_true ?_⟩
   have:=hf.cq v z.toNat (by simp) (by rw[show ((z.toNat:Nat):Int)=z by omega];simp[hz]) (by omega)
   unfold adj at this
   rwa [show ((z.toNat:Nat):Int)=z by omega] at this
theorem l8R_ok {g:LL}(hg:GOk g):∀(fuel:Nat) (set left out:LI),left.length<fuel→SK g set left out→
  ∃L,D.m0 fuel g set left out=some L∧(∀x,x∈L↔Sol g set left x)∧L.Pairwise λa b=>cz a b<0
 |0,_,left,_,h,_=>by omega
 |fuel+1,set,left,out,hfu,h=>by
  have h16:=hg.n16
  unfold D.m0
  have hsl:=inc_len (n:=g.length) h.inc h.r1
  rw[List.length_append] at hsl
  have hol:=h.len
  by_cases hb:left=[]∧out=[]
  ·obtain⟨rfl,rfl⟩:=hb
   refine⟨[set],rfl,λx=> ?_,by simp⟩
   rw[List.mem_singleton]
   have hf:Fin' g set:=by
    refine⟨by have:=h.inc;rwa [List.append_nil] at this,λz hz=>h.r1 z (by simp[hz]),h.cq,λw hw=> ?_⟩
    apply Classical.byContradiction
    intro hc
    have:=(h.cn w hw).2 (λu hu=>Classical.byContradiction λhn=>hc ⟨u,hu,hn⟩)
    simp at this
   constructor
   ·rintro rfl;exact⟨[],by simp,by simp,hf⟩
   ·rintro⟨y,rfl,hy,_⟩
    cases y with
    |nil=>simp
    |cons z y=>have:=hy z (by simp);simp at this
  ·have e0:(((left.length:Int)==0)&&((out.length:Int)==0))=false:=by
    rw[Bool.eq_false_iff]
    intro hc
    simp only[Bool.and_eq_true,beq_iff_eq] at hc
    exact hb ⟨List.length_eq_zero_iff.1 (by omega),List.length_eq_zero_iff.1 (by omega)⟩
   rw[e0,cond_false]
   have hnot:∀x,Sol g set left x↔∃j,∃hj:j<left.length,∃y,x=set++left[j]::y∧(∀z∈y,z∈left)∧Fin' g x:=λx=>by
    constructor
    ·rintro⟨y,rfl,hy,hf⟩
     cases y with
     |nil=>
      exfalso
      have hex:∃w:Nat,w<g.length∧((w:Int)∈left∨(w:Int)∈out):=by
       cases hl:left with
       |cons a l=>
        have:=h.r1 a (by simp[hl])
        exact⟨a.toNat,by omega,.inl (by rw[show ((a.toNat:Nat):Int)=a by omega];simp)⟩
       |nil=>
        cases ho:out with
        |nil=>exact absurd ⟨hl,ho⟩ hb
        |cons a l=>
         have:=h.r2 a (by simp[ho])
         exact⟨a.toNat,by omega,.inr (by rw[show ((a.toNat:Nat):Int)=a by omega];simp)⟩
      obtain⟨w,hw,hm⟩:=hex
      obtain⟨u,hu,hn⟩:=hf.mx w hw
      rw[List.append_nil] at hu
      exact hn ((h.cn w hw).1 hm u hu)
     |cons z y=>
      obtain⟨j,hj,e⟩:=List.getElem_of_mem (hy z (by simp))
      exact⟨j,hj,y,by rw[e],λt ht=>hy t (by simp[ht]),hf⟩
    ·rintro⟨j,hj,y,rfl,hy,hf⟩
     refine⟨_,rfl,λz hz=> ?_,hf⟩
     rcases List.mem_cons.1 hz with rfl|hz
     ·exact List.getElem_mem hj
     ·exact hy z hz
   refine AP (λs=>∃i:Nat,s.2=(i:Int)∧i≤left.length∧(∀x,x∈s.1↔∃j,∃hj:j<left.length,j<i∧∃y,x=set++left[j]::y∧(∀z∈y,z∈left)∧Fin' g x)∧s.1.Pairwise λa b=>cz a b<0)
    (λs=>left.length-s.2.toNat) (λL=>(∀x,x∈L↔Sol g set left x)∧L.Pairwise λa b=>cz a b<0) ?_ ⟨0,rfl,by omega,λx=>⟨λhx=>by simp at hx,fun⟨j,_,hj,_⟩=>by omega⟩,by simp⟩ (λL hL=>⟨L,rfl,hL⟩)
   rintro⟨fd,_⟩ ⟨i,rfl,hi,hfd,hpw⟩
   dsimp only at hfd hpw ⊢
   by_cases hil:i<left.length
   ·have hr:=h.r1 _ (List.mem_append.2 (.inr (List.getElem_mem hil)))
    obtain⟨v,hv⟩:∃v:Nat,left[i]=(v:Int):=⟨left[i].toNat,by omega⟩
    have hvn:v<g.length:=by omega
    obtain⟨hsk,hsol⟩:=h.next hg hil hv
    have hdl:((left.drop (i+1)).filter λx=>decide (x∈row g v)).length≤(left.drop (i+1)).length:=List.length_filter_le _ _
    rw[List.length_drop] at hdl
    obtain⟨L,e1,hL,hLp⟩:=l8R_ok hg fuel _ _ _ (by omega) hsk
    have hrow:=hg.row_len hvn
    have hS:∀l:LI,l.length≤64→Sh l:=λl hl=>by unfold Sh;omega
    have c1:D.g set=some set:=DE _ (hS _ (by omega))
    have c2:D.g out=some out:=DE _ (hS _ (by omega))
    have c3:AS set [(v:Int)]=some (set++[(v:Int)]):=A9 (by simp;omega)
    have c4:AS out (left.take i)=some (out++left.take i):=A9 (by simp;omega)
    have c5:=ES (left.drop (i+1)) (row g v) (hS _ (by simp;omega)) (hS _ (by omega))
    have c6:=ES (out++left.take i) (row g v) (hS _ (by simp;omega)) (hS _ (by omega))
    have hfdF:∀x∈fd,Fin' g x:=λx hx=>by
     obtain⟨_,_,_,_,_,_,hf⟩:=(hfd x).1 hx
     exact hf
    have hLF:∀x∈L,Fin' g x:=λx hx=>by
     obtain⟨_,_,_,hf⟩:=(hL x).1 hx
     exact hf
    have n1:=sols_len h16 hfdF hpw
    have n2:=sols_len h16 hLF hLp
    have c7:AS fd L=some (fd++L):=A9 (by omega)
    simp only[dlt hil,cond_true,AB hil,hv,bs,wq i,E5 (show i+1≤left.length by omega),Et (show i≤left.length by omega),Cn hvn,c1,c2,c3,c4,c5,c6,e1,c7]
    refine⟨_,rfl,⟨i+1,rfl,by omega,λx=> ?_,?_⟩,by dsimp only;omega⟩
    ·dsimp only
     rw[List.mem_append,hfd,hL,hsol]
     constructor
     ·rintro(⟨j,hj,hji,hx⟩|hx)
      ·exact⟨j,hj,by omega,hx⟩
      ·exact⟨i,hil,by omega,by rw[hv];exact hx⟩
     ·rintro⟨j,hj,hji,hx⟩
      by_cases he:j=i
      ·subst he
       rw[hv] at hx
       exact .inr hx
      ·exact .inl ⟨j,hj,by omega,hx⟩
    ·dsimp only
     refine List.pairwise_append.2 ⟨hpw,hLp,λa ha b hb'=> ?_⟩
     obtain⟨j,hj,hji,y,rfl,_⟩:=(hfd a).1 ha
     obtain⟨y',rfl,_⟩:=(hsol b).1 ((hL b).1 hb')
     rw[cz_app]
     refine cz_head _ _ ?_
     rw[←hv]
     exact List.pairwise_iff_getElem.1 (List.pairwise_append.1 h.inc).2.1 j i hj hil hji
   ·obtain rfl:i=left.length:=by omega
    simp only[Bc,cond_false]
    refine⟨_,rfl,λx=> ?_,hpw⟩
    rw[hfd,hnot]
    exact⟨fun⟨j,hj,_,hx⟩=>⟨j,hj,hx⟩,fun⟨j,hj,hx⟩=>⟨j,hj,hj,hx⟩⟩
theorem fin_mx {g:LL}(hg:GOk g){x:LI}(h:Fin' g x):In g.length (mk x)∧MX (g.map mk) g.length (mk x):=by
 have h16:=hg.n16
 have hm:∀w:Nat,has (mk x) w=true↔(w:Int)∈x:=λw=>by
  rw[CJ (λz hz=>by have:=h.rng z hz;omega)];simp
 have hl:∀w:Nat,(w:Int)∈x→w<g.length:=λw hw=>by have:=h.rng _ hw;omega
 refine⟨⟨VS.mk _,λw hw=>hl w ((hm w).1 hw)⟩,λu w hu hw hne=> ?_,λw hw _=> ?_⟩
 ·exact(CL hg (hl u ((hm u).1 hu))).2 (h.cq u w ((hm u).1 hu) ((hm w).1 hw) hne)
 ·obtain⟨u,hu,hn⟩:=h.mx w hw
  refine⟨u,(hm u).2 hu,?_⟩
  rw[Bool.eq_false_iff]
  intro hc
  exact hn ((CL hg (hl u hu)).1 hc)
theorem mx_fin {g:LL}(hg:GOk g){K:Int}(hI:In g.length K)(h:MX (g.map mk) g.length K):Fin' g (An K):=by
 have hm:∀w:Nat,(w:Int)∈An K↔has K w=true:=λw=>AQ hI.1
 refine⟨Bz _,λz hz=> ?_,λu w hu hw hne=> ?_,λw hw=> ?_⟩
 ·obtain⟨v,_,h2,rfl⟩:=mem_elems.1 hz
  have:=hI.2 v h2
  omega
 ·have hu':=(hm u).1 hu
  exact(CL hg (hI.2 u hu')).1 (h.1 u w hu' ((hm w).1 hw) hne)
 ·cases hc:has K w
  ·obtain⟨u,hu,hn⟩:=h.2 w hw hc
   refine⟨u,(hm u).2 hu,λha=> ?_⟩
   rw[(CL hg (hI.2 u hu)).2 ha] at hn;cases hn
  ·exact⟨w,(hm w).2 hc,hg.irr w hw⟩
structure GC (g:LL)(l:LI):Prop where
 up:l.Pairwise λa b=>lkey a<lkey b
 mem:∀K,K∈l↔In g.length K∧MX (g.map mk) g.length K
theorem CliquesOf_all {g:LL}(hg:GOk g):∃l,D.t0 (g.map mk)=some l∧l.length≤65536∧D.L2 g=some (l.map An)∧D.v0 g=some (l.map An)∧GC g l:=by
 have h16:=hg.n16
 obtain⟨l,e1,hup,hmem⟩:=cliquesOf_ok hg.n1 h16 (FOk.of hg)
 have hGC:GC g l:=⟨hup,hmem⟩
 have hvs:∀s∈l,VS s:=λs hs=>((hmem s).1 hs).1.1
 have hll:=EZ h16 (λK hK=>((hmem K).1 hK).1) (Ev hup)
 refine⟨l,e1,by omega,?_,?_,hGC⟩
 ·unfold D.L2
  rw[CG g hg.sh2,Eg hg,bs,Bool.not_true,cond_false,DZ g hg,bs,e1,bs,Fy l (by unfold Sh;omega) hvs];rfl
 ·unfold D.v0 D.a D.o
  rw[CD g hg.sh2,Eg hg,bs,Bool.not_true,cond_false,bs,l1All_eq g.length (by omega),bs]
  have hrg:∀z,z∈(List.range g.length).map Int.ofNat↔0≤z∧z<g.length:=λz=>by
   rw[List.mem_map]
   constructor
   ·rintro⟨v,hv,rfl⟩
    have:=List.mem_range.1 hv
    exact⟨Int.natCast_nonneg v,by show (v:Int)<_;omega⟩
   ·intro h
    exact⟨z.toNat,List.mem_range.2 (by omega),by show ((z.toNat:Nat):Int)=z;omega⟩
  have hinc:Inc ((List.range g.length).map Int.ofNat):=by
   unfold Inc
   rw[List.pairwise_map]
   exact List.Pairwise.imp (fun{a b} h=>by show (a:Int)<(b:Int);omega) List.pairwise_lt_range
  have h33:=recFuel_33
  obtain⟨L,e2,hL,hLp⟩:=l8R_ok hg Cf [] ((List.range g.length).map Int.ofNat) [] (by simp;omega) ⟨hinc,λz hz=>(hrg z).1 hz,by simp,λu w hu=>by simp at hu,λw hw=>⟨λ_ u hu=>by simp at hu,λ_=> .inl ((hrg _).2 (by omega))⟩,by simp;omega⟩
  have hLF:∀x,x∈L↔Fin' g x:=λx=>by
   rw[hL]
   constructor
   ·rintro⟨y,rfl,_,hf⟩;exact hf
   ·intro hf
    exact⟨x,rfl,λz hz=>(hrg z).2 (hf.rng z hz),hf⟩
  have hem:∀x∈L,An (mk x)=x:=λx hx=>elems_mk h16 ((hLF x).1 hx).inc ((hLF x).1 hx).rng
  have hLm:L.map mk=l:=by
   refine Gq (k:=lkey) ?_ hup (λK=> ?_)
   ·rw[List.pairwise_map]
    refine List.Pairwise.imp_of_mem (fun{a b} ha hb hab=> ?_) hLp
    have fa:=(hLF a).1 ha;have fb:=(hLF b).1 hb
    have la:=inc_len fa.inc fa.rng;have lb:=inc_len fb.inc fb.rng
    unfold lkey
    rw[hem a ha,hem b hb]
    exact(lk_cmp 32 a b (by omega) (by omega) (λz hz=>by have:=fa.rng z hz;omega) (λz hz=>by have:=fb.rng z hz;omega)).1 hab
   ·rw[List.mem_map,hmem]
    constructor
    ·rintro⟨x,hx,rfl⟩
     exact fin_mx hg ((hLF x).1 hx)
    ·rintro⟨hI,hM⟩
     exact⟨An K,(hLF _).2 (mx_fin hg hI hM),EC hI.1⟩
  have hLe:L=l.map An:=by
   rw[←hLm,List.map_map]
   have:L.map (An∘mk)=L.map id:=List.map_congr_left (λx hx=>hem x hx)
   rw[this,List.map_id]
  rw[e2,bs,bs,hLe]
open Classical in
noncomputable def stp (l:LI)(q:Nat)(i k:Nat)(K:LL):LL:=
 if(An (iand .u32 (l.getD i 0) (l.getD k 0))).length=q∧¬WayP K (i:Int) (k:Int) then K++[BP (i:Int) (k:Int)] else K
noncomputable def st3 (l:LI)(q i:Nat)(K:LL):LL:=iter (stp l q i) (i+1) (l.length-(i+1)) K
noncomputable def st2 (l:LI)(q:Nat)(K:LL):LL:=iter (st3 l q) 0 l.length K
noncomputable def st1 (l:LI):LL:=iter (λj K=>st2 l (16-j) K) 0 17 []
theorem En {i k:Nat}(h:i<k):BP (i:Int) (k:Int)=[(i:Int),(k:Int)]:=by
 unfold BP
 rw[show min (i:Int) (k:Int)=i by omega,show max (i:Int) (k:Int)=k by omega]
theorem KOk.add {n i k:Nat}{K:LL}(h:KOk n K)(hik:i<k)(hk:k<n)(hw:¬WayP K (i:Int) (k:Int)):KOk n (K++[BP (i:Int) (k:Int)]):=by
 have hnot:BP (i:Int) (k:Int)∉K:=λhm=>hw (λT h1 h2=>h2 _ _ h1 (.inl (by rw[En hik] at hm;exact hm)))
 refine⟨?_,λl hl=> ?_⟩
 ·have hp:(K++[BP (i:Int) (k:Int)]).Perm (BP (i:Int) (k:Int)::K):=List.perm_append_comm
  exact hp.nodup_iff.2 (List.nodup_cons.2 ⟨hnot,h.nd⟩)
 ·rcases List.mem_append.1 hl with hl|hl
  ·exact h.lk l hl
  ·simp at hl;subst hl
   exact⟨i,k,En hik,hik,hk⟩
theorem NetL.add {A A':LI}{n i k:Nat}{K:LL}(h:NetL A n K)(hik:i<k)(hk:k<n)(hA:Net A' n)(hnb:∀u w,u<n→Sx.nb A' u w=(Sx.nb A u w||(decide (u=i)&&decide (w=k))||(decide (u=k)&&decide (w=i)))):NetL A' n (K++[BP (i:Int) (k:Int)]):=by
 refine⟨hA,λx y hx hy=> ?_⟩
 rw[hnb x y hx,En hik]
 simp only[Bool.or_eq_true,Bool.and_eq_true,decide_eq_true_eq]
 rw[h.nb x y hx hy]
 unfold Lk
 simp only[List.mem_append,List.mem_singleton,List.cons.injEq,and_true,Int.natCast_inj]
 constructor
 ·rintro((h1|h1)|⟨h1,h2⟩)
  ·exact h1.elim (λh=> .inl (.inl h)) (λh=> .inr (.inl h))
  ·exact .inl (.inr h1)
  ·exact .inr (.inr ⟨h2,h1⟩)
 ·rintro((h1|h1)|(h1|⟨h1,h2⟩))
  ·exact .inl (.inl (.inl h1))
  ·exact .inl (.inr h1)
  ·exact .inl (.inl (.inr h1))
  ·exact .inr ⟨h2,h1⟩
theorem meet_len {s t:Int}(hs:VS s)(ht:VS t):((An s).filter λx=>decide (x∈An t))=An (iand .u32 s t):=by
 refine Inc.ext (List.Pairwise.filter _ (Bz s)) (Bz _) (λx=> ?_)
 rw[List.mem_filter,decide_eq_true_eq,mem_elems,mem_elems,mem_elems]
 constructor
 ·rintro⟨⟨v,h1,h2,rfl⟩,⟨w,h3,h4,h5⟩⟩
  obtain rfl:v=w:=by omega
  exact⟨v,h1,by rw[B6 hs ht,h2,h4];rfl,rfl⟩
 ·rintro⟨v,h1,h2,rfl⟩
  rw[B6 hs ht,Bool.and_eq_true] at h2
  exact⟨⟨v,h1,h2.1,rfl⟩,⟨v,h1,h2.2,rfl⟩⟩
section
variable {l : LI} (hn : l.length ≤ 16) (hvs : ∀ s ∈ l, VS s)
include hn hvs
theorem getv {i:Nat}(hi:i<l.length):idx l (i:Int)=some (l.getD i 0)∧VS (l.getD i 0)∧idx (l.map An) (i:Int)=some (An (l.getD i 0)):=by
 have e:l.getD i 0=l[i]:=Az hi 0
 rw[e]
 exact⟨AB hi,hvs _ (List.getElem_mem hi),by rw[AB (by simpa using hi)];simp⟩
def RelI (l:LI)(A:LI)(K K':LL):Prop:=K'=K∧KOk l.length K∧NetL A l.length K
def Dt (l:LI)(P K:LL):Prop:=KOk l.length K∧P.Perm K∧DR P
open Classical in
theorem impl_in {q i:Nat}(hi:i<l.length)(K:LL)(A:LI)(K':LL)(hr:RelI l A K K'):
  ∃r,Aq (σ:=LI×LL×Int) (ρ:=(LI×LL)) (fun(s_5984:LI×LL×Int)=>match s_5984 with|(l_5987,l_5990,x_5995)=>cond (decide (x_5995<(l.length:Int))) ((idx l (i:Int)).bind λe_6091=>(idx l x_5995).bind λe_6097=>(D.P (iand .u32 e_6091 e_6097)).bind λy_6103=>(cond (y_6103==(q:Int)) ((D.r l_5987).bind λy_6125=>(D.K l_5987 (i:Int) y_6125).bind λy_6131=>(D.j y_6131 x_5995).bind λy_6137=>some (!y_6137)) (some false)).bind λb_6123=>cond b_6123 ((D.L l_5987 (i:Int) x_5995).bind λy_6143=>(D.R (i:Int) x_5995).bind λy_6152=>(AS l_5990 [y_6152]).bind λl_6167=>some (.inl (y_6143,l_6167,(IntKind.i64.wrap (x_5995+1))))) (some (.inl (l_5987,l_5990,(IntKind.i64.wrap (x_5995+1)))))) (some (.inr (l_5987,l_5990)))) (A,K',((i+1:Nat):Int))=some r∧RelI l r.1 (st3 l q i K) r.2:=by
 refine EV (λK k (s:LI×LL×Int)=>s.2.2=(k:Int)∧i<k∧RelI l s.1 K s.2.1) (stp l q i) l.length (λK (r:LI×LL)=>RelI l r.1 K r.2) ?_ ?_ (l.length-(i+1)) (i+1) K (A,K',((i+1:Nat):Int)) (by omega) ⟨rfl,by omega,hr⟩
 ·rintro K₁ k ⟨A,K,_⟩ hk ⟨rfl,hik,rfl,hK,hA⟩
  dsimp only at hK hA ⊢
  obtain⟨e1,v1,_⟩:=getv hn hvs hi
  obtain⟨e2,v2,_⟩:=getv hn hvs hk
  have hlen:=hK.len hn
  simp only[dlt hk,cond_true,e1,e2,bs,size_eq (VS.iand _ _),wq k]
  unfold stp
  by_cases hq:(An (iand .u32 (l.getD i 0) (l.getD k 0))).length=q
  ·have eq:((((An (iand .u32 (l.getD i 0) (l.getD k 0))).length:Nat):Int)==(q:Int))=true:=by rw[beq_iff_eq];omega
   obtain⟨s,e3,hs1,hs2⟩:=Ej A (by rw[hA.net.len];omega)
   obtain⟨S,e4,hS,hSn⟩:=reach_ok hn hA.net hi hs1
   have hway:=hA.way hn hK.lk (λy hy=>by rw[hs2,hA.net.len];exact decide_eq_true hy) hi hS hSn hk
   have hhas:D.j S (k:Int)=some (has S k):=by
    unfold D.j
    have:decide ((k:Int)<0)=false:=by simp
    rw[this,cond_false,Fm hS.vs (by omega)]
   simp only[eq,cond_true,e3,e4,bs,hhas]
   by_cases hw:WayP K (i:Int) (k:Int)
   ·have:has S k=true:=hway.2 hw
    simp only[this,Bool.not_true,cond_false]
    refine⟨_,rfl,rfl,by omega,?_⟩
    rw[if_neg (λh=>h.2 hw)]
    exact⟨rfl,hK,hA⟩
   ·have:has S k=false:=by
     cases hh:has S k
     ·rfl
     ·exact absurd (hway.1 hh) hw
    obtain⟨A',e5,hA',hnb⟩:=join_net hn hA.net hi hk (by omega)
    simp only[this,Bool.not_false,cond_true,e5,bs,FB]
    rw[A9 (by simp;omega),bs]
    refine⟨_,rfl,rfl,by omega,?_⟩
    rw[if_pos ⟨hq,hw⟩]
    exact⟨rfl,hK.add hik hk hw,hA.add hik hk hA' hnb⟩
  ·have eq:((((An (iand .u32 (l.getD i 0) (l.getD k 0))).length:Nat):Int)==(q:Int))=false:=by rw[beq_eq_false_iff_ne];omega
   simp only[eq,cond_false,bs]
   refine⟨_,rfl,rfl,by omega,?_⟩
   rw[if_neg (λh=>hq h.1)]
   exact⟨rfl,hK,hA⟩
 ·rintro K ⟨A,K',_⟩ ⟨rfl,_,h⟩
  simp only[Bc,cond_false]
  exact⟨_,rfl,h⟩
open Classical in
theorem spec_in {q i:Nat}(hi:i<l.length)(K P:LL)(hr:Dt l P K):
  ∃r,Aq (σ:=Int×LL) (ρ:=(LL)) (fun(s_4724:Int×LL)=>match s_4724 with|(x_4727,l_4728)=>cond (decide (x_4727<((l.map An).length:Int))) ((idx (l.map An) (i:Int)).bind λe_4808=>(idx (l.map An) x_4727).bind λe_4814=>(D.s e_4808 e_4814).bind λy_4823=>(cond ((y_4823.length:Int)==(q:Int)) ((D.U1 (l.map An) l_4728 (i:Int) x_4727).bind λy_4847=>some (!y_4847)) (some false)).bind λb_4845=>cond b_4845 ((D.L0 l_4728 (i:Int) x_4727).bind λy_4862=>some (.inl ((IntKind.i64.wrap (x_4727+1)),y_4862))) (some (.inl ((IntKind.i64.wrap (x_4727+1)),l_4728)))) (some (.inr l_4728))) (((i+1:Nat):Int),P)=some r∧Dt l r (st3 l q i K):=by
 refine EV (λK k (s:Int×LL)=>s.1=(k:Int)∧i<k∧Dt l s.2 K) (stp l q i) l.length (λK r=>Dt l r K) ?_ ?_ (l.length-(i+1)) (i+1) K (((i+1:Nat):Int),P) (by omega) ⟨rfl,by omega,hr⟩
 ·rintro K k ⟨_,P⟩ hk ⟨rfl,hik,hK,hP,hs⟩
  dsimp only at hK hP hs ⊢
  obtain⟨_,v1,e1⟩:=getv hn hvs hi
  obtain⟨_,v2,e2⟩:=getv hn hvs hk
  have hlen:=hK.len hn
  have hPl:P.length≤256:=by rw[hP.length_eq];exact hlen
  have hPk:∀x∈P,LinkIn l.length x:=λx hx=>hK.lk x (hP.mem_iff.1 hx)
  have q1:=BF (l.getD i 0);have q2:=BF (l.getD k 0)
  have hd:decide ((k:Int)<((l.map An).length:Int))=true:=by simp;omega
  simp only[hd,cond_true,e1,e2,bs,ES _ _ (show Sh (An (l.getD i 0)) by unfold Sh;omega) (show Sh (An (l.getD k 0)) by unfold Sh;omega),meet_len v1 v2,wq k]
  unfold stp
  by_cases hq:(An (iand .u32 (l.getD i 0) (l.getD k 0))).length=q
  ·have eq:((((An (iand .u32 (l.getD i 0) (l.getD k 0))).length:Nat):Int)==(q:Int))=true:=by rw[beq_iff_eq];omega
   simp only[eq,cond_true,l9Way_ok (l.map An) P hn (by omega) hPk hi (k:Int),bs]
   by_cases hw:WayP K (i:Int) (k:Int)
   ·have:decide (WayP P (i:Int) (k:Int))=true:=decide_eq_true ((WayP.perm hP).2 hw)
    simp only[this,Bool.not_true,cond_false]
    refine⟨_,rfl,rfl,by omega,?_⟩
    rw[if_neg (λh=>h.2 hw)]
    exact⟨hK,hP,hs⟩
   ·have:decide (WayP P (i:Int) (k:Int))=false:=decide_eq_false (λh=>hw ((WayP.perm hP).1 h))
    have hadd:=hK.add hik hk hw
    simp only[this,Bool.not_false,cond_true]
    rw[FN (λx hx=>(hPk x hx).good (by omega)) ((hadd.lk _ (by simp)).good (by omega)) (by omega),bs]
    refine⟨_,rfl,rfl,by omega,?_⟩
    rw[if_pos ⟨hq,hw⟩]
    refine⟨hadd,?_,ins_sorted _ hs⟩
    exact(ins_perm _ _).trans ((hP.cons _).trans (List.perm_append_singleton _ K).symm)
  ·have eq:((((An (iand .u32 (l.getD i 0) (l.getD k 0))).length:Nat):Int)==(q:Int))=false:=by rw[beq_eq_false_iff_ne];omega
   simp only[eq,cond_false,bs]
   refine⟨_,rfl,rfl,by omega,?_⟩
   rw[if_neg (λh=>hq h.1)]
   exact⟨hK,hP,hs⟩
 ·rintro K ⟨_,P⟩ ⟨rfl,_,h⟩
  have hd:decide (((l.length:Nat):Int)<((l.map An).length:Int))=false:=by simp
  simp only[hd,cond_false]
  exact⟨_,rfl,h⟩
theorem st1_ok :∃P,Dt l P (st1 l)∧CH (st1 l)=some P:=by
 have hK0:Dt l [] []:=⟨⟨by simp,by simp⟩,List.Perm.refl _,by simp[DR]⟩
 suffices h:∃P,Dt l P (st1 l) by
  obtain⟨P,h⟩:=h
  have:=h.1.len hn
  exact⟨P,h,sortRows_ok (by omega) (λx hx=>(h.1.lk x hx).good (by omega)) h.2.1 h.2.2⟩
 have h1:∀(q i:Nat) K P,i<l.length→Dt l P K→∃P',Dt l P' (st3 l q i K):=λq i K P hi hr=>by
  obtain⟨r,_,h⟩:=spec_in hn hvs (q:=q) hi K P hr
  exact⟨r,h⟩
 have h2:∀(q:Nat) (m a:Nat) K,a+m=l.length→(∃P,Dt l P K)→∃P,Dt l P (iter (st3 l q) a m K):=by
  intro q m
  induction m with
  |zero=>intro a K _ h;exact h
  |succ m ih=>
   intro a K ha ⟨P,h⟩
   exact ih (a+1) _ (by omega) (h1 q a K P (by omega) h)
 have h3:∀(m a:Nat) K,(∃P,Dt l P K)→∃P,Dt l P (iter (λj K=>st2 l (16-j) K) a m K):=by
  intro m
  induction m with
  |zero=>intro a K h;exact h
  |succ m ih=>
   intro a K h
   exact ih (a+1) _ (h2 _ _ 0 K (by omega) h)
 exact h3 17 0 [] ⟨[],hK0⟩
end
section
variable {g : LL} (hg : GOk g)
include hg
theorem CliqueTree_ex :∃(b:Bool) (l:LI),D.T g=some b∧GC g l∧D.v0 g=some (l.map An)∧∃r:LL×LL×Bool,D.k2 g=some r∧D.d0 g=some r∧r.1.length≤16∧(∀x∈r.1,x.length≤32)∧r.2.1.length≤256∧(∀x∈r.2.1,x.length=2)∧
  ((r=([],[],false)∧(b=false∨16<l.length))∨(b=true∧l.length≤16∧∃P,P.Perm (st1 l)∧r=(l.map An,P,true))):=by
 obtain⟨b,c1,c2⟩:=chordal_both hg
 obtain⟨l,m1,m2,m3,m4,hGC⟩:=CliquesOf_all hg
 have hvs:∀s∈l,VS s:=λs hs=>((hGC.mem s).1 hs).1.1
 refine⟨b,l,c2,hGC,m4,?_⟩
 by_cases hb:b=true
 case neg=>
  have hb:b=false:=by simpa using hb
  subst hb
  refine⟨([],[],false),?_,?_,by simp,by simp,by simp,by simp,.inl ⟨rfl,.inl rfl⟩⟩
  ·unfold D.k2
   simp only[m4,c2,bs,Bool.not_false,Bool.true_or,cond_true]
  ·unfold D.d0
   simp only[c1,bs,Bool.not_false,cond_true]
 case pos=>
  subst hb
  by_cases hn:l.length≤16
  case neg=>
   have e1:decide ((16:Int)<(l.length:Int))=true:=by simp;omega
   have e2:decide ((16:Int)<((l.map An).length:Int))=true:=by simp;omega
   refine⟨([],[],false),?_,?_,by simp,by simp,by simp,by simp,.inl ⟨rfl,.inr (by omega)⟩⟩
   ·unfold D.k2
    simp only[m4,c2,bs,Bool.not_true,Bool.false_or,e2,cond_true]
   ·unfold D.d0
    simp only[c1,bs,Bool.not_true,cond_false,DZ g hg,m1,e1,cond_true]
  case pos=>
   have e1:decide ((16:Int)<(l.length:Int))=false:=by simp;omega
   have e2:decide ((16:Int)<((l.map An).length:Int))=false:=by simp;omega
   obtain⟨P,hP,hsort⟩:=st1_ok hn hvs
   have hPl:=hP.1.len hn
   refine⟨(l.map An,P,true),?_,?_,by simpa using hn,λx hx=> ?_,by rw[hP.2.1.length_eq];exact hPl,λx hx=> ?_,.inr ⟨rfl,hn,P,hP.2.1,rfl⟩⟩
   ·unfold D.k2
    simp only[m4,c2,bs,Bool.not_true,Bool.false_or,e2,cond_false]
    have key:=DI (k:=λl_3666=>some (l.map An,l_3666,true)) (Q:=λy=>y=(l.map An,P,true)) (step:=(fun(s_2451:Int×LL)=>match s_2451 with|(x_2457,l_2458)=>cond (decide ((0:Int)≤x_2457)) ((Aq (σ:=Int×LL) (ρ:=(LL)) (fun(s_4270:Int×LL)=>match s_4270 with|(x_4273,l_4274)=>cond (decide (x_4273<((l.map An).length:Int))) ((Aq (σ:=Int×LL) (ρ:=(LL)) (fun(s_4724:Int×LL)=>match s_4724 with|(x_4727,l_4728)=>cond (decide (x_4727<((l.map An).length:Int))) ((idx (l.map An) x_4273).bind λe_4808=>(idx (l.map An) x_4727).bind λe_4814=>(D.s e_4808 e_4814).bind λy_4823=>(cond ((y_4823.length:Int)==x_2457) ((D.U1 (l.map An) l_4728 x_4273 x_4727).bind λy_4847=>some (!y_4847)) (some false)).bind λb_4845=>cond b_4845 ((D.L0 l_4728 x_4273 x_4727).bind λy_4862=>some (.inl ((IntKind.i64.wrap (x_4727+1)),y_4862))) (some (.inl ((IntKind.i64.wrap (x_4727+1)),l_4728)))) (some (.inr l_4728))) ((IntKind.i64.wrap (x_4273+1)),l_4274)).bind λl_4801=>some (.inl ((IntKind.i64.wrap (x_4273+1)),l_4801))) (some (.inr l_4274))) (0,l_2458)).bind λl_4574=>some (.inl ((IntKind.i64.wrap (x_2457-1)),l_4574))) (some (.inr l_2458))))
     (λK j (s:Int×LL)=>s.1=16-(j:Int)∧Dt l s.2 K) (λj K=>st2 l (16-j) K) 17 (λK r=>Dt l r K) (m:=17) (a:=0) (K:=[]) (s:=(16,[])) ?_ ?_ (by omega) ⟨rfl,⟨by simp,by simp⟩,List.Perm.refl _,by simp[DR]⟩ ?_
    ·obtain⟨y,hy,rfl⟩:=key
     exact hy
    ·rintro K j ⟨_,P⟩ hj ⟨rfl,hr⟩
     dsimp only at hr ⊢
     have hd:decide ((0:Int)≤16-(j:Int))=true:=by simp;omega
     have hq:(16-(j:Int))=((16-j:Nat):Int):=by omega
     simp only[hd,cond_true]
     have k2:=DI (k:=λl_4574=>some (Sum.inl (β:=LL) ((IntKind.i64.wrap ((16-(j:Int))-1)),l_4574))) (Q:=λy=>∃s',y=Sum.inl s'∧s'.1=16-((j+1:Nat):Int)∧Dt l s'.2 (st2 l (16-j) K)) (step:=(fun(s_4270:Int×LL)=>match s_4270 with|(x_4273,l_4274)=>cond (decide (x_4273<((l.map An).length:Int))) ((Aq (σ:=Int×LL) (ρ:=(LL)) (fun(s_4724:Int×LL)=>match s_4724 with|(x_4727,l_4728)=>cond (decide (x_4727<((l.map An).length:Int))) ((idx (l.map An) x_4273).bind λe_4808=>(idx (l.map An) x_4727).bind λe_4814=>(D.s e_4808 e_4814).bind λy_4823=>(cond ((y_4823.length:Int)==(16-(j:Int))) ((D.U1 (l.map An) l_4728 x_4273 x_4727).bind λy_4847=>some (!y_4847)) (some false)).bind λb_4845=>cond b_4845 ((D.L0 l_4728 x_4273 x_4727).bind λy_4862=>some (.inl ((IntKind.i64.wrap (x_4727+1)),y_4862))) (some (.inl ((IntKind.i64.wrap (x_4727+1)),l_4728)))) (some (.inr l_4728))) ((IntKind.i64.wrap (x_4273+1)),l_4274)).bind λl_4801=>some (.inl ((IntKind.i64.wrap (x_4273+1)),l_4801))) (some (.inr l_4274))))
      (λK i (s:Int×LL)=>s.1=(i:Int)∧Dt l s.2 K) (st3 l (16-j)) l.length (λK r=>Dt l r K) (m:=l.length) (a:=0) (K:=K) (s:=(0,P)) ?_ ?_ (by omega) ⟨rfl,hr⟩ ?_
     ·obtain⟨y,hy,s',rfl,h1,h2⟩:=k2
      exact⟨s',hy,h1,h2⟩
     ·rintro K i ⟨_,P⟩ hi ⟨rfl,hr⟩
      dsimp only at hr ⊢
      have hd:decide ((i:Int)<((l.map An).length:Int))=true:=by simp;omega
      obtain⟨r,e,hr'⟩:=spec_in hn hvs (q:=16-j) hi K P hr
      rw[←hq] at e
      simp only[hd,cond_true,wq i,e,bs]
      exact⟨_,rfl,rfl,hr'⟩
     ·rintro K ⟨_,P⟩ ⟨rfl,h⟩
      have hd:decide (((l.length:Nat):Int)<((l.map An).length:Int))=false:=by simp
      simp only[hd,cond_false]
      exact⟨_,rfl,h⟩
     ·intro r hr'
      refine⟨_,rfl,_,rfl,?_,hr'⟩
      dsimp only
      rw[w64 (by omega) (by omega)];omega
    ·rintro K ⟨_,P⟩ ⟨rfl,h⟩
     exact⟨P,rfl,h⟩
    ·intro r hr
     refine⟨_,rfl,?_⟩
     have:r=P:=E3 (hr.2.1.trans hP.2.1.symm) (λx hx=>(hP.1.lk x (hP.2.1.mem_iff.1 hx)).good (by omega)) hr.2.2 hP.2.2
     rw[this]
   ·unfold D.d0
    simp only[c1,bs,Bool.not_true,cond_false,DZ g hg,m1,e1]
    rw[DV (by omega) (by omega),bs]
    have hA0:NetL (List.replicate l.length 0) l.length []:=by
     have hz:∀u,(List.replicate l.length (0:Int)).getD u 0=0:=λu=>by
      rw[List.getD_eq_getElem?_getD,List.getElem?_replicate];split<;>rfl
     refine⟨⟨by simp,λu _=>by rw[hz];exact VS.zero,λu w _ h=>by unfold nb at h;rw[hz,BI] at h;cases h⟩,λx y _ _=> ?_⟩
     unfold nb Lk
     rw[hz,BI];simp
    have key:=DI (k:=λl_4649=>(CH l_4649).bind λy_6173=>(D.Y l).bind λy_6182=>some (y_6182,y_6173,true)) (Q:=λy=>y=(l.map An,P,true)) (step:=(fun(s_3117:LI×LL×Int)=>match s_3117 with|(l_3120,l_3123,x_3128)=>cond (decide ((0:Int)≤x_3128)) ((Aq (σ:=LI×LL×Int) (ρ:=(LI×LL)) (fun(s_5410:LI×LL×Int)=>match s_5410 with|(l_5413,l_5416,x_5421)=>cond (decide (x_5421<(l.length:Int))) ((Aq (σ:=LI×LL×Int) (ρ:=(LI×LL)) (fun(s_5984:LI×LL×Int)=>match s_5984 with|(l_5987,l_5990,x_5995)=>cond (decide (x_5995<(l.length:Int))) ((idx l x_5421).bind λe_6091=>(idx l x_5995).bind λe_6097=>(D.P (iand .u32 e_6091 e_6097)).bind λy_6103=>(cond (y_6103==x_3128) ((D.r l_5987).bind λy_6125=>(D.K l_5987 x_5421 y_6125).bind λy_6131=>(D.j y_6131 x_5995).bind λy_6137=>some (!y_6137)) (some false)).bind λb_6123=>cond b_6123 ((D.L l_5987 x_5421 x_5995).bind λy_6143=>(D.R x_5421 x_5995).bind λy_6152=>(AS l_5990 [y_6152]).bind λl_6167=>some (.inl (y_6143,l_6167,(IntKind.i64.wrap (x_5995+1))))) (some (.inl (l_5987,l_5990,(IntKind.i64.wrap (x_5995+1)))))) (some (.inr (l_5987,l_5990)))) (l_5413,l_5416,(IntKind.i64.wrap (x_5421+1)))).bind fun(l_6081,l_6084)=>some (.inl (l_6081,l_6084,(IntKind.i64.wrap (x_5421+1))))) (some (.inr (l_5413,l_5416)))) (l_3120,l_3123,0)).bind fun(l_5794,l_5797)=>some (.inl (l_5794,l_5797,(IntKind.i64.wrap (x_3128-1))))) (some (.inr l_3123))))
     (λK j (s:LI×LL×Int)=>s.2.2=16-(j:Int)∧RelI l s.1 K s.2.1) (λj K=>st2 l (16-j) K) 17 (λK r=>r=K) (m:=17) (a:=0) (K:=[]) (s:=(List.replicate l.length 0,[],16)) ?_ ?_ (by omega) ⟨rfl,rfl,⟨by simp,by simp⟩,hA0⟩ ?_
    ·obtain⟨y,hy,rfl⟩:=key
     exact hy
    ·rintro K j ⟨A,K',_⟩ hj ⟨rfl,hr⟩
     dsimp only at hr ⊢
     have hd:decide ((0:Int)≤16-(j:Int))=true:=by simp;omega
     have hq:(16-(j:Int))=((16-j:Nat):Int):=by omega
     simp only[hd,cond_true]
     have k2:=DI (k:=fun(x:LI×LL)=>match x with|(l_5794,l_5797)=>some (Sum.inl (β:=LL) (l_5794,l_5797,(IntKind.i64.wrap ((16-(j:Int))-1))))) (Q:=λy=>∃s',y=Sum.inl s'∧s'.2.2=16-((j+1:Nat):Int)∧RelI l s'.1 (st2 l (16-j) K) s'.2.1) (step:=(fun(s_5410:LI×LL×Int)=>match s_5410 with|(l_5413,l_5416,x_5421)=>cond (decide (x_5421<(l.length:Int))) ((Aq (σ:=LI×LL×Int) (ρ:=(LI×LL)) (fun(s_5984:LI×LL×Int)=>match s_5984 with|(l_5987,l_5990,x_5995)=>cond (decide (x_5995<(l.length:Int))) ((idx l x_5421).bind λe_6091=>(idx l x_5995).bind λe_6097=>(D.P (iand .u32 e_6091 e_6097)).bind λy_6103=>(cond (y_6103==(16-(j:Int))) ((D.r l_5987).bind λy_6125=>(D.K l_5987 x_5421 y_6125).bind λy_6131=>(D.j y_6131 x_5995).bind λy_6137=>some (!y_6137)) (some false)).bind λb_6123=>cond b_6123 ((D.L l_5987 x_5421 x_5995).bind λy_6143=>(D.R x_5421 x_5995).bind λy_6152=>(AS l_5990 [y_6152]).bind λl_6167=>some (.inl (y_6143,l_6167,(IntKind.i64.wrap (x_5995+1))))) (some (.inl (l_5987,l_5990,(IntKind.i64.wrap (x_5995+1)))))) (some (.inr (l_5987,l_5990)))) (l_5413,l_5416,(IntKind.i64.wrap (x_5421+1)))).bind fun(l_6081,l_6084)=>some (.inl (l_6081,l_6084,(IntKind.i64.wrap (x_5421+1))))) (some (.inr (l_5413,l_5416)))))
      (λK i (s:LI×LL×Int)=>s.2.2=(i:Int)∧RelI l s.1 K s.2.1) (st3 l (16-j)) l.length (λK r=>RelI l r.1 K r.2) (m:=l.length) (a:=0) (K:=K) (s:=(A,K',0)) ?_ ?_ (by omega) ⟨rfl,hr⟩ ?_
     ·obtain⟨y,hy,s',rfl,h1,h2⟩:=k2
      exact⟨s',hy,h1,h2⟩
     ·rintro K i ⟨A,K',_⟩ hi ⟨rfl,hr⟩
      dsimp only at hr ⊢
      obtain⟨r,e,hr'⟩:=impl_in hn hvs (q:=16-j) hi K A K' hr
      rw[←hq] at e
      simp only[dlt hi,cond_true,wq i,e,bs]
      exact⟨_,rfl,rfl,hr'⟩
     ·rintro K ⟨A,K',_⟩ ⟨rfl,h⟩
      simp only[Bc,cond_false]
      exact⟨_,rfl,h⟩
     ·rintro⟨A,K''⟩ hr'
      refine⟨_,rfl,_,rfl,?_,hr'⟩
      dsimp only
      rw[w64 (by omega) (by omega)];omega
    ·rintro K ⟨A,K',_⟩ ⟨rfl,h⟩
     exact⟨K',rfl,h.1⟩
    ·rintro r rfl
     show∃y,(CH (st1 l)).bind _=some y∧_
     rw[hsort,bs,Fy l (by unfold Sh;omega) hvs,bs]
     exact⟨_,rfl,rfl⟩
   ·obtain⟨s,_,rfl⟩:=List.mem_map.1 hx
    exact BF s
   ·obtain⟨a,b,rfl,_⟩:=hP.1.lk x (hP.2.1.mem_iff.1 hx)
    rfl
end
end Go.Sx

namespace Go.Sx
theorem Fq {σ:Type}{f:Nat→σ→σ}(P:Nat→σ→Prop):∀(m a:Nat) (x:σ),P a x→(∀j x,a≤j→j<a+m→P j x→P (j+1) (f j x))→P (a+m) (iter f a m x)
 |0,_,_,h,_=>h
 |m+1,a,x,h,hs=>by
  have:=Fq P m (a+1) (f a x) (hs a x (Nat.le_refl _) (by omega) h) (λj x h1 h2=>hs j x (by omega) (by omega))
  rw[show a+(m+1)=a+1+m by omega]
  exact this
def wt (l:LI)(p q:Int):Nat:=(An (iand .u32 (l.getD p.toNat 0) (l.getD q.toNat 0))).length
def rng (n:Nat):LI:=(List.range n).map Int.ofNat
theorem mem_rng {n:Nat}{x:Int}:x∈rng n↔∃i:Nat,x=i∧i<n:=by
 unfold rng
 rw[List.mem_map]
 constructor
 ·rintro⟨i,hi,rfl⟩;exact⟨i,rfl,List.mem_range.1 hi⟩
 ·rintro⟨i,rfl,hi⟩;exact⟨i,List.mem_range.2 hi,rfl⟩
theorem rng_nodup (n:Nat):(rng n).Nodup:=by
 unfold rng
 rw[List.Nodup,List.pairwise_map]
 exact List.nodup_range.imp (λh e=>h (Int.ofNat.inj e))
theorem rng_len (n:Nat):(rng n).length=n:=by simp[rng]
structure Rank (n:Nat)(K:LL)(φ:Nat→Nat)(R:List Nat):Prop where
 nd:R.Nodup
 len:R.length+K.length=n
 rep:∀x,x<n→φ x∈R
 fix:∀r∈R,r<n∧φ r=r
 way:∀x y:Nat,x<n→y<n→(WayP K (x:Int) (y:Int)↔φ x=φ y)
theorem Rank.nil (n:Nat):Rank n [] id (List.range n):=by
 refine⟨List.nodup_range,by simp,λx hx=>by simpa using hx,λr hr=>⟨List.mem_range.1 hr,rfl⟩,λx y _ _=>⟨λh=> ?_,λh=> ?_⟩⟩
 ·have:=h (λz=>z=(x:Int)) rfl (λa b _ hlk=>by rcases hlk with hlk|hlk<;>simp at hlk)
  show x=y
  omega
 ·have h:x=y:=h
  subst h;exact λT hT _=>hT
theorem WayP.more {K:LL}{a b:Int}(h:WayP K a b)(l:LI):WayP (K++[l]) a b:=λT h1 h2=>h T h1 (λx y hx hlk=>h2 x y hx (hlk.imp (λh=>List.mem_append.2 (.inl h)) (λh=>List.mem_append.2 (.inl h))))
theorem WayP.trans {K:LL}{a b c:Int}(h:WayP K a b)(h':WayP K b c):WayP K a c:=λT h1 h2=>h' T (h T h1 h2) h2
theorem WayP.symm {K:LL}{a b:Int}(h:WayP K a b):WayP K b a:=λT h1 h2=>by
 apply Classical.byContradiction
 intro hn
 exact h (λx=>¬T x) hn (λx y hx hlk hy=>hx (h2 y x hy hlk.symm)) h1
theorem Rank.add {n i k:Nat}{K:LL}{φ:Nat→Nat}{R:List Nat}(h:Rank n K φ R)(hK:KOk n K)(hi:i<n)(hk:k<n)(hw:¬WayP K (i:Int) (k:Int)):∃φ' R',Rank n (K++[[(i:Int),(k:Int)]]) φ' R':=by
 have hne:φ i≠φ k:=λe=>hw ((h.way i k hi hk).2 e)
 have hri:=h.rep i hi;have hrk:=h.rep k hk
 have hmem:∀r,r∈R.erase (φ k)↔r∈R∧r≠φ k:=λr=>by rw[h.nd.mem_erase_iff];exact And.comm
 refine⟨λx=>if φ x=φ k then φ i else φ x,R.erase (φ k),h.nd.erase _,?_,λx hx=> ?_,λr hr=> ?_,λx y hx hy=>⟨λhxy=> ?_,λhxy=> ?_⟩⟩
 ·have:=h.len
  have:=List.length_pos_of_mem hrk
  rw[List.length_erase_of_mem hrk];simp;omega
 ·split
  ·exact(hmem _).2 ⟨hri,hne⟩
  ·rename_i e;exact(hmem _).2 ⟨h.rep x hx,e⟩
 ·obtain⟨h1,h2⟩:=(hmem r).1 hr
  obtain⟨h3,h4⟩:=h.fix r h1
  exact⟨h3,by rw[h4,if_neg h2]⟩
 ·have hin:∀a b:Int,Lk (K++[[(i:Int),(k:Int)]]) a b→∃a' b':Nat,a=a'∧b=b'∧a'<n∧b'<n∧(φ a'=φ b'∨(a'=i∧b'=k)∨(a'=k∧b'=i)):=λa b hlk=>by
   have hcase:Lk K a b∨(a=i∧b=k)∨(a=k∧b=i):=by
    unfold Lk at hlk ⊢
    simp only[List.mem_append,List.mem_singleton,List.cons.injEq,and_true] at hlk
    rcases hlk with(h|h)|(h|h)
    ·exact .inl (.inl h)
    ·exact .inr (.inl h)
    ·exact .inl (.inr h)
    ·exact .inr (.inr ⟨h.2,h.1⟩)
   rcases hcase with hlk|⟨rfl,rfl⟩|⟨rfl,rfl⟩
   ·have hr:∃a' b':Nat,a=a'∧b=b'∧a'<n∧b'<n:=by
     rcases hlk with hh|hh
     ·obtain⟨p,q,e,h1,h2⟩:=hK.lk _ hh
      simp at e
      exact⟨p,q,e.1,e.2,by omega,h2⟩
     ·obtain⟨p,q,e,h1,h2⟩:=hK.lk _ hh
      simp at e
      exact⟨q,p,e.2,e.1,h2,by omega⟩
    obtain⟨a',b',rfl,rfl,h1,h2⟩:=hr
    exact⟨a',b',rfl,rfl,h1,h2,.inl ((h.way a' b' h1 h2).1 (λT hT hcl=>hcl _ _ hT hlk))⟩
   ·exact⟨i,k,rfl,rfl,hi,hk,.inr (.inl ⟨rfl,rfl⟩)⟩
   ·exact⟨k,i,rfl,rfl,hk,hi,.inr (.inr ⟨rfl,rfl⟩)⟩
  have:=hxy (λz=>∃z':Nat,z=z'∧(if φ z'=φ k then φ i else φ z')=(if φ x=φ k then φ i else φ x)) ⟨x,rfl,rfl⟩ (λa b ⟨a',ea,hT⟩ hlk=>by
   obtain⟨a'',b',ea',eb,h1,h2,hc⟩:=hin a b hlk
   obtain rfl:a'=a'':=by omega
   refine⟨b',eb,?_⟩
   rw[←hT]
   rcases hc with e|⟨rfl,rfl⟩|⟨rfl,rfl⟩
   ·rw[e]
   ·rw[if_pos rfl,if_neg hne]
   ·rw[if_pos rfl,if_neg hne])
  obtain⟨y',ey,e⟩:=this
  obtain rfl:y=y':=by omega
  exact e.symm
 ·have hik:WayP (K++[[(i:Int),(k:Int)]]) (i:Int) (k:Int):=λT h1 h2=>h2 _ _ h1 (.inl (by simp))
  have hold:∀a b:Nat,a<n→b<n→φ a=φ b→WayP (K++[[(i:Int),(k:Int)]]) (a:Int) (b:Int):=λa b ha hb e=>((h.way a b ha hb).2 e).more _
  by_cases ex:φ x=φ k
  ·rw[if_pos ex] at hxy
   by_cases ey:φ y=φ k
   ·exact hold x y hx hy (ex.trans ey.symm)
   ·rw[if_neg ey] at hxy
    exact(hold x k hx hk ex).trans (hik.symm.trans (hold i y hi hy hxy))
  ·rw[if_neg ex] at hxy
   by_cases ey:φ y=φ k
   ·rw[if_pos ey] at hxy
    exact(hold x i hx hi hxy).trans (hik.trans (hold k y hk hy ey.symm))
   ·rw[if_neg ey] at hxy
    exact hold x y hx hy hxy
structure KI (l:LI)(q i k:Nat)(K:LL):Prop where
 ok:KOk l.length K
 rank:∃φ R,Rank l.length K φ R
 heavy:∀a b:Int,Lk K a b→q≤wt l a b
 seen:∀p r:Nat,p<r→r<l.length→(q<wt l p r∨(wt l p r=q∧(p<i∨(p=i∧r<k))))→Wy (rng l.length) (Lk K) (wt l) (wt l p r) p r
theorem F6 (l:LI)(p q:Int):wt l p q=wt l q p:=by
 unfold wt
 congr 2
 unfold iand
 rw[BitVec.and_comm]
theorem Wy.more {ns:LI}{K:LL}{W:Int→Int→Nat}{c:Nat}{p q:Int}(h:Wy ns (Lk K) W c p q)(l:LI):Wy ns (Lk (K++[l])) W c p q:=
 λP hP hp=>h P (λx y hx hy hPx hE hw=>hP x y hx hy hPx (hE.imp (λh=>List.mem_append.2 (.inl h)) (λh=>List.mem_append.2 (.inl h))) hw) hp
theorem KI.step {l:LI}{q i k:Nat}{K:LL}(h:KI l q i k K)(hik:i<k)(hk:k<l.length):KI l q i (k+1) (stp l q i k K):=by
 have hpair:∀{a b:Int},Lk K a b→a∈rng l.length∧b∈rng l.length:=fun{a b} hlk=>by
  rcases hlk with hh|hh
  ·obtain⟨p,q,e,h1,h2⟩:=h.ok.lk _ hh
   simp at e
   exact⟨mem_rng.2 ⟨p,e.1,by omega⟩,mem_rng.2 ⟨q,e.2,h2⟩⟩
  ·obtain⟨p,q,e,h1,h2⟩:=h.ok.lk _ hh
   simp at e
   exact⟨mem_rng.2 ⟨q,e.2,h2⟩,mem_rng.2 ⟨p,e.1,by omega⟩⟩
 have hwt:wt l (i:Int) (k:Int)=(An (iand .u32 (l.getD i 0) (l.getD k 0))).length:=rfl
 have hsplit:∀p r:Nat,p<r→r<l.length→(q<wt l p r∨(wt l p r=q∧(p<i∨(p=i∧r<k+1))))→(q<wt l p r∨(wt l p r=q∧(p<i∨(p=i∧r<k))))∨(wt l p r=q∧p=i∧r=k):=λp r _ _ hh=>by
  rcases hh with hh|⟨h1,hh|⟨h2,h3⟩⟩
  ·exact .inl (.inl hh)
  ·exact .inl (.inr ⟨h1,.inl hh⟩)
  ·by_cases e:r=k
   ·exact .inr ⟨h1,h2,e⟩
   ·exact .inl (.inr ⟨h1,.inr ⟨h2,by omega⟩⟩)
 unfold stp
 split
 ·rename_i hc
  obtain⟨hq,hw⟩:=hc
  rw[En hik]
  obtain⟨φ,R,hR⟩:=h.rank
  have hadd:=h.ok.add hik hk hw
  rw[En hik] at hadd
  refine⟨hadd,hR.add h.ok (by omega) hk hw,λa b hlk=> ?_,λp r hpr hr hh=> ?_⟩
  ·unfold Lk at hlk
   simp only[List.mem_append,List.mem_singleton,List.cons.injEq,and_true] at hlk
   rcases hlk with(h1|⟨rfl,rfl⟩)|(h1|⟨rfl,rfl⟩)
   ·exact h.heavy a b (.inl h1)
   ·rw[hwt,hq];exact Nat.le_refl _
   ·exact h.heavy a b (.inr h1)
   ·rw[F6,hwt,hq];exact Nat.le_refl _
  ·rcases hsplit p r hpr hr hh with h1|⟨_,rfl,rfl⟩
   ·exact(h.seen p r hpr hr h1).more _
   ·exact Wy.one (mem_rng.2 ⟨p,rfl,by omega⟩) (mem_rng.2 ⟨r,rfl,hr⟩) (.inl (by simp)) (Nat.le_refl _)
 ·rename_i hc
  refine⟨h.ok,h.rank,h.heavy,λp r hpr hr hh=> ?_⟩
  rcases hsplit p r hpr hr hh with h1|⟨h1,rfl,rfl⟩
  ·exact h.seen p r hpr hr h1
  ·have hw:WayP K (p:Int) (r:Int):=Classical.byContradiction λhn=>hc ⟨by rw[←hwt];exact h1,hn⟩
   intro P hP hp
   refine hw P hp (λx y hx hlk=> ?_)
   obtain⟨ha,hb⟩:=hpair hlk
   exact hP x y ha hb hx hlk (by have:=h.heavy x y hlk;omega)
theorem KI.row {l:LI}{q i:Nat}{K:LL}(h:KI l q i (i+1) K)(hi:i<l.length):KI l q (i+1) (i+2) (st3 l q i K):=by
 unfold st3
 have:=Fq (λk K=>KI l q i k K) (l.length-(i+1)) (i+1) K h (λj K h1 h2 hj=>hj.step (by omega) (by omega))
 rw[show i+1+(l.length-(i+1))=l.length by omega] at this
 refine⟨this.ok,this.rank,this.heavy,λp r hpr hr hh=>this.seen p r hpr hr ?_⟩
 rcases hh with hh|⟨h1,h2⟩
 ·exact .inl hh
 ·refine .inr ⟨h1,?_⟩
  rcases h2 with h2|⟨h2,h3⟩
  ·by_cases e:p=i
   ·exact .inr ⟨e,hr⟩
   ·exact .inl (by omega)
  ·omega
theorem KI.level {l:LI}{q:Nat}{K:LL}(h:KI l (q+1) l.length (l.length+1) K):KI l q l.length (l.length+1) (st2 l q K):=by
 have h0:KI l q 0 1 K:=by
  refine⟨h.ok,h.rank,λa b hlk=>by have:=h.heavy a b hlk;omega,λp r hpr hr hh=>h.seen p r hpr hr ?_⟩
  rcases hh with hh|⟨_,hh⟩
  ·by_cases e:wt l p r=q+1
   ·exact .inr ⟨e,.inl (by omega)⟩
   ·exact .inl (by omega)
  ·omega
 unfold st2
 have:=Fq (λi K=>KI l q i (i+1) K) l.length 0 K h0 (λj K h1 h2 hj=>hj.row (by omega))
 rw[Nat.zero_add] at this
 exact this
theorem st1_KI {l:LI}(hw:∀p q:Nat,p<l.length→q<l.length→wt l p q≤16):KI l 0 l.length (l.length+1) (st1 l):=by
 have h0:KI l 17 l.length (l.length+1) []:=by
  refine⟨⟨by simp,by simp⟩,⟨_,_,Rank.nil _⟩,λa b hlk=>by rcases hlk with hlk|hlk<;>simp at hlk,λp r hpr hr hh=> ?_⟩
  have:=hw p r (by omega) hr
  omega
 unfold st1
 have:=Fq (λj K=>KI l (17-j) l.length (l.length+1) K) 17 0 [] h0 (λj K h1 h2 hj=>by
  have e:17-j=(16-j)+1:=by omega
  rw[e] at hj
  have:=hj.level
  rw[show 17-(j+1)=16-j by omega]
  exact this)
 exact this
theorem st1_tree {l:LI}(hn:1≤l.length)(hw:∀p q:Nat,p<l.length→q<l.length→wt l p q≤16):
  (st1 l).length+1=l.length∧(∀p q,p∈rng l.length→q∈rng l.length→Wy (rng l.length) (Lk (st1 l)) (wt l) (wt l p q) p q):=by
 have h:=st1_KI hw
 have hall:∀p q,p∈rng l.length→q∈rng l.length→Wy (rng l.length) (Lk (st1 l)) (wt l) (wt l p q) p q:=λp q hp hq=>by
  obtain⟨p,rfl,hpl⟩:=mem_rng.1 hp
  obtain⟨q,rfl,hql⟩:=mem_rng.1 hq
  have hsee:∀a b:Nat,a<b→b<l.length→Wy (rng l.length) (Lk (st1 l)) (wt l) (wt l a b) a b:=λa b hab hb=>h.seen a b hab hb (by
   by_cases e:wt l a b=0
   ·exact .inr ⟨e,.inl (by omega)⟩
   ·exact .inl (by omega))
  rcases Nat.lt_trichotomy p q with h1|rfl|h1
  ·exact hsee p q h1 hql
  ·exact Wy.refl
  ·have:=hsee q p h1 hpl
   rw[F6 l p q]
   intro P hP hpp
   apply Classical.byContradiction
   intro hn
   exact this (λx=>¬P x) (λx y hx hy hnx hlk hw hPy=>hnx (hP y x hy hx hPy hlk.symm (by rw[F6 l y x];exact hw))) hn hpp
 refine⟨?_,hall⟩
 obtain⟨φ,R,hR⟩:=h.rank
 have hway:∀x y:Nat,x<l.length→y<l.length→φ x=φ y:=λx y hx hy=>(hR.way x y hx hy).1 (λT hT hcl=>hall x y (mem_rng.2 ⟨x,rfl,hx⟩) (mem_rng.2 ⟨y,rfl,hy⟩) T (λa b _ _ ha hlk _=>hcl a b ha hlk) hT)
 have hR1:R.length=1:=by
  have h0:=hR.rep 0 (by omega)
  match R,h0,hR with
  |[r],_,_=>rfl
  |r::s::R',_,hR=>
   have e1:=hR.fix r (by simp);have e2:=hR.fix s (by simp)
   have:=hway r s e1.1 e2.1
   rw[e1.2,e2.2] at this
   have hnd:=hR.nd
   rw[List.nodup_cons] at hnd
   exact absurd (by rw[this];simp) hnd.1
 have:=hR.len
 omega
structure GS (n:Nat)(m:Int)(k:Nat):Prop where
 vs:VS m
 lt:∀v,has m v=true→v<n
 left:SQ n (iandNot .u32 (full n) m) k
def rm (n:Nat)(m:Int):Int:=iandNot .u32 (full n) m
theorem has_rm {n:Nat}{m:Int}(hn:n≤16)(hm:VS m)(v:Nat):has (rm n m) v=(decide (v<n)&& !has m v):=by
 unfold rm;rw[Bw (Dr n) hm,C7 hn]
theorem GS.zero {n:Nat}(hn:n≤16):GS n 0 n:=by
 refine⟨VS.zero,λv hv=>absurd hv (by rw[BI];simp),?_⟩
 have:iandNot .u32 (full n) 0=full n:=(VS.iandNot _ _).ext (Dr n) (λv _=>by rw[Bw (Dr n) VS.zero,BI];simp)
 rw[this];exact SQ.full hn
theorem GS.add {n k v:Nat}{m:Int}(hn:n≤16)(h:GS n m (k+1))(hv:v<n)(hm:has m v=false):GS n (ior .u32 m (ishl .u32 1 (v:Int))) k:=by
 refine⟨VS.ior _ _,λw hw=> ?_,?_⟩
 ·rw[Cu h.vs (VS.ishl _ _),BY (by omega),Bool.or_eq_true] at hw
  rcases hw with hw|hw
  ·exact h.lt w hw
  ·have:=of_decide_eq_true hw;omega
 ·have e:iandNot .u32 (full n) (ior .u32 m (ishl .u32 1 (v:Int)))=iandNot .u32 (iandNot .u32 (full n) m) (ishl .u32 1 (v:Int)):=by
   refine(VS.iandNot _ _).ext (VS.iandNot _ _) (λw _=> ?_)
   rw[Bw (Dr n) (VS.ior _ _),Bw (VS.iandNot _ _) (VS.ishl _ _),Bw (Dr n) h.vs,Cu h.vs (VS.ishl _ _)]
   cases has (full n) w<;>cases has m w<;>simp
  rw[e]
  refine h.left.rm ?_
  have:=has_rm hn h.vs v
  unfold rm at this
  rw[this,hm,decide_eq_true hv];rfl
theorem has_add {v w:Nat}{m:Int}(hm:VS m)(hv:v<32):has (ior .u32 m (ishl .u32 1 (v:Int))) w=(has m w||decide (w=v)):=by
 rw[Cu hm (VS.ishl _ _),BY hv]
noncomputable def bh (F:LI)(m v:Int):Int:=(D.Q2 F m v).getD 0
noncomputable def wv (F:LI)(rec:Int→Int)(m v:Int):Int:=if((An (bh F m v)).length:Int)<rec (ior .u32 m (ishl .u32 1 v)) then rec (ior .u32 m (ishl .u32 1 v)) else((An (bh F m v)).length:Int)
noncomputable def wd (F:LI)(n:Nat):Nat→Int→Int
 |0,_=>0
 |k+1,m=>(An (rm n m)).foldl (λb v=>if wv F (wd F n k) m v<b then wv F (wd F n k) m v else b) 16
theorem GS.done {n:Nat}{m:Int}(hn:n≤16)(h:GS n m 0):m=full n:=by
 have hz:rm n m=0:=h.left.z
 refine h.vs.ext (Dr n) (λv _=> ?_)
 rw[C7 hn]
 have:=has_rm hn h.vs v
 rw[hz,BI] at this
 cases hm:has m v with
 |true=>exact(decide_eq_true (h.lt v hm)).symm
 |false=>
  rw[hm] at this
  simp at this
  simp;exact this
theorem toNat_lt {n:Nat}{m:Int}(h:∀v,has m v=true→v<n):m.toNat<2^n:=by
 refine Nat.lt_pow_two_of_testBit _ (λi hi=> ?_)
 cases hc:m.toNat.testBit i with
 |false=>rfl
 |true=>have:=h i hc;omega
structure TOk (F:LI)(n:Nat)(T:LI):Prop where
 len:T.length=2^n
 ok:∀m k,GS n m k→T.getD m.toNat (-1)= -1∨T.getD m.toNat (-1)=wd F n k m
theorem GS.tlt {n k:Nat}{m:Int}(h:GS n m k):m.toNat<2^n:=toNat_lt h.lt
theorem GS.card {n k k':Nat}{m:Int}(h:GS n m k)(h':GS n m k'):k=k':=by rw[←h.left.card,h'.left.card]
theorem TOk.set {F:LI}{n k:Nat}{T:LI}{m:Int}(h:TOk F n T)(hm:GS n m k):TOk F n (T.set m.toNat (wd F n k m)):=by
 refine⟨by rw[List.length_set,h.len],λm' k' hm'=> ?_⟩
 have hl:=hm'.tlt
 rw[←h.len] at hl
 rw[List.getD_eq_getElem?_getD,List.getElem?_set]
 by_cases he:m.toNat=m'.toNat
 ·have e:m=m':=by have:=hm.vs.1;have:=hm'.vs.1;omega
  subst e
  rw[if_pos rfl,if_pos hl]
  obtain rfl:=hm.card hm'
  exact .inr rfl
 ·rw[if_neg he,←List.getD_eq_getElem?_getD]
  exact h.ok m' k' hm'
theorem TB.sh {g B K:LL}(hg:GOk g)(h:TB g B K):Sh2 B∧Sh2 K:=by
 have h16:=hg.n16;have:=h.n16;have:=h.many
 refine⟨⟨by unfold Sh;omega,λb hb=>by have:=(h.sets b hb).length_le (by omega);unfold Sh;omega⟩,⟨by unfold Sh;omega,λl hl=> ?_⟩⟩
 obtain⟨a,b,rfl,_⟩:=h.lks l hl
 simp[Sh]
section
variable {g B K : LL} (hg : GOk g) (h : TB g B K)
include hg h
theorem Gf :∃B' K':LL,D.M2 B K=some (B,K.mergeSort B4)∧D.Y0 B K=some (B',K')∧
  (Aq (σ:=LL×LL) (ρ:=((LL)×(LL)×Bool)) (fun(s_125:LL×LL)=>match s_125 with|(l_128,l_133)=>(D.p2 l_128 l_133).bind λy_139=>cond (decide (y_139.1<0)) (some (.inr (l_128,l_133,true))) ((D.n2 l_128 l_133 y_139.1 y_139.2).bind λy_160=>some (.inl (y_160.1,y_160.2)))) (B,K.mergeSort B4)=some (B',K',true))∧
  B'.length≤16∧(∀x∈B',x.length≤32)∧K'.length≤16∧(∀x∈K',x.length=2)∧
  ∃M',B'=M'.map An∧TS M' K'∧Cx M' K'=none∧Kept g (B.map mk) M' K':=by
 have h16:=hg.n16;have b16:=h.n16;have hm:=h.many
 obtain⟨hB,hK⟩:=h.sh hg
 have hgood:∀x∈K,Cv x:=λx hx=>(h.lks x hx).good (by omega)
 have hBe:(B.map mk).map An=B:=by
  rw[List.map_map]
  conv=>rhs;rw[←List.map_id B]
  refine List.map_congr_left (λb hb=> ?_)
  have hs:=h.sets b hb
  exact elems_mk' h16 hs.1 hs.2
 have hT:TS (B.map mk) (K.mergeSort B4):=by
  refine⟨by simpa using b16,λs hs=> ?_,λl hl=> ?_,by rw[(BR _).length_eq];omega⟩
  ·obtain⟨b,_,rfl⟩:=List.mem_map.1 hs
   exact VS.mk _
  ·rw[List.length_map]
   exact h.lks l ((BR K).mem_iff.1 hl)
 obtain⟨M',K',hT',e1,e2,e3,e4⟩:=tidy_both 16 (B.map mk) (K.mergeSort B4) (by simpa using b16) hT
 rw[hBe] at e2
 have hkept:Kept g (B.map mk) M' K':=e4 (Kept g (B.map mk)) ⟨by rw[hBe];exact TB.perm h (BR K),Nat.le_refl _,λs hs=>hs,λs hs=>⟨s,hs,λv hv=>hv⟩⟩ (λM K g k hTS e hI=>hI.step hTS e)
 refine⟨M'.map An,K',?_,?_,e2,by rw[List.length_map];exact hT'.n16,λx hx=> ?_,hT'.k16,λx hx=> ?_,M',rfl,hT',e3,hkept⟩
 ·unfold D.M2
  refine(B8 (λi=>((i:Int),B.take i)) B.length B (by simp) (λi hi=> ?_) ?_).trans ?_
  ·simp only[dlt hi,cond_true,AB hi,bs,DE _ (hB.2 _ (List.getElem_mem hi)),wq i]
   rw[A9 (by simp;omega),bs,List.take_succ_eq_append_getElem hi]
  ·simp only[Bc,cond_false,List.take_length]
  ·refine(B8 (λi=>((i:Int),C5 [] (K.take i))) K.length (C5 [] K) (by simp[C5]) (λi hi=> ?_) ?_).trans ?_
   ·obtain⟨a,b,e,hab,hb⟩:=h.lks _ (List.getElem_mem hi)
    have i0:idx K[i] 0=some (a:Int):=by rw[e];rfl
    have i1:idx K[i] 1=some (b:Int):=by rw[e];rfl
    have el:BP (a:Int) (b:Int)=K[i]:=by
     rw[e];unfold BP
     rw[show min (a:Int) (b:Int)=a by omega,show max (a:Int) (b:Int)=b by omega]
    obtain⟨hp,_⟩:=Em (K.take i) [] (by simp[DR])
    rw[List.append_nil] at hp
    have hlen:(C5 [] (K.take i)).length≤16:=by rw[hp.length_eq,List.length_take];omega
    simp only[dlt hi,cond_true,AB hi,bs,i0,i1,wq i]
    rw[FN (λx hx=>hgood x (List.mem_of_mem_take (hp.mem_iff.1 hx))) (by rw[el];exact hgood _ (List.getElem_mem hi)) (by omega),bs,el,List.take_succ_eq_append_getElem hi,Gk]
   ·simp only[Bc,cond_false,List.take_length]
   ·rw[Gg hgood]
 ·unfold D.Y0
  rw[masks_eq hg h.sets b16,bs]
  unfold D.a2
  rw[A9 (by simp;omega)]
  simp only[bs,List.nil_append]
  rw[FH (by omega) hgood,bs,e1,bs]
  dsimp only
  have hl:=hT'.n16;have hk:=hT'.k16
  rw[Fy M' (by unfold Sh;omega) hT'.vs,bs]
  refine(B8 (λi=>((i:Int),K'.take i)) K'.length K' (by simp) (λi hi=> ?_) ?_).trans rfl
  ·obtain⟨a,b,e,_⟩:=hT'.lk _ (List.getElem_mem hi)
   have hc:D.Q0 K'[i]=some K'[i]:=by
    unfold D.Q0
    rw[A9 (by rw[e];simp)];rfl
   simp only[dlt hi,cond_true,AB hi,bs,hc,wq i]
   rw[A9 (by simp;omega),bs,List.take_succ_eq_append_getElem hi]
  ·simp only[Bc,cond_false,List.take_length]
 ·obtain⟨s,_,rfl⟩:=List.mem_map.1 hx
  exact BF s
 ·obtain⟨a,b,rfl,_⟩:=hT'.lk x hx
  rfl
end
end Go.Sx

namespace Go.Sx
noncomputable def bo (F:LI)(n:Nat)(most:Int):Nat→Int→LI
 |0,_=>[]
 |k+1,m=>match(An (rm n m)).find? (λv=>decide (wv F (wd F n k) m v≤most)) with
  |some v=>v::bo F n most k (ior .u32 m (ishl .u32 1 v))
  |none=>[]
noncomputable def ow (F:LI):Int→LI→Int
 |_,[]=>0
 |m,v::r=>max ((An (bh F m v)).length:Int) (ow F (ior .u32 m (ishl .u32 1 v)) r)
section
variable {g : LL} {o F L : LI} (hg : GOk g) (ho : OOk g o) (hF : Fill g o F L)
include hg ho hF
end
end Go.Sx

namespace Go.Sx
def wB (B:LL):Int:=B.foldl (λs b=>if s<(b.length:Int)-1 then(b.length:Int)-1 else s) (-1)
theorem elems_sub_len {s t:Int}(hs:VS s)(ht:VS t)(h:∀v,has s v=true→has t v=true):(An s).length≤(An t).length:=by
 refine BM ((Bz s).imp (λh=>by omega)) (λx hx=> ?_)
 obtain⟨v,hv,h1,rfl⟩:=mem_elems.1 hx
 exact(AQ ht).2 (h v h1)
def S16 (s:Int):Prop:=0≤s∧s<65536
theorem S16.vs {s:Int}(h:S16 s):VS s:=⟨h.1,by have:=h.2;omega⟩
theorem S16.nat {s:Int}(h:S16 s):∃n:Nat,s=n∧n<65536:=⟨s.toNat,by have:=h.1;omega,by have:=h.1;have:=h.2;omega⟩
theorem S16.lt {s:Int}(h:S16 s){v:Nat}(hv:has s v=true):v<16:=by
 obtain⟨n,rfl,hn⟩:=h.nat
 rw[Cp] at hv
 have:=Nat.ge_two_pow_of_testBit hv
 apply Classical.byContradiction
 intro hc
 have h2:2^16≤2^v:=Nat.pow_le_pow_right (by omega) (by omega)
 omega
theorem In.of {n i:Nat}(h:i<2^n)(hn:n≤16):In n (i:Int):=by
 have:2^n≤2^16:=Nat.pow_le_pow_right (by omega) hn
 refine⟨⟨by omega,by omega⟩,λw hw=> ?_⟩
 rw[Cp] at hw
 have:=Nat.ge_two_pow_of_testBit hw
 apply Classical.byContradiction
 intro hc
 have h2:2^n≤2^w:=Nat.pow_le_pow_right (by omega) (by omega)
 omega
theorem l7Fill_ok {g:LL}{o:LI}(hg:GOk g)(ho:OOk g o):∃x,D.b1 g o=some x∧GOk x:=by
 have h16:=hg.n16;have hl:=ho.len
 unfold D.b1 D.a
 rw[l1CopyGraph_eq hg,bs,bs,DV (by omega) (by omega),bs]
 refine AP (λs=>∃i:Nat,s.2.1=(i:Int)∧i≤o.length∧s.1.length=g.length∧GOk s.2.2∧s.2.2.length=g.length) (λs=>o.length-s.2.1.toNat) (λr=>GOk r) ?_ ⟨0,rfl,by omega,by simp,hg,rfl⟩ (λr hr=>⟨r,rfl,hr⟩)
 rintro⟨gone,_,x⟩ ⟨i,rfl,hi,hgl,hx,hxl⟩
 dsimp only at hgl hx hxl ⊢
 by_cases hil:i<o.length
 ·have hr:=ho.rng _ (List.getElem_mem hil)
  obtain⟨v,hv⟩:∃v:Nat,o[i]=(v:Int):=⟨o[i].toNat,by omega⟩
  have hvn:v<g.length:=by omega
  simp only[dlt hil,cond_true,AB hil,hv,bs,AB (show v<gone.length by omega),Int.toNat_natCast,wq i]
  rw[FI x hx (by omega) (gone.set v true) (by simp;omega),bs]
  obtain⟨x',e,k1,k2,_⟩:=l7Clique_ok hx (lft_inc hx (show v<x.length by omega) (gone.set v true)) (lft_rng hx (by omega) _)
  rw[e,bs]
  exact⟨_,rfl,⟨i+1,rfl,by omega,by simp[hgl],k1,by dsimp only;omega⟩,by dsimp only;omega⟩
 ·obtain rfl:i=o.length:=by omega
  simp only[Bc,cond_false]
  exact⟨_,rfl,hx⟩
theorem FillOf_few {g:LL}{o:LI}(hg:Few g)(ho:Sh o):∃y,D.a0 g o=some y∧Few y.1:=by
 unfold D.a0
 rw[GB g o hg.sh2 ho,bs]
 cases hc:gB g&&ordB g o
 ·exact⟨_,rfl,by simp,by simp⟩
 ·rw[Bool.and_eq_true] at hc
  obtain⟨x,e,hx⟩:=l7Fill_ok ((EB g).1 hc.1) ((ordB_iff g o).1 hc.2)
  rw[Bool.not_true,cond_false,e]
  exact⟨_,rfl,hx.few⟩
theorem l8Draw_dw {b:LI}{i:Int}(h:DK b i)(z:Int):Dw b Few (D.S b i z):=by
 unfold D.S
 refine(DrawAny_dw h z).then λg i0 z0 hg hk=> ?_
 refine(Fh hk z0 2).then λt i1 z1 _ hk=> ?_
 dsimp only
 cases t
 ·exact⟨_,rfl,hg,rfl,hk⟩
 ·simp only[cond_true]
  refine(DrawOrder_dw hk z1 hg).then λo i2 z2 ho hk=> ?_
  refine BO _ (FillOf_few hg (show Sh o by unfold Sh;omega)) ?_
  rintro⟨x,t⟩ hx
  dsimp only at hx ⊢
  cases t
  ·exact⟨_,rfl,hg,rfl,hk⟩
  ·exact⟨_,rfl,hx,rfl,hk⟩
theorem clq_pairs {g:LL}(hg:GOk g){l:LI}(hr:∀x∈l,0≤x∧x<g.length)(h:Clq g l l.length):∀u w:Nat,(u:Int)∈l→(w:Int)∈l→u≠w→adj g u w:=by
 intro u w hu hw hne
 obtain⟨i,hi,ei⟩:=List.getElem_of_mem hu
 obtain⟨k,hk,ek⟩:=List.getElem_of_mem hw
 have ru:=hr _ hu;have rw':=hr _ hw
 rcases Nat.lt_trichotomy i k with c|c|c
 ·have:=h k i hk c
  rw[Az hi,Az hk,ei,ek,Int.toNat_natCast,Int.toNat_natCast] at this
  exact this
 ·subst c;rw[ei] at ek;omega
 ·have:=h i k hi c
  rw[Az hi,Az hk,ei,ek,Int.toNat_natCast,Int.toNat_natCast] at this
  exact hg.sym w u (by omega) this
theorem Gc {g:LL}(hg:GOk g):∃y,D.w0 g=some y∧(y.2=true→OOk g y.1∧PEOg g y.1):=by
 have h16:=hg.n16
 unfold D.w0 D.a
 rw[CD g hg.sh2,Eg hg]
 simp only[bs,Bool.not_true,cond_false]
 rw[DV (by omega) (by omega),bs]
 refine AP
  (λs=>s.1.length=g.length∧s.2.length≤g.length∧s.2.Nodup∧(∀x∈s.2,0≤x∧x<g.length)∧(∀v,v<g.length→(s.1.getD v false=true↔(v:Int)∈s.2))∧PEOg g s.2) (λs=>g.length-s.2.length)
  (λr=>(∃l,r= .inl l∧OOk g l∧PEOg g l)∨∃l,r= .inr (l,false)) ?_ ?_ ?_
 ·rintro⟨gone,out⟩ ⟨hgl,hol,hnd,hrg,hm,hpe⟩
  dsimp only at hgl hol hnd hrg hm hpe ⊢
  by_cases hlt:out.length<g.length
  ·simp only[dlt hlt,cond_true]
   refine AP (λx=>∃v:Nat,x=(v:Int)∧v≤g.length) (λx=>g.length-x.toNat) (λr=>∃v:Nat,r=(v:Int)∧v≤g.length∧(v<g.length→gone.getD v false=false∧Clq g (lft g v gone) (lft g v gone).length)) ?_ ⟨0,rfl,by omega⟩ ?_
   ·rintro _ ⟨v,rfl,hv⟩
    by_cases hvn:v<g.length
    ·have hgv:gone[v]'(by omega)=gone.getD v false:=(Az (by omega) _).symm
     simp only[dlt hvn,cond_true,AB (show v<gone.length by omega),bs,wq v]
     cases hc:gone[v]'(by omega)
     ·rw[cond_false,FI g hg hvn gone hgl,bs]
      obtain⟨b,e1,h1⟩:=l8Clique_ok g hg (lft g v gone) (lft_len hg hvn _) (lft_rng hg hvn _)
      rw[e1,bs]
      cases b
      ·rw[Bool.not_false,cond_true]
       exact⟨_,rfl,⟨v+1,rfl,by omega⟩,by simp;omega⟩
      ·rw[Bool.not_true,cond_false]
       exact⟨_,rfl,v,rfl,by omega,λ_=>⟨by rw[←hgv,hc],h1.1 rfl⟩⟩
     ·rw[cond_true]
      exact⟨_,rfl,⟨v+1,rfl,by omega⟩,by simp;omega⟩
    ·obtain rfl:v=g.length:=by omega
     simp only[Bc,cond_false]
     exact⟨_,rfl,_,rfl,by omega,λh=>by omega⟩
   ·rintro _ ⟨v,rfl,hvl,hv⟩
    by_cases hvn:v<g.length
    ·obtain⟨hgf,hq⟩:=hv hvn
     have hvo:(v:Int)∉out:=λhc=>by
      have:=(hm v hvn).2 hc
      rw[hgf] at this;cases this
     have e1:(((v:Nat):Int)==(g.length:Int))=false:=by simp;omega
     rw[e1,cond_false,AB (show v<gone.length by omega),bs,A9 (by simp;omega),bs]
     refine⟨_,rfl,⟨by simp[hgl],by simp;omega,?_,?_,λx hx=> ?_,?_⟩,by simp;omega⟩
     ·rw[List.nodup_append]
      exact⟨hnd,by simp,λa ha b hb=>by simp at hb;subst hb;exact λe=>hvo (e▸ha)⟩
     ·intro x hx
      rcases List.mem_append.1 hx with hx|hx
      ·exact hrg x hx
      ·simp at hx;omega
     ·rw[Int.toNat_natCast,List.mem_append,List.mem_singleton]
      by_cases hxv:x=v
      ·subst hxv;simp[List.getD_eq_getElem?_getD,hgl,hx]
      ·have:(gone.set v true).getD x false=gone.getD x false:=by
        simp only[List.getD_eq_getElem?_getD,List.getElem?_set]
        rw[if_neg (λe=>hxv e.symm)]
       rw[this,hm x hx]
       exact⟨.inl,λh=>h.elim id (λe=>absurd (by omega) hxv)⟩
     ·intro j a u w hj hau haw hu hw hne
      dsimp only at hj hu hw
      by_cases hjl:j<out.length
      ·rw[List.getElem?_append_left hjl] at hj
       rw[List.take_append_of_le_length (by omega)] at hu hw
       exact hpe j a u w hj hau haw hu hw hne
      ·have hje:j=out.length:=by
        have:=(List.getElem?_eq_some_iff.1 hj).1
        simp at this;omega
       subst hje
       have hav:a=v:=by
        rw[List.getElem?_append_right (by omega)] at hj
        simp at hj;omega
       subst hav
       rw[List.take_of_length_le (by simp)] at hu hw
       have hin:∀x:Nat,adj g a x→(x:Int)∉out++[(a:Int)]→(x:Int)∈lft g a gone:=λx hx hxo=>by
        have hxn:=hg.lt hvn hx
        refine List.mem_filter.2 ⟨hx,?_⟩
        rw[Int.toNat_natCast]
        cases hc:gone.getD x false
        ·rfl
        ·exact absurd (List.mem_append.2 (.inl ((hm x hxn).1 hc))) hxo
       exact clq_pairs hg (lft_rng hg hvn gone) hq u w (hin u hau hu) (hin w haw hw) hne
    ·obtain rfl:v=g.length:=by omega
     simp only[beq_self_eq_true,cond_true]
     exact⟨_,rfl,.inr ⟨_,rfl⟩⟩
  ·have e1:decide ((out.length:Int)<(g.length:Int))=false:=decide_eq_false (by omega)
   rw[e1,cond_false]
   exact⟨_,rfl,.inl ⟨_,rfl,⟨by omega,hrg,hnd⟩,hpe⟩⟩
 ·refine⟨by simp,by simp,by simp,by simp,λv hv=> ?_,λj a u w hj=>by simp at hj⟩
  simp[List.getD_eq_getElem?_getD,List.getElem?_replicate,hv]
 ·rintro _ (⟨l,rfl,h1,h2⟩|⟨l,rfl⟩)
  ·exact⟨_,rfl,λ_=>⟨h1,h2⟩⟩
  ·exact⟨_,rfl,λh=>by cases h⟩
theorem Gn {g:LL}{o l:LI}(hg:GOk g)(ho:OOk g o)(hp:PEOg g o)(hl:GC g l):l.length≤g.length:=by
 classical
 have h16:=hg.n16
 let Bp:Nat→Nat→Prop:=λj w=>o[j]? =some (w:Int)∨∃v:Nat,o[j]? =some (v:Int)∧adj g v w∧(w:Int)∉o.take (j+1)
 let B:Nat→Int:=λj=>mk (((List.range g.length).filter λw=>decide (Bp j w)).map Int.ofNat)
 have hB:∀j w,has (B j) w=decide (w<g.length∧Bp j w):=λj w=>by
  show has (mk _) w=_
  rw[CJ]
  ·rw[Bool.eq_iff_iff,decide_eq_true_eq,decide_eq_true_eq,List.mem_map]
   constructor
   ·rintro⟨x,hx,e⟩
    have e':(x:Int)=(w:Int):=e
    obtain rfl:x=w:=by omega
    have:=List.mem_filter.1 hx
    exact⟨List.mem_range.1 this.1,of_decide_eq_true this.2⟩
   ·rintro⟨h1,h2⟩
    exact⟨w,List.mem_filter.2 ⟨List.mem_range.2 h1,decide_eq_true h2⟩,rfl⟩
  ·intro z hz
   obtain⟨x,hx,rfl⟩:=List.mem_map.1 hz
   have:=List.mem_range.1 (List.mem_filter.1 hx).1
   exact⟨Int.natCast_nonneg x,by show (x:Int)<32;omega⟩
 have key:=BM (m:=(List.range g.length).map B) (Ev hl.up) (λK hK=>by
  obtain⟨hI,hM⟩:=(hl.mem K).1 hK
  have hne:∃v,has K v=true:=by
   cases hc:has K 0
   ·obtain⟨u,hu,_⟩:=hM.2 0 (by have:=hg.n1;omega) hc
    exact⟨u,hu⟩
   ·exact⟨0,hc⟩
  obtain⟨j,⟨v,hj,hv⟩,hmin⟩:=least_of (P:=λj=>∃v:Nat,o[j]? =some (v:Int)∧has K v=true) (by
   obtain⟨v,hv⟩:=hne
   obtain⟨i,_,e⟩:=D5 ho (hI.2 v hv)
   exact⟨i,v,e,hv⟩)
  have hjl:j<g.length:=by
   have:=(List.getElem?_eq_some_iff.1 hj).1
   have:=ho.len
   omega
  have hvn:=hI.2 v hv
  have hlate:∀w,has K w=true→w≠v→(w:Int)∉o.take (j+1):=λw hw hwv hm=>by
   obtain⟨i,hi,hij,e⟩:=mem_take_iff.1 hm
   rcases Nat.lt_or_ge i j with c|c
   ·exact hmin i c ⟨w,by rw[List.getElem?_eq_getElem hi,e],hw⟩
   ·obtain rfl:i=j:=by omega
    rw[List.getElem?_eq_getElem hi,e] at hj
    have:(w:Int)=v:=Option.some.inj hj
    omega
  refine List.mem_map.2 ⟨j,List.mem_range.2 hjl,(VS.ext (VS.mk _) hI.1 (λw _=> ?_))⟩
  show has (B j) w=_
  rw[hB,Bool.eq_iff_iff,decide_eq_true_eq]
  constructor
  ·rintro⟨hwn,hb⟩
   rcases hb with hb|⟨v',hj',ha,hn⟩
   ·rw[hb] at hj
    have:(w:Int)=v:=Option.some.inj hj
    obtain rfl:w=v:=by omega
    exact hv
   ·rw[hj'] at hj
    have:(v':Int)=v:=Option.some.inj hj
    obtain rfl:v'=v:=by omega
    cases hc:has K w
    ·exfalso
     obtain⟨u,hu,hnu⟩:=hM.2 w hwn hc
     have hun:=hI.2 u hu
     have hadj:adj g u w:=by
      by_cases huv:u=v'
      ·rw[huv];exact ha
      ·have h1:=(CL hg hvn).1 (hM.1 v' u hv hu (λe=>huv e.symm))
       exact hp j v' u w hj' h1 ha (hlate u hu huv) hn (λe=>by subst e;rw[hc] at hu;cases hu)
     rw[(CL hg hun).2 hadj] at hnu;cases hnu
    ·rfl
  ·intro hw
   refine⟨hI.2 w hw,?_⟩
   by_cases hwv:w=v
   ·subst hwv;exact .inl hj
   ·exact .inr ⟨v,hj,(CL hg hvn).1 (hM.1 v w hv hw (λe=>hwv e.symm)),hlate w hw hwv⟩)
 simpa using key
def both (a b:LI)(n:Nat):LI:=((List.range n).filter λt:Nat=>decide ((t:Int)∈a)||decide ((t:Int)∈b)).map Int.ofNat
theorem w5Lists_self (l:LL)(h:Sh2 l):D.N0 l l=some true:=by
 have hl:=h.1
 unfold Sh at hl
 unfold D.N0
 have e:((l.length:Int) !=(l.length:Int))=false:=by simp
 rw[e,cond_false]
 refine(B8 (λi=>((i:Nat):Int)) l.length (.inl ()) rfl (λi hi=> ?_) ?_).trans rfl
 ·simp only[dlt hi,cond_true,AB hi,bs,likeInts_self _ (h.2 _ (List.getElem_mem hi)),Bool.not_true,cond_false,wq i]
 ·simp only[Bc,cond_false]
def Cb (M:LI)(x:Int)(v:Nat):Prop:=has (M.getD x.toNat 0) v=true
theorem CP {M:LI}{i:Nat}(h:i<M.length):M.getD i 0∈M:=by rw[Az h];exact List.getElem_mem h
theorem TB.ct {g K:LL}{M:LI}(hv:∀s∈M,VS s)(h:TB g (M.map An) K):CT (Cb M) (M.length-1) (rng M.length) K:=by
 have h1:=h.n1;have hm:=h.many
 rw[List.length_map] at h1 hm
 have hlk:∀l∈K,LinkIn M.length l:=λl hl=>by have:=h.lks l hl;rwa [List.length_map] at this
 have hrow:∀{i:Nat},i<M.length→∀v:Nat,(v:Int)∈(M.map An).getD i []↔has (M.getD i 0) v=true:=fun{i} hi v=>by
  rw[Az (by simpa using hi),List.getElem_map,Az hi]
  exact AQ (hv _ (List.getElem_mem hi))
 refine⟨by rw[rng_len];omega,rng_nodup _,by omega,?_,λl hl=> ?_,λv T ⟨x0,hx0,hC0,hT0⟩ hcl x hx hC=> ?_⟩
 ·have:=h.tree
  rw[List.length_map] at this
  exact this
 ·obtain⟨a,b,rfl,hab,hb⟩:=hlk l hl
  exact⟨a,b,rfl,by omega,mem_rng.2 ⟨a,rfl,by omega⟩,mem_rng.2 ⟨b,rfl,hb⟩⟩
 ·obtain⟨i,rfl,hi⟩:=mem_rng.1 hx
  obtain⟨i0,rfl,hi0⟩:=mem_rng.1 hx0
  have hvg:v<g.length:=by
   have:=(h.sets _ (List.mem_map.2 ⟨_,CP hi,rfl⟩)).2 (v:Int) ((AQ (hv _ (CP hi))).2 (by simpa [Cb] using hC))
   omega
  have hw:∀{i:Nat},i<M.length→Cb M (i:Int) v→(i:Int)∈Cd (M.map An) (v:Int):=fun{i} hi hC=>mem_withV.2 ⟨i,rfl,by simpa using hi,(hrow hi v).2 (by simpa [Cb] using hC)⟩
  refine(conn_iff.1 (h.conn v hvg)) T ⟨(i0:Int),hw hi0 hC0,hT0⟩ (λp q hp hq hTp hl=> ?_) (i:Int) (hw hi hC)
  obtain⟨p,rfl,hp1,hp2⟩:=mem_withV.1 hp
  obtain⟨q,rfl,hq1,hq2⟩:=mem_withV.1 hq
  rw[List.length_map] at hp1 hq1
  exact hcl _ _ (mem_rng.2 ⟨p,rfl,hp1⟩) (mem_rng.2 ⟨q,rfl,hq1⟩) (by simpa [Cb] using (hrow hp1 v).1 hp2) (by simpa [Cb] using (hrow hq1 v).1 hq2) hTp hl
theorem no_nest {g K:LL}{M:LI}(hT:TB g (M.map An) K)(hS:TS M K)(hsp:Cx M K=none){i j:Nat}(hi:i<M.length)(hj:j<M.length)(hij:i≠j):¬∀v,has (M.getD i 0) v=true→has (M.getD j 0) v=true:=by
 intro hsub
 obtain⟨a,b,hlk,hab⟩:=(hT.ct hS.vs).nested (mem_rng.2 ⟨i,rfl,hi⟩) (mem_rng.2 ⟨j,rfl,hj⟩) (by omega) (by simpa [Cb] using hsub)
 have hprt:∀{a b:Nat},a<M.length→b<M.length→(∀v,has (M.getD a 0) v=true→has (M.getD b 0) v=true)→prt (M.getD a 0) (M.getD b 0)=true:=fun{a b} ha hb h=>by
  unfold prt
  rw[beq_iff_eq,(VS.eq_zero (VS.iandNot _ _))]
  intro v _
  rw[Bw (hS.vs _ (CP ha)) (hS.vs _ (CP hb))]
  cases hc:has (M.getD a 0) v
  ·rfl
  ·rw[h v hc];rfl
 unfold Cx at hsp
 rw[List.findSome?_eq_none_iff] at hsp
 have hnone:∀l∈K,De M l=none:=λl hl=>by
  obtain⟨k,hk,rfl⟩:=List.getElem_of_mem hl
  have:=hsp k (List.mem_range.2 hk)
  rwa [Az hk] at this
 rcases hlk with hl|hl
 ·obtain⟨p,q,e,hpq,hq⟩:=hS.lk _ hl
  simp only[List.cons.injEq,and_true] at e
  obtain⟨rfl,rfl⟩:=e
  have h1:=hnone _ hl
  unfold De at h1
  simp only[List.getD_cons_zero,List.getD_cons_succ,Int.toNat_natCast] at h1
  split at h1
  ·cases h1
  ·rw[if_pos (hprt (by omega) hq (by simpa [Cb] using hab))] at h1;cases h1
 ·obtain⟨p,q,e,hpq,hq⟩:=hS.lk _ hl
  simp only[List.cons.injEq,and_true] at e
  obtain⟨rfl,rfl⟩:=e
  have h1:=hnone _ hl
  unfold De at h1
  simp only[List.getD_cons_zero,List.getD_cons_succ,Int.toNat_natCast] at h1
  rw[if_pos (hprt hq (by omega) (by simpa [Cb] using hab))] at h1;cases h1
theorem clique_bags {g:LL}{o l:LI}(hg:GOk g)(ho:OOk g o)(hp:PEOg g o)(hGC:GC g l):
  ∃(M:LI) (K:LL),CT (Cb M) (M.length-1) (rng M.length) K∧M.Nodup∧(∀s,s∈M↔s∈l)∧(∀Q,In g.length Q→CQ (g.map mk) Q→(∃v,has Q v=true)→∃t∈M,∀v,has Q v=true→has t v=true):=by
 classical
 have h16:=hg.n16;have hn1:=hg.n1
 have hFg:=FOk.of hg
 obtain⟨F,L,hF⟩:=fill_ex hg ho
 obtain rfl:F=g.map mk:=hF.same (λj v u w hj h1 h2 h3 h4 h5=>by
  have hv:v<g.length:=by
   have:=ho.rng _ (List.mem_of_getElem? hj);omega
  have hu:=hFg.lt v u hv h1
  exact(CL hg hu).2 (hp j v u w hj ((CL hg hv).1 h1) ((CL hg hv).1 h2) h3 h4 h5))
 have hT:=DecompBy_TB hg ho hF
 obtain⟨B',K',f1,f2,f3,_,_,_,_,M,m1,hS,hsp,hK⟩:=Gf hg hT
 have hTB:TB g (M.map An) K':=hK.tb
 have hl:=ho.len
 have hbag:∀s∈M,∃(j v:Nat) (hj:j<o.length),o[j]=(v:Int)∧v<g.length∧s=mk (CN o L j):=λs hs=>by
  obtain⟨b,hb,rfl⟩:=List.mem_map.1 (hK.old s hs)
  obtain⟨j,hj,rfl⟩:=List.mem_map.1 hb
  have hj:=List.mem_range.1 hj
  have hr:=ho.rng _ (List.getElem_mem hj)
  exact⟨j,(o[j]).toNat,hj,by omega,by omega,rfl⟩
 have hasb:∀{j v:Nat} (hj:j<o.length),o[j]=(v:Int)→v<g.length→∀w,has (mk (CN o L j)) w=true↔w=v∨(nb (g.map mk) v w=true∧(w:Int)∉o.take (j+1)):=fun{j v} hj hv hvn w=>by
  rw[←bagD_mask hg ho hF hj hv hvn,EC (VS.ior _ _),←AQ (VS.ior _ _),bagD_mask hg ho hF hj hv hvn]
  exact Dm hg ho hF hj hv
 have hIn:∀s∈M,In g.length s:=λs hs=>by
  obtain⟨j,v,hj,hv,hvn,rfl⟩:=hbag s hs
  refine⟨VS.mk _,λw hw=> ?_⟩
  rcases(hasb hj hv hvn w).1 hw with rfl|⟨h,_⟩
  ·exact hvn
  ·exact hFg.lt v w hvn h
 have hCQ:∀s∈M,CQ (g.map mk) s:=λs hs=>by
  obtain⟨j,v,hj,hv,hvn,rfl⟩:=hbag s hs
  intro u w hu hw huw
  rcases(hasb hj hv hvn u).1 hu with rfl|⟨h1,h2⟩
  ·rcases(hasb hj hv hvn w).1 hw with rfl|⟨h3,h4⟩
   ·exact absurd rfl huw
   ·exact h3
  ·rcases(hasb hj hv hvn w).1 hw with rfl|⟨h3,h4⟩
   ·exact hFg.sym _ _ hvn h1
   ·exact hF.peo j v u w (by rw[List.getElem?_eq_getElem hj,hv]) h1 h3 h2 h4 huw
 have hcov:∀Q,In g.length Q→CQ (g.map mk) Q→(∃v,has Q v=true)→∃t∈M,∀v,has Q v=true→has t v=true:=λQ hI hQ hne=>by
  obtain⟨j,⟨v,hj,hv⟩,hmin⟩:=least_of (P:=λj=>∃v:Nat,o[j]? =some (v:Int)∧has Q v=true) (by
   obtain⟨v,hv⟩:=hne
   obtain⟨i,_,e⟩:=D5 ho (hI.2 v hv)
   exact⟨i,v,e,hv⟩)
  obtain⟨hjl,ej⟩:=List.getElem?_eq_some_iff.1 hj
  have hvn:=hI.2 v hv
  have hlate:∀w,has Q w=true→w≠v→(w:Int)∉o.take (j+1):=λw hw hwv hm=>by
   obtain⟨i,hi,hij,e⟩:=mem_take_iff.1 hm
   rcases Nat.lt_or_ge i j with c|c
   ·exact hmin i c ⟨w,by rw[List.getElem?_eq_getElem hi,e],hw⟩
   ·obtain rfl:i=j:=by omega
    rw[e] at ej;omega
  obtain⟨t,ht,hsup⟩:=hK.sup (mk (CN o L j)) (List.mem_map.2 ⟨_,List.mem_map.2 ⟨j,List.mem_range.2 hjl,rfl⟩,rfl⟩)
  refine⟨t,ht,λw hw=>hsup w ((hasb hjl ej hvn w).2 ?_)⟩
  by_cases e:w=v
  ·exact .inl e
  ·exact .inr ⟨hQ v w hv hw (λh=>e h.symm),hlate w hw e⟩
 have hno:∀{s t:Int},s∈M→t∈M→(∀v,has s v=true→has t v=true)→s=t:=fun{s t} hs ht h=>by
  obtain⟨i,hi,rfl⟩:=List.getElem_of_mem hs
  obtain⟨j,hj,rfl⟩:=List.getElem_of_mem ht
  by_cases e:i=j
  ·subst e;rfl
  ·exact absurd (by rw[Az hi,Az hj];exact h) (no_nest hTB hS hsp hi hj e)
 have hMnd:M.Nodup:=by
  rw[List.Nodup,List.pairwise_iff_getElem]
  intro i j hi hj hij e
  exact no_nest hTB hS hsp hi hj (by omega) (by rw[Az hi,Az hj,e];exact λv h=>h)
 refine⟨M,K',hTB.ct hS.vs,hMnd,λs=>⟨λhs=> ?_,λhs=> ?_⟩,hcov⟩
 ·refine(hGC.mem s).2 ⟨hIn s hs,hCQ s hs,λw hw hn=> ?_⟩
  apply Classical.byContradiction
  intro hcon
  have hall:∀u,has s u=true→nb (g.map mk) u w=true:=λu hu=>by
   cases hc:nb (g.map mk) u w
   ·exact absurd ⟨u,hu,hc⟩ hcon
   ·rfl
  have hvs:=(hIn s hs).1
  have hadd:=λx=>has_add (w:=x) hvs (show w<32 by omega)
  obtain⟨t,ht,hst⟩:=hcov (ior .u32 s (ishl .u32 1 (w:Int))) ⟨VS.ior _ _,λx hx=>by
   rw[hadd,Bool.or_eq_true] at hx
   rcases hx with hx|hx
   ·exact(hIn s hs).2 x hx
   ·rw[of_decide_eq_true hx];exact hw⟩ (λx y hx hy hxy=>by
   rw[hadd,Bool.or_eq_true,decide_eq_true_eq] at hx hy
   rcases hx with hx|rfl
   ·rcases hy with hy|rfl
    ·exact hCQ s hs x y hx hy hxy
    ·exact hall x hx
   ·rcases hy with hy|rfl
    ·exact hFg.sym y x ((hIn s hs).2 y hy) (hall y hy)
    ·exact absurd rfl hxy) ⟨w,by rw[hadd];simp⟩
  have:=hno hs ht (λv hv=>hst v (by rw[hadd,hv];rfl))
  subst this
  rw[hst w (by rw[hadd];simp)] at hn;cases hn
 ·obtain⟨hI,hM⟩:=(hGC.mem s).1 hs
  have hne:∃v,has s v=true:=by
   cases hc:has s 0
   ·obtain⟨u,hu,_⟩:=hM.2 0 (by omega) hc
    exact⟨u,hu⟩
   ·exact⟨0,hc⟩
  obtain⟨t,ht,hst⟩:=hcov s hI hM.1 hne
  have:s=t:=hI.1.ext (hIn t ht).1 (λw _=>by
   rw[Bool.eq_iff_iff]
   refine⟨hst w,λhw=> ?_⟩
   cases hc:has s w
   ·exfalso
    obtain⟨u,hu,hnu⟩:=hM.2 w ((hIn t ht).2 w hw) hc
    rw[hCQ t ht u w (hst u hu) hw (λe=>by subst e;rw[hc] at hu;cases hu)] at hnu
    cases hnu
   ·rfl)
  rw[this];exact ht
theorem cliques_TB {g:LL}{o l:LI}(hg:GOk g)(ho:OOk g o)(hp:PEOg g o)(hGC:GC g l):TB g (l.map An) (st1 l):=by
 classical
 have h16:=hg.n16;have hn1:=hg.n1
 have hFg:=FOk.of hg
 obtain⟨M,K,hct,hMnd,hMl,hcov⟩:=clique_bags hg ho hp hGC
 have hln:=Ev hGC.up
 have hlen:M.length=l.length:=Nat.le_antisymm (BM hMnd λs hs=>(hMl s).1 hs) (BM hln λs hs=>(hMl s).2 hs)
 have hlI:∀s∈l,In g.length s:=λs hs=>((hGC.mem s).1 hs).1
 have hl16:l.length≤16:=Nat.le_trans (Gn hg ho hp hGC) h16
 have hM1:1≤M.length:=by have:=hct.len;rw[rng_len] at this;omega
 have hin:∀s,In g.length s→(An s).length≤16:=λs hs=>by
  have:=BM (m:=rng g.length) ((Bz s).nodup) (λx hx=>by
   obtain⟨v,_,hv,rfl⟩:=mem_elems.1 hx
   exact mem_rng.2 ⟨v,rfl,hs.2 v hv⟩)
  rw[rng_len] at this;omega
 obtain⟨hmany,hall⟩:=st1_tree (l:=l) (by omega) (λp q hp hq=>hin _ ⟨VS.iand _ _,λv hv=>by
  have h1:=hlI _ (CP hp);have h2:=hlI _ (CP hq)
  rw[Int.toNat_natCast,Int.toNat_natCast,B6 h1.1 h2.1,Bool.and_eq_true] at hv
  exact h1.2 v hv.1⟩)
 have hKOk:KOk l.length (st1 l):=(st1_KI (l:=l) (λp q hp hq=>hin _ ⟨VS.iand _ _,λv hv=>by
  have h1:=hlI _ (CP hp);have h2:=hlI _ (CP hq)
  rw[Int.toNat_natCast,Int.toNat_natCast,B6 h1.1 h2.1,Bool.and_eq_true] at hv
  exact h1.2 v hv.1⟩)).ok
 let φ:Int→Int:=λx=>((l.idxOf (M.getD x.toNat 0):Nat):Int)
 have hφ:∀{i:Nat},i<M.length→l.idxOf (M.getD i 0)<l.length∧l.getD (l.idxOf (M.getD i 0)) 0=M.getD i 0:=fun{i} hi=>by
  have hm:=(hMl _).1 (CP hi)
  have h1:=List.idxOf_lt_length_of_mem hm
  exact⟨h1,by rw[Az h1,List.getElem_idxOf]⟩
 have hφs:∀{j:Nat},j<l.length→∃i,i<M.length∧φ (i:Int)=(j:Int):=fun{j} hj=>by
  obtain⟨i,hi,e⟩:=List.getElem_of_mem ((hMl _).2 (List.getElem_mem hj))
  refine⟨i,hi,?_⟩
  show ((l.idxOf (M.getD (i:Int).toNat 0):Nat):Int)=j
  rw[Int.toNat_natCast,Az hi,e,hln.idxOf_getElem]
 have hφi:∀{i i':Nat},i<M.length→i'<M.length→φ (i:Int)=φ (i':Int)→i=i':=fun{i i'} hi hi' e=>by
  have e:((l.idxOf (M.getD (i:Int).toNat 0):Nat):Int)=((l.idxOf (M.getD (i':Int).toNat 0):Nat):Int):=e
  rw[Int.toNat_natCast,Int.toNat_natCast] at e
  have e1:=(hφ hi).2;have e2:=(hφ hi').2
  have:l.idxOf (M.getD i 0)=l.idxOf (M.getD i' 0):=by omega
  rw[this,e2,Az hi,Az hi'] at e1
  exact((List.getElem_inj hMnd).1 e1).symm
 have hWφ:∀{p q:Nat},p<M.length→q<M.length→wt l (φ p) (φ q)=wt M p q:=fun{p q} hp hq=>by
  show (An (iand .u32 (l.getD ((l.idxOf (M.getD (p:Int).toNat 0):Nat):Int).toNat 0) (l.getD ((l.idxOf (M.getD (q:Int).toNat 0):Nat):Int).toNat 0))).length=(An (iand .u32 (M.getD (p:Int).toNat 0) (M.getD (q:Int).toNat 0))).length
  simp only[Int.toNat_natCast]
  rw[(hφ hp).2,(hφ hq).2]
 have hVM:∀i:Nat,VS (M.getD i 0):=λi=>by
  by_cases hi:i<M.length
  ·exact(hlI _ ((hMl _).1 (CP hi))).1
  ·rw[List.getD_eq_getElem?_getD,List.getElem?_eq_none (by omega)];exact VS.zero
 have hang:∀v,Hang (Cb M) (rng M.length) (λx y=>Lk (st1 l) (φ x) (φ y)) v:=by
  refine heavy_tree (Cb M) (wt M) 32 (F6 M) (λp q=>BF _) (λp q r s h=> ?_) (λp q r s h hle v hr hs=> ?_) _ _ _ hct _ (λx y h=>h.symm) (λp q hp hq=> ?_)
  ·refine elems_sub_len (VS.iand _ _) (VS.iand _ _) (λv hv=> ?_)
   rw[B6 (hVM _) (hVM _),Bool.and_eq_true] at hv ⊢
   exact h v hv.1 hv.2
  ·apply Classical.byContradiction
   intro hn
   have:=BM (l:=(v:Int)::An (iand .u32 (M.getD p.toNat 0) (M.getD q.toNat 0))) (m:=An (iand .u32 (M.getD r.toNat 0) (M.getD s.toNat 0))) (List.nodup_cons.2 ⟨λhc=> ?_,(Bz _).nodup⟩) (λx hx=> ?_)
   ·unfold wt at hle
    rw[List.length_cons] at this;omega
   ·rw[AQ (VS.iand _ _),B6 (hVM _) (hVM _),Bool.and_eq_true] at hc
    exact hn hc
   ·rcases List.mem_cons.1 hx with rfl|hx
    ·rw[AQ (VS.iand _ _),B6 (hVM _) (hVM _),Bool.and_eq_true];exact⟨hr,hs⟩
    ·obtain⟨w,_,hw,rfl⟩:=mem_elems.1 hx
     rw[B6 (hVM _) (hVM _),Bool.and_eq_true] at hw
     rw[AQ (VS.iand _ _),B6 (hVM _) (hVM _),Bool.and_eq_true]
     exact h w hw.1 hw.2
  ·obtain⟨p,rfl,hpl⟩:=mem_rng.1 hp
   obtain⟨q,rfl,hql⟩:=mem_rng.1 hq
   have h:=hall (φ p) (φ q) (mem_rng.2 ⟨_,rfl,by simpa using (hφ hpl).1⟩) (mem_rng.2 ⟨_,rfl,by simpa using (hφ hql).1⟩)
   rw[hWφ hpl hql] at h
   intro P hP hPp
   obtain⟨i,hi,e,hPi⟩:=h (λy=>∃i:Nat,i<M.length∧φ i=y∧P i) (λx y hx hy ⟨i,hi,e,hPi⟩ hlk hw=>by
    obtain⟨j,rfl,hj⟩:=mem_rng.1 hy
    obtain⟨i',hi',e'⟩:=hφs hj
    subst e
    rw[←e'] at hlk hw ⊢
    rw[hWφ hi hi'] at hw
    exact⟨i',hi',rfl,hP i i' (mem_rng.2 ⟨i,rfl,hi⟩) (mem_rng.2 ⟨i',rfl,hi'⟩) hPi hlk hw⟩) ⟨p,hpl,rfl,hPp⟩
   rw[←hφi hi hql e];exact hPi
 have hlm:(l.map An).length=l.length:=by simp
 have hrow:∀{i:Nat},i<l.length→∀v:Nat,(v:Int)∈(l.map An).getD i []↔has (l.getD i 0) v=true:=fun{i} hi v=>by
  rw[Az (by simpa using hi),List.getElem_map,Az hi]
  exact AQ (hlI _ (List.getElem_mem hi)).1
 have hcovl:∀Q,In g.length Q→CQ (g.map mk) Q→(∃v,has Q v=true)→∃i,i<l.length∧∀v,has Q v=true→has (l.getD i 0) v=true:=λQ h1 h2 h3=>by
  obtain⟨t,ht,hs⟩:=hcov Q h1 h2 h3
  obtain⟨i,hi,rfl⟩:=List.getElem_of_mem ((hMl t).1 ht)
  exact⟨i,hi,by rw[Az hi];exact hs⟩
 refine⟨by rw[hlm];omega,by rw[hlm];exact hl16,by rw[hlm];exact hmany,λq hq=>by rw[hlm];exact hKOk.lk q hq,λb hb=> ?_,?_,λu w hu ha=> ?_,λv hv=> ?_,λv hv=> ?_⟩
 ·obtain⟨s,hs,rfl⟩:=List.mem_map.1 hb
  refine⟨Bz _,λx hx=> ?_⟩
  obtain⟨v,_,hv,rfl⟩:=mem_elems.1 hx
  have:=(hlI s hs).2 v hv
  omega
 ·rw[hlm]
  refine conn_iff.2 λT ⟨x0,hx0,hT⟩ hcl x hx=> ?_
  exact hall x0 x hx0 hx T (λa b ha hb hTa hlk _=>hcl a b ha hb hTa hlk) hT
 ·have hwn:w<g.length:=hg.lt hu ha
  have huw:u≠w:=λe=>by
   subst e
   have:=hFg.irr u hu
   rw[(CL hg hu).2 ha] at this;cases this
  have hmk:∀x,has (mk [(u:Int),(w:Int)]) x=true↔x=u∨x=w:=λx=>by
   rw[CJ (λy hy=>by simp at hy;omega),decide_eq_true_eq];simp;omega
  obtain⟨i,hi,h⟩:=hcovl (mk [(u:Int),(w:Int)]) ⟨VS.mk _,λx hx=>by rcases(hmk x).1 hx with rfl|rfl<;>assumption⟩ (λx y hx hy hxy=>by
   rcases(hmk x).1 hx with rfl|rfl
   ·rcases(hmk y).1 hy with rfl|rfl
    ·exact absurd rfl hxy
    ·exact(CL hg hu).2 ha
   ·rcases(hmk y).1 hy with rfl|rfl
    ·exact hFg.sym _ _ hu ((CL hg hu).2 ha)
    ·exact absurd rfl hxy) ⟨u,(hmk u).2 (.inl rfl)⟩
  refine⟨(l.map An).getD i [],by rw[Az (by simpa using hi)];exact List.getElem_mem _,(hrow hi u).2 (h u ((hmk u).2 (.inl rfl))),(hrow hi w).2 (h w ((hmk w).2 (.inr rfl)))⟩
 ·have hmk:∀x,has (mk [(v:Int)]) x=true↔x=v:=λx=>by
   rw[CJ (λy hy=>by simp at hy;omega),decide_eq_true_eq];simp;omega
  obtain⟨i,hi,h⟩:=hcovl (mk [(v:Int)]) ⟨VS.mk _,λx hx=>by rw[(hmk x).1 hx];exact hv⟩ (λx y hx hy hxy=>absurd (((hmk x).1 hx).trans ((hmk y).1 hy).symm) hxy) ⟨v,(hmk v).2 rfl⟩
  exact List.ne_nil_of_mem (mem_withV.2 ⟨i,rfl,by simpa using hi,(hrow hi v).2 (h v ((hmk v).2 rfl))⟩)
 ·refine conn_iff.2 λT ⟨x0,hx0,hT0⟩ hcl x hx=> ?_
  obtain⟨j,rfl,hj,hjv⟩:=mem_withV.1 hx
  obtain⟨j0,rfl,hj0,hjv0⟩:=mem_withV.1 hx0
  rw[hlm] at hj hj0
  obtain⟨i,hi,ei⟩:=hφs hj
  obtain⟨i0,hi0,ei0⟩:=hφs hj0
  have hC:∀{i j:Nat},i<M.length→j<l.length→φ (i:Int)=(j:Int)→(Cb M (i:Int) v↔(v:Int)∈(l.map An).getD j []):=fun{i j} hi hj e=>by
   rw[hrow hj]
   have e:((l.idxOf (M.getD (i:Int).toNat 0):Nat):Int)=j:=e
   rw[Int.toNat_natCast] at e
   have e2:=(hφ hi).2
   rw[show l.idxOf (M.getD i 0)=j by omega] at e2
   unfold Cb
   rw[Int.toNat_natCast,e2]
  have:=hang v (λx=>T (φ x)) ⟨(i0:Int),mem_rng.2 ⟨i0,rfl,hi0⟩,(hC hi0 hj0 ei0).2 hjv0,by show T (φ i0);rw[ei0];exact hT0⟩ (λx y hx hy hCx hCy hTx hlk=>by
   obtain⟨a,rfl,ha⟩:=mem_rng.1 hx
   obtain⟨b,rfl,hb⟩:=mem_rng.1 hy
   have ha':=(hφ ha).1;have hb':=(hφ hb).1
   refine hcl (φ a) (φ b) ?_ ?_ hTx hlk
   ·exact mem_withV.2 ⟨_,rfl,by rw[hlm];simpa using ha',(hC ha (by simpa using ha') rfl).1 hCx⟩
   ·exact mem_withV.2 ⟨_,rfl,by rw[hlm];simpa using hb',(hC hb (by simpa using hb') rfl).1 hCy⟩) (i:Int) (mem_rng.2 ⟨i,rfl,hi⟩) ((hC hi hj ei).2 hjv)
  have this:T (φ i):=this
  rw[ei] at this;exact this
theorem Via.more {F:LI}{P P':Nat→Prop}{v u x:Nat}(hP:∀y,P' y→P y∨y=v)(h:Via F P' u x):Via F P u x∨(Bhd F P u v∧Via F P v x):=by
 induction h with
 |me=>exact .inl .me
 |step _ h1 h2 ih=>
  rcases hP _ h2 with h3|rfl
  ·rcases ih with ih|⟨ih1,ih2⟩
   ·exact .inl (.step ih h1 h3)
   ·exact .inr ⟨ih1,.step ih2 h1 h3⟩
  ·rcases ih with ih|⟨ih1,ih2⟩
   ·exact .inr ⟨⟨_,ih,h1⟩,.me⟩
   ·exact .inr ⟨ih1,.me⟩
theorem Bhd.more {F:LI}{P P':Nat→Prop}{v u w:Nat}(hP:∀y,P' y→P y∨y=v)(h:Bhd F P' u w):Bhd F P u w∨(Bhd F P u v∧Bhd F P v w):=by
 obtain⟨x,h1,h2⟩:=h
 rcases h1.more hP with h1|⟨h1,h3⟩
 ·exact .inl ⟨x,h1,h2⟩
 ·exact .inr ⟨h1,x,h3,h2⟩
structure OI (g B:LL)(k:Nat)(m:Int)(a out:LI):Prop where
 gs:GS g.length m k
 f:FOk a g.length
 near:∀u w,u<g.length→w<g.length→has m u=false→has m w=false→u≠w→Bhd (g.map mk) (λy=>has m y=true) u w→nb a u w=true
 both:∀u w,u<g.length→has m u=false→has m w=false→nb a u w=true→∃i,i<B.length∧(u:Int)∈B.getD i []∧(w:Int)∈B.getD i []
 nd:out.Nodup
 rng:∀x∈out,∃v:Nat,x=v∧v<g.length∧has m v=true
 len:out.length+k=g.length
 wid:∀r,ow (g.map mk) m r≤wB B→ow (g.map mk) 0 (out++r)≤wB B
theorem canCount_ok {g B K:LL}(hg:GOk g)(hT:TB g B K):D.s1 B K=some true:=by
 obtain⟨s1,s2⟩:=hT.sh hg
 have h1:=hT.n1;have h2:=hT.n16;have h3:=hT.many
 unfold D.s1
 have e1:decide ((1:Int)≤(B.length:Int))=true:=by simp;omega
 have e2:decide ((B.length:Int)≤16)=true:=by simp;omega
 have e3:decide ((K.length:Int)≤16)=true:=by simp;omega
 rw[e1,e2,e3,Bool.and_self,Bool.and_self,cond_true,FU s1 s2 h2,bs,List.all_eq_true.2 (λl hl=>(Ex _ _).2 (hT.lks l hl))];rfl
theorem l8Draw_same (a:LI)(b c:Int):D.h2 a b c=D.S a b c:=by
 unfold D.h2 D.S
 congr 1;funext y;congr 1;funext z
 cases z.1
 ·rfl
 ·simp only[cond_true]
  cases D.i0 z.2.1 z.2.2.1 z.2.2.2 y.1 with
  |none=>rfl
  |some o=>
   simp only[bs]
   cases D.a0 y.1 o.1 with
   |none=>rfl
   |some f=>rfl
theorem Gb (code:LI)(h:∀x∈code,0≤x∧x≤255)(hl:code.length≤4096):∃g,D.M0 code=some g∧Few g:=by
 unfold D.M0
 obtain⟨z,e,hk⟩:=new_ok code h hl
 rw[e,bs,l8Draw_same]
 exact(l8Draw_dw hk z).then λg i1 z1 hg hk=>⟨_,rfl,hg⟩
def dgr (K:LL)(v:Nat):Nat:=K.countP λl=>decide ((v:Int)∈l)
theorem dgr_take {K:LL}{i:Nat}(h:i<K.length)(v:Nat):dgr (K.take (i+1)) v=dgr (K.take i) v+if(v:Int)∈K[i] then 1 else 0:=by
 unfold dgr
 rw[List.take_succ_eq_append_getElem h,List.countP_append]
 simp
theorem dgr_le (K:LL)(v:Nat):dgr K v≤K.length:=List.countP_le_length
theorem spec_WaysIn_eq {g B K:LL}(hg:GOk g)(hT:TB g B K):D.Z0 B K=some (decide (∀v,v<B.length→dgr K v≤2)):=by
 obtain⟨s1,s2⟩:=hT.sh hg
 have h1:=hT.n1;have h2:=hT.n16;have h3:=hT.many
 have hf:D.g0 B K=some true:=by
  rw[l9Form_eq s1 s2,List.all_eq_true.2 (λl hl=>(Ex _ _).2 (hT.lks l hl)),decide_eq_true h1,decide_eq_true h2,decide_eq_true (show K.length≤16 by omega)];rfl
 unfold D.Z0
 rw[hf,bs,Bool.not_true,cond_false]
 have key:=Di (ρ:=Unit ⊕ Bool) (step:=(fun(x_176:Int)=>cond (decide (x_176<(B.length:Int))) ((Aq (σ:=Int×Int) (ρ:=(Int)) (fun(s_296:Int×Int)=>match s_296 with|(x_299,x_300)=>cond (decide (x_300<(K.length:Int))) ((idx K x_300).bind λe_321=>(D.i e_321 x_176).bind λy_327=>cond y_327 (some (.inl ((IntKind.i64.wrap (x_299+1)),(IntKind.i64.wrap (x_300+1))))) (some (.inl (x_299,(IntKind.i64.wrap (x_300+1)))))) (some (.inr x_299))) (0,0)).bind λx_318=>cond (decide ((2:Int)<x_318)) (some (.inr (.inr false))) (some (.inl (IntKind.i64.wrap (x_176+1))))) (some (.inr (.inl ()))))) B.length (λi=>if dgr K i≤2 then none else some (.inr false)) (.inl ()) (λv hv=>by
   dsimp only
   rw[dlt hv,cond_true]
   refine(B8 (λi=>((dgr (K.take i) v:Int),(i:Int))) K.length (dgr K v:Int) (by simp[dgr]) (λi hi=> ?_) ?_).trans ?_
   ·have hle:=dgr_le (K.take i) v
    rw[List.length_take] at hle
    dsimp only
    rw[dlt hi,cond_true,AB hi,bs,CW _ _ (s2.2 _ (List.getElem_mem hi)),bs,wq i,dgr_take hi]
    by_cases hm:(v:Int)∈K[i]
    ·rw[decide_eq_true hm,cond_true,if_pos hm,w64 (by omega) (by omega)];rfl
    ·rw[decide_eq_false hm,cond_false,if_neg hm];rfl
   ·dsimp only
    rw[Bc,cond_false,List.take_length]
   ·by_cases hd:dgr K v≤2
    ·rw[if_pos hd,decide_eq_false (by omega),cond_false,wq v]
    ·rw[if_neg hd,decide_eq_true (by omega),cond_true]) (by simp only[Bc,cond_false])
 rw[key,bs]
 cases hf:(List.range B.length).findSome? (λi=>if dgr K i≤2 then none else some (Sum.inr (α:=Unit) false)) with
 |none=>
  rw[List.findSome?_eq_none_iff] at hf
  rw[decide_eq_true (λv hv=>by
   have:=hf v (List.mem_range.2 hv)
   split at this
   ·assumption
   ·cases this)];rfl
 |some z=>
  obtain⟨j,hj,hz⟩:=List.exists_of_findSome?_eq_some hf
  split at hz
  ·cases hz
  ·rename_i hn
   cases hz
   rw[decide_eq_false (λh=>hn (h j (List.mem_range.1 hj)))];rfl
theorem max_ok {xs:LI}(h1:1≤xs.length)(h2:xs.length≤1000000):∃y,D.o1 xs=some y∧(y≤2↔∀x∈xs,x≤2):=by
 unfold D.o1
 have e:decide ((xs.length:Int)<1)=false:=by simp;omega
 rw[e,cond_false,show (0:Int)=((0:Nat):Int) from rfl,AB (show 0<xs.length by omega),bs]
 refine AP (λs=>∃i:Nat,s.2=(i:Int)∧1≤i∧i≤xs.length∧(s.1≤2↔∀j (hj:j<xs.length),j<i→xs[j]≤2)) (λs=>xs.length-s.2.toNat) (λr=>r≤2↔∀x∈xs,x≤2) ?_ ⟨1,rfl,by omega,h1,?_⟩ (λr hr=>⟨r,rfl,hr⟩)
 ·rintro⟨m,_⟩ ⟨i,rfl,hi1,hi,hm⟩
  dsimp only at hm ⊢
  by_cases hil:i<xs.length
  ·rw[dlt hil,cond_true,AB hil,bs,wq i]
   refine⟨_,rfl,⟨i+1,rfl,by omega,by omega,?_⟩,by dsimp only;omega⟩
   have hnew:(if m<xs[i] then xs[i] else m)≤2↔m≤2∧xs[i]≤2:=by split<;>omega
   dsimp only
   rw[hnew,hm]
   constructor
   ·rintro⟨a,b⟩ j hj hji
    by_cases e:j=i
    ·subst e;exact b
    ·exact a j hj (by omega)
   ·intro a
    exact⟨λj hj hji=>a j hj (by omega),a i hil (by omega)⟩
  ·obtain rfl:i=xs.length:=by omega
   rw[Bc,cond_false]
   refine⟨_,rfl,?_⟩
   show m≤2↔_
   rw[hm]
   constructor
   ·intro a x hx
    obtain⟨j,hj,rfl⟩:=List.getElem_of_mem hx
    exact a j hj hj
   ·intro a j hj _
    exact a _ (List.getElem_mem hj)
 ·constructor
  ·intro a j hj h0
   obtain rfl:j=0:=by omega
   exact a
  ·intro a;exact a 0 (by omega) (by omega)
theorem impl_WaysIn_eq {g B K:LL}(hg:GOk g)(hT:TB g B K):D.p1 B K=some (decide (∀v,v<B.length→dgr K v≤2)):=by
 have h1:=hT.n1;have h2:=hT.n16;have h3:=hT.many
 unfold D.p1
 rw[canCount_ok hg hT,bs,Bool.not_true,cond_false,DV (by omega) (by omega),bs]
 let st:Nat→LI:=λi=>(List.range B.length).map λv=>(dgr (K.take i) v:Int)
 have hlen:∀i,(st i).length=B.length:=λi=>by simp[st]
 have hget:∀i v (hv:v<B.length),idx (st i) (v:Int)=some (dgr (K.take i) v:Int):=λi v hv=>by
  rw[AB (by rw[hlen];exact hv)];simp[st]
 refine(B8 (λi=>(st i,(i:Int))) K.length (st K.length) ?_ (λi hi=> ?_) ?_).trans ?_
 ·congr 1
  refine List.ext_getElem (by simp[st]) (λj h1 h2=> ?_)
  simp[st,dgr]
 ·obtain⟨a,b,e,hab,hb⟩:=hT.lks _ (List.getElem_mem hi)
  have ha:a<B.length:=by omega
  have la:=dgr_le (K.take i) a;have lb:=dgr_le (K.take i) b
  rw[List.length_take] at la lb
  dsimp only
  rw[dlt hi,cond_true,AB hi,bs,e,show idx [(a:Int),(b:Int)] 0=some (a:Int) from rfl,bs,hget i a ha,bs,bs,show idx [(a:Int),(b:Int)] 1=some (b:Int) from rfl,bs]
  have eb:idx ((st i).set (Int.toNat (a:Int)) (IntKind.i64.wrap ((dgr (K.take i) a:Int)+1))) (b:Int)=some (dgr (K.take i) b:Int):=by
   rw[AB (by rw[List.length_set,hlen];exact hb),Int.toNat_natCast,List.getElem_set_ne (by omega)]
   simp[st]
  rw[eb,bs,bs,wq i,w64 (by omega) (by omega),w64 (by omega) (by omega),Int.toNat_natCast,Int.toNat_natCast]
  congr 3
  refine List.ext_getElem (by rw[List.length_set,List.length_set,hlen,hlen]) (λj h1 h2=> ?_)
  have hj:j<B.length:=by rw[hlen] at h2;exact h2
  have e2:(st (i+1))[j]=((dgr (K.take (i+1)) j:Nat):Int):=by simp[st]
  have e1:(st i)[j]'(by rw[hlen];exact hj)=((dgr (K.take i) j:Nat):Int):=by simp[st]
  rw[e2,dgr_take hi,e,List.getElem_set,List.getElem_set,e1]
  by_cases hjb:b=j
  ·subst hjb;simp
  ·by_cases hja:a=j
   ·subst hja;simp[hjb]
   ·have n1:j≠a:=λe=>hja e.symm
    have n2:j≠b:=λe=>hjb e.symm
    have m1:¬((j:Int)=(a:Int)∨(j:Int)=(b:Int)):=by omega
    simp[hja,hjb,m1]
 ·dsimp only
  rw[Bc,cond_false]
 ·obtain⟨y,ey,hy⟩:=max_ok (xs:=st K.length) (by rw[hlen];exact h1) (by rw[hlen];omega)
  rw[ey,bs]
  congr 1
  rw[decide_eq_decide,hy]
  constructor
  ·intro h v hv
   have:=h _ (List.mem_map.2 ⟨v,List.mem_range.2 hv,rfl⟩)
   rw[List.take_length] at this
   omega
  ·intro h x hx
   obtain⟨v,hv,rfl⟩:=List.mem_map.1 hx
   have:=h v (List.mem_range.1 hv)
   rw[List.take_length];omega
open Classical in
theorem Gd (code:LI)(hb:∀x∈code,0≤x∧x≤255):D.A1 code=some true:=by
 unfold D.A1 D.O1
 simp only[bs]
 by_cases hl:(4096:Int)<code.length
 ·simp only[hl,decide_true,cond_true]
 ·simp only[hl,decide_false,cond_false]
  obtain⟨g,e1,hF⟩:=Gb code hb (by omega)
  rw[e1,bs]
  have hsh:=hF.sh2
  by_cases hgb:gB g=true
  case neg=>
   have hgb:gB g=false:=by simpa using hgb
   have c1:D.d0 g=some ([],[],false):=by
    unfold D.d0 D.H0
    rw[CG g hsh,hgb];rfl
   have c2:D.T g=some false:=by
    unfold D.T D.w0
    rw[CD g hsh,hgb];rfl
   rw[c1,bs,c2,bs];rfl
  case pos=>
   have hg:=(EB g).1 hgb
   have h16:=hg.n16
   obtain⟨b,l,c2,hGC,m4,r,_,c1,_,_,_,_,hr⟩:=CliqueTree_ex hg
   obtain⟨y,ey,hy⟩:=Gc hg
   have hby:y.2=b:=by
    have:=c2
    unfold D.T at this
    rw[ey,bs] at this
    exact Option.some.inj this
   rcases hr with⟨rfl,hbad⟩|⟨rfl,hl16,P,hP,rfl⟩
   ·have hbf:b=false:=by
     rcases hbad with h|h
     ·exact h
     ·cases b
      ·rfl
      ·obtain⟨ho,hp⟩:=hy hby
       have:=Gn hg ho hp hGC
       omega
    subst hbf
    rw[c1,bs,c2,bs];rfl
   ·obtain⟨ho,hp⟩:=hy hby
    have hTB:=(cliques_TB hg ho hp hGC).perm hP
    obtain⟨s1,s2⟩:=hTB.sh hg
    obtain⟨B',K',f1,f2,f3,_,_,_,_,M',t1,t2,t3,hK⟩:=Gf hg hTB
    have hTd:D.k1 g (l.map An) P=some (B',K',true):=by
     unfold D.k1
     rw[Gu hg s1 s2,decide_eq_true hTB,bs,Bool.not_true,cond_false,f2];rfl
    have hvs:∀s∈l,VS s:=λs hs=>((hGC.mem s).1 hs).1.1
    have hme:(l.map An).map mk=l:=by
     rw[List.map_map]
     conv=>rhs;rw[←List.map_id l]
     exact List.map_congr_left (λs hs=>EC (hvs s hs))
    rw[hme] at hK
    have hsub:∀s∈l,s∈M':=λs hs=>by
     obtain⟨t,ht,hst⟩:=hK.sup s hs
     obtain⟨hI1,hM1⟩:=(hGC.mem s).1 hs
     obtain⟨hI2,hM2⟩:=(hGC.mem t).1 (hK.old t ht)
     have:s=t:=hI1.1.ext hI2.1 (λw _=>by
      rw[Bool.eq_iff_iff]
      refine⟨hst w,λhw=> ?_⟩
      cases hc:has s w
      ·exfalso
       obtain⟨u,hu,hnu⟩:=hM1.2 w (hI2.2 w hw) hc
       rw[hM2.1 u w (hst u hu) hw (λe=>by subst e;rw[hc] at hu;cases hu)] at hnu
       cases hnu
      ·rfl)
     rw[this];exact ht
    have hlen:B'.length=(l.map An).length:=by
     rw[t1,List.length_map,List.length_map]
     exact Nat.le_antisymm hK.len (BM (Ev hGC.up) hsub)
    have e5:((B'.length:Int)==((l.map An).length:Int))=true:=by rw[beq_iff_eq,hlen]
    rw[c1,bs,c2,bs,bne_self_eq_false,cond_false]
    dsimp only
    rw[Bool.not_true,cond_false,hTd,bs,Gw hg s1 s2,decide_eq_true hTB,bs]
    dsimp only
    rw[e5,Bool.and_self,Bool.and_self,cond_true,m4,bs,w5Lists_self _ s1,bs,cond_true,impl_WaysIn_eq hg hTB,bs,spec_WaysIn_eq hg hTB,bs,beq_self_eq_true];rfl
end Go.Sx
