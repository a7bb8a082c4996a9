/- Parts of the proof: Qb, Pf, Pg, T1D, Qc, Qd, Qe, V1D, Ra, Rb, F1D, Sa, Sb, Sc, Rc, Rd, Sd, Se, Ta, Sf, Qf, Re, Tb, Tc, Td, Va, Xa, Xf, Za, Zb, Zc, Zd, Ua, Ub, Uc, Xg, Xc, Xh, Sg, Xj, Xk, Xl, Qg, U1D, Qh. -/
import Derived.Test.YtkffjeaefgfnnaaGreatDoorBd5
import Derived.Lib.TrailingZeros
import Derived.KernelRfl
set_option linter.unusedVariables false
set_option linter.unusedSimpArgs false
set_option linter.unusedSectionVars false
namespace Go.Sx
theorem Eg (n:Int):IntKind.u32.wrap n=n%4294967296:=by simp[IntKind.wrap,IntKind.signed,IntKind.bits]
def VS (s:Int):Prop:=0≤s∧s<4294967296
def has (s:Int)(v:Nat):Bool:=s.toNat.testBit v
theorem VS.nat {s:Int}(h:VS s):∃n:Nat,s=n∧n<4294967296:=⟨s.toNat,by have:=h.1;omega,by have:=h.1;have:=h.2;omega⟩
theorem VS.zero :VS 0:=⟨by omega,by omega⟩
theorem VS.wrap (n:Int):VS (IntKind.u32.wrap n):=by rw[Eg];exact⟨by omega,by omega⟩
theorem VS.ofNat {n:Nat}(h:n<4294967296):VS (n:Int):=⟨by omega,by omega⟩
theorem Cj (n v:Nat):has (n:Int) v=n.testBit v:=by simp[has]
theorem Cy (v:Nat):has 0 v=false:=by simp[has]
theorem Dq (n:Nat)(h:n<4294967296):(BitVec.ofInt 32 (n:Int)).toNat=n:=by
 rw[BitVec.toNat_ofInt]
 omega
theorem ior_nat {a b:Nat}(ha:a<4294967296)(hb:b<4294967296):ior .u32 (a:Int) (b:Int)=((a|||b:Nat):Int):=by
 have hw:a|||b<4294967296:=Nat.or_lt_two_pow (n:=32) ha hb
 show IntKind.u32.wrap (((BitVec.ofInt 32 (a:Int)|||BitVec.ofInt 32 (b:Int)).toNat:Nat):Int)=_
 rw[BitVec.toNat_or,Dq a ha,Dq b hb,Eg];omega
theorem ES {a b:Nat}(ha:a<4294967296)(hb:b<4294967296):iand .u32 (a:Int) (b:Int)=((a&&&b:Nat):Int):=by
 have hw:a&&&b<4294967296:=Nat.and_lt_two_pow (n:=32) _ hb
 show IntKind.u32.wrap (((BitVec.ofInt 32 (a:Int)&&&BitVec.ofInt 32 (b:Int)).toNat:Nat):Int)=_
 rw[BitVec.toNat_and,Dq a ha,Dq b hb,Eg];omega
theorem VS.ior (a b:Int):VS (ior .u32 a b):=VS.wrap _
theorem VS.iand (a b:Int):VS (iand .u32 a b):=VS.wrap _
theorem VS.iandNot (a b:Int):VS (iandNot .u32 a b):=VS.wrap _
theorem VS.ishl (a b:Int):VS (ishl .u32 a b):=VS.wrap _
theorem CM {a b:Int}(ha:VS a)(hb:VS b)(v:Nat):has (ior .u32 a b) v=(has a v||has b v):=by
 obtain⟨m,rfl,hm⟩:=ha.nat;obtain⟨n,rfl,hn⟩:=hb.nat
 rw[ior_nat hm hn];simp only[Cj,Nat.testBit_or]
theorem Cc {a b:Int}(ha:VS a)(hb:VS b)(v:Nat):has (iand .u32 a b) v=(has a v&&has b v):=by
 obtain⟨m,rfl,hm⟩:=ha.nat;obtain⟨n,rfl,hn⟩:=hb.nat
 rw[ES hm hn];simp only[Cj,Nat.testBit_and]
theorem Bd {a b:Int}(ha:VS a)(hb:VS b)(v:Nat):has (iandNot .u32 a b) v=(has a v&& !has b v):=by
 obtain⟨m,rfl,hm⟩:=ha.nat;obtain⟨n,rfl,hn⟩:=hb.nat
 have e:iandNot .u32 (m:Int) (n:Int)=(((BitVec.ofInt 32 (m:Int)&&& ~~~(BitVec.ofInt 32 (n:Int))).toNat:Nat):Int):=by
  have hw:=(BitVec.ofInt 32 (m:Int)&&& ~~~(BitVec.ofInt 32 (n:Int))).isLt
  show IntKind.u32.wrap (((BitVec.ofInt 32 (m:Int)&&& ~~~(BitVec.ofInt 32 (n:Int))).toNat:Nat):Int)=_
  rw[Eg];omega
 rw[e,Cj,Cj,Cj]
 have h1:∀i,(BitVec.ofInt 32 (m:Int)).getLsbD i=m.testBit i:=fun i=>by rw[BitVec.getLsbD,Dq m hm]
 have h2:∀i,(BitVec.ofInt 32 (n:Int)).getLsbD i=n.testBit i:=fun i=>by rw[BitVec.getLsbD,Dq n hn]
 rw[←BitVec.getLsbD,BitVec.getLsbD_and,BitVec.getLsbD_not,h1,h2]
 by_cases hv:v<32
 ·simp[hv]
 ·have:m.testBit v=false:=Nat.testBit_lt_two_pow (Nat.lt_of_lt_of_le hm (Nat.pow_le_pow_right (n:=2) (by omega) (show 32≤v by omega)))
  simp[this]
theorem D7 {a:Int}(ha:VS a){v:Nat}(hv:32≤v):has a v=false:=by
 obtain⟨m,rfl,hm⟩:=ha.nat
 rw[Cj]
 exact Nat.testBit_lt_two_pow (Nat.lt_of_lt_of_le hm (Nat.pow_le_pow_right (n:=2) (by omega) hv))
theorem VS.ext {a b:Int}(ha:VS a)(hb:VS b)(h:∀v,v<32→has a v=has b v):a=b:=by
 have:∀v,has a v=has b v:=fun v=>by
  by_cases hv:v<32
  ·exact h v hv
  ·rw[D7 ha (by omega),D7 hb (by omega)]
 obtain⟨m,rfl,hm⟩:=ha.nat;obtain⟨n,rfl,hn⟩:=hb.nat
 congr 1
 apply Nat.eq_of_testBit_eq
 intro v
 have:=this v
 rwa [Cj,Cj] at this
theorem VS.eq_zero {a:Int}(ha:VS a):a=0↔∀v,v<32→has a v=false:=
 ⟨fun h v _=>by rw[h,Cy],fun h=>ha.ext VS.zero (fun v hv=>by rw[h v hv,Cy])⟩
theorem one_eq {v:Nat}(hv:v<32):ishl .u32 1 (v:Int)=((2^v:Nat):Int):=by
 have h:(2:Nat)^v<2^32:=Nat.pow_lt_pow_right (by omega) hv
 have h':(2:Nat)^32=4294967296:=by decide
 rw[h'] at h
 show IntKind.u32.wrap (1*2^(min ((v:Int)).toNat 32))=_
 rw[Eg,show min ((v:Int)).toNat 32=v by simp;omega,Int.one_mul]
 have e:((2^v:Nat):Int)=(2:Int)^v:=by simp
 rw[←e]
 generalize 2^v=p at h ⊢
 omega
theorem BI {v:Nat}(hv:v<32)(u:Nat):has (ishl .u32 1 (v:Int)) u=decide (u=v):=by
 rw[one_eq hv,Cj,Nat.testBit_two_pow]
 simp[eq_comm]
theorem shr_eq (s:Int)(v:Nat)(h:VS s)(hv:v<32):BU .u32 s (v:Int)=((s.toNat>>>v:Nat):Int):=by
 obtain⟨m,rfl,hm⟩:=h.nat
 show Int.fdiv (m:Int) (2^(min ((v:Int)).toNat 32))=_
 rw[show min ((v:Int)).toNat 32=v by simp;omega]
 have e:((2^v:Nat):Int)=(2:Int)^v:=by simp
 rw[←e,Int.fdiv_eq_ediv_of_nonneg _ (Int.natCast_nonneg _),Nat.shiftRight_eq_div_pow]
 simp
def Ap (s:Int):List Int:=((List.range 32).filter (has s)).map Int.ofNat
theorem mem_elems {s:Int}{x:Int}:x∈Ap s↔∃v:Nat,v<32∧has s v=true∧x=v:=by
 unfold Ap
 rw[List.mem_map]
 constructor
 ·rintro⟨v,hv,rfl⟩
  rw[List.mem_filter,List.mem_range] at hv
  exact⟨v,hv.1,hv.2,rfl⟩
 ·rintro⟨v,h1,h2,rfl⟩
  exact⟨v,List.mem_filter.2 ⟨List.mem_range.2 h1,h2⟩,rfl⟩
theorem Be {s:Int}(h:VS s){v:Nat}:(v:Int)∈Ap s↔has s v=true:=by
 rw[mem_elems]
 constructor
 ·rintro⟨u,_,h2,h3⟩;obtain rfl:v=u:=by omega
  exact h2
 ·intro h2
  refine⟨v,?_,h2,rfl⟩
  by_cases hv:v<32
  ·exact hv
  ·rw[D7 h (by omega)] at h2;cases h2
theorem B2 (s:Int):(Ap s).length≤32:=by
 unfold Ap
 rw[List.length_map]
 exact Nat.le_trans (List.length_filter_le _ _) (by simp)
def Inc (l:List Int):Prop:=l.Pairwise (·<·)
theorem BJ (s:Int):Inc (Ap s):=by
 unfold Ap Inc
 rw[List.pairwise_map]
 refine List.Pairwise.filter _ ?_
 refine List.Pairwise.imp ?_ (List.pairwise_lt_range (n:=32))
 intro a b h
 show (a:Int)<(b:Int)
 omega
theorem Inc.ext :∀{l l':List Int},Inc l→Inc l'→(∀x,x∈l↔x∈l')→l=l'
 |[],[],_,_,_=>rfl
 |[],y::l',_,_,h=>by have:=(h y).2 (by simp);simp at this
 |x::l,[],_,_,h=>by have:=(h x).1 (by simp);simp at this
 |x::l,y::l',h1,h2,h=>by
  have h1':=List.pairwise_cons.1 h1;have h2':=List.pairwise_cons.1 h2
  have e:x=y:=by
   rcases List.mem_cons.1 ((h x).1 (by simp)) with e|e
   ·exact e
   ·rcases List.mem_cons.1 ((h y).2 (by simp)) with e'|e'
    ·exact e'.symm
    ·have:=h2'.1 x e;have:=h1'.1 y e';omega
  subst e
  have:l=l':=by
   refine Inc.ext h1'.2 h2'.2 (fun z=> ?_)
   constructor
   ·intro hz
    rcases List.mem_cons.1 ((h z).1 (List.mem_cons_of_mem _ hz)) with e|e
    ·have:=h1'.1 z hz;omega
    ·exact e
   ·intro hz
    rcases List.mem_cons.1 ((h z).2 (List.mem_cons_of_mem _ hz)) with e|e
    ·have:=h2'.1 z hz;omega
    ·exact e
  rw[this]
theorem least_spec {s:Int}(h:VS s)(h0:s≠0):∃k:Nat,k<32∧has s k=true∧(∀v,v<k→has s v=false)∧
  iand .u32 s (IntKind.u32.wrap (0-s))=((2^k:Nat):Int)∧(∀v,has (iand .u32 s (IntKind.u32.wrap (s-1))) v=(has s v&& !decide (v=k))):=by
 obtain⟨m,rfl,hm⟩:=h.nat
 have hm0:m≠0:=by omega
 obtain⟨q,hq,hk⟩:=Lib.ctzFrom_spec 32 m (by omega) hm
 have hc:Lib.ctz 32 m=Lib.ctzFrom 32 m:=by unfold Lib.ctz;rw[if_neg hm0]
 obtain⟨hl,_⟩:=Lib.lowest_bit 32 m hm0 hm
 rw[hc] at hl
 generalize Lib.ctzFrom 32 m=k at*
 have hpos:0<2^k:=Nat.pow_pos (by omega)
 have hb:∀v,m.testBit v=(decide (v≥k)&&(2*q+1).testBit (v-k)):=fun v=>by rw[hq,Nat.mul_comm,Nat.testBit_mul_two_pow,Bool.and_comm]
 refine⟨k,hk,?_,fun v hv=> ?_,?_,fun v=> ?_⟩
 ·rw[Cj,hb];simp
 ·rw[Cj,hb];simp;intro hc;omega
 ·have e:IntKind.u32.wrap (0-(m:Int))=((4294967296-m:Nat):Int):=by rw[Eg];omega
  rw[e,ES hm (by omega)]
  rw[←hl]
 ·have e:IntKind.u32.wrap ((m:Int)-1)=((m-1:Nat):Int):=by rw[Eg];omega
  rw[e,ES hm (by omega),Cj,Cj,Nat.testBit_and]
  have hm1:m-1=2^k*(2*q)+(2^k-1):=by rw[hq,Nat.mul_add];omega
  have hb1:(m-1).testBit v=if v<k then true else(2*q).testBit (v-k):=by
   rw[hm1,Nat.testBit_two_pow_mul_add _ (by omega)]
   split
   ·rename_i hv;rw[Nat.testBit_two_pow_sub_one];simp[hv]
   ·rfl
  rw[hb1,hb]
  by_cases hv:v<k
  ·simp[hv];intro hc;omega
  ·rw[if_neg hv]
   by_cases hvk:v=k
   ·subst hvk;simp
   ·obtain⟨t,ht⟩:∃t,v-k=t+1:=⟨v-k-1,by omega⟩
    rw[ht,Nat.testBit_succ,Nat.testBit_succ]
    have e1:(2*q+1)/2=q:=by omega
    have e2:2*q/2=q:=by omega
    rw[e1,e2]
    simp[hvk]
theorem elems_least {s t:Int}{k:Nat}(hk:k<32)(h1:has s k=true)(h2:∀v,v<k→has s v=false)(h3:∀v,has t v=(has s v&& !decide (v=k))):
  Ap s=(k:Int)::Ap t:=by
 refine Inc.ext (BJ s) ?_ (fun x=> ?_)
 ·refine List.pairwise_cons.2 ⟨fun x hx=> ?_,BJ t⟩
  obtain⟨v,hv,h4,rfl⟩:=mem_elems.1 hx
  rw[h3] at h4
  simp at h4
  by_cases hc:v<k
  ·rw[h2 v hc] at h4;simp at h4
  ·omega
 ·rw[List.mem_cons,mem_elems,mem_elems]
  constructor
  ·rintro⟨v,hv,h4,rfl⟩
   by_cases e:v=k
   ·left;omega
   ·right;exact⟨v,hv,by rw[h3,h4];simp[e],rfl⟩
  ·rintro(rfl|⟨v,hv,h4,rfl⟩)
   ·exact⟨k,hk,h1,rfl⟩
   ·rw[h3] at h4;simp at h4
    exact⟨v,hv,h4.1,rfl⟩
theorem DY :Ap 0=[]:=by
 unfold Ap
 rw[List.filter_eq_nil_iff.2 (fun v _=>by simp[Cy])];rfl
theorem tz_table :∀k:Nat,k<32→idx tab32 (BU .u32 (IntKind.u32.wrap (((2^k:Nat):Int)*125613361)) 27)=some (k:Int):=by decide+kernel
end Go.Sx

namespace Go.Sx
def Out (l:List Int)(a0 b0 a b:Int):Prop:=∀i j,a0≤i→i<j→j<b0→¬(a≤i∧j<b)→at' l i≤at' l j
theorem Out.keep {a0 a b b0:Int}{l l':List Int}(h:Rg a b l l')(h0:0≤a0)(ha:a0≤a)(hb:b≤b0)(c:Out l a0 b0 a b):Out l' a0 b0 a b:=by
 intro i j h1 h2 h3 h4
 by_cases hi:a≤i∧i<b
 ·rw[h.out j (by omega) (by omega)]
  exact h.all (fun x=>x≤at' l j) (fun k k1 k2=>c k j (by omega) (by omega) h3 (by omega)) i hi.1 hi.2
 ·rw[h.out i (by omega) (by omega)]
  by_cases hj:a≤j∧j<b
  ·exact h.all (fun x=>at' l i≤x) (fun k k1 k2=>c i k (by omega) (by omega) (by omega) (by omega)) j hj.1 hj.2
  ·rw[h.out j (by omega) (by omega)];exact c i j h1 h2 h3 h4
theorem Ed :∀(n:Nat) (l0:List Int) (a0 b0 lim:Int),0≤a0→a0≤b0→b0≤l0.length→l0.length≤1000000→b0-a0≤16→b0-a0≤12+lim→0≤lim→lim≤64→
  (0<a0→∀k,a0≤k→k<b0→at' l0 (a0-1)≤at' l0 k)→b0-a0<n→∃l',D.y1 n l0 a0 b0 lim=some l'∧Rg a0 b0 l0 l'∧Srt l' a0 b0:=by
 intro n
 induction n with
 |zero=>intro l0 a0 b0 lim h1 h2 h3 h4 h5 h6 h7 h8 h9 h10;omega
 |succ n ih=>
  intro l0 a0 b0 lim h1 h2 h3 h4 h5 h6 h7 h8 h9 h10
  unfold D.y1
  refine AN (fun s=>Rg a0 b0 l0 s.1∧Out s.1 a0 b0 s.2.1 s.2.2.1∧a0≤s.2.1∧s.2.1≤s.2.2.1∧s.2.2.1≤b0∧s.2.2.1-s.2.1≤12+s.2.2.2.1∧0≤s.2.2.2.1∧s.2.2.2.1≤64∧(0<s.2.1→∀k,s.2.1≤k→k<s.2.2.1→at' s.1 (s.2.1-1)≤at' s.1 k))
   (fun s=>(s.2.2.1-s.2.1).toNat) (fun r=>Rg a0 b0 l0 r∧Srt r a0 b0) ?_ ?_ ?_
  ·rintro⟨l,a,b,lm,bal,par⟩ ⟨hR,hO,g1,g2,g3,g4,g5,g6,g7⟩
   dsimp only at hR hO g1 g2 g3 g4 g5 g6 g7 ⊢
   have hll:=hR.len
   have fin:∀l',Rg a b l l'→Srt l' a b→Rg a0 b0 l0 l'∧Srt l' a0 b0:=fun l' hr hs=>
    ⟨hR.trans (hr.widen g1 g3 h1),fun i j k1 k2 k3=>by
     by_cases hc:a≤i∧j<b
     ·exact hs i j hc.1 k2 hc.2
     ·exact(hO.keep hr h1 g1 g3) i j k1 k2 k3 hc⟩
   rw[w64 (show-9223372036854775808≤b-a by omega) (by omega)]
   by_cases hs:b-a≤12
   ·obtain⟨l',e,r1,r2⟩:=C2 l a b (by omega) g2 (by omega) (by omega)
    refine⟨.inr l',?_,fin l' r1 r2⟩
    simp only[hs,decide_true,cond_true,e,Option.bind_some]
   ·have hl0:(lm==0)=false:=by simp;omega
    simp only[hs,decide_false,cond_false,hl0]
    refine BZ (fun q:List Int×Int=>Rg a b l q.1∧b-a≤13+q.2∧0≤q.2∧q.2≤64) ?_ ?_
    ·cases bal
     ·obtain⟨l1,e,r1⟩:=C5 l a b (by omega) (by omega) (by omega) (by omega) (by omega)
      refine⟨(l1,lm-1),?_,r1,by dsimp only;omega,by dsimp only;omega,by dsimp only;omega⟩
      simp only[Bool.not_false,cond_true,e,Option.bind_some]
      rw[w64 (by omega) (by omega)]
     ·exact⟨(l,lm),rfl,Rg.refl _ _ _,by dsimp only;omega,by dsimp only;omega,by dsimp only;omega⟩
    rintro⟨l1,lm1⟩ ⟨hr1,k1,k2,k3⟩
    dsimp only at hr1 k1 k2 k3 ⊢
    have hl1:=hr1.len
    obtain⟨y,ey,c1,c2,c3⟩:=Dl l1 a b (by omega) (by omega) (by omega) (by omega) (by omega)
    rw[ey,Option.bind_some]
    refine BZ (fun q:List Int×Int×Int=>Rg a b l q.1∧a≤q.2.1∧q.2.1<b) ?_ ?_
    ·cases (y.2.1==2)
     ·exact⟨_,rfl,by dsimp only;rw[c1];exact hr1,c2,c3⟩
     ·obtain⟨l2,e2,r2⟩:=Dg l1 a b (by omega) (by omega) (by omega) (by omega)
      rw[c1]
      simp only[cond_true,e2,Option.bind_some]
      rw[w64 (show-9223372036854775808≤b-1 by omega) (by omega),w64 (show-9223372036854775808≤y.1-a by omega) (by omega),w64 (show-9223372036854775808≤b-1-(y.1-a) by omega) (by omega)]
      exact⟨_,rfl,hr1.trans r2,by dsimp only;omega,by dsimp only;omega⟩
    rintro⟨l2,p,hint⟩ ⟨hr2,p1,p2⟩
    dsimp only at hr2 p1 p2 ⊢
    have hl2:=hr2.len
    refine BZ (fun q:List Int ⊕ List Int=>match q with| .inl q=>q=l2| .inr q=>q=l2∧Srt l2 a b) ?_ ?_
    ·cases ((bal&&par)&&(hint==1))
     ·exact⟨.inl l2,rfl,rfl⟩
     ·obtain⟨y2,e2,d1,d2⟩:=CO l2 a b (by omega) (by omega) (by omega) (by omega) (by omega)
      simp only[cond_true,e2,Option.bind_some,d1]
      cases hy:y2.1
      ·exact⟨.inl l2,rfl,rfl⟩
      ·exact⟨.inr l2,rfl,rfl,d2 hy⟩
    rintro(q|q) hq
    case inr=>
     obtain⟨rfl,hq⟩:=hq
     exact⟨.inr q,rfl,fin q hr2 hq⟩
    dsimp only at hq ⊢
    subst hq
    have hO2:=hO.keep hr2 h1 g1 g3
    have g7':0<a→∀k,a≤k→k<b→at' q (a-1)≤at' q k:=fun ha k m1 m2=>by
     rw[hr2.out (a-1) (by omega) (.inl (by omega))]
     exact hr2.all (fun x=>at' l (a-1)≤x) (g7 ha) k m1 m2
    refine BZ (fun c:Bool=>c=true→0<a∧at' q p≤at' q (a-1)) ?_ ?_
    ·by_cases ha:0<a
     ·have r1:idx q (a-1)=some (at' q (a-1)):=AJ (by omega) (by omega)
      have r2:idx q p=some (at' q p):=AJ (by omega) (by omega)
      rw[w64 (show-9223372036854775808≤a-1 by omega) (by omega)]
      simp only[ha,decide_true,cond_true,r1,r2,Co,Option.bind_some]
      exact⟨_,rfl,fun h=>⟨by trivial,by simpa using h⟩⟩
     ·simp only[ha,decide_false,cond_false]
      exact⟨_,rfl,fun h=>by cases h⟩
    intro c hc
    cases c
    ·
     simp only[cond_false]
     obtain⟨⟨mid,par',l3⟩,e3,P⟩:=DF q a b p (by omega) (by omega) (by omega) p1 p2
     rw[e3,Option.bind_some]
     obtain⟨hr3,m1,m2,m3,m4⟩:=P
     dsimp only at hr3 m1 m2 m3 m4 ⊢
     have hl3:=hr3.len
     have hO3:=hO2.keep hr3 h1 g1 g3
     have g7'':0<a→∀k,a≤k→k<b→at' l3 (a-1)≤at' l3 k:=fun ha k n1 n2=>by
      rw[hr3.out (a-1) (by omega) (.inl (by omega))]
      exact hr3.all (fun x=>at' q (a-1)≤x) (g7' ha) k n1 n2
     have hR3:Rg a0 b0 l0 l3:=hR.trans ((hr2.trans hr3).widen g1 g3 h1)
     rw[w64 (show-9223372036854775808≤mid-a by omega) (by omega),w64 (show-9223372036854775808≤b-mid by omega) (by omega),w64 (show-9223372036854775808≤mid+1 by omega) (by omega)]
     by_cases hside:mid-a<b-mid
     ·simp only[hside,decide_true,cond_true]
      obtain⟨l4,e4,r4,s4⟩:=ih l3 a mid lm1 (by omega) m1 (by omega) (by omega) (by omega) (by omega) k2 k3 (fun ha k n1 n2=>g7'' ha k n1 (by omega)) (by omega)
      rw[e4,Option.bind_some]
      have hl4:=r4.len
      have em:∀k,mid≤k→at' l4 k=at' l3 k:=fun k hk=>r4.out k (by omega) (.inr hk)
      have lf:∀k,a≤k→k<mid→at' l4 k≤at' l4 mid:=fun k n1 n2=>by
       rw[em mid (Int.le_refl _)];exact r4.all (fun x=>x≤at' l3 mid) m3 k n1 n2
      refine⟨.inl _,rfl,⟨hR3.trans (r4.widen g1 (by omega) h1),?_,by dsimp only;omega,by dsimp only;omega,g3,by dsimp only;omega,k2,k3,?_⟩,by dsimp only;omega⟩
      ·have hO4:=hO3.keep (r4.widen (Int.le_refl a) (by omega) (by omega)) h1 g1 g3
       intro i j n1 n2 n3 n4
       dsimp only at n4 ⊢
       by_cases hin:a≤i∧j<b
       ·by_cases hj:j<mid
        ·exact s4 i j hin.1 n2 hj
        ·have hi:i≤mid:=by omega
         have e1:at' l4 i≤at' l4 mid:=by
          by_cases e:i=mid
          ·rw[e];exact Int.le_refl _
          ·exact lf i hin.1 (by omega)
         have e2:at' l4 mid≤at' l4 j:=by
          by_cases e:j=mid
          ·rw[e];exact Int.le_refl _
          ·rw[em mid (Int.le_refl _),em j (by omega)];exact m4 j (by omega) hin.2
         omega
       ·exact hO4 i j n1 n2 n3 hin
      ·intro _ k n1 n2
       dsimp only at n1 n2 ⊢
       rw[show mid+1-1=mid by omega,em mid (Int.le_refl _),em k (by omega)]
       exact m4 k (by omega) n2
     ·simp only[hside,decide_false,cond_false]
      obtain⟨l4,e4,r4,s4⟩:=ih l3 (mid+1) b lm1 (by omega) (by omega) (by omega) (by omega) (by omega) (by omega) k2 k3 (fun _ k n1 n2=>by rw[show mid+1-1=mid by omega];exact m4 k (by omega) n2) (by omega)
      rw[e4,Option.bind_some]
      have hl4:=r4.len
      have em:∀k,0≤k→k≤mid→at' l4 k=at' l3 k:=fun k h0 hk=>r4.out k h0 (.inl (by omega))
      have rt:∀k,mid<k→k<b→at' l4 mid≤at' l4 k:=fun k n1 n2=>by
       rw[em mid (by omega) (Int.le_refl _)];exact r4.all (fun x=>at' l3 mid≤x) (fun k q1 q2=>m4 k (by omega) q2) k (by omega) n2
      refine⟨.inl _,rfl,⟨hR3.trans (r4.widen (by omega) g3 h1),?_,g1,m1,by dsimp only;omega,by dsimp only;omega,k2,k3,?_⟩,by dsimp only;omega⟩
      ·have hO4:=hO3.keep (r4.widen (by omega) (Int.le_refl b) (by omega)) h1 g1 g3
       intro i j n1 n2 n3 n4
       dsimp only at n4 ⊢
       by_cases hin:a≤i∧j<b
       ·by_cases hi:mid<i
        ·exact s4 i j (by omega) n2 hin.2
        ·have hj:mid≤j:=by omega
         have e1:at' l4 i≤at' l4 mid:=by
          by_cases e:i=mid
          ·rw[e];exact Int.le_refl _
          ·rw[em i (by omega) (by omega),em mid (by omega) (Int.le_refl _)];exact m3 i hin.1 (by omega)
         have e2:at' l4 mid≤at' l4 j:=by
          by_cases e:j=mid
          ·rw[e];exact Int.le_refl _
          ·exact rt j (by omega) hin.2
         omega
       ·exact hO4 i j n1 n2 n3 hin
      ·intro ha k n1 n2
       dsimp only at ha n1 n2 ⊢
       rw[em (a-1) (by omega) (by omega),em k (by omega) (by omega)]
       exact g7'' ha k n1 (by omega)
    ·
     simp only[cond_true]
     obtain⟨hc1,hc2⟩:=hc rfl
     obtain⟨⟨mid,l3⟩,e3,hr3,m1,m2,m3,m4⟩:=CX q a b p (by omega) (by omega) (by omega) p1 p2
     rw[e3,Option.bind_some]
     dsimp only at hr3 m1 m2 m3 m4 ⊢
     have hl3:=hr3.len
     have hO3:=hO2.keep hr3 h1 g1 g3
     have lw:∀k,a≤k→k<b→at' q p≤at' l3 k:=fun k n1 n2=>
      hr3.all (fun x=>at' q p≤x) (fun k q1 q2=>Int.le_trans hc2 (g7' hc1 k q1 q2)) k n1 n2
     refine⟨.inl _,rfl,⟨hR.trans ((hr2.trans hr3).widen g1 g3 h1),?_,by dsimp only;omega,m2,g3,by dsimp only;omega,k2,k3,?_⟩,by dsimp only;omega⟩
     ·intro i j n1 n2 n3 n4
      dsimp only at n4 ⊢
      by_cases hin:a≤i∧j<b
      ·have:=m3 i hin.1 (by omega)
       have:=lw j (by omega) hin.2
       omega
      ·exact hO3 i j n1 n2 n3 hin
     ·intro _ k n1 n2
      dsimp only at n1 n2 ⊢
      have:=m3 (mid-1) (by omega) (by omega)
      have:=m4 k n1 n2
      omega
  ·exact⟨Rg.refl _ _ _,fun i j n1 n2 n3 n4=>by dsimp only at n4;omega,Int.le_refl _,h2,Int.le_refl _,h6,h7,h8,h9⟩
  ·rintro r hr
   exact⟨r,rfl,hr⟩
end Go.Sx

namespace Go.Sx
theorem sorted_spec (l:List Int)(hl:l.length≤16):∃y,D.G1 l=some y∧List.Perm y l∧Srt y 0 y.length:=by
 unfold D.G1 D.X1 D.V1 D.W1 D.m0 D.u
 rw[if_pos (show l.length≤1000000 by omega)]
 simp only[Option.bind_some]
 rw[wu64 (by omega) (by omega),if_pos (by omega)]
 simp only[Option.bind_some]
 have hk:∀k:Nat,k≤16→k≤12+Lib.bitLen k∧Lib.bitLen k≤64:=by decide
 obtain⟨k1,k2⟩:=hk l.length hl
 have e:((l.length:Int)).toNat=l.length:=by omega
 have hb:=Eu
 obtain⟨y,hy,hr,hs⟩:=Ed BW l 0 l.length (Lib.bitLen l.length:Nat) (by omega) (by omega) (by omega) (by omega) (by omega) (by omega) (by omega) (by omega) (fun h=>absurd h (by omega)) (by omega)
 rw[e,hy]
 refine⟨y,rfl,hr.perm,?_⟩
 rw[hr.len];exact hs
end Go.Sx



namespace Go.Sx
def Sh {α:Type}(xs:List α):Prop:=xs.length≤4294967296
theorem Ft (a b c:Int):D.c a b c=some (decide (b≤a)&&decide (a≤c)):=rfl
theorem inRange_eq (a b c:Int):D.h1 a b c=some (decide (b≤a)&&decide (a≤c)):=rfl
theorem any_beq (xs:List Int)(n:Int):xs.any (fun x=>x==n)=decide (n∈xs):=by
 rw[Bool.eq_iff_iff,List.any_eq_true];simp
theorem CG (xs:List Int)(n:Int)(h:Sh xs):D.f xs n=some (decide (n∈xs)):=by
 unfold Sh at h
 unfold D.f
 refine(loop_anyb xs.length (fun i=>xs.getD i 0==n) true (fun i hi=> ?_) ?_ rfl rfl).trans ?_
 ·simp only[dlt hi,cond_true,Ar hi,Option.bind_some,wi' hi (by omega),AD hi]
  cases xs[i]==n<;>rfl
 ·simp only[Ba,cond_false]
 ·rw[Ex xs (fun x=>x==n) _ (fun i hi=>by rw[AD hi]),any_beq]
theorem Fw (xs:List Int)(n:Int)(h:Sh xs):D.U xs n=some (decide (n∈xs)):=by
 unfold Sh at h
 unfold D.U D.n1
 have e:An (σ:=Int) (ρ:=(Unit) ⊕ (Int)) (fun(x_26:Int)=>cond (decide (x_26<(xs.length:Int))) ((idx xs x_26).bind fun e_39=>cond (n==e_39) (some (.inr (.inr x_26))) (some (.inl (IntKind.i64.wrap (x_26+1))))) (some (.inr (.inl ())))) 0=
   some (((List.range xs.length).findSome? (fun i=>if xs.getD i 0==n then some (Sum.inr (i:Int)) else none)).getD (.inl ())):=by
  refine Do xs.length _ _ (fun i hi=> ?_) ?_
  ·simp only[dlt hi,cond_true,Ar hi,Option.bind_some,wi' hi (by omega),AD hi]
   rw[show (n==xs[i])=(xs[i]==n) from Bool.beq_comm ..]
   cases xs[i]==n<;>rfl
  ·simp only[Ba,cond_false]
 rw[e,Option.bind_some]
 cases hf:(List.range xs.length).findSome? (fun i=>if xs.getD i 0==n then some (Sum.inr (i:Int):Unit ⊕ Int) else none) with
 |none=>
  have:n∉xs:=fun hm=>by
   obtain⟨i,hi,e⟩:=List.getElem_of_mem hm
   have:=(List.findSome?_eq_none_iff.1 hf) i (List.mem_range.2 hi)
   rw[AD hi,e] at this
   simp at this
  simp[this]
 |some r=>
  obtain⟨i,hi,hr⟩:=List.exists_of_findSome?_eq_some hf
  have hi':=List.mem_range.1 hi
  rw[AD hi'] at hr
  split at hr
  ·rename_i hc
   cases hr
   have:n∈xs:=by rw[←(beq_iff_eq.1 hc)];exact List.getElem_mem _
   simp[this]
  ·cases hr
def SetOf (xs:List Int)(n:Int):Prop:=Inc xs∧∀x∈xs,0≤x∧x<n
theorem SetOf.len :∀{xs:List Int} {n a:Int},Inc xs→(∀x∈xs,a≤x∧x<n)→xs=[]∨(xs.length:Int)≤n-a
 |[],_,_,_,_=> .inl rfl
 |x::xs,n,a,h,hr=>by
  right
  have h':=List.pairwise_cons.1 h
  have hx:=hr x (by simp)
  rcases SetOf.len (a:=x+1) (n:=n) h'.2 (fun y hy=>⟨by have:=h'.1 y hy;omega,(hr y (by simp[hy])).2⟩) with e|e
  ·subst e;simp;omega
  ·simp;omega
theorem SetOf.length_le {xs:List Int}{n:Int}(h:SetOf xs n)(hn:0≤n):(xs.length:Int)≤n:=by
 rcases SetOf.len h.1 h.2 with e|e
 ·subst e;simpa using hn
 ·omega
theorem inc_iff (xs:List Int):Inc xs↔∀i (hi:i+1<xs.length),xs[i]<xs[i+1]:=by
 unfold Inc
 constructor
 ·intro h i hi
  exact List.pairwise_iff_getElem.1 h i (i+1) (by omega) hi (by omega)
 ·intro h
  rw[List.pairwise_iff_getElem]
  intro i j hi hj hij
  have key:∀k,∀hk:i+k+1<xs.length,xs[i]<xs[i+k+1]:=by
   intro k
   induction k with
   |zero=>intro hk;exact h i hk
   |succ k ih=>intro hk;have:=ih (by omega);have:=h (i+k+1) hk;exact Int.lt_trans (ih (by omega)) this
  obtain⟨k,rfl⟩:∃k,j=i+k+1:=⟨j-i-1,by omega⟩
  exact key k hj
def CS (xs:List Int)(n:Int):Bool:=(List.range xs.length).all fun i=>(decide (0≤xs.getD i 0)&&decide (xs.getD i 0≤n-1))&& !(decide (0<i)&&decide (xs.getD i 0≤xs.getD (i-1) 0))
theorem C4 (xs:List Int)(n:Int):CS xs n=true↔SetOf xs n:=by
 unfold CS SetOf
 rw[C9,inc_iff]
 constructor
 ·intro h
  refine⟨fun i hi=> ?_,fun x hx=> ?_⟩
  ·have:=h (i+1) hi
   simp[hi,show i<xs.length by omega] at this
   omega
  ·obtain⟨i,hi,rfl⟩:=List.getElem_of_mem hx
   have:=h i hi
   simp[hi] at this
   omega
 ·rintro⟨h1,h2⟩ i hi
  have h3:=h2 _ (List.getElem_mem hi)
  simp[hi]
  refine⟨by omega,?_⟩
  rcases Nat.eq_zero_or_pos i with h0|h0
  ·exact .inl h0
  ·right
   have:=h1 (i-1) (by omega)
   have e:i-1+1=i:=by omega
   simp only[e] at this
   have e2:xs[i-1]?.getD 0=xs[i-1]:=by rw[List.getElem?_eq_getElem (by omega)];rfl
   rw[e2];exact this
theorem ET (xs:List Int)(n:Int)(h:Sh xs)(h0:0≤n)(hn:n≤4294967296):D.l0 xs n=some (CS xs n):=by
 unfold Sh at h
 unfold D.l0
 refine CB xs.length _ false (fun i hi=> ?_) ?_ rfl rfl
 ·simp only[dlt hi,cond_true,Ar hi,Option.bind_some,wi' hi (by omega),AD hi,inRange_eq]
  rw[w64 (x:=n-1) (by omega) (by omega)]
  cases (decide (0≤xs[i])&&decide (xs[i]≤n-1))
  ·simp
  ·by_cases h0:0<i
   ·have e1:IntKind.i64.wrap ((i:Int)-1)=((i-1:Nat):Int):=by rw[w64 (by omega) (by omega)];omega
    have hd:decide ((0:Int)<(i:Int))=true:=by simp;omega
    simp only[Bool.not_true,cond_false,hd,cond_true,e1,Ar (show i-1<xs.length by omega),Option.bind_some,AD (show i-1<xs.length by omega),h0,decide_true,Bool.true_and]
    cases decide (xs[i]≤xs[i-1])<;>rfl
   ·have hd:decide ((0:Int)<(i:Int))=false:=by simp;omega
    simp only[Bool.not_true,cond_false,hd,Option.bind_some,h0,decide_false,Bool.false_and,Bool.not_false,Bool.and_true,if_true]
 ·simp only[Ba,cond_false]
theorem l1Set_eq (xs:List Int)(n:Int)(h:Sh xs)(h0:0≤n)(hn:n≤4294967296):D.z xs n=some (CS xs n):=by
 have hh:=h
 unfold Sh at h
 unfold D.z
 by_cases hl:n<xs.length
 ·have:CS xs n=false:=by
   cases hb:CS xs n
   ·rfl
   ·have:=((C4 xs n).1 hb).length_le h0;omega
  simp[hl,this]
 ·simp only[hl,decide_false,cond_false]
  refine CB xs.length _ false (fun i hi=> ?_) ?_ rfl rfl
  ·simp only[dlt hi,cond_true,Ar hi,Option.bind_some,wi' hi (by omega),AD hi,Ft]
   rw[w64 (x:=n-1) (by omega) (by omega)]
   cases (decide (0≤xs[i])&&decide (xs[i]≤n-1))
   ·simp
   ·by_cases h0:0<i
    ·have e1:IntKind.i64.wrap ((i:Int)-1)=((i-1:Nat):Int):=by rw[w64 (by omega) (by omega)];omega
     have hd:decide ((0:Int)<(i:Int))=true:=by simp;omega
     simp only[Bool.not_true,cond_false,hd,cond_true,e1,Ar (show i-1<xs.length by omega),Option.bind_some,AD (show i-1<xs.length by omega),h0,decide_true,Bool.true_and]
     cases decide (xs[i]≤xs[i-1])<;>rfl
    ·have hd:decide ((0:Int)<(i:Int))=false:=by simp;omega
     simp only[Bool.not_true,cond_false,hd,Option.bind_some,h0,decide_false,Bool.false_and,Bool.not_false,Bool.and_true,if_true]
  ·simp only[Ba,cond_false]
def row (g:List (List Int))(v:Nat):List Int:=g.getD v []
theorem row_eq {g:List (List Int)}{v:Nat}(h:v<g.length):row g v=g[v]:=AD h _
def adj (g:List (List Int))(u v:Nat):Prop:=(v:Int)∈row g u
structure GOk (g:List (List Int)):Prop where
 n1:1≤g.length
 n16:g.length≤16
 rows:∀v,v<g.length→SetOf (row g v) g.length
 irr:∀v,v<g.length→¬adj g v v
 sym:∀u v,u<g.length→adj g u v→adj g v u
theorem GOk.mem {g:List (List Int)}(h:GOk g){u:Nat}(hu:u<g.length){x:Int}(hx:x∈row g u):∃v:Nat,x=v∧v<g.length∧adj g u v:=by
 have:=(h.rows u hu).2 x hx
 refine⟨x.toNat,by omega,by omega,?_⟩
 unfold adj
 rw[show ((x.toNat:Nat):Int)=x by omega];exact hx
theorem GOk.row_len {g:List (List Int)}(h:GOk g){u:Nat}(hu:u<g.length):(row g u).length≤16:=by
 have:=(h.rows u hu).length_le (by omega)
 have:=h.n16
 omega
theorem GOk.lt {g:List (List Int)}(h:GOk g){u v:Nat}(hu:u<g.length)(ha:adj g u v):v<g.length:=by
 obtain⟨w,h1,h2,_⟩:=h.mem hu ha
 omega
def Sh2 (g:List (List Int)):Prop:=Sh g∧∀r∈g,Sh r
theorem Sh2.row {g:List (List Int)}(h:Sh2 g){v:Nat}(hv:v<g.length):Sh (row g v):=by
 rw[row_eq hv];exact h.2 _ (List.getElem_mem hv)
theorem B8 {g:List (List Int)}{v:Nat}(h:v<g.length):idx g (v:Int)=some (row g v):=by rw[row_eq h,Ar h]
def gB1 (g:List (List Int)):Bool:=(List.range g.length).all fun v=>CS (row g v) g.length&& !decide ((v:Int)∈row g v)
def gB2 (g:List (List Int)):Bool:=(List.range g.length).all fun v=>(row g v).all fun x=>decide ((v:Int)∈row g x.toNat)
def gB (g:List (List Int)):Bool:=decide (1≤g.length)&&decide (g.length≤16)&&gB1 g&&gB2 g
theorem DQ (g:List (List Int)):gB g=true↔GOk g:=by
 unfold gB gB1 gB2
 simp only[Bool.and_eq_true,decide_eq_true_eq,C4,Bool.not_eq_true',decide_eq_false_iff_not,List.all_eq_true,List.mem_range]
 constructor
 ·rintro⟨⟨⟨h1,h2⟩,h3⟩,h4⟩
  refine⟨h1,h2,fun v hv=>(h3 v hv).1,fun v hv=>(h3 v hv).2,fun u v hu ha=> ?_⟩
  have:=h4 u hu v ha
  unfold adj
  simpa using this
 ·intro h
  refine⟨⟨⟨h.n1,h.n16⟩,fun v hv=>⟨h.rows v hv,h.irr v hv⟩⟩,fun v hv x hx=> ?_⟩
  obtain⟨u,rfl,hu,ha⟩:=h.mem hv hx
  have:=h.sym v u hv ha
  simpa [adj] using this
theorem Dz (g:List (List Int))(h:Sh2 g):D.G g=some (gB g):=by
 have hl:g.length≤4294967296:=h.1
 unfold D.G D.a
 simp only[Option.bind_some,Ft]
 by_cases hn:1≤g.length∧g.length≤16
 ·have e:(decide ((1:Int)≤(g.length:Int))&&decide ((g.length:Int)≤16))=true:=by simp;omega
  simp only[e,Bool.not_true,cond_false]
  refine(D4 g.length (fun v=>CS (row g v) g.length&& !decide ((v:Int)∈row g v)) (.inl ()) (.inr false) (fun v hv=> ?_) ?_).trans ?_
  rotate_left
  ·simp only[Ba,cond_false]
  ·show cond (gB1 g) _ _=_
   have e4:gB g=(gB1 g&&gB2 g):=by unfold gB;simp[hn.1,hn.2]
   rw[e4]
   cases hc:gB1 g with
   |false=>rfl
   |true=>
    rw[cond_true,Bool.true_and]
    refine CB g.length _ false (fun v hv=> ?_) ?_ rfl rfl
    ·have hset:SetOf (row g v) g.length:=by
      have:=(C9 _ _).1 hc v hv
      simp only[Bool.and_eq_true] at this
      exact(C4 _ _).1 this.1
     simp only[dlt hv,cond_true]
     refine(D4 (row g v).length (fun i=>decide ((v:Int)∈row g ((row g v).getD i 0).toNat)) (.inl ()) (.inr false) (fun i hi=> ?_) ?_).trans ?_
     ·have hx:=hset.2 _ (List.getElem_mem hi)
      have e5:idx g (row g v)[i]=some (row g ((row g v)[i]).toNat):=by
       have:=B8 (g:=g) (v:=((row g v)[i]).toNat) (by omega)
       rwa [show ((((row g v)[i]).toNat:Nat):Int)=(row g v)[i] by omega] at this
      have hs:=h.row (v:=((row g v)[i]).toNat) (by omega)
      simp only[B8 hv,Option.bind_some,dlt hi,cond_true,Ar hi,e5,CG _ _ hs,wi (show i<4611686018427387904 by have:=h.row hv;unfold Sh at this;omega),AD hi]
      cases decide ((v:Int)∈row g ((row g v)[i]).toNat)<;>rfl
     ·simp only[B8 hv,Option.bind_some,Ba,cond_false]
     ·rw[CN (row g v) (fun x=>decide ((v:Int)∈row g x.toNat)) _ (fun i hi=>by rw[AD hi]),wi' hv (by omega)]
      cases (row g v).all fun x=>decide ((v:Int)∈row g x.toNat)<;>rfl
    ·simp only[Ba,cond_false]
  ·simp only[dlt hv,cond_true,B8 hv,Option.bind_some,l1Set_eq _ _ (h.row hv) (show (0:Int)≤(g.length:Int) by omega) (by omega),CG _ _ (h.row hv),wi' hv (by omega)]
   cases CS (row g v) g.length
   ·rfl
   ·cases decide ((v:Int)∈row g v)<;>rfl
 ·have e:(decide ((1:Int)≤(g.length:Int))&&decide ((g.length:Int)≤16))=false:=by
   rw[Bool.eq_false_iff];simp;omega
  simp only[e,Bool.not_false,cond_true]
  unfold gB
  congr 1
  symm
  rw[Bool.eq_false_iff]
  simp
  omega
theorem Dr (g:List (List Int))(h:Sh2 g):D.e0 g=some (gB g):=by
 have hl:g.length≤4294967296:=h.1
 unfold D.e0
 by_cases hn:1≤g.length∧g.length≤16
 ·have e:(decide ((g.length:Int)<(1:Int))||decide ((16:Int)<(g.length:Int)))=false:=by simp;omega
  simp only[e,cond_false]
  refine(D4 g.length (fun v=>CS (row g v) g.length&& !decide ((v:Int)∈row g v)) (.inl ()) (.inr false) (fun v hv=> ?_) ?_).trans ?_
  rotate_left
  ·simp only[Ba,cond_false]
  ·show cond (gB1 g) _ _=_
   have e4:gB g=(gB1 g&&gB2 g):=by unfold gB;simp[hn.1,hn.2]
   rw[e4]
   cases hc:gB1 g with
   |false=>rfl
   |true=>
    rw[cond_true,Bool.true_and]
    refine CB g.length _ false (fun v hv=> ?_) ?_ rfl rfl
    ·have hset:SetOf (row g v) g.length:=by
      have:=(C9 _ _).1 hc v hv
      simp only[Bool.and_eq_true] at this
      exact(C4 _ _).1 this.1
     simp only[dlt hv,cond_true,B8 hv,Option.bind_some]
     refine(D4 (row g v).length (fun i=>decide ((v:Int)∈row g ((row g v).getD i 0).toNat)) (.inl ()) (.inr false) (fun i hi=> ?_) ?_).trans ?_
     ·have hx:=hset.2 _ (List.getElem_mem hi)
      have e5:idx g (row g v)[i]=some (row g ((row g v)[i]).toNat):=by
       have:=B8 (g:=g) (v:=((row g v)[i]).toNat) (by omega)
       rwa [show ((((row g v)[i]).toNat:Nat):Int)=(row g v)[i] by omega] at this
      have hs:=h.row (v:=((row g v)[i]).toNat) (by omega)
      simp only[Option.bind_some,dlt hi,cond_true,Ar hi,e5,Fw _ _ hs,wi (show i<4611686018427387904 by have:=h.row hv;unfold Sh at this;omega),AD hi]
      cases decide ((v:Int)∈row g ((row g v)[i]).toNat)<;>rfl
     ·simp only[Ba,cond_false]
     ·rw[CN (row g v) (fun x=>decide ((v:Int)∈row g x.toNat)) _ (fun i hi=>by rw[AD hi]),wi' hv (by omega)]
      cases (row g v).all fun x=>decide ((v:Int)∈row g x.toNat)<;>rfl
    ·simp only[Ba,cond_false]
  ·simp only[dlt hv,cond_true,B8 hv,Option.bind_some,ET _ _ (h.row hv) (show (0:Int)≤(g.length:Int) by omega) (by omega),Fw _ _ (h.row hv),wi' hv (by omega)]
   cases CS (row g v) g.length
   ·rfl
   ·cases decide ((v:Int)∈row g v)<;>rfl
 ·have e:(decide ((g.length:Int)<(1:Int))||decide ((16:Int)<(g.length:Int)))=true:=by
   simp;omega
  simp only[e,cond_true]
  unfold gB
  congr 1
  symm
  rw[Bool.eq_false_iff]
  simp
  omega
end Go.Sx

namespace Go.Sx
structure OOk (g:List (List Int))(o:List Int):Prop where
 len:o.length=g.length
 rng:∀x∈o,0≤x∧x<g.length
 nd:o.Nodup
def oB (g:List (List Int))(o:List Int):Bool:=(List.range o.length).all fun i=>(decide (0≤o.getD i 0)&&decide (o.getD i 0≤(g.length:Int)-1))&& !decide (o.getD i 0∈o.take i)
theorem mem_take_iff {α:Type}{l:List α}{i:Nat}{x:α}:x∈l.take i↔∃j,∃h:j<l.length,j<i∧l[j]=x:=by
 rw[List.mem_take_iff_getElem]
 constructor
 ·rintro⟨j,h,e⟩;exact⟨j,by omega,by omega,e⟩
 ·rintro⟨j,h,h2,e⟩;exact⟨j,by omega,e⟩
theorem nodup_iff {l:List Int}:l.Nodup↔∀i (hi:i<l.length),l[i]∉l.take i:=by
 constructor
 ·intro h i hi hm
  obtain⟨j,hj,hji,e⟩:=mem_take_iff.1 hm
  have:=(List.pairwise_iff_getElem.1 h) j i hj hi hji
  exact this e
 ·intro h
  refine List.pairwise_iff_getElem.2 (fun i j hi hj hij e=>h j hj (mem_take_iff.2 ⟨i,hi,hij,e⟩))
theorem oB_iff (g:List (List Int))(o:List Int)(hl:o.length=g.length):oB g o=true↔OOk g o:=by
 unfold oB
 rw[C9]
 constructor
 ·intro h
  refine⟨hl,fun x hx=> ?_,nodup_iff.2 fun i hi=> ?_⟩
  ·obtain⟨i,hi,rfl⟩:=List.getElem_of_mem hx
   have:=h i hi
   rw[AD hi] at this
   simp at this;omega
  ·have:=h i hi
   rw[AD hi] at this
   simp at this;exact this.2
 ·intro h i hi
  have h1:=h.rng _ (List.getElem_mem hi)
  have h2:=nodup_iff.1 h.nd i hi
  rw[AD hi]
  simp[h2];omega
def ordB (g:List (List Int))(o:List Int):Bool:=decide (o.length=g.length)&&oB g o
theorem ordB_iff (g:List (List Int))(o:List Int):ordB g o=true↔OOk g o:=by
 unfold ordB
 by_cases hl:o.length=g.length
 ·simp[hl,oB_iff g o hl]
 ·simp[hl];intro h;exact hl h.len
theorem FQ (g:List (List Int))(o:List Int)(h:Sh2 g)(ho:Sh o):D.r0 g o=some (gB g&&ordB g o):=by
 have hl:g.length≤4294967296:=h.1
 have hol:o.length≤4294967296:=ho
 unfold D.r0
 rw[Dz g h,Option.bind_some]
 cases hg:gB g
 ·rfl
 ·have hg':=(DQ g).1 hg
  simp only[cond_true]
  unfold D.p1 D.a ordB
  simp only[Option.bind_some]
  by_cases hl:o.length=g.length
  ·have e:((o.length:Int) !=(g.length:Int))=false:=by simp[hl]
   simp only[e,cond_false]
   simp only[Option.bind_fun_some,hl,decide_true,Bool.true_and]
   unfold oB
   rw[←hl]
   refine CB o.length _ false (fun i hi=> ?_) ?_ rfl rfl
   ·have hsh:Sh (o.take i):=by unfold Sh;rw[List.length_take];omega
    simp only[dlt hi,cond_true,Ar hi,Option.bind_some,wi' hi (by omega),AD hi,←hl,D.f1,D.a,Ft,sliceD_pre (show i≤o.length by omega),CG _ _ hsh]
    rw[w64 (x:=(o.length:Int)-1) (by omega) (by omega)]
    cases (decide (0≤o[i])&&decide (o[i]≤(o.length:Int)-1))
    ·rfl
    ·cases decide (o[i]∈o.take i)<;>rfl
   ·simp only[Ba,cond_false]
  ·have e:((o.length:Int) !=(g.length:Int))=true:=by simp;omega
   simp[e,hl]
theorem sorted_inc {y:List Int}(hs:Srt y 0 y.length)(hn:y.Nodup):Inc y:=by
 unfold Inc
 rw[List.pairwise_iff_getElem]
 intro i j hi hj hij
 have h1:=hs i j (by omega) (by omega) (by omega)
 have h2:=(List.pairwise_iff_getElem.1 hn) i j hi hj hij
 simp[at',hi,hj] at h1
 have:y[i]≠y[j]:=h2
 omega
theorem FP (g:List (List Int))(o:List Int)(h:Sh2 g)(ho:Sh o):D.x1 g o=some (gB g&&ordB g o):=by
 unfold D.x1
 rw[Dr g h,Option.bind_some]
 cases hg:gB g
 ·rfl
 ·have hg':=(DQ g).1 hg
  by_cases hl:o.length=g.length
  ·have e:((o.length:Int) !=(g.length:Int))=false:=by simp[hl]
   have h16:=hg'.n16
   obtain⟨y,h1,h2,h3⟩:=sorted_spec o (by omega)
   have hyl:=h2.length_eq
   simp only[Bool.not_true,e,Bool.or_false,cond_false,h1,Option.bind_some,Bool.true_and]
   rw[ET y _ (by unfold Sh;omega) (by omega) (by omega),Option.bind_some]
   congr 1
   unfold ordB
   simp only[hl,decide_true,Bool.true_and]
   rw[Bool.eq_iff_iff,C4,oB_iff g o hl]
   constructor
   ·rintro⟨k1,k2⟩
    refine⟨hl,fun x hx=>k2 x (h2.mem_iff.2 hx),h2.nodup_iff.1 ?_⟩
    exact List.Pairwise.imp (fun h e=>by omega) k1
   ·intro k
    exact⟨sorted_inc h3 (h2.nodup_iff.2 k.nd),fun x hx=>k.rng x (h2.mem_iff.1 hx)⟩
  ·have e:((o.length:Int) !=(g.length:Int))=true:=by simp;omega
   simp[e,ordB,hl]
theorem BR (v:Nat):D.d (v:Int)=some (ishl .u32 1 (v:Int)):=by
 unfold D.d
 have:decide ((v:Int)<0)=false:=by simp
 rw[this];rfl
theorem impl_one_eq' {x:Int}(h:0≤x):D.d x=some (ishl .u32 1 x):=by
 have:=BR x.toNat
 rwa [show ((x.toNat:Nat):Int)=x by omega] at this
def mk (xs:List Int):Int:=xs.foldl (fun s v=>ior .u32 s (ishl .u32 1 v)) 0
theorem maskOf_eq (xs:List Int)(h:Sh xs)(h0:∀x∈xs,0≤x):D.W xs=some (mk xs):=by
 unfold Sh at h
 unfold D.W
 refine(loop_listb xs (fun s i=>(s,i)) (fun s v=>ior .u32 s (ishl .u32 1 v)) (fun s=>s) (fun _=>True) 0 trivial (fun s i hi _=>⟨?_,trivial⟩) (fun s _=> ?_)).trans rfl
 ·simp only[dlt hi,cond_true,Ar hi,Option.bind_some,wi' hi (by omega),impl_one_eq' (h0 _ (List.getElem_mem hi))]
 ·simp only[Ba,cond_false]
theorem Fa :∀(xs:List Int) (s:Int),VS s→VS (xs.foldl (fun s v=>ior .u32 s (ishl .u32 1 v)) s)
 |[],s,h=>h
 |x::xs,s,_=>Fa xs _ (VS.ior _ _)
theorem VS.mk (xs:List Int):VS (mk xs):=Fa xs 0 VS.zero
theorem EU (u:Nat):∀(xs:List Int) (s:Int),VS s→(∀x∈xs,0≤x∧x<32)→has (xs.foldl (fun s v=>ior .u32 s (ishl .u32 1 v)) s) u=(has s u||decide ((u:Int)∈xs))
 |[],s,_,_=>by simp
 |x::xs,s,hs,h=>by
  have hx:=h x (by simp)
  rw[List.foldl_cons,EU u xs _ (VS.ior _ _) (fun y hy=>h y (by simp[hy])),CM hs (VS.ishl _ _)]
  obtain⟨k,rfl⟩:∃k:Nat,x=k:=⟨x.toNat,by omega⟩
  rw[BI (by omega)]
  by_cases hu:u=k
  ·subst hu;simp
  ·have:¬(u:Int)=(k:Int):=by omega
   simp[hu,this]
theorem Ev {xs:List Int}(h:∀x∈xs,0≤x∧x<32)(u:Nat):has (mk xs) u=decide ((u:Int)∈xs):=by
 unfold mk;rw[EU u xs 0 VS.zero h,Cy,Bool.false_or]
theorem GOk.mem0 {g:List (List Int)}(hg:GOk g){r:List Int}(hr:r∈g):r.length≤16∧∀x∈r,0≤x∧x<g.length:=by
 obtain⟨v,hv,rfl⟩:=List.getElem_of_mem hr
 rw[←row_eq hv]
 exact⟨hg.row_len hv,(hg.rows v hv).2⟩
theorem Eo (g:List (List Int))(hg:GOk g):D.b0 g=some (g.map mk):=by
 have h16:=hg.n16
 unfold D.b0
 refine(Dm g (fun s i=>(s,i)) mk (by omega) (fun s i hi _=> ?_) (fun s=> ?_)).trans rfl
 ·obtain⟨h1,h2⟩:=hg.mem0 (List.getElem_mem hi)
  simp only[dlt hi,cond_true,Ar hi,Option.bind_some,wi' hi (by omega),maskOf_eq g[i] (by unfold Sh;omega) (fun x hx=>(h2 x hx).1)]
 ·simp only[Ba,cond_false]
theorem E5 (xs:List Int)(h:Sh xs):D.C1 xs=some xs:=by
 unfold Sh at h
 unfold D.C1
 rw[makeD_zero (by omega) (by omega),Option.bind_some]
 refine(Dm xs (fun s i=>(s,i)) (fun x=>x) h (fun s i hi _=> ?_) (fun s=> ?_)).trans (by simp)
 ·simp only[dlt hi,cond_true,Ar hi,Option.bind_some,wi' hi (by omega)]
 ·simp only[Ba,cond_false]
theorem wide_eq (xs:List Int)(h:Sh xs):D.Q0 xs=some xs:=by
 unfold Sh at h
 unfold D.Q0
 rw[makeD_zero (by omega) (by omega),Option.bind_some]
 refine(Dm xs (fun s i=>(s,i)) (fun x=>x) h (fun s i hi _=> ?_) (fun s=> ?_)).trans (by simp)
 ·simp only[dlt hi,cond_true,Ar hi,Option.bind_some,wi' hi (by omega)]
 ·simp only[Ba,cond_false]
theorem least_eq {s:Int}(h:VS s)(h0:s≠0):∃k:Nat,k<32∧D.o0 s=some (k:Int)∧has s k=true∧(∀v,v<k→has s v=false)∧
  (∀v,has (iand .u32 s (IntKind.u32.wrap (s-1))) v=(has s v&& !decide (v=k))):=by
 obtain⟨k,h1,h2,h3,h4,h5⟩:=least_spec h h0
 refine⟨k,h1,?_,h2,h3,h5⟩
 unfold D.o0 D.r1
 have e:(s==0)=false:=by simpa using h0
 simp only[e,cond_false,h4,tz_table k h1,Option.bind_some]
 rw[w64 (by omega) (by omega)]
theorem Dc (s:Int)(h:VS s):D.i s=some (Ap s):=by
 unfold D.i
 have key:∀(n:Nat) (x:Int) (l:List Int),VS x→(Ap x).length=n→l.length+n≤32→
   An (σ:=Int×(List Int)) (ρ:=((List Int))) (fun(s_52:Int×(List Int))=>match s_52 with|(x_55,l_56)=>cond (x_55 !=0) ((D.o0 x_55).bind fun y_88=>(AR l_56 ([y_88]:List Int)).bind fun l_99=>some (.inl ((iand .u32 x_55 (IntKind.u32.wrap (x_55-1))),l_99))) (some (.inr l_56))) (x,l)=some (l++Ap x):=by
  intro n
  induction n with
  |zero=>
   intro x l hx hn _
   have e:Ap x=[]:=List.eq_nil_of_length_eq_zero hn
   have e0:x=0:=hx.eq_zero.2 fun v hv=>by
    cases hc:has x v
    ·rfl
    ·have:=mem_elems.2 ⟨v,hv,hc,rfl⟩;rw[e] at this;simp at this
   rw[e]
   refine Bi ?_
   have:(x !=0)=false:=by simp[e0]
   simp only[this,cond_false,List.append_nil]
  |succ n ih=>
   intro x l hx hn hl
   have h0:x≠0:=by rintro rfl;rw[DY] at hn;simp at hn
   obtain⟨k,h1,h2,h3,h4,h5⟩:=least_eq hx h0
   have e:=elems_least h1 h3 h4 h5
   have en:(Ap (iand .u32 x (IntKind.u32.wrap (x-1)))).length=n:=by rw[e] at hn;simpa using hn
   have hstep:=ih (iand .u32 x (IntKind.u32.wrap (x-1))) (l++[(k:Int)]) (VS.iand _ _) en (by simp;omega)
   have e1:(x !=0)=true:=by simpa using h0
   rw[Bu (s':=(iand .u32 x (IntKind.u32.wrap (x-1)),l++[(k:Int)]))]
   ·rw[hstep,e];simp
   ·simp only[e1,cond_true,h2,Option.bind_some,A4 (xs:=l) (ys:=[(k:Int)]) (by simp;omega)]
 have:=key (Ap s).length s [] h rfl (by simpa using B2 s)
 rw[this];simp
theorem elems_sh (s:Int):Sh (Ap s):=by have:=B2 s;unfold Sh;omega
theorem DU (s:Int)(h:VS s):D.M s=some (Ap s):=by
 unfold D.M
 rw[Dc s h,Option.bind_some,wide_eq _ (elems_sh s)];rfl
theorem results_eq (xs:List Int)(h:Sh xs)(hv:∀s∈xs,VS s):D.u0 xs=some (xs.map Ap):=by
 unfold Sh at h
 unfold D.u0
 refine(Dm xs (fun s i=>(s,i)) Ap h (fun s i hi _=> ?_) (fun s=> ?_)).trans rfl
 ·simp only[dlt hi,cond_true,Ar hi,Option.bind_some,wi' hi (by omega),DU _ (hv _ (List.getElem_mem hi))]
 ·simp only[Ba,cond_false]
theorem DP (xs:List Int)(h:Sh xs):D.e xs=some xs:=by
 unfold Sh at h
 unfold D.e
 rw[A4 (by simpa using h)];rfl
def into (xs:List Int)(n:Int):List Int:=if n∈xs then xs else xs.takeWhile (fun x=>decide (x<n))++n::xs.dropWhile (fun x=>decide (x<n))
theorem mem_into {xs:List Int}{n x:Int}:x∈into xs n↔x=n∨x∈xs:=by
 unfold into
 split
 ·constructor
  ·intro h;exact .inr h
  ·rintro(rfl|h)
   ·assumption
   ·exact h
 ·have e:x∈xs↔x∈xs.takeWhile (fun x=>decide (x<n))++xs.dropWhile (fun x=>decide (x<n)):=by rw[List.takeWhile_append_dropWhile]
  rw[e];simp only[List.mem_append,List.mem_cons]
  constructor
  ·rintro(h|h|h)<;>simp[h]
  ·rintro(h|h|h)<;>simp[h]
theorem EX {xs:List Int}{n:Int}(h:Inc xs):∀y∈xs.dropWhile (fun x=>decide (x<n)),n≤y:=by
 induction xs with
 |nil=>simp
 |cons x xs ih=>
  have h':=List.pairwise_cons.1 h
  intro y hy
  rw[List.dropWhile_cons] at hy
  split at hy
  ·exact ih h'.2 y hy
  ·rename_i hc
   simp at hc
   rcases List.mem_cons.1 hy with rfl|hy
   ·exact hc
   ·have:=h'.1 y hy;omega
theorem inc_takeWhile {xs:List Int}{n:Int}:∀y∈xs.takeWhile (fun x=>decide (x<n)),y<n:=by
 intro y hy
 induction xs with
 |nil=>simp at hy
 |cons x xs ih=>
  rw[List.takeWhile_cons] at hy
  split at hy
  ·rename_i hc
   rcases List.mem_cons.1 hy with rfl|hy
   ·simpa using hc
   ·exact ih hy
  ·simp at hy
theorem Inc.into {xs:List Int}(h:Inc xs)(n:Int):Inc (into xs n):=by
 unfold Sx.into
 split
 ·exact h
 ·rename_i hn
  unfold Inc
  rw[List.pairwise_append]
  refine⟨List.Pairwise.sublist (List.takeWhile_sublist _) h,List.pairwise_cons.2 ⟨fun y hy=> ?_,List.Pairwise.sublist (List.dropWhile_sublist _) h⟩,fun a ha b hb=> ?_⟩
  ·have h1:=EX h y hy
   have h2:y≠n:=fun e=>hn (e▸(List.dropWhile_sublist _).mem hy)
   omega
  ·have h1:=inc_takeWhile a ha
   rcases List.mem_cons.1 hb with rfl|hb
   ·exact h1
   ·have:=EX h b hb;omega
end Go.Sx

namespace Go.Sx
theorem into_len (xs:List Int)(n:Int):(into xs n).length≤xs.length+1:=by
 unfold into
 split
 ·omega
 ·have:(xs.takeWhile (fun x=>decide (x<n))++xs.dropWhile (fun x=>decide (x<n))).length=xs.length:=by rw[List.takeWhile_append_dropWhile]
  simp only[List.length_append,List.length_cons] at this ⊢;omega
theorem Df {α:Type}(p:α→Bool):∀(xs:List α),xs.takeWhile p=xs.take (xs.takeWhile p).length∧xs.dropWhile p=xs.drop (xs.takeWhile p).length
 |[]=>by simp
 |x::xs=>by
  rw[List.takeWhile_cons,List.dropWhile_cons]
  cases p x
  ·simp
  ·have:=Df p xs
   simp only[if_true,List.length_cons,List.take_succ_cons,List.drop_succ_cons,←this.1,←this.2,and_self]
theorem Dj {α:Type}(p:α→Bool):∀(xs:List α) (i:Nat) (h:i<(xs.takeWhile p).length) (h':i<xs.length),p xs[i]=true
 |x::xs,i,h,h'=>by
  rw[List.takeWhile_cons] at h
  cases hp:p x
  ·rw[hp] at h;simp at h
  ·rw[hp] at h
   cases i with
   |zero=>simpa using hp
   |succ i=>simp only[if_true,List.length_cons] at h;simpa using Dj p xs i (by omega) (by simpa using h')
theorem DE {α:Type}(p:α→Bool):∀(xs:List α) (h:(xs.takeWhile p).length<xs.length),p (xs[(xs.takeWhile p).length])=false
 |x::xs,h=>by
  cases hp:p x
  ·simp[List.takeWhile_cons,hp]
  ·have h2:(xs.takeWhile p).length<xs.length:=by simpa [List.takeWhile_cons,hp] using h
   simpa [List.takeWhile_cons,hp] using DE p xs h2
theorem FN {α:Type}(p:α→Bool)(xs:List α):(xs.takeWhile p).length≤xs.length:=(List.takeWhile_sublist _).length_le
theorem Dn (xs:List Int)(n:Int)(h:Inc xs)(hl:xs.length≤4294967295):D.h xs n=some (into xs n):=by
 unfold D.h
 generalize hk:(xs.takeWhile (fun x=>decide (x<n))).length=k
 have hkl:k≤xs.length:=by rw[←hk];exact FN _ _
 have htk:xs.takeWhile (fun x=>decide (x<n))=xs.take k:=by rw[←hk];exact(Df _ xs).1
 have hdk:xs.dropWhile (fun x=>decide (x<n))=xs.drop k:=by rw[←hk];exact(Df _ xs).2
 refine(Bx (fun i=>((i:Nat):Int)) k (k:Int) rfl (fun i hi=> ?_) ?_).trans ?_
 ·have hi':i<xs.length:=by omega
  have hp:decide (xs[i]<n)=true:=Dj (fun x=>decide (x<n)) xs i (by omega) hi'
  simp only[dlt hi',cond_true,Ar hi',Option.bind_some,hp,wi (show i<4611686018427387904 by omega)]
 ·by_cases hlt:k<xs.length
  ·have hp:decide (xs[k]<n)=false:=by
    have:=DE (fun x=>decide (x<n)) xs (by omega)
    simp only[hk] at this;exact this
   simp only[dlt hlt,cond_true,Ar hlt,Option.bind_some,hp,cond_false]
  ·obtain rfl:k=xs.length:=by omega
   simp only[Ba,cond_false,Option.bind_some]
 ·have hS1:Sh (xs.take k):=by unfold Sh;rw[List.length_take];omega
  have hrest:((Cq xs 0 (k:Int)).bind fun l_135=>(D.e l_135).bind fun y_139=>(AR y_139 ([n]:List Int)).bind fun l_154=>(Cq xs (k:Int) (xs.length:Int)).bind fun l_160=>(AR l_154 l_160).bind fun l_164=>some l_164)=some (xs.take k++n::xs.drop k):=by
   simp only[sliceD_pre hkl,sliceD_post hkl,Option.bind_some,DP _ hS1]
   rw[A4 (by simp;omega),Option.bind_some,A4 (by simp;omega),Option.bind_some]
   simp
  by_cases hlt:k<xs.length
  ·simp only[dlt hlt,cond_true,Ar hlt,Option.bind_some]
   by_cases he:xs[k]=n
   ·have hm:n∈xs:=by rw[←he];exact List.getElem_mem _
    have:(xs[k]==n)=true:=by simp[he]
    simp only[this,cond_true]
    unfold into;rw[if_pos hm]
   ·have:(xs[k]==n)=false:=by simpa using he
    simp only[this,cond_false,hrest]
    unfold into
    rw[htk,hdk,if_neg]
    intro hm
    obtain⟨j,hj,e⟩:=List.getElem_of_mem hm
    have hst:decide (xs[k]<n)=false:=by
     have:=DE (fun x=>decide (x<n)) xs (by omega)
     simp only[hk] at this;exact this
    simp at hst
    rcases Nat.lt_trichotomy j k with h1|h1|h1
    ·have:=Dj (fun x=>decide (x<n)) xs j (by omega) hj
     simp at this;omega
    ·subst h1;exact he e
    ·have:=(List.pairwise_iff_getElem.1 h) k j hlt hj h1
     omega
  ·obtain rfl:k=xs.length:=by omega
   simp only[Ba,cond_false,Option.bind_some,hrest]
   unfold into
   rw[htk,hdk,if_neg]
   intro hm
   obtain⟨j,hj,e⟩:=List.getElem_of_mem hm
   have:=Dj (fun x=>decide (x<n)) xs j (by omega) hj
   simp at this;omega
theorem Inc.short {s:List Int}{n:Nat}(h:Inc s)(hr:∀x∈s,0≤x∧x<n):s.length≤n:=by
 rcases SetOf.len h hr with e|e
 ·subst e;simp
 ·omega
end Go.Sx



namespace Go.Sx
structure DK (b:List Int)(i:Int):Prop where
 byte:∀x∈b,0≤x∧x≤255
 len:b.length≤4096
 i0:0≤i
 i1:i≤b.length
theorem row_set {g:List (List Int)}{u v:Nat}{r:List Int}(hu:u<g.length):row (g.set u r) v=if v=u then r else row g v:=by
 unfold row
 by_cases h:v=u
 ·subst h;simp[hu]
 ·rw[if_neg h,List.getD_eq_getElem?_getD,List.getElem?_set_ne (fun e=>h e.symm),←List.getD_eq_getElem?_getD]
theorem l1Link_ok {g:List (List Int)}(hg:GOk g){u v:Nat}(hu:u<g.length)(hv:v<g.length)(huv:u≠v):
  ∃g',D.F0 g (u:Int) (v:Int)=some g'∧GOk g'∧g'.length=g.length∧∀a b,adj g' a b↔adj g a b∨(a=u∧b=v)∨(a=v∧b=u):=by
 have h16:=hg.n16
 have hru:=hg.rows u hu;have hrv:=hg.rows v hv
 have hlu:=hg.row_len hu;have hlv:=hg.row_len hv
 refine⟨(g.set u (into (row g u) v)).set v (into (row g v) u),?_,?_⟩
 ·unfold D.F0
  have e1:row (g.set u (into (row g u) v)) v=row g v:=by rw[row_set hu,if_neg (Ne.symm huv)]
  simp only[B8 hu,Option.bind_some,Dn _ _ hru.1 (show (row g u).length≤4294967295 by omega),Int.toNat_natCast]
  rw[B8 (show v<(g.set u (into (row g u) v)).length by simpa using hv),e1]
  simp only[Option.bind_some,Dn _ _ hrv.1 (show (row g v).length≤4294967295 by omega)]
 ·have hrow:∀w,row ((g.set u (into (row g u) v)).set v (into (row g v) u)) w=if w=v then into (row g v) u else if w=u then into (row g u) v else row g w:=by
   intro w
   rw[row_set (by simpa using hv),row_set hu]
  have hadj:∀a b,adj ((g.set u (into (row g u) v)).set v (into (row g v) u)) a b↔adj g a b∨(a=u∧b=v)∨(a=v∧b=u):=by
   intro a b
   unfold adj
   rw[hrow]
   by_cases ha:a=v
   ·subst ha
    rw[if_pos rfl,mem_into]
    constructor
    ·rintro(h|h)
     ·exact .inr (.inr ⟨rfl,by omega⟩)
     ·exact .inl h
    ·rintro(h|⟨h,_⟩|⟨_,h⟩)
     ·exact .inr h
     ·exact absurd h.symm huv
     ·exact .inl (by omega)
   ·rw[if_neg ha]
    by_cases ha':a=u
    ·subst ha'
     rw[if_pos rfl,mem_into]
     constructor
     ·rintro(h|h)
      ·exact .inr (.inl ⟨rfl,by omega⟩)
      ·exact .inl h
     ·rintro(h|⟨_,h⟩|⟨h,_⟩)
      ·exact .inr h
      ·exact .inl (by omega)
      ·exact absurd h ha
    ·rw[if_neg ha']
     constructor
     ·exact .inl
     ·rintro(h|⟨h,_⟩|⟨h,_⟩)
      ·exact h
      ·exact absurd h ha'
      ·exact absurd h ha
  refine⟨⟨by simpa using hg.n1,by simpa using h16,fun w hw=> ?_,fun w hw=> ?_,fun a b ha hab=> ?_⟩,by simp,hadj⟩
  ·simp only[List.length_set] at hw ⊢
   rw[hrow]
   split
   ·refine⟨hrv.1.into _,fun x hx=> ?_⟩
    rcases mem_into.1 hx with rfl|hx
    ·omega
    ·exact hrv.2 x hx
   ·split
    ·refine⟨hru.1.into _,fun x hx=> ?_⟩
     rcases mem_into.1 hx with rfl|hx
     ·omega
     ·exact hru.2 x hx
    ·exact hg.rows w hw
  ·simp only[List.length_set] at hw
   rw[hadj]
   rintro(h|⟨h1,h2⟩|⟨h1,h2⟩)
   ·exact hg.irr w hw h
   ·omega
   ·omega
  ·simp only[List.length_set] at ha
   rw[hadj] at hab ⊢
   rcases hab with h|h|h
   ·exact .inl (hg.sym a b ha h)
   ·exact .inr (.inr ⟨h.2,h.1⟩)
   ·exact .inr (.inl ⟨h.2,h.1⟩)
end Go.Sx

namespace Go.Sx
end Go.Sx



namespace Go.Sx
theorem ext_getD {a b:List Int}(hl:a.length=b.length)(h:∀j,j<a.length→a.getD j 0=b.getD j 0):a=b:=by
 apply List.ext_getElem hl
 intro j h1 h2
 have:=h j h1
 rwa [AD h1,AD h2] at this
theorem C3 (l:List Int)(i j:Nat)(x:Int)(hi:i<l.length):(l.set i x).getD j 0=if j=i then x else l.getD j 0:=by
 simp only[List.getD_eq_getElem?_getD,List.getElem?_set]
 by_cases h:j=i
 ·subst h;simp[hi]
 ·rw[if_neg (fun e=>h e.symm),if_neg h]
end Go.Sx

namespace Go.Sx
def nb (F:List Int)(u w:Nat):Bool:=has (F.getD u 0) w
structure FOk (F:List Int)(n:Nat):Prop where
 len:F.length=n
 vs:∀u,u<n→VS (F.getD u 0)
 lt:∀u w,u<n→nb F u w=true→w<n
 irr:∀u,u<n→nb F u u=false
 sym:∀u w,u<n→nb F u w=true→nb F w u=true
theorem FOk.ext {F F':List Int}{n:Nat}(h:F.length=n)(h':F'.length=n)(v:∀u,u<n→VS (F.getD u 0))(v':∀u,u<n→VS (F'.getD u 0))(e:∀u w,u<n→nb F u w=nb F' u w):F=F':=by
 refine ext_getD (by omega) (fun j hj=> ?_)
 exact(v j (by omega)).ext (v' j (by omega)) (fun w _=>e j w (by omega))
theorem FA (g:List (List Int))(u:Nat):(g.map mk).getD u 0=mk (row g u):=by
 unfold row
 simp only[List.getD_eq_getElem?_getD,List.getElem?_map]
 cases g[u]? with
 |none=>simp[mk]
 |some r=>rfl
theorem El {g:List (List Int)}(hg:GOk g){u w:Nat}(hu:u<g.length):nb (g.map mk) u w=true↔adj g u w:=by
 have h16:=hg.n16
 unfold nb
 rw[FA,Ev (fun x hx=>by have:=(hg.rows u hu).2 x hx;omega)]
 simp[adj]
theorem FOk.of {g:List (List Int)}(hg:GOk g):FOk (g.map Sx.mk) g.length:=by
 refine⟨by simp,fun u _=>by rw[FA];exact VS.mk _,fun u w hu h=>hg.lt hu ((El hg hu).1 h),fun u hu=> ?_,fun u w hu h=> ?_⟩
 ·cases h:nb (g.map Sx.mk) u u
  ·rfl
  ·exact absurd ((El hg hu).1 h) (hg.irr u hu)
 ·have ha:=(El hg hu).1 h
  exact(El hg (hg.lt hu ha)).2 (hg.sym u w hu ha)
def grow (F:List Int):List (List Int):=F.map Ap
theorem row_grow (F:List Int)(u:Nat):row (grow F) u=Ap (F.getD u 0):=by
 unfold row grow
 simp only[List.getD_eq_getElem?_getD,List.getElem?_map]
 cases F[u]? with
 |none=>simp[DY]
 |some r=>rfl
theorem DC {F:List Int}{n u w:Nat}(h:FOk F n)(hu:u<n):adj (grow F) u w↔nb F u w=true:=by
 unfold adj nb
 rw[row_grow,Be (h.vs u hu)]
theorem GOk.grow {F:List Int}{n:Nat}(h:FOk F n)(h1:1≤n)(h16:n≤16):GOk (grow F):=by
 have hl:(Sx.grow F).length=n:=by unfold Sx.grow;rw[List.length_map,h.len]
 refine⟨by omega,by omega,fun v hv=> ?_,fun v hv ha=> ?_,fun u v hu ha=> ?_⟩
 ·rw[row_grow,hl]
  refine⟨BJ _,fun x hx=> ?_⟩
  obtain⟨w,_,h2,rfl⟩:=mem_elems.1 hx
  have:=h.lt v w (by omega) h2
  omega
 ·rw[DC h (by omega)] at ha
  rw[h.irr v (by omega)] at ha;cases ha
 ·rw[DC h (by omega)] at ha
  have:=h.lt u v (by omega) ha
  rw[DC h (by omega)]
  exact h.sym u v (by omega) ha
theorem mk_elems {s:Int}(h:VS s):mk (Ap s)=s:=by
 refine(VS.mk _).ext h (fun v hv=> ?_)
 rw[Ev (fun x hx=>by obtain⟨w,h1,_,rfl⟩:=mem_elems.1 hx;omega),Bool.eq_iff_iff,decide_eq_true_eq,Be h]
theorem all_mask :∀n:Fin 17,∀v:Fin 32,has (IntKind.u32.wrap (ishl .u32 1 (n.val:Int)-1)) v.val=decide (v.val<n.val):=by decide+kernel
theorem Fy (F:List Int)(h:F.length≤16):∃s,D.o F=some s∧VS s∧∀v,has s v=decide (v<F.length):=by
 refine⟨IntKind.u32.wrap (ishl .u32 1 (F.length:Int)-1),?_,VS.wrap _,fun v=> ?_⟩
 ·unfold D.o D.I0
  have:decide ((F.length:Int)<0)=false:=by simp
  rw[this];rfl
 ·by_cases hv:v<32
  ·exact all_mask ⟨F.length,by omega⟩ ⟨v,hv⟩
  ·rw[D7 (VS.wrap _) (by omega)];symm;simp;omega
theorem inner_ok {n v:Nat}(F L:List Int)(S:Int)(h16:n≤16)(hF:F.length=n)(hV:∀u,u<n→VS (F.getD u 0))(hS:VS S)(hSn:∀w,has S w=true→w<n)(hL:idx L (v:Int)=some S):
  ∃F',(An (σ:=(List Int)×Int) (ρ:=((List Int))) (fun(s_776:(List Int)×Int)=>match s_776 with|(l_779,x_782)=>cond (decide (x_782<((Ap S).length:Int))) ((idx (Ap S) x_782).bind fun e_820=>(idx l_779 e_820).bind fun e_826=>(idx L (v:Int)).bind fun e_832=>(D.d e_820).bind fun y_838=>(idx l_779 e_820).bind fun e_841=>some (.inl ((l_779.set (Int.toNat e_820) (ior .u32 e_826 (iandNot .u32 e_832 y_838))),(IntKind.i64.wrap (x_782+1))))) (some (.inr l_779))) (F,0))=some F'∧
   (F'.length=n∧(∀u,u<n→VS (F'.getD u 0))∧∀u w,u<n→nb F' u w=(nb F u w||(has S u&&has S w&&decide (w≠u)))):=by
 have key:=AN (k:=fun r=>some r) (Q:=fun F':List Int=>F'.length=n∧(∀u,u<n→VS (F'.getD u 0))∧∀u w,u<n→nb F' u w=(nb F u w||(has S u&&has S w&&decide (w≠u))))
  (step:=(fun(s_776:(List Int)×Int)=>match s_776 with|(l_779,x_782)=>cond (decide (x_782<((Ap S).length:Int))) ((idx (Ap S) x_782).bind fun e_820=>(idx l_779 e_820).bind fun e_826=>(idx L (v:Int)).bind fun e_832=>(D.d e_820).bind fun y_838=>(idx l_779 e_820).bind fun e_841=>some (.inl ((l_779.set (Int.toNat e_820) (ior .u32 e_826 (iandNot .u32 e_832 y_838))),(IntKind.i64.wrap (x_782+1))))) (some (.inr l_779)))) (s:=(F,0))
  (fun s=>∃i:Nat,s.2=(i:Int)∧i≤(Ap S).length∧s.1.length=n∧(∀u,u<n→VS (s.1.getD u 0))∧∀u w,u<n→nb s.1 u w=(nb F u w||(decide ((u:Int)∈(Ap S).take i)&&has S w&&decide (w≠u)))) (fun s=>(Ap S).length-s.2.toNat)
  (fun F'=>F'.length=n∧(∀u,u<n→VS (F'.getD u 0))∧∀u w,u<n→nb F' u w=(nb F u w||(has S u&&has S w&&decide (w≠u)))) ?_ ⟨0,rfl,by omega,hF,hV,fun u w _=>by simp⟩ (fun r hr=>⟨r,rfl,hr⟩)
 ·obtain⟨y,hy,hq⟩:=key
  rw[Option.bind_eq_some_iff] at hy
  obtain⟨a,ha,hb⟩:=hy
  cases hb
  exact⟨_,ha,hq⟩
 ·rintro⟨l,_⟩ ⟨i,rfl,hi,hl,hv,hh⟩
  dsimp only at hl hv hh ⊢
  have hle:=B2 S
  by_cases hlt:i<(Ap S).length
  ·obtain⟨u0,h1,h2,h3⟩:=mem_elems.1 (List.getElem_mem hlt)
   have h4:=hSn u0 h2
   simp only[dlt hlt,cond_true,Ar hlt,Option.bind_some,h3,Ar (show u0<l.length by omega),hL,BR,wi (show i<4611686018427387904 by omega),Int.toNat_natCast]
   refine⟨_,rfl,⟨i+1,rfl,by omega,by simp[hl],fun u hu=> ?_,fun u w hu=> ?_⟩,by dsimp only;omega⟩
   ·rw[C3 _ _ _ _ (by omega)]
    split
    ·exact VS.ior _ _
    ·exact hv u hu
   ·have hmem:((u:Int)∈(Ap S).take (i+1))↔((u:Int)∈(Ap S).take i∨u=u0):=by
     rw[List.take_succ_eq_append_getElem hlt,List.mem_append,h3]
     simp[Int.natCast_inj]
    unfold nb
    rw[C3 _ _ _ _ (by omega)]
    by_cases hc:u=u0
    ·subst hc
     rw[if_pos rfl]
     have hg:l[u]=l.getD u 0:=(AD (by omega) 0).symm
     rw[hg,CM (hv u hu) (VS.iandNot _ _),Bd hS (VS.ishl _ _),BI (by omega)]
     have:=hh u w hu
     unfold nb at this
     rw[this,decide_eq_true (hmem.2 (.inr rfl))]
     cases has (F.getD u 0) w<;>cases has S w<;>by_cases hw:w=u<;>simp[hw]
    ·rw[if_neg hc]
     have:=hh u w hu
     unfold nb at this
     rw[this]
     have:decide ((u:Int)∈(Ap S).take (i+1))=decide ((u:Int)∈(Ap S).take i):=by
      rw[Bool.eq_iff_iff,decide_eq_true_eq,decide_eq_true_eq,hmem];simp[hc]
     rw[this]
  ·obtain rfl:i=(Ap S).length:=by omega
   simp only[Ba,cond_false]
   refine⟨_,rfl,hl,hv,fun u w hu=> ?_⟩
   rw[hh u w hu,List.take_length]
   congr 3
   rw[Bool.eq_iff_iff,decide_eq_true_eq,Be hS]
def PEO (F:List Int)(o:List Int):Prop:=∀(j:Nat) (v u w:Nat),o[j]? =some (v:Int)→nb F v u=true→nb F v w=true→(u:Int)∉o.take (j+1)→(w:Int)∉o.take (j+1)→u≠w→nb F u w=true
def Lat (F L:List Int)(o:List Int)(i:Nat):Prop:=∀(j:Nat) (v:Nat),j<i→o[j]? =some (v:Int)→∀w,nb L v w=(nb F v w&&decide ((w:Int)∉o.take (j+1)))
inductive Via (F:List Int)(gone:Nat→Prop)(u:Nat):Nat→Prop
 |me:Via F gone u u
 |step {x y:Nat}:Via F gone u x→nb F x y=true→gone y→Via F gone u y
theorem Via.mono {F:List Int}{g g':Nat→Prop}{u x:Nat}(h:Via F g u x)(hg:∀y,g y→g' y):Via F g' u x:=by
 induction h with
 |me=>exact .me
 |step _ h1 h2 ih=>exact .step ih h1 (hg _ h2)
theorem Via.end_ {F:List Int}{g:Nat→Prop}{u x:Nat}(h:Via F g u x):x=u∨g x:=by
 cases h with
 |me=>exact .inl rfl
 |step _ _ h2=>exact .inr h2
theorem Via.lt {F:List Int}{n:Nat}(hF:FOk F n){g:Nat→Prop}{u x:Nat}(hu:u<n)(h:Via F g u x):x<n:=by
 induction h with
 |me=>exact hu
 |step _ h1 _ ih=>exact hF.lt _ _ ih h1
theorem Via.back {F:List Int}{n:Nat}(hF:FOk F n){g g':Nat→Prop}(hg:∀y,g y→g' y){v x:Nat}(hv:v<n)(hgv:g' v)(h:Via F g v x):∀z,Via F g' z x→Via F g' z v:=by
 induction h with
 |me=>exact fun z h=>h
 |step hx h1 h2 ih=>
  intro z hz
  have hxn:=Via.lt hF hv hx
  refine ih z (.step hz (hF.sym _ _ hxn h1) ?_)
  rcases hx.end_ with e|e
  ·rw[e];exact hgv
  ·exact hg _ e
def Bhd (F:List Int)(gone:Nat→Prop)(v w:Nat):Prop:=∃x,Via F gone v x∧nb F x w=true
structure EInv (n:Nat)(F0 o:List Int)(i:Nat)(F L:List Int)(left:Int):Prop where
 f:FOk F n
 lenL:L.length=n
 vsL:∀u,u<n→VS (L.getD u 0)
 vsl:VS left
 left:∀v,has left v=decide (v<n∧(v:Int)∉o.take i)
 mono:∀u w,u<n→nb F0 u w=true→nb F u w=true
 lat:Lat F L o i
 peo:∀(j:Nat) (v u w:Nat),j<i→o[j]? =some (v:Int)→nb F v u=true→nb F v w=true→(u:Int)∉o.take (j+1)→(w:Int)∉o.take (j+1)→u≠w→nb F u w=true
 same:PEO F0 o→F=F0
 via:∀u w:Nat,u<n→(u:Int)∉o.take i→(w:Int)∉o.take i→u≠w→(nb F u w=true↔Bhd F0 (fun x=>(x:Int)∈o.take i) u w)
 latb:∀(j:Nat) (v:Nat),j<i→o[j]? =some (v:Int)→∀w:Nat,nb L v w=true↔(w:Int)∉o.take (j+1)∧Bhd F0 (fun x=>(x:Int)∈o.take j) v w
theorem Di {o:List Int}{j i:Nat}(h:j≤i){x:Int}(hx:x∈o.take j):x∈o.take i:=by
 rw[mem_take_iff] at hx ⊢
 obtain⟨k,h1,h2,h3⟩:=hx
 exact⟨k,h1,by omega,h3⟩
theorem EInv.step {n:Nat}{F0 o F L:List Int}{i v:Nat}{left:Int}(h16:n≤16)(h0:FOk F0 n)(hn:∀x∈o,0≤x∧x<n)(hnd:o.Nodup)(hi:i<o.length)(hv:o[i]=(v:Int))(h:EInv n F0 o i F L left){F':List Int}
  (hl':F'.length=n) (hv':∀u,u<n→VS (F'.getD u 0)) (h':∀u w,u<n→nb F' u w=(nb F u w||(has (iand .u32 (F.getD v 0) (iandNot .u32 left (ishl .u32 1 (v:Int)))) u&&has (iand .u32 (F.getD v 0) (iandNot .u32 left (ishl .u32 1 (v:Int)))) w&&decide (w≠u)))):
  EInv n F0 o (i+1) F' (L.set v (iand .u32 (F.getD v 0) (iandNot .u32 left (ishl .u32 1 (v:Int))))) (iandNot .u32 left (ishl .u32 1 (v:Int))):=by
 have hvn:v<n:=by have:=hn _ (List.getElem_mem hi);omega
 have hvt:(v:Int)∉o.take i:=by rw[←hv];exact nodup_iff.1 hnd i hi
 have htk:∀x:Nat,((x:Int)∈o.take (i+1))↔((x:Int)∈o.take i∨x=v):=fun x=>by
  rw[List.take_succ_eq_append_getElem hi,List.mem_append,hv];simp[Int.natCast_inj]
 have hleft:∀w,has (iandNot .u32 left (ishl .u32 1 (v:Int))) w=decide (w<n∧(w:Int)∉o.take (i+1)):=fun w=>by
  rw[Bd h.vsl (VS.ishl _ _),BI (by omega),h.left,Bool.eq_iff_iff]
  simp only[Bool.and_eq_true,decide_eq_true_eq,Bool.not_eq_true',decide_eq_false_iff_not,htk]
  constructor
  ·rintro⟨⟨a,b⟩,c⟩;exact⟨a,fun hh=>hh.elim b c⟩
  ·rintro⟨a,b⟩;exact⟨⟨a,fun hh=>b (.inl hh)⟩,fun hh=>b (.inr hh)⟩
 have hS:∀w,has (iand .u32 (F.getD v 0) (iandNot .u32 left (ishl .u32 1 (v:Int)))) w=(nb F v w&&decide ((w:Int)∉o.take (i+1))):=fun w=>by
  rw[Cc (h.f.vs v hvn) (VS.iandNot _ _),hleft,Bool.eq_iff_iff]
  show (nb F v w&&_)=true↔_
  simp only[Bool.and_eq_true,decide_eq_true_eq]
  exact⟨fun⟨a,b,c⟩=>⟨a,c⟩,fun⟨a,c⟩=>⟨a,h.f.lt v w hvn a,c⟩⟩
 have hlV:VS (iandNot .u32 left (ishl .u32 1 (v:Int))):=VS.iandNot _ _
 generalize iandNot .u32 left (ishl .u32 1 (v:Int))=left' at*
 generalize hSS:iand .u32 (F.getD v 0) left'=S at*
 have hSV:VS S:=by rw[←hSS];exact VS.iand _ _
 have hSlt:∀w,has S w=true→w<n∧(w:Int)∉o.take (i+1):=fun w hw=>by
  rw[hS] at hw
  simp only[Bool.and_eq_true,decide_eq_true_eq] at hw
  exact⟨h.f.lt v w hvn hw.1,hw.2⟩
 have hmono:∀u w,u<n→nb F u w=true→nb F' u w=true:=fun u w hu hh=>by rw[h' u w hu,hh];rfl
 have hold:∀x:Nat,x<n→(x:Int)∈o.take (i+1)→∀w,nb F' x w=nb F x w:=fun x hx hm w=>by
  rw[h' x w hx]
  have:has S x=false:=by
   cases hc:has S x
   ·rfl
   ·exact absurd hm (hSlt x hc).2
  simp[this]
 have hf':FOk F' n:=by
  refine⟨hl',hv',fun u w hu hh=> ?_,fun u hu=> ?_,fun u w hu hh=> ?_⟩
  ·rw[h' u w hu] at hh
   simp only[Bool.or_eq_true,Bool.and_eq_true] at hh
   rcases hh with hh|⟨⟨_,hh⟩,_⟩
   ·exact h.f.lt u w hu hh
   ·exact(hSlt w hh).1
  ·rw[h' u u hu,h.f.irr u hu];simp
  ·rw[h' u w hu] at hh
   simp only[Bool.or_eq_true,Bool.and_eq_true,decide_eq_true_eq] at hh
   rcases hh with hh|⟨⟨h1,h2⟩,h3⟩
   ·exact hmono w u (h.f.lt u w hu hh) (h.f.sym u w hu hh)
   ·rw[h' w u (hSlt w h2).1,h1,h2]
    have:decide (u≠w)=true:=by simpa using fun e=>h3 e.symm
    simp[this]
 have hjv:∀j (x:Nat),o[j]? =some (x:Int)→j<o.length∧x<n∧(x:Int)∈o.take (j+1):=fun j x hx=>by
  obtain⟨h1,h2⟩:=List.getElem?_eq_some_iff.1 hx
  have:=hn _ (List.getElem_mem h1)
  refine⟨h1,by omega,?_⟩
  rw[mem_take_iff];exact⟨j,h1,by omega,h2⟩
 refine⟨hf',by simp[h.lenL],fun u hu=> ?_,hlV,hleft,fun u w hu hh=>hmono u w hu (h.mono u w hu hh),fun j x hj hx w=> ?_,fun j x u w hj hx h1 h2 h3 h4 h5=> ?_,fun hp=> ?_,fun u w hu k1 k2 huw=> ?_,fun j x hj hx w=> ?_⟩
 ·rw[C3 _ _ _ _ (by rw[h.lenL];exact hvn)]
  split
  ·exact hSV
  ·exact h.vsL u hu
 ·obtain⟨k1,k2,k3⟩:=hjv j x hx
  have k4:=Di (show j+1≤i+1 by omega) k3
  rw[hold x k2 k4 w]
  unfold nb
  rw[C3 _ _ _ _ (by rw[h.lenL];exact hvn)]
  by_cases hji:j=i
  ·subst hji
   rw[List.getElem?_eq_getElem hi,hv] at hx
   have:x=v:=by
    have:(v:Int)=(x:Int):=by simpa using hx
    omega
   subst this
   rw[if_pos rfl,hS];rfl
  ·have hne:x≠v:=fun e=>by
    subst e
    exact hvt (Di (show j+1≤i by omega) k3)
   rw[if_neg hne]
   exact h.lat j x (by omega) hx w
 ·obtain⟨k1,k2,k3⟩:=hjv j x hx
  have k4:=Di (show j+1≤i+1 by omega) k3
  rw[hold x k2 k4] at h1 h2
  by_cases hji:j=i
  ·subst hji
   rw[List.getElem?_eq_getElem hi,hv] at hx
   have:x=v:=by
    have:(v:Int)=(x:Int):=by simpa using hx
    omega
   subst this
   have hu:has S u=true:=by rw[hS,h1];simpa using h3
   have hw:has S w=true:=by rw[hS,h2];simpa using h4
   rw[h' u w (hSlt u hu).1,hu,hw]
   have:decide (w≠u)=true:=by simpa using fun e=>h5 e.symm
   simp[this]
  ·exact hmono u w (h.f.lt x u k2 h1) (h.peo j x u w (by omega) hx h1 h2 h3 h4 h5)
 ·have hFF:=h.same hp
  subst hFF
  refine FOk.ext hl' h.f.len hv' h.f.vs (fun u w hu=> ?_)
  rw[h' u w hu,Bool.eq_iff_iff]
  simp only[Bool.or_eq_true,Bool.and_eq_true,decide_eq_true_eq]
  constructor
  ·rintro(hh|⟨⟨h1,h2⟩,h3⟩)
   ·exact hh
   ·have k1:=(hSlt u h1).2;have k2:=(hSlt w h2).2
    rw[hS] at h1 h2
    simp only[Bool.and_eq_true] at h1 h2
    exact hp i v u w (by rw[List.getElem?_eq_getElem hi,hv]) h1.1 h2.1 k1 k2 (fun e=>h3 e.symm)
  ·exact .inl
 ·have q1:(u:Int)∉o.take i:=fun e=>k1 ((htk u).2 (.inl e))
  have q2:(w:Int)∉o.take i:=fun e=>k2 ((htk w).2 (.inl e))
  have huv:u≠v:=fun e=>k1 ((htk u).2 (.inr e))
  have hwv:w≠v:=fun e=>k2 ((htk w).2 (.inr e))
  have hgg:∀y:Nat,(y:Int)∈o.take i→(y:Int)∈o.take (i+1):=fun y hy=>(htk y).2 (.inl hy)
  rw[h' u w hu]
  simp only[Bool.or_eq_true,Bool.and_eq_true,decide_eq_true_eq]
  constructor
  ·rintro(hh|⟨⟨a1,a2⟩,_⟩)
   ·obtain⟨x,hx,e⟩:=(h.via u w hu q1 q2 huw).1 hh
    exact⟨x,hx.mono hgg,e⟩
   ·rw[hS] at a1 a2
    simp only[Bool.and_eq_true,decide_eq_true_eq] at a1 a2
    obtain⟨x,hx,ex⟩:=(h.via v u hvn hvt q1 (fun e=>huv e.symm)).1 a1.1
    obtain⟨y,hy,ey⟩:=(h.via v w hvn hvt q2 (fun e=>hwv e.symm)).1 a2.1
    have hvg:(v:Int)∈o.take (i+1):=(htk v).2 (.inr rfl)
    have hxn:=Via.lt h0 hvn hx
    have hxg:(x:Int)∈o.take (i+1):=by
     rcases hx.end_ with e|e
     ·rw[e];exact hvg
     ·exact hgg x e
    have hux:Via F0 (fun x=>(x:Int)∈o.take (i+1)) u x:= .step .me (h0.sym x u hxn ex) hxg
    have huv':=Via.back h0 (g':=fun x=>(x:Int)∈o.take (i+1)) hgg hvn hvg hx u hux
    have hgo:∀y,Via F0 (fun x=>(x:Int)∈o.take i) v y→Via F0 (fun x=>(x:Int)∈o.take (i+1)) u y:=fun y hy=>by
     induction hy with
     |me=>exact huv'
     |step _ b1 b2 ih=>exact .step ih b1 (hgg _ b2)
    exact⟨y,hgo y hy,ey⟩
  ·rintro⟨x,hx,ex⟩
   have hcl:∀x,Via F0 (fun x=>(x:Int)∈o.take (i+1)) u x→Via F0 (fun x=>(x:Int)∈o.take i) u x∨(Bhd F0 (fun x=>(x:Int)∈o.take i) u v∧Via F0 (fun x=>(x:Int)∈o.take i) v x):=fun x hx=>by
    induction hx with
    |me=>exact .inl .me
    | @step a b _ b1 b2 ih=>
     rcases(htk b).1 b2 with b2|b2
     ·rcases ih with ih|⟨ih1,ih2⟩
      ·exact .inl (.step ih b1 b2)
      ·exact .inr ⟨ih1,.step ih2 b1 b2⟩
     ·rcases ih with ih|⟨ih1,ih2⟩
      ·subst b2;exact .inr ⟨⟨a,ih,b1⟩,.me⟩
      ·subst b2;exact .inr ⟨ih1,.me⟩
   rcases hcl x hx with hx|⟨hx1,hx2⟩
   ·exact .inl ((h.via u w hu q1 q2 huw).2 ⟨x,hx,ex⟩)
   ·right
    have a1:=(h.via u v hu q1 hvt huv).2 hx1
    have a2:=(h.via v w hvn hvt q2 (fun e=>hwv e.symm)).2 ⟨x,hx2,ex⟩
    refine⟨⟨?_,?_⟩,fun e=>huw e.symm⟩
    ·rw[hS,h.f.sym u v hu a1];simpa using k1
    ·rw[hS,a2];simpa using k2
 ·obtain⟨k1,k2,k3⟩:=hjv j x hx
  unfold nb
  rw[C3 _ _ _ _ (by rw[h.lenL];exact hvn)]
  by_cases hji:j=i
  ·subst hji
   rw[List.getElem?_eq_getElem hi,hv] at hx
   have:x=v:=by
    have:(v:Int)=(x:Int):=by simpa using hx
    omega
   subst this
   rw[if_pos rfl,hS,Bool.and_eq_true,decide_eq_true_eq]
   constructor
   ·rintro⟨b1,b2⟩
    have b3:(w:Int)∉o.take j:=fun e=>b2 ((htk w).2 (.inl e))
    have b4:x≠w:=fun e=>b2 ((htk w).2 (.inr e.symm))
    exact⟨b2,(h.via x w hvn hvt b3 b4).1 b1⟩
   ·rintro⟨b2,b1⟩
    have b3:(w:Int)∉o.take j:=fun e=>b2 ((htk w).2 (.inl e))
    have b4:x≠w:=fun e=>b2 ((htk w).2 (.inr e.symm))
    exact⟨(h.via x w hvn hvt b3 b4).2 b1,b2⟩
  ·have hne:x≠v:=fun e=>by
    subst e
    exact hvt (Di (show j+1≤i by omega) k3)
   rw[if_neg hne]
   exact h.latb j x (by omega) hx w
theorem elim_ok {n:Nat}{F0 o:List Int}(h16:n≤16)(h0:FOk F0 n)(hl:o.length=n)(hn:∀x∈o,0≤x∧x<n)(hnd:o.Nodup):
  ∃y,D.J F0 o=some y∧∃left,EInv n F0 o n y.1 y.2 left:=by
 have hlen:=h0.len
 unfold D.J
 rw[A4 (by simp;omega),Option.bind_some]
 obtain⟨s,e1,hs1,hs2⟩:=Fy F0 (by omega)
 rw[e1,Option.bind_some,CJ (by omega) (by omega),Option.bind_some]
 simp only[Option.bind_some,List.nil_append]
 refine AN (fun st=>∃i:Nat,st.2.2.2=(i:Int)∧i≤n∧EInv n F0 o i st.1 st.2.1 st.2.2.1) (fun st=>n-st.2.2.2.toNat) (fun r=>∃left,EInv n F0 o n r.1 r.2 left) ?_ ?_ ?_
 ·rintro⟨F,L,left,_⟩ ⟨i,rfl,hi,h⟩
  dsimp only at h ⊢
  rw[hl]
  by_cases hlt:i<n
  ·have hio:i<o.length:=by omega
   obtain⟨v,hv⟩:∃v:Nat,o[i]=(v:Int):=⟨(o[i]).toNat,by have:=hn _ (List.getElem_mem hio);omega⟩
   have hvn:v<n:=by have:=hn _ (List.getElem_mem hio);omega
   have hFv:idx F (v:Int)=some (F.getD v 0):=by rw[Ar (by rw[h.f.len];omega),AD (by rw[h.f.len];omega)]
   have hLs:idx (L.set v (iand .u32 (F.getD v 0) (iandNot .u32 left (ishl .u32 1 (v:Int))))) (v:Int)=some (iand .u32 (F.getD v 0) (iandNot .u32 left (ishl .u32 1 (v:Int)))):=by
    rw[Ar (by simp[h.lenL];omega)];simp
   simp only[dlt hlt,cond_true,Ar hio,hv,Option.bind_some,BR,hFv,Ar (show v<L.length by rw[h.lenL];omega),Int.toNat_natCast]
   rw[hLs]
   simp only[Option.bind_some,Dc _ (VS.iand _ _)]
   have hSlt:∀w,has (iand .u32 (F.getD v 0) (iandNot .u32 left (ishl .u32 1 (v:Int)))) w=true→w<n:=fun w hw=>by
    rw[Cc (h.f.vs v hvn) (VS.iandNot _ _)] at hw
    simp only[Bool.and_eq_true] at hw
    exact h.f.lt v w hvn hw.1
   obtain⟨F',e2,k1,k2,k3⟩:=inner_ok F _ _ h16 h.f.len h.f.vs (VS.iand _ _) hSlt hLs
   rw[hLs] at e2
   refine bind_eq (x:=F') e2 ?_
   rw[wi (show i<4611686018427387904 by omega)]
   exact⟨_,rfl,⟨i+1,rfl,by omega,h.step h16 h0 hn hnd hio hv k1 k2 k3⟩,by dsimp only;omega⟩
  ·obtain rfl:i=n:=by omega
   simp only[Ba,cond_false]
   exact⟨_,rfl,_,h⟩
 ·refine⟨0,rfl,by omega,h0,by simp[hlen],fun u hu=> ?_,hs1,fun v=>by rw[hs2,hlen];simp,fun u w _ h=>h,fun j v hj=>by omega,fun j v u w hj=>by omega,fun _=>rfl,fun u w hu _ _ _=>⟨fun hh=>⟨u,.me,hh⟩,fun⟨x,hx,e⟩=> ?_⟩,fun j v hj=>by omega⟩
  ·rw[List.getD_eq_getElem?_getD,List.getElem?_replicate]
   split<;>exact VS.zero
  ·rcases hx.end_ with e2|e2
   ·rw[←e2];exact e
   ·simp at e2
 ·rintro⟨F,L⟩ h
  exact⟨_,rfl,h⟩
end Go.Sx

namespace Go.Sx
def cnt (n k:Nat):Nat:=((List.range k).filter (fun i=>n.testBit i)).length
theorem cnt_add (n a b:Nat):cnt n (a+b)=cnt n a+cnt (n>>>a) b:=by
 unfold cnt
 rw[List.range_add,List.filter_append,List.length_append,List.filter_map,List.length_map]
 congr 2
 apply List.filter_congr
 intro i _
 simp[Nat.testBit_shiftRight]
theorem cnt_mod (n k:Nat):cnt (n%2^k) k=cnt n k:=by
 unfold cnt
 congr 1
 apply List.filter_congr
 intro i hi
 have:=List.mem_range.1 hi
 rw[Nat.testBit_mod_two_pow];simp[this]
theorem elems_length (n:Nat):(Ap (n:Int)).length=cnt n 32:=by
 unfold Ap cnt
 rw[List.length_map]
 rfl
theorem pop_all :∀b:Fin 256,En ED (b.val:Int)=some ((cnt b.val 8:Nat):Int):=by decide+kernel
theorem pop_at {b:Nat}(h:b<256):En ED (b:Int)=some ((cnt b 8:Nat):Int):=pop_all ⟨b,h⟩
theorem cnt_le (n k:Nat):cnt n k≤k:=by
 unfold cnt
 exact Nat.le_trans (List.length_filter_le _ _) (by simp)
theorem wrap8 {x:Int}(h0:0≤x)(h:x<256):IntKind.u8.wrap x=x:=by
 simp[IntKind.wrap,IntKind.signed,IntKind.bits];omega
theorem OnesCount32_eq {s:Int}(h:VS s):D.K0 s=some ((Ap s).length:Int):=by
 obtain⟨n,rfl,hn⟩:=h.nat
 have s24:BU .u32 (n:Int) 24=((n>>>24:Nat):Int):=shr_eq (n:Int) 24 h (by omega)
 have s16:BU .u32 (n:Int) 16=((n>>>16:Nat):Int):=shr_eq (n:Int) 16 h (by omega)
 have s8:BU .u32 (n:Int) 8=((n>>>8:Nat):Int):=shr_eq (n:Int) 8 h (by omega)
 have lt:∀k,n>>>k<4294967296:=fun k=>by
  rw[Nat.shiftRight_eq_div_pow];exact Nat.lt_of_le_of_lt (Nat.div_le_self _ _) hn
 have a255:∀m:Nat,m<4294967296→iand .u32 (m:Int) 255=((m%256:Nat):Int):=fun m hm=>by
  have:=ES hm (show (255:Nat)<4294967296 by omega)
  rw[show ((255:Nat):Int)=255 from rfl] at this
  rw[this]
  congr 1
  exact Nat.and_two_pow_sub_one_eq_mod (n:=8) m
 have h24:n>>>24<256:=by rw[Nat.shiftRight_eq_div_pow];exact Nat.div_lt_of_lt_mul (by simpa using hn)
 have ec:cnt n 32=cnt (n%256) 8+cnt (n>>>8%256) 8+cnt (n>>>16%256) 8+cnt (n>>>24) 8:=by
  rw[show (32:Nat)=8+(8+(8+8)) from rfl,cnt_add n 8,cnt_add _ 8,cnt_add _ 8]
  have e1:=cnt_mod n 8;have e2:=cnt_mod (n>>>8) 8;have e3:=cnt_mod (n>>>16) 8
  simp only[show (2:Nat)^8=256 from rfl] at e1 e2 e3
  rw[e1,e2,e3]
  simp only[←Nat.shiftRight_add,Nat.reduceAdd]
  omega
 unfold D.K0
 rw[s24,s16,s8,a255 _ (lt 16),a255 _ (lt 8),a255 n hn,pop_at h24,pop_at (Nat.mod_lt _ (by omega)),pop_at (Nat.mod_lt _ (by omega)),pop_at (Nat.mod_lt _ (by omega))]
 simp only[Option.bind_some]
 have c1:=cnt_le (n>>>24) 8;have c2:=cnt_le (n>>>16%256) 8;have c3:=cnt_le (n>>>8%256) 8;have c4:=cnt_le (n%256) 8
 generalize cnt (n>>>24) 8=a at*;generalize cnt (n>>>16%256) 8=b at*;generalize cnt (n>>>8%256) 8=c at*;generalize cnt (n%256) 8=d at*
 rw[wrap8 (x:=(a:Int)+b) (by omega) (by omega),wrap8 (x:=(a:Int)+b+c) (by omega) (by omega),wrap8 (x:=(a:Int)+b+c+d) (by omega) (by omega),w64 (by omega) (by omega),elems_length,ec]
 congr 1
 omega
theorem size_eq {s:Int}(h:VS s):D.C0 s=some ((Ap s).length:Int):=by
 unfold D.C0;rw[OnesCount32_eq h];rfl
end Go.Sx

namespace Go.Sx
theorem Cw :∀{l m:List Int},l.Nodup→(∀x∈l,x∈m)→l.length≤m.length
 |[],_,_,_=>by simp
 |x::l,m,h,hs=>by
  have h':=List.nodup_cons.1 h
  have hx:=hs x (by simp)
  have:=Cw (l:=l) (m:=m.erase x) h'.2 (fun y hy=>by
   have hne:y≠x:=fun e=>h'.1 (e▸hy)
   exact(List.mem_erase_of_ne hne).2 (hs y (by simp[hy])))
  rw[List.length_erase_of_mem hx] at this
  have hp:0<m.length:=List.length_pos_of_mem hx
  simp;omega
theorem nodup_all {l m:List Int}(hl:l.Nodup)(hm:m.Nodup)(h:∀x∈l,x∈m)(h':∀x∈m,x∈l):l.length=m.length:=
 Nat.le_antisymm (Cw hl h) (Cw hm h')
theorem Inc.nodup {l:List Int}(h:Inc l):l.Nodup:=List.Pairwise.imp (fun h e=>by omega) h
theorem l1All_eq (n:Nat)(hn:n≤4294967295):D.b1 (n:Int)=some ((List.range n).map Int.ofNat):=by
 unfold D.b1
 refine(Bx (fun i=>((List.range i).map Int.ofNat,(i:Int))) n ((List.range n).map Int.ofNat) (by simp) (fun i hi=> ?_) ?_).trans rfl
 ·simp only[dlt hi,cond_true,wi (show i<4611686018427387904 by omega)]
  rw[A4 (by simp;omega),Option.bind_some,List.range_succ,List.map_append];rfl
 ·simp only[Ba,cond_false]
theorem l8Meet_eq (a b:List Int)(ha:Sh a)(hb:Sh b):D.X0 a b=some (a.filter fun x=>decide (x∈b)):=by
 unfold Sh at ha
 unfold D.X0
 have key:∀(k i:Nat),i+k=a.length→∃y,(An (σ:=(List Int)×Int) (ρ:=((List Int))) (fun(s_78:(List Int)×Int)=>match s_78 with|(l_81,x_86)=>cond (decide (x_86<(a.length:Int))) ((idx a x_86).bind fun e_127=>(D.f b e_127).bind fun y_133=>cond y_133 ((idx a x_86).bind fun e_141=>(AR l_81 ([e_141]:List Int)).bind fun l_151=>some (.inl (l_151,(IntKind.i64.wrap (x_86+1))))) (some (.inl (l_81,(IntKind.i64.wrap (x_86+1)))))) (some (.inr l_81))) ((a.take i).filter (fun x=>decide (x∈b)),(i:Int)))=some y∧y=a.filter fun x=>decide (x∈b):=by
  intro k
  induction k with
  |zero=>
   intro i hi
   obtain rfl:i=a.length:=by omega
   rw[List.take_length]
   exact⟨_,Bi (by simp only[Ba,cond_false]),rfl⟩
  |succ k ih=>
   intro i hi
   have hil:i<a.length:=by omega
   obtain⟨y,h1,h2⟩:=ih (i+1) (by omega)
   refine⟨y,?_,h2⟩
   rw[Bu]
   ·exact h1
   ·have hlen:((a.take i).filter (fun x=>decide (x∈b))).length≤i:=Nat.le_trans (List.length_filter_le _ _) (by simp;omega)
    rw[List.take_succ_eq_append_getElem hil,List.filter_append]
    simp only[dlt hil,cond_true,Ar hil,Option.bind_some,CG b _ hb,wi (show i<4611686018427387904 by omega)]
    by_cases hc:a[i]∈b
    ·simp only[hc,decide_true,cond_true,List.filter_cons,if_true,List.filter_nil]
     rw[A4 (by simp;omega)];rfl
    ·simp[hc]
 obtain⟨y,h1,rfl⟩:=key a.length 0 (by omega)
 simp only[List.take_zero,List.filter_nil] at h1
 rw[show ((0:Nat):Int)=0 from rfl] at h1
 rw[h1];rfl
theorem l9Part_eq (a b:List Int)(ha:Sh a)(hb:Sh b):D.t a b=some (a.all fun x=>decide (x∈b)):=by
 unfold D.t
 rw[l8Meet_eq a b ha hb,Option.bind_some]
 congr 1
 rw[Bool.eq_iff_iff,List.all_eq_true]
 constructor
 ·intro h x hx
  have h1:(a.filter fun x=>decide (x∈b)).length=a.length:=by have:=beq_iff_eq.1 h;omega
  exact(List.length_filter_eq_length_iff.1 h1) x hx
 ·intro h
  have:(a.filter fun x=>decide (x∈b))=a:=List.filter_eq_self.2 h
  simp[this]
theorem l9In_eq (bags links:List (List Int))(l:List Int)(hb:Sh2 bags)(hl:Sh l):D.Z0 bags links l=some (bags.any fun b=>l.all fun x=>decide (x∈b)):=by
 have hbl:bags.length≤4294967296:=hb.1
 unfold D.Z0
 refine(loop_anyb bags.length (fun i=>l.all fun x=>decide (x∈bags.getD i [])) true (fun i hi=> ?_) ?_ rfl rfl).trans ?_
 ·simp only[dlt hi,cond_true,Ar hi,Option.bind_some,wi (show i<4611686018427387904 by omega),AD hi,l9Part_eq l _ hl (hb.2 _ (List.getElem_mem hi))]
  cases l.all fun x=>decide (x∈bags[i])<;>rfl
 ·simp only[Ba,cond_false]
 ·rw[Ex bags (fun b=>l.all fun x=>decide (x∈b)) _ (fun i hi=>by rw[AD hi])]
def Cn (bags:List (List Int))(v:Int):List Int:=((List.range bags.length).filter fun b=>decide (v∈bags.getD b [])).map Int.ofNat
theorem mem_withV {bags:List (List Int)}{v x:Int}:x∈Cn bags v↔∃b:Nat,x=b∧b<bags.length∧v∈bags.getD b []:=by
 unfold Cn
 rw[List.mem_map]
 constructor
 ·rintro⟨b,hb,rfl⟩
  rw[List.mem_filter,List.mem_range] at hb
  exact⟨b,rfl,hb.1,of_decide_eq_true hb.2⟩
 ·rintro⟨b,rfl,h1,h2⟩
  exact⟨b,List.mem_filter.2 ⟨List.mem_range.2 h1,decide_eq_true h2⟩,rfl⟩
theorem withV_inc (bags:List (List Int))(v:Int):Inc (Cn bags v):=by
 unfold Cn Inc
 rw[List.pairwise_map]
 refine List.Pairwise.filter _ ?_
 refine List.Pairwise.imp ?_ (List.pairwise_lt_range (n:=bags.length))
 intro a b h
 show (a:Int)<(b:Int)
 omega
theorem l9With_eq (bags links:List (List Int))(v:Int)(hb:Sh2 bags)(hl:bags.length≤4294967295):D.V0 bags links v=some (Cn bags v):=by
 unfold D.V0
 refine(Bx (fun i=>(((List.range i).filter fun b=>decide (v∈bags.getD b [])).map Int.ofNat,(i:Int))) bags.length (Cn bags v) (by simp) (fun i hi=> ?_) ?_).trans rfl
 ·have hlen:(((List.range i).filter fun b=>decide (v∈bags.getD b [])).map Int.ofNat).length≤i:=by
   rw[List.length_map];exact Nat.le_trans (List.length_filter_le _ _) (by simp)
  simp only[dlt hi,cond_true,Ar hi,Option.bind_some,CG _ _ (hb.2 _ (List.getElem_mem hi)),wi (show i<4611686018427387904 by omega)]
  rw[List.range_succ,List.filter_append,List.map_append]
  by_cases hc:v∈bags[i]
  ·have:decide (v∈bags.getD i [])=true:=by rw[AD hi];simpa using hc
   simp only[hc,decide_true,cond_true,List.filter_cons,this,if_true,List.filter_nil]
   rw[A4 (by simp;simp at hlen;omega)];rfl
  ·have:decide (v∈bags.getD i [])=false:=by rw[AD hi];simpa using hc
   simp only[hc,decide_false,cond_false,List.filter_cons,this,List.filter_nil,List.map_nil,List.append_nil]
   simp
 ·simp only[Ba,cond_false];rfl
def Lk (links:List (List Int))(x y:Int):Prop:=[x,y]∈links∨[y,x]∈links
def Pairs (links:List (List Int)):Prop:=∀l∈links,∃a b:Int,l=[a,b]
theorem l9Near_ok (bags links:List (List Int))(b:Int)(hl:links.length≤1000000)(hp:Pairs links):
  ∃y,D.P0 bags links b=some y∧(Inc y∧(∀w,w∈y↔Lk links b w)∧y.length≤2*links.length):=by
 unfold D.P0
 refine AN (fun s=>∃i:Nat,s.2=(i:Int)∧i≤links.length∧Inc s.1∧(∀w,w∈s.1↔Lk (links.take i) b w)∧s.1.length≤2*i) (fun s=>links.length-s.2.toNat)
  (fun r=>Inc r∧(∀w,w∈r↔Lk links b w)∧r.length≤2*links.length) ?_ ⟨0,rfl,by omega,by simp[Inc],by simp[Lk],by simp⟩ ?_
 ·rintro⟨s,_⟩ ⟨i,rfl,hi,hs,hm,hsl⟩
  dsimp only at hs hm hsl ⊢
  by_cases hil:i<links.length
  ·obtain⟨x,y,exy⟩:=hp _ (List.getElem_mem hil)
   have h0:idx [x,y] 0=some x:=rfl
   have h1:idx [x,y] 1=some y:=rfl
   simp only[dlt hil,cond_true,Ar hil,exy,h0,h1,Option.bind_some,wi (show i<4611686018427387904 by omega)]
   have hLk:∀w,Lk (links.take (i+1)) b w↔Lk (links.take i) b w∨(x=b∧y=w)∨(y=b∧x=w):=by
    intro w
    unfold Lk
    rw[List.take_succ_eq_append_getElem hil,exy]
    simp only[List.mem_append,List.mem_singleton,List.cons.injEq,and_true]
    constructor
    ·rintro((h|⟨rfl,rfl⟩)|(h|⟨rfl,rfl⟩))
     ·exact .inl (.inl h)
     ·exact .inr (.inl ⟨rfl,rfl⟩)
     ·exact .inl (.inr h)
     ·exact .inr (.inr ⟨rfl,rfl⟩)
    ·rintro((h|h)|⟨rfl,rfl⟩|⟨rfl,rfl⟩)
     ·exact .inl (.inl h)
     ·exact .inr (.inl h)
     ·exact .inl (.inr ⟨rfl,rfl⟩)
     ·exact .inr (.inr ⟨rfl,rfl⟩)
   refine BZ (fun t=>Inc t∧(∀w,w∈t↔w∈s∨(x=b∧y=w))∧t.length≤s.length+1) ?_ ?_
   ·by_cases hx:x=b
    ·have:(x==b)=true:=by simp[hx]
     simp only[this,cond_true,Dn s y hs (by omega),Option.bind_some]
     exact⟨_,rfl,hs.into _,fun w=>by rw[mem_into];simp[hx];constructor<;>(rintro(h|h)<;>simp[h]),into_len _ _⟩
    ·have:(x==b)=false:=by simpa using hx
     simp only[this,cond_false]
     exact⟨_,rfl,hs,fun w=>by simp[hx],by omega⟩
   ·rintro t ⟨ht,htm,htl⟩
    by_cases hy:y=b
    ·have:(y==b)=true:=by simp[hy]
     simp only[this,cond_true,Dn t x ht (by omega),Option.bind_some]
     refine⟨_,rfl,⟨i+1,rfl,by omega,ht.into _,fun w=> ?_,?_⟩,by dsimp only;omega⟩
     ·dsimp only
      rw[hLk,mem_into,htm,hm]
      constructor
      ·rintro(rfl|h|h)
       ·exact .inr (.inr ⟨hy,rfl⟩)
       ·exact .inl h
       ·exact .inr (.inl h)
      ·rintro(h|h|⟨_,rfl⟩)
       ·exact .inr (.inl h)
       ·exact .inr (.inr h)
       ·exact .inl rfl
     ·have:=into_len t x;dsimp only;omega
    ·have:(y==b)=false:=by simpa using hy
     simp only[this,cond_false]
     refine⟨_,rfl,⟨i+1,rfl,by omega,ht,fun w=> ?_,by dsimp only;omega⟩,by dsimp only;omega⟩
     dsimp only
     rw[hLk,htm,hm]
     constructor
     ·rintro(h|h)
      ·exact .inl h
      ·exact .inr (.inl h)
     ·rintro(h|h|⟨h,_⟩)
      ·exact .inl h
      ·exact .inr h
      ·exact absurd h hy
  ·obtain rfl:i=links.length:=by omega
   simp only[Ba,cond_false]
   rw[List.take_length] at hm
   exact⟨_,rfl,hs,hm,hsl⟩
 ·rintro r hr
  exact⟨_,rfl,hr⟩
structure Closed (links:List (List Int))(sel m:List Int):Prop where
 sub:∀x∈m,x∈sel
 first:∀x,sel.head? =some x→x∈m
 step:∀x∈m,∀y∈sel,Lk links x y→y∈m
theorem l9Reached_ok (bags links:List (List Int))(sel:List Int)(hl:links.length≤1000000)(hp:Pairs links)(hs:sel.length≤1000000)(hne:sel≠[]):
  ∃y,D.B bags links sel=some y∧∃m:List Int,y=m.length∧m.Nodup∧Closed links sel m∧∀m',Closed links sel m'→∀x∈m,x∈m':=by
 unfold D.B
 obtain⟨x0,sel',rfl⟩:∃x l,sel=x::l:=by cases sel with
  |nil=>exact absurd rfl hne
  |cons x l=>exact⟨x,l,rfl⟩
 generalize hsel:x0::sel'=sel at*
 have hsh:Sh sel:=by unfold Sh;omega
 have e0:((sel.length:Int)==0)=false:=by rw[←hsel];simp;omega
 have e1:idx sel 0=some x0:=by rw[←hsel];rfl
 have hx0:x0∈sel:=by rw[←hsel];simp
 simp only[e0,cond_false,e1,Option.bind_some]
 refine AN (fun s=>∃i:Nat,s.2=(i:Int)∧i≤s.1.length∧s.1.Nodup∧(∀x∈s.1,x∈sel)∧x0∈s.1∧(∀m',Closed links sel m'→∀x∈s.1,x∈m')∧∀x∈s.1.take i,∀y∈sel,Lk links x y→y∈s.1) (fun s=>sel.length-s.2.toNat)
  (fun r=>r.Nodup∧Closed links sel r∧∀m',Closed links sel m'→∀x∈r,x∈m') ?_ ⟨0,rfl,by simp,by simp,by simpa using hx0,by simp,fun m' hm' x hx=>by simp at hx;subst hx;exact hm'.first _ (by rw[←hsel];rfl),by simp⟩ ?_
 ·rintro⟨m,_⟩ ⟨i,rfl,hi,hn,hsub,hx,hmn,hc⟩
  dsimp only at hi hn hsub hx hmn hc ⊢
  have hml:=Cw hn hsub
  by_cases him:i<m.length
  ·simp only[dlt him,cond_true,Ar him,Option.bind_some]
   refine BZ _ (l9Near_ok bags links m[i] hl hp) ?_
   rintro near ⟨hni,hnm,hnl⟩
   refine AN (fun s=>∃k:Nat,s.2=(k:Int)∧k≤near.length∧s.1.Nodup∧(∀x∈s.1,x∈sel)∧(∃t,s.1=m++t)∧(∀m',Closed links sel m'→∀x∈s.1,x∈m')∧∀y∈near.take k,y∈sel→y∈s.1) (fun s=>near.length-s.2.toNat)
    (fun r=>r.Nodup∧(∀x∈r,x∈sel)∧(∃t,r=m++t)∧(∀m',Closed links sel m'→∀x∈r,x∈m')∧∀y∈near,y∈sel→y∈r) ?_ ⟨0,rfl,by simp,hn,hsub,⟨[],by simp⟩,hmn,by simp⟩ ?_
   ·rintro⟨r,_⟩ ⟨k,rfl,hk,hrn,hrs,⟨t,rfl⟩,hrm,hrc⟩
    dsimp only at hrn hrs hrm hrc ⊢
    have hrl:=Cw hrn hrs
    have hrsh:Sh (m++t):=by unfold Sh;omega
    by_cases hkn:k<near.length
    ·have htk:=List.take_succ_eq_append_getElem hkn
     simp only[dlt hkn,cond_true,Ar hkn,Option.bind_some,CG _ _ hsh,CG _ _ hrsh,wi (show k<4611686018427387904 by omega)]
     by_cases h1:near[k]∈sel
     ·by_cases h2:near[k]∈m++t
      ·simp only[h1,h2,decide_true,cond_true,Bool.not_true,cond_false,Option.bind_some]
       refine⟨_,rfl,⟨k+1,rfl,by omega,hrn,hrs,⟨t,rfl⟩,hrm,fun y hy hys=> ?_⟩,by dsimp only;omega⟩
       rw[htk] at hy
       rcases List.mem_append.1 hy with hy|hy
       ·exact hrc y hy hys
       ·simp at hy;subst hy;exact h2
      ·simp only[h1,h2,decide_true,decide_false,cond_true,Bool.not_false,Option.bind_some]
       rw[A4 (by simp at hrl ⊢;omega),Option.bind_some]
       refine⟨_,rfl,⟨k+1,rfl,by omega,?_,fun y hy=> ?_,⟨t++[near[k]],by simp⟩,fun m' hm' y hy=> ?_,fun y hy hys=> ?_⟩,by dsimp only;omega⟩
       ·have hp:(m++t++[near[k]]).Perm (near[k]::(m++t)):=List.perm_append_comm
        exact hp.nodup_iff.2 (List.nodup_cons.2 ⟨h2,hrn⟩)
       ·rcases List.mem_append.1 hy with hy|hy
        ·exact hrs y hy
        ·simp at hy;subst hy;exact h1
       ·rcases List.mem_append.1 hy with hy|hy
        ·exact hrm m' hm' y hy
        ·simp at hy;subst hy
         exact hm'.step m[i] (hmn m' hm' _ (List.getElem_mem him)) _ h1 ((hnm _).1 (List.getElem_mem hkn))
       ·dsimp only
        rw[htk] at hy
        rcases List.mem_append.1 hy with hy|hy
        ·exact List.mem_append_left _ (hrc y hy hys)
        ·simp at hy;subst hy;simp
     ·simp only[h1,decide_false,cond_false,Option.bind_some]
      refine⟨_,rfl,⟨k+1,rfl,by omega,hrn,hrs,⟨t,rfl⟩,hrm,fun y hy hys=> ?_⟩,by dsimp only;omega⟩
      rw[htk] at hy
      rcases List.mem_append.1 hy with hy|hy
      ·exact hrc y hy hys
      ·simp at hy;subst hy;exact absurd hys h1
    ·obtain rfl:k=near.length:=by omega
     simp only[Ba,cond_false]
     rw[List.take_length] at hrc
     exact⟨_,rfl,hrn,hrs,⟨t,rfl⟩,hrm,hrc⟩
   ·rintro r ⟨hrn,hrs,⟨t,rfl⟩,hrm,hrc⟩
    simp only[wi (show i<4611686018427387904 by omega)]
    refine⟨_,rfl,⟨i+1,rfl,by simp;omega,hrn,hrs,List.mem_append_left _ hx,hrm,fun x hx' y hy hxy=> ?_⟩,by dsimp only;omega⟩
    dsimp only at hx' ⊢
    rw[List.take_append_of_le_length (by omega),List.take_succ_eq_append_getElem him] at hx'
    rcases List.mem_append.1 hx' with hx'|hx'
    ·exact List.mem_append_left _ (hc x hx' y hy hxy)
    ·simp at hx';subst hx'
     exact hrc y ((hnm y).2 hxy) hy
  ·obtain rfl:i=m.length:=by omega
   simp only[Ba,cond_false]
   rw[List.take_length] at hc
   exact⟨_,rfl,hn,⟨hsub,fun x hx'=>by rw[←hsel] at hx';simp at hx';subst hx';exact hx,hc⟩,hmn⟩
 ·rintro r ⟨h1,h2,h3⟩
  exact⟨_,rfl,r,rfl,h1,h2,h3⟩
def Ds (links:List (List Int))(sel:List Int):Prop:=∀m,Closed links sel m→∀x∈sel,x∈m
end Go.Sx

namespace Go.Sx
def LinkIn (n:Nat)(l:List Int):Prop:=∃a b:Nat,l=[(a:Int),(b:Int)]∧a<b∧b<n
theorem l1Edges_ok (g:List (List Int))(hg:GOk g):∃y,D.i0 g=some y∧(y.length≤256∧∀e∈y,∃u v:Nat,e=[(u:Int),(v:Int)]∧u<g.length∧adj g u v∧u<v):=by
 have h16:=hg.n16
 unfold D.i0
 refine AN (fun s=>∃u:Nat,s.2=(u:Int)∧u≤g.length∧s.1.length≤16*u∧∀e∈s.1,∃u v:Nat,e=[(u:Int),(v:Int)]∧u<g.length∧adj g u v∧u<v) (fun s=>g.length-s.2.toNat)
  (fun r=>r.length≤256∧∀e∈r,∃u v:Nat,e=[(u:Int),(v:Int)]∧u<g.length∧adj g u v∧u<v) ?_ ⟨0,rfl,by omega,by simp,by simp⟩ ?_
 ·rintro⟨l,_⟩ ⟨u,rfl,hu,hl,hE⟩
  dsimp only at hl hE ⊢
  unfold D.a
  simp only[Option.bind_some]
  by_cases hug:u<g.length
  ·have hrl:=hg.row_len hug
   simp only[dlt hug,cond_true]
   refine AN (fun s=>∃i:Nat,s.2=(i:Int)∧i≤(row g u).length∧s.1.length≤16*u+i∧∀e∈s.1,∃u v:Nat,e=[(u:Int),(v:Int)]∧u<g.length∧adj g u v∧u<v) (fun s=>(row g u).length-s.2.toNat)
    (fun r=>r.length≤16*u+16∧∀e∈r,∃u v:Nat,e=[(u:Int),(v:Int)]∧u<g.length∧adj g u v∧u<v) ?_ ⟨0,rfl,by omega,by dsimp only;omega,hE⟩ ?_
   ·rintro⟨l,_⟩ ⟨i,rfl,hi,hl,hE⟩
    dsimp only at hl hE ⊢
    simp only[B8 hug,Option.bind_some]
    by_cases hir:i<(row g u).length
    ·obtain⟨v,ev,hv,hav⟩:=hg.mem hug (List.getElem_mem hir)
     simp only[dlt hir,cond_true,Ar hir,ev,Option.bind_some,wi (show i<4611686018427387904 by omega)]
     by_cases huv:u<v
     ·simp only[dlt huv,cond_true]
      rw[A4 (by simp;omega),Option.bind_some]
      refine⟨_,rfl,⟨i+1,rfl,by omega,by simp;omega,fun e he=> ?_⟩,by dsimp only;omega⟩
      rcases List.mem_append.1 he with he|he
      ·exact hE e he
      ·simp at he;subst he;exact⟨u,v,rfl,hug,hav,huv⟩
     ·have:decide ((u:Int)<(v:Int))=false:=by simp;omega
      simp only[this,cond_false]
      exact⟨_,rfl,⟨i+1,rfl,by omega,by dsimp only;omega,hE⟩,by dsimp only;omega⟩
    ·obtain rfl:i=(row g u).length:=by omega
     simp only[Ba,cond_false]
     exact⟨_,rfl,by omega,hE⟩
   ·rintro r ⟨h1,h2⟩
    simp only[wi (show u<4611686018427387904 by omega)]
    exact⟨_,rfl,⟨u+1,rfl,by omega,by dsimp only;omega,h2⟩,by dsimp only;omega⟩
  ·obtain rfl:u=g.length:=by omega
   simp only[Ba,cond_false]
   exact⟨_,rfl,by omega,hE⟩
 ·rintro r hr
  exact⟨_,rfl,hr⟩
structure TB (g bags links:List (List Int)):Prop where
 n1:1≤bags.length
 n16:bags.length≤16
 many:links.length+1=bags.length
 lks:∀l∈links,LinkIn bags.length l
 sets:∀b∈bags,SetOf b g.length
 tree:Ds links ((List.range bags.length).map Int.ofNat)
 edges:∀u v:Nat,u<g.length→adj g u v→∃b∈bags,(u:Int)∈b∧(v:Int)∈b
 some:∀v,v<g.length→Cn bags v≠[]
 conn:∀v,v<g.length→Ds links (Cn bags v)
end Go.Sx

namespace Go.Sx
def rowF (r:List Int)(u:Nat)(s:List (List Int)):List (List Int):=(List.range r.length).foldl (fun s i=>if(u:Int)<r.getD i 0 then s++[[(u:Int),r.getD i 0]] else s) s
theorem FE (r:List Int)(u:Nat)(s0:List (List Int))(h:s0.length+r.length≤4294967296){step:List (List Int)×Int→Option ((List (List Int)×Int) ⊕ List (List Int))}
  (hstep:∀s (i:Nat) (hi:i<r.length),step (s,(i:Int))=cond (decide ((u:Int)<r[i])) ((AR s [[(u:Int),r[i]]]).bind fun l=>some (.inl (l,((i+1:Nat):Int)))) (some (.inl (s,((i+1:Nat):Int)))))
  (hend:∀s,step (s,(r.length:Int))=some (.inr s)):An step (s0,0)=some (rowF r u s0)∧(rowF r u s0).length≤s0.length+r.length:=by
 have key:=loop_nat (step:=step) r.length (fun s i=>(s,i)) (fun s i=>if(u:Int)<r.getD i 0 then s++[[(u:Int),r.getD i 0]] else s) (fun s=>s) (fun i s=>s.length≤s0.length+i) s0 (by omega)
  (fun s i hi hs=> ?_) (fun s _=>hend s)
 ·exact key
 ·have hg:r.getD i 0=r[i]:=AD hi 0
  refine⟨?_,?_⟩
  ·rw[hstep s i hi,hg]
   by_cases hc:(u:Int)<r[i]
   ·rw[decide_eq_true hc,cond_true,A4 (by simp;omega),if_pos hc];rfl
   ·rw[decide_eq_false hc,cond_false,if_neg hc]
  ·rw[hg]
   split
   ·rw[List.length_append,List.length_singleton];omega
   ·omega
def Cu (g:List (List Int)):List (List Int):=(List.range g.length).foldl (fun s u=>rowF (row g u) u s) []
theorem FS (g:List (List Int))(hg:GOk g):D.E1 g=some (Cu g):=by
 have h16:=hg.n16
 unfold D.E1
 have key:=loop_nat (ρ:=List (List Int)) (step:=(fun(s_288:(List (List Int))×Int)=>match s_288 with|(l_291,x_296)=>cond (decide (x_296<(g.length:Int))) ((idx g x_296).bind fun e_441=>(An (σ:=(List (List Int))×Int) (ρ:=((List (List Int)))) (fun(s_508:(List (List Int))×Int)=>match s_508 with|(l_511,x_516)=>cond (decide (x_516<(e_441.length:Int))) ((idx e_441 x_516).bind fun e_551=>cond (decide (x_296<e_551)) ((AR l_511 ([([x_296,e_551]:List Int)]:List (List Int))).bind fun l_569=>some (.inl (l_569,(IntKind.i64.wrap (x_516+1))))) (some (.inl (l_511,(IntKind.i64.wrap (x_516+1)))))) (some (.inr l_511))) (l_291,0)).bind fun l_544=>some (.inl (l_544,(IntKind.i64.wrap (x_296+1))))) (some (.inr l_291))))
  g.length (fun s i=>(s,i)) (fun s u=>rowF (row g u) u s) (fun s=>s) (fun i s=>s.length≤16*i) [] (by simp) (fun s u hu hs=> ?_) (fun s _=> ?_)
 ·exact congrArg (fun z=>Option.bind z fun l=>some l) key.1
 ·have hr:=hg.row_len hu
  obtain⟨k1,k2⟩:=FE (row g u) u s (by omega) (step:=(fun(s_508:(List (List Int))×Int)=>match s_508 with|(l_511,x_516)=>cond (decide (x_516<((row g u).length:Int))) ((idx (row g u) x_516).bind fun e_551=>cond (decide ((u:Int)<e_551)) ((AR l_511 ([([(u:Int),e_551]:List Int)]:List (List Int))).bind fun l_569=>some (.inl (l_569,(IntKind.i64.wrap (x_516+1))))) (some (.inl (l_511,(IntKind.i64.wrap (x_516+1)))))) (some (.inr l_511)))) (fun s i hi=>by
    simp only[dlt hi,cond_true,Ar hi,Option.bind_some,wi (show i<4611686018427387904 by omega)]) (fun s=>by simp only[Ba,cond_false])
  refine⟨?_,by omega⟩
  simp only[dlt hu,cond_true,B8 hu,Option.bind_some,wi (show u<4611686018427387904 by omega)]
  exact(congrArg (fun z=>Option.bind z _) k1).trans rfl
 ·simp only[Ba,cond_false]
theorem l1Edges_eq (g:List (List Int))(hg:GOk g):D.i0 g=some (Cu g):=by
 have h16:=hg.n16
 unfold D.i0 D.a
 have key:=loop_nat (ρ:=List (List Int)) (step:=(fun(s_482:(List (List Int))×Int)=>match s_482 with|(l_485,x_490)=>(some (g.length:Int)).bind fun y_731=>cond (decide (x_490<y_731)) ((An (σ:=(List (List Int))×Int) (ρ:=((List (List Int)))) (fun(s_848:(List (List Int))×Int)=>match s_848 with|(l_851,x_856)=>(idx g x_490).bind fun e_914=>cond (decide (x_856<(e_914.length:Int))) ((idx g x_490).bind fun e_921=>(idx e_921 x_856).bind fun e_927=>cond (decide (x_490<e_927)) ((idx g x_490).bind fun e_934=>(idx e_934 x_856).bind fun e_940=>(AR l_851 ([([x_490,e_940]:List Int)]:List (List Int))).bind fun l_957=>some (.inl (l_957,(IntKind.i64.wrap (x_856+1))))) (some (.inl (l_851,(IntKind.i64.wrap (x_856+1)))))) (some (.inr l_851))) (l_485,0)).bind fun l_908=>some (.inl (l_908,(IntKind.i64.wrap (x_490+1))))) (some (.inr l_485))))
  g.length (fun s i=>(s,i)) (fun s u=>rowF (row g u) u s) (fun s=>s) (fun i s=>s.length≤16*i) [] (by simp) (fun s u hu hs=> ?_) (fun s _=> ?_)
 ·exact congrArg (fun z=>Option.bind z fun l=>some l) key.1
 ·have hr:=hg.row_len hu
  obtain⟨k1,k2⟩:=FE (row g u) u s (by omega) (step:=(fun(s_848:(List (List Int))×Int)=>match s_848 with|(l_851,x_856)=>(idx g (u:Int)).bind fun e_914=>cond (decide (x_856<(e_914.length:Int))) ((idx g (u:Int)).bind fun e_921=>(idx e_921 x_856).bind fun e_927=>cond (decide ((u:Int)<e_927)) ((idx g (u:Int)).bind fun e_934=>(idx e_934 x_856).bind fun e_940=>(AR l_851 ([([(u:Int),e_940]:List Int)]:List (List Int))).bind fun l_957=>some (.inl (l_957,(IntKind.i64.wrap (x_856+1))))) (some (.inl (l_851,(IntKind.i64.wrap (x_856+1)))))) (some (.inr l_851)))) (fun s i hi=>by
    simp only[B8 hu,dlt hi,cond_true,Ar hi,Option.bind_some,wi (show i<4611686018427387904 by omega)]) (fun s=>by simp only[B8 hu,Option.bind_some,Ba,cond_false])
  refine⟨?_,by omega⟩
  simp only[Option.bind_some,dlt hu,cond_true,wi (show u<4611686018427387904 by omega)]
  exact(congrArg (fun z=>Option.bind z _) k1).trans rfl
 ·simp only[Option.bind_some,Ba,cond_false]
theorem GOk.sh2 {g:List (List Int)}(hg:GOk g):Sh2 g:=by
 have h16:=hg.n16
 exact⟨by unfold Sh;omega,fun r hr=>by have:=(hg.mem0 hr).1;unfold Sh;omega⟩
theorem gB_true {g:List (List Int)}(hg:GOk g):gB g=true:=(DQ g).2 hg
theorem DS (g:List (List Int))(hg:GOk g):D.B1 g=some ((Cu g).length:Int):=by
 unfold D.B1 D.T1
 rw[Dr g hg.sh2,gB_true hg,Option.bind_some,Bool.not_true,cond_false,FS g hg];rfl
theorem nets_graph_eq (F:List Int)(h:F.length≤16)(hV:∀u,u<F.length→VS (F.getD u 0)):D.K1 F=some (grow F):=by
 unfold D.K1
 refine(Dm F (fun s i=>(i,s)) Ap (by omega) (fun s i hi _=> ?_) (fun s=> ?_)).trans rfl
 ·have:=hV i hi
  rw[AD hi] at this
  simp only[dlt hi,cond_true,Ar hi,Option.bind_some,DU _ this,wi (show i<4611686018427387904 by omega)]
 ·simp only[Ba,cond_false]
theorem OOk.sh {g:List (List Int)}{o:List Int}(hg:GOk g)(ho:OOk g o):Sh o:=by
 have:=hg.n16;have:=ho.len;unfold Sh;omega
theorem De {g:List (List Int)}{o:List Int}(hg:GOk g)(ho:OOk g o):D.x1 g o=some true:=by
 rw[FP g o hg.sh2 (ho.sh hg),gB_true hg,(ordB_iff g o).2 ho];rfl
structure Fill (g:List (List Int))(o F L:List Int):Prop where
 elim:D.J (g.map mk) o=some (F,L)
 f:FOk F g.length
 lenL:L.length=g.length
 vsL:∀u,u<g.length→VS (L.getD u 0)
 mono:∀u w,u<g.length→adj g u w→nb F u w=true
 lat:Lat F L o g.length
 peo:PEO F o
 same:PEO (g.map mk) o→F=g.map mk
 latb:∀(j:Nat) (v:Nat),o[j]? =some (v:Int)→∀w:Nat,nb L v w=true↔(w:Int)∉o.take (j+1)∧Bhd (g.map mk) (fun x=>(x:Int)∈o.take j) v w
theorem fill_ex {g:List (List Int)}{o:List Int}(hg:GOk g)(ho:OOk g o):∃F L,Fill g o F L:=by
 obtain⟨⟨F,L⟩,e,left,h⟩:=elim_ok hg.n16 (FOk.of hg) ho.len ho.rng ho.nd
 refine⟨F,L,e,h.f,h.lenL,h.vsL,fun u w hu ha=>h.mono u w hu ((El hg hu).2 ha),h.lat,fun j v u w hj=> ?_,h.same,fun j v hj=>h.latb j v (by have:=(List.getElem?_eq_some_iff.1 hj).1;have:=ho.len;omega) hj⟩
 have hjl:=(List.getElem?_eq_some_iff.1 hj).1
 have:=ho.len
 exact h.peo j v u w (by omega) hj
theorem Fill.FillOf {g:List (List Int)}{o F L:List Int}(hg:GOk g)(ho:OOk g o)(h:Fill g o F L):D.J1 g o=some (grow F,true):=by
 have h16:=hg.n16
 unfold D.J1
 rw[De hg ho,Option.bind_some,Bool.not_true,cond_false,Eo g hg,Option.bind_some,E5 o (ho.sh hg),Option.bind_some,h.elim,Option.bind_some,nets_graph_eq F (by rw[h.f.len];omega) (fun u hu=>h.f.vs u (by rw[h.f.len] at hu;exact hu))]
 rfl
theorem Fill.gok {g:List (List Int)}{o F L:List Int}(hg:GOk g)(h:Fill g o F L):GOk (grow F):=GOk.grow h.f hg.n1 hg.n16
theorem C8 (F:List Int):(grow F).length=F.length:=by simp[grow]
theorem DM {g:List (List Int)}{o:List Int}(ho:OOk g o){v:Nat}(hv:v<g.length):∃i:Nat,i<g.length∧o[i]? =some (v:Int):=by
 have hsub:∀x∈o,x∈(List.range g.length).map Int.ofNat:=fun x hx=>by
  have:=ho.rng x hx
  exact List.mem_map.2 ⟨x.toNat,List.mem_range.2 (by omega),by show ((x.toNat:Nat):Int)=x;omega⟩
 by_cases hm:(v:Int)∈o
 ·obtain⟨i,hi,e⟩:=List.getElem_of_mem hm
  exact⟨i,by have:=ho.len;omega,by rw[List.getElem?_eq_getElem hi,e]⟩
 ·exfalso
  have h1:((v:Int)::o).length≤((List.range g.length).map Int.ofNat).length:=Cw (List.nodup_cons.2 ⟨hm,ho.nd⟩) (fun x hx=>by
   rcases List.mem_cons.1 hx with rfl|hx
   ·exact List.mem_map.2 ⟨v,List.mem_range.2 hv,rfl⟩
   ·exact hsub x hx)
  have:=ho.len
  simp at h1
  omega
end Go.Sx

namespace Go.Sx
theorem FH {α:Type}(p:α→Bool){l:List α}{i:Nat}(hi:i<l.length):(l.take (i+1)).filter p=(l.take i).filter p++(if p l[i] then [l[i]] else []):=by
 rw[List.take_succ_eq_append_getElem hi,List.filter_append]
 congr 1
 rw[List.filter_cons,List.filter_nil]
def lft (g:List (List Int))(v:Nat)(gone:List Bool):List Int:=(row g v).filter fun x=> !gone.getD x.toNat false
theorem l7Left_eq (g:List (List Int))(hg:GOk g){v:Nat}(hv:v<g.length)(gone:List Bool)(hl:gone.length=g.length):D.h0 g (v:Int) gone=some (lft g v gone):=by
 have hr:=hg.row_len hv
 unfold D.h0 lft
 refine(Bx (fun i=>(((row g v).take i).filter (fun x=> !gone.getD x.toNat false),(i:Int))) (row g v).length ((row g v).filter fun x=> !gone.getD x.toNat false) (by simp) (fun i hi=> ?_) ?_).trans rfl
 ·obtain⟨w,e1,h1,_⟩:=hg.mem hv (List.getElem_mem hi)
  have hlen:(((row g v).take i).filter (fun x=> !gone.getD x.toNat false)).length≤16:=Nat.le_trans (List.length_filter_le _ _) (by simp;omega)
  simp only[B8 hv,Option.bind_some,dlt hi,cond_true,Ar hi,e1,Ar (show w<gone.length by omega),wi (show i<4611686018427387904 by omega)]
  have e3:=FH (fun x:Int=> !gone.getD x.toNat false) hi
  rw[e1] at e3
  simp only[Int.toNat_natCast,AD (show w<gone.length by omega)] at e3
  rw[e3]
  cases hc:gone[w]
  ·rw[Bool.not_false,cond_true,A4 (by rw[List.length_singleton];omega),Option.bind_some];rfl
  ·rw[Bool.not_true,cond_false];simp
 ·simp only[B8 hv,Option.bind_some,Ba,cond_false,List.take_length]
theorem lft_inc {g:List (List Int)}(hg:GOk g){v:Nat}(hv:v<g.length)(gone:List Bool):Inc (lft g v gone):=List.Pairwise.filter _ (hg.rows v hv).1
end Go.Sx

namespace Go.Sx
def sumN (f:Nat→Nat):Nat→Nat
 |0=>0
 |n+1=>sumN f n+f n
def bit (b:Bool):Nat:=if b then 1 else 0
def S2 (n:Nat)(p:Nat→Nat→Bool):Nat:=sumN (fun u=>sumN (fun w=>bit (p u w)) n) n
def ast (f:Int→Int)(s:Int×Int)(v:Int):Int×Int:=if s.1<0∨f v<s.2 then(v,f v) else s
def amin (f:Int→Int)(l:List Int):Int×Int:=l.foldl (ast f) (-1,0)
theorem ast_run (f:Int→Int):∀(l:List Int) (b:Int),0≤b→(∀x∈l,0≤x)→∃c,l.foldl (ast f) (b,f b)=(c,f c)∧(c=b∨c∈l)∧0≤c∧f c≤f b∧∀x∈l,f c≤f x
 |[],b,hb,_=>⟨b,rfl,.inl rfl,hb,Int.le_refl _,by simp⟩
 |x::l,b,hb,hl=>by
  have hx:=hl x (by simp)
  have hl':=fun y hy=>hl y (List.mem_cons_of_mem x hy)
  rw[List.foldl_cons]
  by_cases hc:f x<f b
  ·have e:ast f (b,f b) x=(x,f x):=by unfold ast;rw[if_pos (.inr hc)]
   rw[e]
   obtain⟨c,h1,h2,h3,h4,h5⟩:=ast_run f l x hx hl'
   refine⟨c,h1,.inr ?_,h3,by omega,fun y hy=> ?_⟩
   ·rcases h2 with rfl|h2
    ·simp
    ·exact List.mem_cons_of_mem _ h2
   ·rcases List.mem_cons.1 hy with rfl|hy
    ·exact h4
    ·exact h5 y hy
  ·have e:ast f (b,f b) x=(b,f b):=by unfold ast;rw[if_neg (fun h=>h.elim (fun h=>by dsimp only at h;omega) hc)]
   rw[e]
   obtain⟨c,h1,h2,h3,h4,h5⟩:=ast_run f l b hb hl'
   refine⟨c,h1,?_,h3,h4,fun y hy=> ?_⟩
   ·rcases h2 with h2|h2
    ·exact .inl h2
    ·exact .inr (List.mem_cons_of_mem _ h2)
   ·rcases List.mem_cons.1 hy with rfl|hy
    ·omega
    ·exact h5 y hy
theorem ast_first (f:Int→Int)(x:Int):ast f (-1,0) x=(x,f x):=by unfold ast;rw[if_pos (.inl (by decide))]
theorem amin_ok (f:Int→Int){l:List Int}(hne:l≠[])(hl:∀x∈l,0≤x):∃c,amin f l=(c,f c)∧c∈l∧∀x∈l,f c≤f x:=by
 cases l with
 |nil=>exact absurd rfl hne
 |cons x l=>
  unfold amin
  rw[List.foldl_cons,ast_first]
  obtain⟨c,h1,h2,h3,h4,h5⟩:=ast_run f l x (hl x (by simp)) (fun y hy=>hl y (List.mem_cons_of_mem _ hy))
  refine⟨c,h1,?_,fun y hy=> ?_⟩
  ·rcases h2 with rfl|h2
   ·simp
   ·exact List.mem_cons_of_mem _ h2
  ·rcases List.mem_cons.1 hy with rfl|hy
   ·exact h4
   ·exact h5 y hy
def els (s:Int)(i:Nat):List Int:=((List.range i).filter (has s)).map Int.ofNat
theorem els_succ (s:Int)(i:Nat):els s (i+1)=if has s i then els s i++[(i:Int)] else els s i:=by
 unfold els
 rw[List.range_succ,List.filter_append,List.map_append]
 cases h:has s i<;>simp[h]
theorem Fl {s:Int}{n:Nat}(hn:n≤32)(h:∀v,has s v=true→v<n):els s n=Ap s:=by
 unfold els Ap
 obtain⟨k,hk⟩:∃k,32=n+k:=⟨32-n,by omega⟩
 rw[hk,List.range_add,List.filter_append]
 have:((List.range k).map (fun x=>n+x)).filter (has s)=[]:=by
  rw[List.filter_eq_nil_iff]
  intro x hx hc
  obtain⟨y,_,rfl⟩:=List.mem_map.1 hx
  have:=h _ hc;omega
 rw[this,List.append_nil]
theorem elems_nonneg (s:Int):∀x∈Ap s,0≤x:=fun x hx=>by
 obtain⟨v,_,_,rfl⟩:=mem_elems.1 hx;omega
theorem elems_rm {s:Int}{b:Nat}(h:VS s)(hb:has s b=true):(Ap s).length=(Ap (iandNot .u32 s (ishl .u32 1 (b:Int)))).length+1:=by
 have hb32:b<32:=by
  by_cases hv:b<32
  ·exact hv
  ·rw[D7 h (by omega)] at hb;cases hb
 have hm:∀x,x∈Ap s↔x∈(b:Int)::Ap (iandNot .u32 s (ishl .u32 1 (b:Int))):=fun x=>by
  rw[List.mem_cons,mem_elems,mem_elems]
  constructor
  ·rintro⟨v,h1,h2,rfl⟩
   by_cases e:v=b
   ·left;omega
   ·right;exact⟨v,h1,by rw[Bd h (VS.ishl _ _),BI hb32,h2];simp[e],rfl⟩
  ·rintro(rfl|⟨v,h1,h2,rfl⟩)
   ·exact⟨b,hb32,hb,rfl⟩
   ·rw[Bd h (VS.ishl _ _),Bool.and_eq_true] at h2
    exact⟨v,h1,h2.1,rfl⟩
 have hn:((b:Int)::Ap (iandNot .u32 s (ishl .u32 1 (b:Int)))).Nodup:=by
  refine List.nodup_cons.2 ⟨fun hc=> ?_,(BJ _).nodup⟩
  rw[Be (VS.iandNot _ _),Bd h (VS.ishl _ _),BI hb32] at hc
  simp at hc
 have:=nodup_all (BJ s).nodup hn (fun x hx=>(hm x).1 hx) (fun x hx=>(hm x).2 hx)
 simpa using this
def full (n:Nat):Int:=IntKind.u32.wrap (ishl .u32 1 (n:Int)-1)
theorem CA (n:Nat):VS (full n):=VS.wrap _
theorem CR {n:Nat}(h:n≤16)(v:Nat):has (full n) v=decide (v<n):=by
 by_cases hv:v<32
 ·exact all_mask ⟨n,by omega⟩ ⟨v,hv⟩
 ·rw[D7 (CA n) (by omega)];symm;simp;omega
theorem DR (F:List Int):D.o F=some (full F.length):=by
 unfold D.o D.I0
 have:decide ((F.length:Int)<0)=false:=by simp
 rw[this];rfl
def BY (n:Nat)(s:Int):List Bool:=(List.range n).map fun v=> !has s v
theorem DZ (n:Nat)(s:Int):(BY n s).length=n:=by simp[BY]
theorem E4 {n:Nat}{s:Int}{v:Nat}(h:v<n){h':v<(BY n s).length}:(BY n s)[v]= !has s v:=by
 simp[BY]
theorem EK {n:Nat}{s:Int}{v:Nat}(h:v<n):(BY n s).getD v false= !has s v:=by
 unfold BY
 rw[AD (by simpa using h)];simp
theorem goneOf_idx {n:Nat}{s:Int}{v:Nat}(h:v<n):idx (BY n s) (v:Int)=some (!has s v):=by
 rw[Ar (by rw[DZ];exact h),←EK h,AD (by rw[DZ];exact h)]
theorem goneOf_set {n b:Nat}{s:Int}(hs:VS s)(hb:b<n)(hn:n≤32):(BY n s).set b true=BY n (iandNot .u32 s (ishl .u32 1 (b:Int))):=by
 apply List.ext_getElem
 ·simp[BY]
 ·intro i h1 h2
  have hi:i<n:=by simpa [BY] using h2
  rw[List.getElem_set,E4 hi,E4 hi,Bd hs (VS.ishl _ _),BI (by omega)]
  by_cases e:b=i
  ·subst e;simp
  ·rw[if_neg e]
   have:decide (i=b)=false:=by simp;omega
   simp[this]
theorem Fz {n:Nat}(h:n≤16):List.replicate n false=BY n (full n):=by
 apply List.ext_getElem
 ·simp[BY]
 ·intro i h1 h2
  have hi:i<n:=by simpa [BY] using h2
  rw[List.getElem_replicate,E4 hi,CR h]
  simp[hi]
theorem lft_gone {g:List (List Int)}(hg:GOk g){s:Int}(hs:VS s){v:Nat}(hv:v<g.length):lft g v (BY g.length s)=Ap (iand .u32 (mk (row g v)) s):=by
 have h16:=hg.n16
 refine Inc.ext (lft_inc hg hv _) (BJ _) (fun x=> ?_)
 unfold lft
 rw[List.mem_filter,mem_elems]
 constructor
 ·rintro⟨h1,h2⟩
  obtain⟨w,rfl,hw,ha⟩:=hg.mem hv h1
  rw[Int.toNat_natCast,EK hw,Bool.not_not] at h2
  refine⟨w,by omega,?_,rfl⟩
  rw[Cc (VS.mk _) hs,h2,Ev (fun x hx=>by have:=(hg.rows v hv).2 x hx;omega)]
  simpa using h1
 ·rintro⟨w,_,h2,rfl⟩
  rw[Cc (VS.mk _) hs,Ev (fun x hx=>by have:=(hg.rows v hv).2 x hx;omega)] at h2
  simp only[Bool.and_eq_true,decide_eq_true_eq] at h2
  have hw:w<g.length:=by have:=(hg.rows v hv).2 _ h2.1;omega
  exact⟨h2.1,by rw[Int.toNat_natCast,EK hw,h2.2];rfl⟩
end Go.Sx

namespace Go.Sx
theorem Fill.many {g:List (List Int)}{o F L:List Int}(hg:GOk g)(ho:OOk g o)(h:Fill g o F L):D.Y1 g o=some (IntKind.i64.wrap (((Cu (grow F)).length:Int)-((Cu g).length:Int))):=by
 unfold D.Y1
 rw[h.FillOf hg ho,Option.bind_some]
 simp only[Bool.not_true,cond_false]
 rw[DS _ (h.gok hg),Option.bind_some,DS _ hg]
 rfl
end Go.Sx

namespace Go.Sx
section
variable {g : List (List Int)} {o : List Int} (hg : GOk g) (ho : OOk g o)
include hg ho
end
end Go.Sx

namespace Go.Sx
section
variable {g : List (List Int)} {o : List Int} (hg : GOk g) (ho : OOk g o)
include hg ho
omit hg ho in
theorem l1Max_eq (a b:Int):D.w a b=some (max a b):=by
 unfold D.w
 by_cases h:b<a
 ·simp only[h,decide_true,cond_true];congr 1;omega
 ·simp only[h,decide_false,cond_false];congr 1;omega
def mx (f:Nat→Int):Nat→Int
 |0=>0
 |n+1=>max (mx f n) (f n)
end
end Go.Sx

namespace Go.Sx
def dg (g:List (List Int))(s:Int)(v:Int):Int:=((Ap (iand .u32 (mk (row g v.toNat)) s)).length:Int)
structure SQ (n:Nat)(s:Int)(k:Nat):Prop where
 vs:VS s
 lt:∀v,has s v=true→v<n
 card:(Ap s).length=k
theorem SQ.full {n:Nat}(h:n≤16):SQ n (full n) n:=by
 refine⟨CA n,fun v hv=>by rw[CR h] at hv;exact of_decide_eq_true hv,?_⟩
 rw[←Fl (n:=n) (by omega) (fun v hv=>by rw[CR h] at hv;exact of_decide_eq_true hv)]
 unfold els
 rw[List.length_map,List.filter_eq_self.2 (fun v hv=>by rw[CR h];exact decide_eq_true (List.mem_range.1 hv)),List.length_range]
theorem SQ.rm {n k b:Nat}{s:Int}(h:SQ n s (k+1))(hb:has s b=true):SQ n (iandNot .u32 s (ishl .u32 1 (b:Int))) k:=by
 refine⟨VS.iandNot _ _,fun v hv=> ?_,?_⟩
 ·rw[Bd h.vs (VS.ishl _ _),Bool.and_eq_true] at hv
  exact h.lt v hv.1
 ·have:=elems_rm h.vs hb
  have:=h.card
  omega
theorem SQ.ne {n k:Nat}{s:Int}(h:SQ n s (k+1)):Ap s≠[]:=fun e=>by have:=h.card;rw[e] at this;simp at this
theorem SQ.z {n:Nat}{s:Int}(h:SQ n s 0):s=0:=by
 rw[h.vs.eq_zero]
 intro v hv
 cases hc:has s v
 ·rfl
 ·have:(v:Int)∈Ap s:=(Be h.vs).2 hc
  have h0:=h.card
  rw[List.length_eq_zero_iff] at h0
  rw[h0] at this;simp at this
theorem SQ.min {n k:Nat}{s:Int}(h:SQ n s (k+1))(f:Int→Int):∃c:Nat,c<n∧has s c=true∧amin f (Ap s)=((c:Int),f c)∧∀v:Nat,has s v=true→f c≤f v:=by
 obtain⟨c,h1,h2,h3⟩:=amin_ok f h.ne (elems_nonneg s)
 obtain⟨v,_,h5,rfl⟩:=mem_elems.1 h2
 exact⟨v,h.lt v h5,h5,h1,fun w hw=>h3 w ((Be h.vs).2 hw)⟩
end Go.Sx

namespace Go.Sx
theorem graph_ext {g g':List (List Int)}(hg:GOk g)(hg':GOk g')(hl:g.length=g'.length)(h:∀a b:Nat,a<g.length→(adj g a b↔adj g' a b)):g=g':=by
 apply List.ext_getElem hl
 intro i h1 h2
 rw[←row_eq h1,←row_eq h2]
 refine Inc.ext (hg.rows i h1).1 (hg'.rows i h2).1 (fun x=> ?_)
 constructor
 ·intro hx
  obtain⟨w,rfl,_,ha⟩:=hg.mem h1 hx
  exact(h i w h1).1 ha
 ·intro hx
  obtain⟨w,rfl,_,ha⟩:=hg'.mem h2 hx
  exact(h i w h1).2 ha
theorem grow_of {g:List (List Int)}(hg:GOk g):grow (g.map mk)=g:=by
 have hf:=FOk.of hg
 refine graph_ext (GOk.grow hf hg.n1 hg.n16) hg (by rw[C8,hf.len]) (fun a b ha=> ?_)
 rw[C8,hf.len] at ha
 rw[DC hf ha,El hg ha]
theorem l7Clique_ok {g:List (List Int)}(hg:GOk g){l:List Int}(hi:Inc l)(hr:∀x∈l,0≤x∧x<g.length):
  ∃g',D.p0 g l=some g'∧(GOk g'∧g'.length=g.length∧∀a b:Nat,adj g' a b↔adj g a b∨(a≠b∧(a:Int)∈l∧(b:Int)∈l)):=by
 have h16:=hg.n16
 have hl:=hi.short (n:=g.length) hr
 unfold D.p0
 refine AN (fun s=>∃i:Nat,s.2=(i:Int)∧i≤l.length∧GOk s.1∧s.1.length=g.length∧∀a b:Nat,adj s.1 a b↔adj g a b∨(a≠b∧(a:Int)∈l.take i∧(b:Int)∈l.take i)) (fun s=>l.length-s.2.toNat)
  (fun r=>GOk r∧r.length=g.length∧∀a b:Nat,adj r a b↔adj g a b∨(a≠b∧(a:Int)∈l∧(b:Int)∈l)) ?_ ⟨0,rfl,by omega,hg,rfl,fun a b=>by simp⟩ (fun r h=>⟨r,rfl,h⟩)
 rintro⟨G,_⟩ ⟨i,rfl,hil,hG,hGl,hA⟩
 dsimp only at hG hGl hA ⊢
 by_cases hlt:i<l.length
 ·have r1:=hr _ (List.getElem_mem hlt)
  obtain⟨v,ev⟩:∃v:Nat,l[i]=(v:Int):=⟨l[i].toNat,by omega⟩
  simp only[dlt hlt,cond_true]
  refine AN (fun s=>∃k:Nat,s.2=(k:Int)∧k≤i∧GOk s.1∧s.1.length=g.length∧∀a b:Nat,adj s.1 a b↔adj G a b∨(a=v∧(b:Int)∈l.take k)∨(b=v∧(a:Int)∈l.take k)) (fun s=>i-s.2.toNat)
   (fun r=>GOk r∧r.length=g.length∧∀a b:Nat,adj r a b↔adj G a b∨(a=v∧(b:Int)∈l.take i)∨(b=v∧(a:Int)∈l.take i)) ?_ ⟨0,rfl,by omega,hG,hGl,fun a b=>by simp⟩ ?_
  ·rintro⟨G',_⟩ ⟨k,rfl,hk,hG',hGl',hA'⟩
   dsimp only at hG' hGl' hA' ⊢
   by_cases hkl:k<i
   ·have hkk:k<l.length:=by omega
    have r2:=hr _ (List.getElem_mem hkk)
    obtain⟨u,eu⟩:∃u:Nat,l[k]=(u:Int):=⟨l[k].toNat,by omega⟩
    have hne:l[k]<l[i]:=(List.pairwise_iff_getElem.1 hi) k i hkk hlt hkl
    obtain⟨g2,q1,q2,q3,q4⟩:=l1Link_ok hG' (u:=u) (v:=v) (by omega) (by omega) (by omega)
    simp only[dlt hkl,cond_true,Ar hkk,Ar hlt,Option.bind_some,eu,ev,q1,wi (show k<4611686018427387904 by omega)]
    refine⟨_,rfl,⟨k+1,rfl,by omega,q2,by dsimp only;omega,fun a b=> ?_⟩,by dsimp only;omega⟩
    dsimp only
    rw[q4,hA',List.take_succ_eq_append_getElem hkk,eu]
    simp only[List.mem_append,List.mem_singleton,Int.natCast_inj]
    constructor
    ·rintro((h|⟨h1,h2⟩|⟨h1,h2⟩)|⟨h1,h2⟩|⟨h1,h2⟩)
     ·exact .inl h
     ·exact .inr (.inl ⟨h1,.inl h2⟩)
     ·exact .inr (.inr ⟨h1,.inl h2⟩)
     ·exact .inr (.inr ⟨h2,.inr h1⟩)
     ·exact .inr (.inl ⟨h1,.inr h2⟩)
    ·rintro(h|⟨h1,h2|h2⟩|⟨h1,h2|h2⟩)
     ·exact .inl (.inl h)
     ·exact .inl (.inr (.inl ⟨h1,h2⟩))
     ·exact .inr (.inr ⟨h1,h2⟩)
     ·exact .inl (.inr (.inr ⟨h1,h2⟩))
     ·exact .inr (.inl ⟨h2,h1⟩)
   ·obtain rfl:k=i:=by omega
    simp only[Ba,cond_false]
    exact⟨_,rfl,hG',hGl',hA'⟩
  ·rintro r ⟨q1,q2,q3⟩
   rw[wi (show i<4611686018427387904 by omega)]
   refine⟨_,rfl,⟨i+1,rfl,by omega,q1,q2,fun a b=> ?_⟩,by dsimp only;omega⟩
   dsimp only
   have hvt:(v:Int)∉l.take i:=by
    rw[←ev];exact nodup_iff.1 hi.nodup i hlt
   rw[q3,hA,List.take_succ_eq_append_getElem hlt,ev]
   simp only[List.mem_append,List.mem_singleton,Int.natCast_inj]
   constructor
   ·rintro((h|⟨h0,h1,h2⟩)|⟨h1,h2⟩|⟨h1,h2⟩)
    ·exact .inl h
    ·exact .inr ⟨h0,.inl h1,.inl h2⟩
    ·refine .inr ⟨fun e=> ?_,.inr h1,.inl h2⟩
     subst e;subst h1;exact hvt h2
    ·refine .inr ⟨fun e=> ?_,.inl h2,.inr h1⟩
     subst e;subst h1;exact hvt h2
   ·rintro(h|⟨h0,h1|h1,h2|h2⟩)
    ·exact .inl (.inl h)
    ·exact .inl (.inr ⟨h0,h1,h2⟩)
    ·exact .inr (.inr ⟨h2,h1⟩)
    ·exact .inr (.inl ⟨h1,h2⟩)
    ·exact absurd (h1.trans h2.symm) h0
 ·obtain rfl:i=l.length:=by omega
  simp only[Ba,cond_false]
  rw[List.take_length] at hA
  exact⟨_,rfl,hG,hGl,hA⟩
theorem FOk.clique {F F':List Int}{n:Nat}{S:Int}(h:FOk F n)(hS:∀w,has S w=true→w<n)(hl:F'.length=n)(hv:∀u,u<n→VS (F'.getD u 0))(h':∀u w,u<n→nb F' u w=(nb F u w||(has S u&&has S w&&decide (w≠u)))):FOk F' n:=by
 refine⟨hl,hv,fun u w hu hh=> ?_,fun u hu=> ?_,fun u w hu hh=> ?_⟩
 ·rw[h' u w hu] at hh
  simp only[Bool.or_eq_true,Bool.and_eq_true] at hh
  rcases hh with hh|⟨⟨_,hh⟩,_⟩
  ·exact h.lt u w hu hh
  ·exact hS w hh
 ·rw[h' u u hu,h.irr u hu];simp
 ·rw[h' u w hu] at hh
  simp only[Bool.or_eq_true,Bool.and_eq_true,decide_eq_true_eq] at hh
  rcases hh with hh|⟨⟨h1,h2⟩,h3⟩
  ·rw[h' w u (h.lt u w hu hh),h.sym u w hu hh];rfl
  ·rw[h' w u (hS w h2),h1,h2]
   have:decide (u≠w)=true:=by simpa using fun e=>h3 e.symm
   simp[this]
theorem eliminate_ok {F:List Int}{n b:Nat}{s:Int}(h16:n≤16)(h:FOk F n)(hs:VS s)(hb:b<n):
  ∃F',D.A1 F s (b:Int)=some F'∧(FOk F' n∧∀u w,u<n→nb F' u w=(nb F u w||((nb F b u&&has s u)&&(nb F b w&&has s w)&&decide (w≠u)))):=by
 have hlen:=h.len
 unfold D.A1
 have hFb:idx F (b:Int)=some (F.getD b 0):=by rw[Ar (by omega),AD (by omega)]
 rw[hFb]
 simp only[Option.bind_some,BR]
 have hSV:VS (iandNot .u32 (iand .u32 (F.getD b 0) s) (ishl .u32 1 (b:Int))):=VS.iandNot _ _
 have hS:∀w,has (iandNot .u32 (iand .u32 (F.getD b 0) s) (ishl .u32 1 (b:Int))) w=(nb F b w&&has s w):=fun w=>by
  rw[Bd (VS.iand _ _) (VS.ishl _ _),Cc (h.vs b hb) hs,BI (by omega)]
  by_cases e:w=b
  ·subst e
   have:=h.irr w hb
   unfold nb at this ⊢
   rw[this];simp
  ·unfold nb;simp[e]
 have hSn:∀w,has (iandNot .u32 (iand .u32 (F.getD b 0) s) (ishl .u32 1 (b:Int))) w=true→w<n:=fun w hw=>by
  rw[hS,Bool.and_eq_true] at hw
  exact h.lt b w hb hw.1
 generalize iandNot .u32 (iand .u32 (F.getD b 0) s) (ishl .u32 1 (b:Int))=S at*
 rw[Dc S hSV,Option.bind_some]
 refine AN (fun st=>∃i:Nat,st.2=(i:Int)∧i≤(Ap S).length∧st.1.length=n∧(∀u,u<n→VS (st.1.getD u 0))∧∀u w,u<n→nb st.1 u w=(nb F u w||(decide ((u:Int)∈(Ap S).take i)&&has S w&&decide (w≠u)))) (fun st=>(Ap S).length-st.2.toNat)
  (fun F'=>F'.length=n∧(∀u,u<n→VS (F'.getD u 0))∧∀u w,u<n→nb F' u w=(nb F u w||(has S u&&has S w&&decide (w≠u)))) ?_ ⟨0,rfl,by omega,hlen,h.vs,fun u w _=>by simp⟩ ?_
 ·rintro⟨l,_⟩ ⟨i,rfl,hi,hl,hv,hh⟩
  dsimp only at hl hv hh ⊢
  have hle:=B2 S
  by_cases hlt:i<(Ap S).length
  ·obtain⟨u0,h1,h2,h3⟩:=mem_elems.1 (List.getElem_mem hlt)
   have h4:=hSn u0 h2
   simp only[dlt hlt,cond_true,Ar hlt,Option.bind_some,h3,Ar (show u0<l.length by omega),BR,wi (show i<4611686018427387904 by omega),Int.toNat_natCast]
   refine⟨_,rfl,⟨i+1,rfl,by omega,by simp[hl],fun u hu=> ?_,fun u w hu=> ?_⟩,by dsimp only;omega⟩
   ·rw[C3 _ _ _ _ (by omega)]
    split
    ·exact VS.ior _ _
    ·exact hv u hu
   ·have hmem:((u:Int)∈(Ap S).take (i+1))↔((u:Int)∈(Ap S).take i∨u=u0):=by
     rw[List.take_succ_eq_append_getElem hlt,List.mem_append,h3]
     simp[Int.natCast_inj]
    unfold nb
    rw[C3 _ _ _ _ (by omega)]
    by_cases hc:u=u0
    ·subst hc
     rw[if_pos rfl]
     have hg:l[u]=l.getD u 0:=(AD (by omega) 0).symm
     rw[hg,CM (hv u hu) (VS.iandNot _ _),Bd hSV (VS.ishl _ _),BI (by omega)]
     have:=hh u w hu
     unfold nb at this
     rw[this,decide_eq_true (hmem.2 (.inr rfl))]
     cases has (F.getD u 0) w<;>cases has S w<;>by_cases hw:w=u<;>simp[hw]
    ·rw[if_neg hc]
     have:=hh u w hu
     unfold nb at this
     rw[this]
     have:decide ((u:Int)∈(Ap S).take (i+1))=decide ((u:Int)∈(Ap S).take i):=by
      rw[Bool.eq_iff_iff,decide_eq_true_eq,decide_eq_true_eq,hmem];simp[hc]
     rw[this]
  ·obtain rfl:i=(Ap S).length:=by omega
   simp only[Ba,cond_false]
   refine⟨_,rfl,hl,hv,fun u w hu=> ?_⟩
   rw[hh u w hu,List.take_length]
   congr 3
   rw[Bool.eq_iff_iff,decide_eq_true_eq,Be hSV]
 ·rintro F' ⟨q1,q2,q3⟩
  refine⟨_,rfl,h.clique hSn q1 q2 q3,fun u w hu=> ?_⟩
  rw[q3 u w hu,hS,hS]
noncomputable def Ep (F:List Int)(s b:Int):List Int:=(D.A1 F s b).getD []
theorem elimF_ok {F:List Int}{n b:Nat}{s:Int}(h16:n≤16)(h:FOk F n)(hs:VS s)(hb:b<n):
  D.A1 F s (b:Int)=some (Ep F s b)∧FOk (Ep F s b) n∧∀u w,u<n→nb (Ep F s b) u w=(nb F u w||((nb F b u&&has s u)&&(nb F b w&&has s w)&&decide (w≠u))):=by
 obtain⟨F',e,h1,h2⟩:=eliminate_ok h16 h hs hb
 have:Ep F s b=F':=by unfold Ep;rw[e];rfl
 rw[this];exact⟨e,h1,h2⟩
theorem lft_grow {F:List Int}{n v:Nat}{s:Int}(h1:1≤n)(h16:n≤16)(h:FOk F n)(hs:VS s)(hv:v<n):lft (grow F) v (BY n s)=Ap (iand .u32 (F.getD v 0) s):=by
 have hl:(grow F).length=n:=by rw[C8,h.len]
 have:=lft_gone (GOk.grow h h1 h16) hs (v:=v) (by omega)
 rw[hl,row_grow,mk_elems (h.vs v hv)] at this
 exact this
theorem clique_grow {F:List Int}{n b:Nat}{s:Int}(h1:1≤n)(h16:n≤16)(h:FOk F n)(hs:VS s)(hb:b<n):
  D.p0 (grow F) (lft (grow F) b (BY n (iandNot .u32 s (ishl .u32 1 (b:Int)))))=some (grow (Ep F s b)):=by
 obtain⟨_,e2,e3⟩:=elimF_ok h16 h hs hb
 have hG:=GOk.grow h h1 h16
 have hl:(grow F).length=n:=by rw[C8,h.len]
 rw[lft_grow h1 h16 h (VS.iandNot _ _) hb]
 have hm:∀w:Nat,(w:Int)∈Ap (iand .u32 (F.getD b 0) (iandNot .u32 s (ishl .u32 1 (b:Int))))↔(nb F b w&&has s w)=true:=fun w=>by
  rw[Be (VS.iand _ _),Cc (h.vs b hb) (VS.iandNot _ _),Bd hs (VS.ishl _ _),BI (by omega)]
  by_cases e:w=b
  ·subst e
   have:=h.irr w hb
   unfold nb at this ⊢
   rw[this];simp
  ·unfold nb;simp[e]
 obtain⟨g',q1,q2,q3,q4⟩:=l7Clique_ok hG (l:=Ap (iand .u32 (F.getD b 0) (iandNot .u32 s (ishl .u32 1 (b:Int))))) (BJ _) (fun x hx=>by
  obtain⟨w,_,_,rfl⟩:=mem_elems.1 hx
  have:=(hm w).1 hx
  rw[Bool.and_eq_true] at this
  have:=h.lt b w hb this.1
  omega)
 rw[q1]
 congr 1
 refine graph_ext q2 (GOk.grow e2 h1 h16) (by rw[q3,C8,C8,h.len,e2.len]) (fun u w hu=> ?_)
 have hu':u<n:=by omega
 rw[q4,DC e2 hu',DC h hu',e3 u w hu',hm,hm]
 simp only[Bool.or_eq_true,Bool.and_eq_true,decide_eq_true_eq]
 constructor
 ·rintro(h|⟨h,h1,h2⟩)
  ·exact .inl h
  ·exact .inr ⟨⟨h1,h2⟩,fun e=>h e.symm⟩
 ·rintro(h|⟨⟨h1,h2⟩,h⟩)
  ·exact .inl h
  ·exact .inr ⟨fun e=>h e.symm,h1,h2⟩
structure GQ (n i:Nat)(F o:List Int)(s:Int):Prop where
 f:FOk F n
 left:SQ n s (n-i)
 len:o.length=i
 rng:∀x∈o,∃v:Nat,x=v∧v<n∧has s v=false
 nd:o.Nodup
theorem l1CopyGraph_eq {g:List (List Int)}(hg:GOk g):D.O0 g=some g:=by
 have h16:=hg.n16
 unfold D.O0
 refine(Dm g (fun s i=>(i,s)) (fun r=>r) (by omega) (fun s i hi _=> ?_) (fun s=> ?_)).trans (by simp)
 ·simp only[dlt hi,cond_true,Ar hi,Option.bind_some,DP _ (hg.sh2.2 _ (List.getElem_mem hi)),wi (show i<4611686018427387904 by omega)]
 ·simp only[Ba,cond_false]
end Go.Sx

namespace Go.Sx
def mis (F:List Int)(n:Nat)(S:Int):Nat:=S2 n (fun u w=>has S u&&(has S w&&(decide (w<u)&& !nb F w u)))
def cd (F:List Int)(s v:Int):Int:=((Ap (iand .u32 (F.getD v.toNat 0) s)).length:Int)
def cf (n:Nat)(F:List Int)(s v:Int):Int:=(mis F n (iand .u32 (F.getD v.toNat 0) s):Int)
section
variable {g : List (List Int)} (hg : GOk g)
include hg
theorem OOk.shl {o:List Int}(ho:OOk g o):Sh o:=ho.sh hg
end
end Go.Sx

namespace Go.Sx
def Dw {α:Type}(b:List Int)(P:α→Prop)(e:Option (α×List Int×Int×Int)):Prop:=∃y,e=some y∧(P y.1∧y.2.1=b∧DK b y.2.2.1)
theorem Dw.then {α β:Type}{b:List Int}{P:α→Prop}{e:Option (α×List Int×Int×Int)}{k:α×List Int×Int×Int→Option β}{Q:β→Prop}(h:Dw b P e)
  (hk:∀a i z,P a→DK b i→∃y,k (a,b,i,z)=some y∧Q y):∃y,e.bind k=some y∧Q y:=by
 obtain⟨⟨a,b',i,z⟩,rfl,h1,h2,h3⟩:=h
 dsimp only at h1 h2 h3
 subst h2
 exact hk a i z h1 h3
theorem Into_deep :D.e1=D.h:=rfl
def Few (g:List (List Int)):Prop:=g.length≤17∧∀r∈g,r.length≤17
theorem Few.sh2 {g:List (List Int)}(h:Few g):Sh2 g:=⟨by have:=h.1;unfold Sh;omega,fun r hr=>by have:=h.2 r hr;unfold Sh;omega⟩
theorem Few.set {g:List (List Int)}(h:Few g)(k:Nat){r:List Int}(hr:r.length≤17):Few (g.set k r):=by
 refine⟨by have:=h.1;simpa using this,fun x hx=> ?_⟩
 rcases List.mem_or_eq_of_mem_set hx with hx|rfl
 ·exact h.2 x hx
 ·exact hr
end Go.Sx

namespace Go.Sx
noncomputable def ef (g:List (List Int))(o:List Int):Nat→List Int×List Int×Int
 |0=>(g.map mk,List.replicate g.length 0,full g.length)
 |i+1=>(Ep (ef g o i).1 (ef g o i).2.2 (o.getD i 0),(ef g o i).2.1.set (o.getD i 0).toNat (iand .u32 ((ef g o i).1.getD (o.getD i 0).toNat 0) (iandNot .u32 (ef g o i).2.2 (ishl .u32 1 (o.getD i 0)))),
   iandNot .u32 (ef g o i).2.2 (ishl .u32 1 (o.getD i 0)))
section
variable {g : List (List Int)} {o : List Int} (hg : GOk g) (ho : OOk g o)
include hg ho
theorem EF :∀i,i≤g.length→EInv g.length (g.map mk) o i (ef g o i).1 (ef g o i).2.1 (ef g o i).2.2
 |0,_=>by
  have h16:=hg.n16
  refine⟨FOk.of hg,by simp[ef],fun u hu=> ?_,CA _,fun v=> ?_,fun u w _ h=>h,fun j v hj=>by omega,fun j v u w hj=>by omega,fun _=>rfl,fun u w hu _ _ _=>⟨fun hh=>⟨u,.me,hh⟩,fun⟨x,hx,e⟩=> ?_⟩,fun j v hj=>by omega⟩
  ·rw[show (ef g o 0).2.1=List.replicate g.length 0 from rfl,List.getD_eq_getElem?_getD,List.getElem?_replicate]
   split<;>exact VS.zero
  ·rw[show (ef g o 0).2.2=full g.length from rfl,CR h16];simp
  ·rcases hx.end_ with e2|e2
   ·rw[←e2];exact e
   ·simp at e2
 |i+1,hi=>by
  have h16:=hg.n16;have hl:=ho.len
  have ih:=EF i (by omega)
  have hio:i<o.length:=by omega
  have hr:=ho.rng _ (List.getElem_mem hio)
  obtain⟨v,hv⟩:∃v:Nat,o[i]=(v:Int):=⟨o[i].toNat,by omega⟩
  have hvn:v<g.length:=by omega
  have hd:o.getD i 0=(v:Int):=by rw[AD hio,hv]
  obtain⟨_,k1,k2⟩:=elimF_ok (b:=v) h16 ih.f ih.vsl hvn
  simp only[ef,hd,Int.toNat_natCast]
  refine ih.step h16 (FOk.of hg) ho.rng ho.nd hio hv k1.len k1.vs (fun u w hu=> ?_)
  rw[k2 u w hu,Cc (ih.f.vs v hvn) (VS.iandNot _ _),Cc (ih.f.vs v hvn) (VS.iandNot _ _),Bd ih.vsl (VS.ishl _ _),Bd ih.vsl (VS.ishl _ _),BI (by omega),BI (by omega)]
  have hirr:=ih.f.irr v hvn
  have e:∀x,(has ((ef g o i).1.getD v 0) x&&(has (ef g o i).2.2 x&& !decide (x=v)))=(nb (ef g o i).1 v x&&has (ef g o i).2.2 x):=fun x=>by
   by_cases e:x=v
   ·subst e;rw[show has ((ef g o i).1.getD x 0) x=nb (ef g o i).1 x x from rfl,hirr];simp
   ·unfold nb;simp[e]
  rw[e,e]
theorem elim_ef :D.J (g.map mk) o=some ((ef g o g.length).1,(ef g o g.length).2.1):=by
 have h16:=hg.n16;have hl:=ho.len
 have hlen:(g.map mk).length=g.length:=by simp
 unfold D.J
 rw[A4 (by simp;omega),Option.bind_some]
 obtain⟨s,e1,hs1,hs2⟩:=Fy (g.map mk) (by omega)
 rw[e1,Option.bind_some,CJ (by omega) (by omega),Option.bind_some]
 simp only[Option.bind_some,List.nil_append]
 have hsf:s=full g.length:=hs1.ext (CA _) (fun w _=>by rw[hs2,CR h16,hlen])
 refine(Bx (fun i=>((ef g o i).1,(ef g o i).2.1,(ef g o i).2.2,(i:Int))) g.length ((ef g o g.length).1,(ef g o g.length).2.1) (by simp[ef,hsf]) (fun i hi=> ?_) ?_).trans rfl
 ·have h:=EF hg ho i (by omega)
  have h':=EF hg ho (i+1) (by omega)
  have hio:i<o.length:=by omega
  have hr:=ho.rng _ (List.getElem_mem hio)
  obtain⟨v,hv⟩:∃v:Nat,o[i]=(v:Int):=⟨o[i].toNat,by omega⟩
  have hvn:v<g.length:=by omega
  have hd:o.getD i 0=(v:Int):=by rw[AD hio,hv]
  obtain⟨_,q1,q2⟩:=elimF_ok (b:=v) h16 h.f h.vsl hvn
  simp only[ef,hd,Int.toNat_natCast] at h' ⊢
  generalize (ef g o i).1=F at*
  generalize (ef g o i).2.1=L at*
  generalize (ef g o i).2.2=left at*
  have hFv:idx F (v:Int)=some (F.getD v 0):=by rw[Ar (by rw[h.f.len];omega),AD (by rw[h.f.len];omega)]
  have hLs:idx (L.set v (iand .u32 (F.getD v 0) (iandNot .u32 left (ishl .u32 1 (v:Int))))) (v:Int)=some (iand .u32 (F.getD v 0) (iandNot .u32 left (ishl .u32 1 (v:Int)))):=by
   rw[Ar (by simp[h.lenL];omega)];simp
  simp only[dlt hio,cond_true,Ar hio,hv,Option.bind_some,BR,hFv,Ar (show v<L.length by rw[h.lenL];omega),Int.toNat_natCast]
  rw[hLs]
  simp only[Option.bind_some,Dc _ (VS.iand _ _)]
  have hSlt:∀w,has (iand .u32 (F.getD v 0) (iandNot .u32 left (ishl .u32 1 (v:Int)))) w=true→w<g.length:=fun w hw=>by
   rw[Cc (h.f.vs v hvn) (VS.iandNot _ _)] at hw
   simp only[Bool.and_eq_true] at hw
   exact h.f.lt v w hvn hw.1
  obtain⟨F',e2,k1,k2,k3⟩:=inner_ok F _ _ h16 h.f.len h.f.vs (VS.iand _ _) hSlt hLs
  have hFF:F'=Ep F left (v:Int):=by
   refine FOk.ext k1 q1.len k2 q1.vs (fun u w hu=> ?_)
   rw[k3 u w hu,q2 u w hu,Cc (h.f.vs v hvn) (VS.iandNot _ _),Cc (h.f.vs v hvn) (VS.iandNot _ _),Bd h.vsl (VS.ishl _ _),Bd h.vsl (VS.ishl _ _),BI (by omega),BI (by omega)]
   have hirr:=h.f.irr v hvn
   have e:∀x,(has (F.getD v 0) x&&(has left x&& !decide (x=v)))=(nb F v x&&has left x):=fun x=>by
    by_cases e:x=v
    ·subst e;rw[show has (F.getD x 0) x=nb F x x from rfl,hirr];simp
    ·unfold nb;simp[e]
   rw[e,e]
  rw[hLs] at e2
  simp only[Option.bind_some] at e2
  rw[e2,Option.bind_some,wi (show i<4611686018427387904 by omega),hFF]
 ·simp only[hl,Ba,cond_false]
theorem l7Fill_ef :D.E0 g o=some (grow (ef g o g.length).1):=by
 have h16:=hg.n16;have hl:=ho.len;have hn1:=hg.n1
 unfold D.E0 D.a
 rw[l1CopyGraph_eq hg,Option.bind_some,Option.bind_some,CJ (by omega) (by omega),Option.bind_some]
 refine(Bx (fun i=>(BY g.length (ef g o i).2.2,(i:Int),grow (ef g o i).1)) g.length (grow (ef g o g.length).1) (by simp only[ef];rw[Fz h16,grow_of hg];rfl) (fun i hi=> ?_) ?_).trans rfl
 ·have h:=EF hg ho i (by omega)
  have hio:i<o.length:=by omega
  have hr:=ho.rng _ (List.getElem_mem hio)
  obtain⟨v,hv⟩:∃v:Nat,o[i]=(v:Int):=⟨o[i].toNat,by omega⟩
  have hvn:v<g.length:=by omega
  have hd:o.getD i 0=(v:Int):=by rw[AD hio,hv]
  simp only[ef,hd]
  generalize (ef g o i).1=F at*
  generalize (ef g o i).2.1=L at*
  generalize (ef g o i).2.2=s at*
  have hG:=GOk.grow h.f hn1 h16
  have hGl:(grow F).length=g.length:=by rw[C8,h.f.len]
  have hl7:=l7Left_eq (grow F) hG (show v<(grow F).length by omega) (BY g.length (iandNot .u32 s (ishl .u32 1 (v:Int)))) (by rw[DZ];omega)
  simp only[dlt hio,cond_true,Ar hio,hv,Option.bind_some,goneOf_idx hvn,Int.toNat_natCast,goneOf_set h.vsl hvn (show g.length≤32 by omega),hl7,clique_grow hn1 h16 h.f h.vsl hvn,wi (show i<4611686018427387904 by omega)]
 ·simp only[hl,Ba,cond_false]
end
end Go.Sx

namespace Go.Sx
structure Net (A:List Int)(n:Nat):Prop where
 len:A.length=n
 vs:∀u,u<n→VS (A.getD u 0)
 lt:∀u w,u<n→nb A u w=true→w<n
theorem FOk.net {A:List Int}{n:Nat}(h:FOk A n):Net A n:=⟨h.len,h.vs,h.lt⟩
structure Rch (A:List Int)(W:Int)(v:Nat)(S:Int):Prop where
 vs:VS S
 me:has S v=true
 step:∀x y,has S x=true→nb A x y=true→has W y=true→has S y=true
 least:∀T:Nat→Prop,T v→(∀x y,T x→nb A x y=true→has W y=true→T y)→∀x,has S x=true→T x
theorem reach_ok {A:List Int}{n:Nat}(hn:n≤16)(hA:Net A n){v:Nat}(hv:v<n){W:Int}(hW:VS W):∃S,D.B0 A (v:Int) W=some S∧Rch A W v S∧∀x,has S x=true→x<n:=by
 unfold D.B0
 rw[BR,Option.bind_some]
 refine AN (fun S=>VS S∧has S v=true∧(∀x,has S x=true→x<n)∧∀T:Nat→Prop,T v→(∀x y,T x→nb A x y=true→has W y=true→T y)→∀x,has S x=true→T x) (fun S=>n-(Ap S).length)
  (fun S=>Rch A W v S∧∀x,has S x=true→x<n) ?_ ?_ (fun r hr=>⟨r,rfl,hr⟩)
 ·rintro S ⟨hS,hv',hlt,hT⟩
  have hle:=B2 S
  simp only[Dc S hS,Option.bind_some]
  have hin:=AN (step:=(fun(s_223:Int×Int)=>match s_223 with|(x_226,x_227)=>cond (decide (x_227<((Ap S).length:Int))) ((idx (Ap S) x_227).bind fun e_246=>(idx A e_246).bind fun e_252=>some (.inl ((ior .u32 x_226 (iand .u32 e_252 W)),(IntKind.i64.wrap (x_227+1))))) (some (.inr x_226)))) (s:=(S,0)) (k:=fun r=>some r) (Q:=fun X:Int=>VS X∧∀y,has X y=true↔has S y=true∨∃u:Nat,has S u=true∧nb A u y=true∧has W y=true)
   (fun s=>∃k:Nat,s.2=(k:Int)∧k≤(Ap S).length∧VS s.1∧∀y,has s.1 y=true↔has S y=true∨∃u:Nat,(u:Int)∈(Ap S).take k∧nb A u y=true∧has W y=true) (fun s=>(Ap S).length-s.2.toNat) (fun X=>VS X∧∀y,has X y=true↔has S y=true∨∃u:Nat,has S u=true∧nb A u y=true∧has W y=true)
   ?_ ⟨0,rfl,by omega,hS,fun y=>by simp⟩ (fun r hr=>⟨r,rfl,hr⟩)
  ·obtain⟨X,hX,hX1,hX2⟩:=hin
   rw[Option.bind_eq_some_iff] at hX
   obtain⟨z,e1,e2⟩:=hX
   cases e2
   rw[e1,Option.bind_some]
   by_cases hc:X=S
   ·subst hc
    simp only[beq_self_eq_true,cond_true]
    refine⟨_,rfl,⟨hS,hv',fun x y h1 h2 h3=>(hX2 y).2 (.inr ⟨x,h1,h2,h3⟩),hT⟩,hlt⟩
   ·have e3:(X==S)=false:=by simpa using hc
    simp only[e3,cond_false]
    have hXlt:∀x,has X x=true→x<n:=fun x hx=>by
     rcases(hX2 x).1 hx with h|⟨u,h1,h2,_⟩
     ·exact hlt x h
     ·exact hA.lt u x (hlt u h1) h2
    refine⟨_,rfl,⟨hX1,(hX2 v).2 (.inl hv'),hXlt,fun T h1 h2 x hx=> ?_⟩,?_⟩
    ·rcases(hX2 x).1 hx with h|⟨u,h3,h4,h5⟩
     ·exact hT T h1 h2 x h
     ·exact h2 u x (hT T h1 h2 u h3) h4 h5
    ·
     obtain⟨w,hw,hws⟩:∃w:Nat,has X w=true∧has S w=false:=by
      apply Classical.byContradiction
      intro hno
      refine hc (hX1.ext hS (fun w _=> ?_))
      rw[Bool.eq_iff_iff]
      refine⟨fun h=> ?_,fun h=>(hX2 w).2 (.inl h)⟩
      cases hh:has S w
      ·exact absurd ⟨w,h,hh⟩ hno
      ·rfl
     have h1:((w:Int)::Ap S).length≤(Ap X).length:=Cw (List.nodup_cons.2 ⟨fun hm=>by rw[Be hS,hws] at hm;exact Bool.noConfusion hm,(BJ S).nodup⟩) (fun x hx=>by
      rcases List.mem_cons.1 hx with rfl|hx
      ·rw[Be hX1];exact hw
      ·obtain⟨u,_,h2,rfl⟩:=mem_elems.1 hx
       rw[Be hX1];exact(hX2 u).2 (.inl h2))
     have h2:(Ap X).length≤n:=(BJ X).short (n:=n) (fun x hx=>by
      obtain⟨u,_,h2,rfl⟩:=mem_elems.1 hx
      have:=hXlt u h2;omega)
     simp at h1
     show n-(Ap X).length<n-(Ap S).length
     omega
  ·rintro⟨X,_⟩ ⟨k,rfl,hk,hX1,hX2⟩
   dsimp only at hX1 hX2 ⊢
   by_cases hkl:k<(Ap S).length
   ·obtain⟨u,_,h2,h3⟩:=mem_elems.1 (List.getElem_mem hkl)
    have hu:=hlt u h2
    have hAu:idx A (u:Int)=some (A.getD u 0):=by rw[Ar (by rw[hA.len];exact hu),AD (by rw[hA.len];exact hu)]
    simp only[dlt hkl,cond_true,Ar hkl,Option.bind_some,h3,hAu,wi (show k<4611686018427387904 by omega)]
    refine⟨_,rfl,⟨k+1,rfl,hkl,VS.ior _ _,fun y=> ?_⟩,by dsimp only;omega⟩
    dsimp only
    rw[CM hX1 (VS.iand _ _),Bool.or_eq_true,Cc (hA.vs u hu) hW,Bool.and_eq_true,hX2,List.take_succ_eq_append_getElem hkl,h3]
    constructor
    ·rintro((h|⟨u',h4,h5⟩)|⟨h4,h5⟩)
     ·exact .inl h
     ·exact .inr ⟨u',List.mem_append_left _ h4,h5⟩
     ·exact .inr ⟨u,List.mem_append_right _ (by simp),h4,h5⟩
    ·rintro(h|⟨u',h4,h5,h6⟩)
     ·exact .inl (.inl h)
     ·rcases List.mem_append.1 h4 with h4|h4
      ·exact .inl (.inr ⟨u',h4,h5,h6⟩)
      ·simp at h4
       obtain rfl:u'=u:=by omega
       exact .inr ⟨h5,h6⟩
   ·obtain rfl:k=(Ap S).length:=by omega
    simp only[Ba,cond_false]
    refine⟨_,rfl,hX1,fun y=> ?_⟩
    rw[hX2,List.take_length]
    constructor
    ·rintro(h|⟨u,h1,h2⟩)
     ·exact .inl h
     ·exact .inr ⟨u,(Be hS).1 h1,h2⟩
    ·rintro(h|⟨u,h1,h2⟩)
     ·exact .inl h
     ·exact .inr ⟨u,(Be hS).2 h1,h2⟩
 ·refine⟨VS.ishl _ _,by rw[BI (by omega)];simp,fun x hx=> ?_,fun T h1 _ x hx=> ?_⟩
  ·rw[BI (by omega)] at hx
   have:=of_decide_eq_true hx;omega
  ·rw[BI (by omega)] at hx
   rw[of_decide_eq_true hx];exact h1
end Go.Sx

namespace Go.Sx
theorem opt_eq {α:Type}{e:Option α}{a:α}(h:∃y,e=some y∧y=a):e=some a:=by
 obtain⟨y,h1,rfl⟩:=h;exact h1
theorem opt_ex {α β:Type}{e:Option α}{f:β→α}{Q:β→Prop}(h:∃y,e=some y∧∃b,y=f b∧Q b):∃b,e=some (f b)∧Q b:=by
 obtain⟨_,h1,b,rfl,h2⟩:=h;exact⟨b,h1,h2⟩
structure GS (n:Nat)(m:Int)(k:Nat):Prop where
 vs:VS m
 lt:∀v,has m v=true→v<n
 left:SQ n (iandNot .u32 (full n) m) k
def rm (n:Nat)(m:Int):Int:=iandNot .u32 (full n) m
theorem DN {n:Nat}{m:Int}(hn:n≤16)(hm:VS m)(v:Nat):has (rm n m) v=(decide (v<n)&& !has m v):=by
 unfold rm;rw[Bd (CA n) hm,CR hn]
theorem GS.zero {n:Nat}(hn:n≤16):GS n 0 n:=by
 refine⟨VS.zero,fun v hv=>absurd hv (by rw[Cy];simp),?_⟩
 have:iandNot .u32 (full n) 0=full n:=(VS.iandNot _ _).ext (CA n) (fun v _=>by rw[Bd (CA n) VS.zero,Cy];simp)
 rw[this];exact SQ.full hn
theorem GS.add {n k v:Nat}{m:Int}(hn:n≤16)(h:GS n m (k+1))(hv:v<n)(hm:has m v=false):GS n (ior .u32 m (ishl .u32 1 (v:Int))) k:=by
 refine⟨VS.ior _ _,fun w hw=> ?_,?_⟩
 ·rw[CM h.vs (VS.ishl _ _),BI (by omega),Bool.or_eq_true] at hw
  rcases hw with hw|hw
  ·exact h.lt w hw
  ·have:=of_decide_eq_true hw;omega
 ·have e:iandNot .u32 (full n) (ior .u32 m (ishl .u32 1 (v:Int)))=iandNot .u32 (iandNot .u32 (full n) m) (ishl .u32 1 (v:Int)):=by
   refine(VS.iandNot _ _).ext (VS.iandNot _ _) (fun w _=> ?_)
   rw[Bd (CA n) (VS.ior _ _),Bd (VS.iandNot _ _) (VS.ishl _ _),Bd (CA n) h.vs,CM h.vs (VS.ishl _ _)]
   cases has (full n) w<;>cases has m w<;>simp
  rw[e]
  refine h.left.rm ?_
  have:=DN hn h.vs v
  unfold rm at this
  rw[this,hm,decide_eq_true hv];rfl
theorem D6 {v w:Nat}{m:Int}(hm:VS m)(hv:v<32):has (ior .u32 m (ishl .u32 1 (v:Int))) w=(has m w||decide (w=v)):=by
 rw[CM hm (VS.ishl _ _),BI hv]
def mks (n:Nat)(m:Int):List Bool:=(List.range n).map fun v=>has m v
theorem mks_len (n:Nat)(m:Int):(mks n m).length=n:=by simp[mks]
theorem D5 {n v:Nat}{m:Int}(h:v<n):idx (mks n m) (v:Int)=some (has m v):=by
 rw[Ar (by rw[mks_len];exact h)];simp[mks]
theorem mks_set {n v:Nat}{m:Int}(hn:n≤16)(hm:VS m)(h:v<n):(mks n m).set v true=mks n (ior .u32 m (ishl .u32 1 (v:Int))):=by
 apply List.ext_getElem
 ·simp[mks]
 ·intro i h1 h2
  have hi:i<n:=by simpa [mks] using h2
  rw[List.getElem_set]
  simp only[mks,List.getElem_map,List.getElem_range]
  rw[D6 hm (by omega)]
  by_cases hc:v=i
  ·simp[hc]
  ·have:¬i=v:=fun e=>hc e.symm
   simp[hc,this]
theorem mks_unset {n v:Nat}{m:Int}(hn:n≤16)(hm:VS m)(h:v<n)(hv:has m v=false):(mks n (ior .u32 m (ishl .u32 1 (v:Int)))).set v false=mks n m:=by
 apply List.ext_getElem
 ·simp[mks]
 ·intro i h1 h2
  have hi:i<n:=by simpa [mks] using h2
  rw[List.getElem_set]
  simp only[mks,List.getElem_map,List.getElem_range]
  rw[D6 hm (by omega)]
  by_cases hc:v=i
  ·subst hc;simp[hv]
  ·have:¬i=v:=fun e=>hc e.symm
   simp[hc,this]
theorem mks_zero {n:Nat}:List.replicate n false=mks n 0:=by
 apply List.ext_getElem
 ·simp[mks]
 ·intro i h1 h2
  simp[mks,Cy]
theorem has_joins (F:List Int)(w:Nat):∀(xs:List Int) (s:Int),VS s→(∀x∈xs,VS (F.getD x.toNat 0))→
  VS (xs.foldl (fun s x=>ior .u32 s (F.getD x.toNat 0)) s)∧(has (xs.foldl (fun s x=>ior .u32 s (F.getD x.toNat 0)) s) w=true↔has s w=true∨∃x∈xs,nb F x.toNat w=true)
 |[],s,hs,_=>⟨hs,by simp⟩
 |x::xs,s,hs,hx=>by
  obtain⟨h1,h2⟩:=has_joins F w xs (ior .u32 s (F.getD x.toNat 0)) (VS.ior _ _) (fun y hy=>hx y (by simp[hy]))
  rw[List.foldl_cons]
  refine⟨h1,h2.trans ?_⟩
  rw[CM hs (hx x (by simp)),Bool.or_eq_true]
  simp only[List.mem_cons,exists_eq_or_imp]
  unfold nb
  rw[or_assoc]
noncomputable def bh (F:List Int)(m v:Int):Int:=(D.R F m v).getD 0
theorem rch_via {F:List Int}{n v:Nat}{m S:Int}(hn:n≤16)(hm:VS m)(hv:v<n)(h:Rch F (ior .u32 m (ishl .u32 1 (v:Int))) v S)(x:Nat):has S x=true↔Via F (fun y=>has m y=true) v x:=by
 constructor
 ·intro hx
  refine h.least (fun x=>Via F (fun y=>has m y=true) v x) .me (fun x y h1 h2 h3=> ?_) x hx
  rw[D6 hm (by omega),Bool.or_eq_true] at h3
  rcases h3 with h3|h3
  ·exact .step h1 h2 h3
  ·rw[of_decide_eq_true h3];exact .me
 ·intro hx
  induction hx with
  |me=>exact h.me
  |step _ h1 h2 ih=>exact h.step _ _ ih h1 (by rw[D6 hm (by omega),h2];rfl)
theorem Fe {F:List Int}{n v:Nat}{m:Int}(hn:n≤16)(hF:FOk F n)(hm:VS m)(hv:v<n):
  D.R F m (v:Int)=some (bh F m (v:Int))∧VS (bh F m (v:Int))∧∀w,has (bh F m (v:Int)) w=true↔Bhd F (fun x=>has m x=true) v w∧has m w=false∧w≠v:=by
 suffices H:∃X,D.R F m (v:Int)=some X∧VS X∧∀w,has X w=true↔Bhd F (fun x=>has m x=true) v w∧has m w=false∧w≠v by
  obtain⟨X,e,h⟩:=H
  unfold bh
  rw[e]
  exact⟨rfl,h⟩
 obtain⟨S,e1,hS,hlt⟩:=reach_ok hn hF.net hv (VS.ior m (ishl .u32 1 (v:Int)))
 unfold D.R
 rw[BR,Option.bind_some,e1,Option.bind_some,Dc S hS.vs,Option.bind_some]
 have hel:∀x∈Ap S,∃u:Nat,x=u∧u<n∧has S u=true:=fun x hx=>by
  obtain⟨u,_,h2,rfl⟩:=mem_elems.1 hx
  exact⟨u,rfl,hlt u h2,h2⟩
 have hfold:=fun w=>has_joins F w (Ap S) 0 VS.zero (fun x hx=>by
  obtain⟨u,rfl,h1,_⟩:=hel x hx
  exact hF.vs u h1)
 have hloop:=Fb (σ:=Int) (Ap S) (fun s i=>(s,i)) (fun s x=>ior .u32 s (F.getD x.toNat 0)) (fun s=>s) (fun _=>True) 0 trivial
  (step:=(fun(s_59:Int×Int)=>match s_59 with|(x_62,x_63)=>cond (decide (x_63<((Ap S).length:Int))) ((idx (Ap S) x_63).bind fun e_82=>(idx F e_82).bind fun e_88=>some (.inl ((ior .u32 x_62 e_88),(IntKind.i64.wrap (x_63+1))))) (some (.inr x_62))))
  (fun s i hi _=>by
   obtain⟨u,h1,h2,_⟩:=hel _ (List.getElem_mem hi)
   have hl:=B2 S
   refine⟨?_,trivial⟩
   simp only[dlt hi,cond_true,Ar hi,Option.bind_some,h1]
   rw[Ar (show u<F.length by rw[hF.len];exact h2),Option.bind_some,wi (show i<4611686018427387904 by omega)]
   simp[hF.len,h2])
  (fun s _=>by simp only[Ba,cond_false])
 rw[hloop.1,Option.bind_some,Option.bind_some]
 refine⟨_,rfl,VS.iandNot _ _,fun w=> ?_⟩
 have hw:=hfold w
 rw[Bd (VS.iandNot _ _) (VS.ishl _ _),Bd hw.1 hm,BI (by omega),Bool.and_eq_true,Bool.and_eq_true,hw.2]
 simp only[Cy,Bool.false_eq_true,false_or,Bool.not_eq_true',decide_eq_false_iff_not]
 constructor
 ·rintro⟨⟨⟨x,hx,h1⟩,h2⟩,h3⟩
  obtain⟨u,rfl,h4,h5⟩:=hel x hx
  exact⟨⟨u,(rch_via hn hm hv hS u).1 h5,by simpa using h1⟩,h2,h3⟩
 ·rintro⟨⟨u,h1,h2⟩,h3,h4⟩
  exact⟨⟨⟨(u:Int),(Be hS.vs).2 ((rch_via hn hm hv hS u).2 h1),by simpa using h2⟩,h3⟩,h4⟩
theorem bh_lt {F:List Int}{n v:Nat}{m:Int}(hn:n≤16)(hF:FOk F n)(hm:VS m)(hv:v<n){w:Nat}(h:has (bh F m (v:Int)) w=true):w<n:=by
 obtain⟨⟨u,h1,h2⟩,_⟩:=((Fe hn hF hm hv).2.2 w).1 h
 exact hF.lt u w (h1.lt hF hv) h2
theorem bh_len {F:List Int}{n v:Nat}{m:Int}(hn:n≤16)(hF:FOk F n)(hm:VS m)(hv:v<n):(Ap (bh F m (v:Int))).length≤n:=by
 rw[←Fl (n:=n) (by omega) (fun w hw=>bh_lt hn hF hm hv hw)]
 unfold els
 rw[List.length_map]
 exact Nat.le_trans (List.length_filter_le _ _) (by simp)
end Go.Sx

namespace Go.Sx
theorem Ey {g:List (List Int)}(hg:GOk g){m:Int}(hm:VS m){v:Nat}(hv:v<g.length):
  D.F g (mks g.length m) (v:Int)=some (Ap (bh (g.map mk) m (v:Int))):=by
 have h16:=hg.n16
 have hF:=FOk.of hg
 have hb:=Fe h16 hF hm hv
 have hbl:=fun w=>bh_lt h16 hF hm hv (w:=w)
 have hsub:∀l:List Int,l.Nodup→(∀x∈l,∃u:Nat,x=u∧u<g.length∧Via (g.map mk) (fun y=>has m y=true) v u)→l.length≤g.length:=fun l hl hr=>by
  have:=Cw (m:=(List.range g.length).map Int.ofNat) hl (fun x hx=>by
   obtain⟨u,rfl,hu,_⟩:=hr x hx
   exact List.mem_map.2 ⟨u,List.mem_range.2 hu,rfl⟩)
  simpa using this
 unfold D.F
 refine opt_eq ?_
 refine AN (fun s=>∃i:Nat,s.2.2=(i:Int)∧i≤s.1.length∧s.1.Nodup∧(∀x∈s.1,∃u:Nat,x=u∧u<g.length∧Via (g.map mk) (fun y=>has m y=true) v u)∧(v:Int)∈s.1∧Inc s.2.1∧
   (∀y∈s.2.1,∃u w:Nat,y=w∧w<g.length∧has m w=false∧w≠v∧(u:Int)∈s.1∧nb (g.map mk) u w=true)∧
   (∀u w:Nat,(u:Int)∈s.1.take i→nb (g.map mk) u w=true→(has m w=true→(w:Int)∈s.1)∧(has m w=false→w≠v→(w:Int)∈s.2.1)))
  (fun s=>g.length-s.2.2.toNat) (fun r=>r=Ap (bh (g.map mk) m (v:Int))) ?_
  ⟨0,rfl,by simp,by simp,fun x hx=>⟨v,by simpa using hx,hv,.me⟩,by simp,by simp[Inc],by simp,by simp⟩ (fun r hr=>⟨r,rfl,hr⟩)
 rintro⟨q,out,_⟩ ⟨i,rfl,hi,hqn,hqm,hqv,hoi,hom,hcl⟩
 dsimp only at hi hqn hqm hqv hoi hom hcl ⊢
 have hql:=hsub q hqn hqm
 by_cases hiq:i<q.length
 ·obtain⟨u,hu1,hu,huv⟩:=hqm _ (List.getElem_mem hiq)
  rw[dlt hiq,cond_true,Ar hiq,Option.bind_some,hu1,B8 hu,Option.bind_some]
  have hrl:=hg.row_len hu
  refine AN (fun s=>∃k:Nat,s.2.2=(k:Int)∧k≤(row g u).length∧(∃t,s.1=q++t)∧s.1.Nodup∧(∀x∈s.1,∃u:Nat,x=u∧u<g.length∧Via (g.map mk) (fun y=>has m y=true) v u)∧Inc s.2.1∧(∀y∈out,y∈s.2.1)∧
    (∀y∈s.2.1,∃u w:Nat,y=w∧w<g.length∧has m w=false∧w≠v∧(u:Int)∈q∧nb (g.map mk) u w=true)∧
    (∀w:Nat,(w:Int)∈(row g u).take k→(has m w=true→(w:Int)∈s.1)∧(has m w=false→w≠v→(w:Int)∈s.2.1)))
   (fun s=>(row g u).length-s.2.2.toNat)
   (fun r=>(∃t,r.1=q++t)∧r.1.Nodup∧(∀x∈r.1,∃u:Nat,x=u∧u<g.length∧Via (g.map mk) (fun y=>has m y=true) v u)∧Inc r.2∧(∀y∈out,y∈r.2)∧
    (∀y∈r.2,∃u w:Nat,y=w∧w<g.length∧has m w=false∧w≠v∧(u:Int)∈q∧nb (g.map mk) u w=true)∧
    (∀w:Nat,(w:Int)∈row g u→(has m w=true→(w:Int)∈r.1)∧(has m w=false→w≠v→(w:Int)∈r.2))) ?_
   ⟨0,rfl,by simp,⟨[],by simp⟩,hqn,hqm,hoi,fun _ h=>h,hom,by simp⟩ ?_
  ·rintro⟨q',out',_⟩ ⟨k,rfl,hk,⟨t,rfl⟩,hqn',hqm',hoi',hsup,hom',hcl'⟩
   dsimp only at hk hqn' hqm' hoi' hsup hom' hcl' ⊢
   have hql':=hsub _ hqn' hqm'
   by_cases hkr:k<(row g u).length
   ·obtain⟨w,hw1,hw,hadj⟩:=hg.mem hu (List.getElem_mem hkr)
    have hnb:=(El hg hu).2 hadj
    have htk:=List.take_succ_eq_append_getElem hkr
    have hol:out'.length≤g.length:=hoi'.short (n:=g.length) (fun x hx=>by
     obtain⟨_,w,rfl,h,_⟩:=hom' x hx
     omega)
    have hsh:Sh (q++t):=by unfold Sh;omega
    have hwk:=wi (show k<4611686018427387904 by omega)
    simp only[dlt hkr,cond_true,Ar hkr,hw1,Option.bind_some,D5 hw]
    rw[hw1] at htk
    cases hmw:has m w with
    |true=>
     simp only[cond_true,Option.bind_some,CG _ _ hsh,Bool.not_true,cond_false,hwk]
     by_cases hin:(w:Int)∈q++t
     ·simp only[decide_eq_true hin,Bool.not_true,cond_false,Option.bind_some]
      refine⟨_,rfl,⟨k+1,rfl,by omega,⟨t,rfl⟩,hqn',hqm',hoi',hsup,hom',fun z hz=> ?_⟩,by dsimp only;omega⟩
      rw[htk] at hz
      rcases List.mem_append.1 hz with hz|hz
      ·exact hcl' z hz
      ·have:z=w:=Int.ofNat.inj (List.mem_singleton.1 hz)
       subst this
       exact⟨fun _=>hin,fun h=>by rw[hmw] at h;cases h⟩
     ·simp only[decide_eq_false hin,Bool.not_false,cond_true,Option.bind_some,A4 (show (q++t).length+[(w:Int)].length≤4294967296 by simp only[List.length_cons,List.length_nil];omega)]
      refine⟨_,rfl,⟨k+1,rfl,by omega,⟨t++[(w:Int)],by simp⟩,?_,fun x hx=> ?_,hoi',hsup,hom',fun z hz=> ?_⟩,by dsimp only;omega⟩
      ·have hp:(q++t++[(w:Int)]).Perm ((w:Int)::(q++t)):=List.perm_append_comm
       exact hp.nodup_iff.2 (List.nodup_cons.2 ⟨hin,hqn'⟩)
      ·rcases List.mem_append.1 hx with hx|hx
       ·exact hqm' x hx
       ·exact⟨w,by simpa using hx,hw,.step huv hnb hmw⟩
      ·dsimp only
       rw[htk] at hz
       rcases List.mem_append.1 hz with hz|hz
       ·exact⟨fun h=>List.mem_append_left _ ((hcl' z hz).1 h),(hcl' z hz).2⟩
       ·have:z=w:=Int.ofNat.inj (List.mem_singleton.1 hz)
        subst this
        exact⟨fun _=>by simp,fun h=>by rw[hmw] at h;cases h⟩
    |false=>
     simp only[cond_false,Option.bind_some,Bool.not_false,cond_true,hwk]
     by_cases hwv:w=v
     ·have e:(((w:Int) !=(v:Int)):Bool)=false:=by simp[hwv]
      simp only[e,cond_false]
      refine⟨_,rfl,⟨k+1,rfl,by omega,⟨t,rfl⟩,hqn',hqm',hoi',hsup,hom',fun z hz=> ?_⟩,by dsimp only;omega⟩
      rw[htk] at hz
      rcases List.mem_append.1 hz with hz|hz
      ·exact hcl' z hz
      ·have:z=w:=Int.ofNat.inj (List.mem_singleton.1 hz)
       subst this
       exact⟨fun h=>(by rw[hmw] at h;cases h),fun _ h=>absurd hwv h⟩
     ·have e:(((w:Int) !=(v:Int)):Bool)=true:=by simp;omega
      simp only[e,cond_true,Into_deep,Dn _ _ hoi' (show out'.length≤4294967295 by omega),Option.bind_some]
      refine⟨_,rfl,⟨k+1,rfl,by omega,⟨t,rfl⟩,hqn',hqm',hoi'.into _,fun y hy=>mem_into.2 (.inr (hsup y hy)),fun y hy=> ?_,fun z hz=> ?_⟩,by dsimp only;omega⟩
      ·rcases mem_into.1 hy with rfl|hy
       ·exact⟨u,w,rfl,hw,hmw,hwv,by rw[←hu1];exact List.getElem_mem hiq,hnb⟩
       ·exact hom' y hy
      ·dsimp only
       rw[htk] at hz
       rcases List.mem_append.1 hz with hz|hz
       ·exact⟨(hcl' z hz).1,fun h1 h2=>mem_into.2 (.inr ((hcl' z hz).2 h1 h2))⟩
       ·have:z=w:=Int.ofNat.inj (List.mem_singleton.1 hz)
        subst this
        exact⟨fun h=>(by rw[hmw] at h;cases h),fun _ _=>mem_into.2 (.inl rfl)⟩
   ·obtain rfl:k=(row g u).length:=by omega
    rw[Ba,cond_false]
    rw[List.take_length] at hcl'
    exact⟨_,rfl,⟨t,rfl⟩,hqn',hqm',hoi',hsup,hom',hcl'⟩
  ·rintro⟨q',out'⟩ ⟨⟨t,rfl⟩,hqn',hqm',hoi',hsup,hom',hcl'⟩
   dsimp only at hqn' hqm' hoi' hsup hom' hcl' ⊢
   rw[wi (show i<4611686018427387904 by omega)]
   refine⟨_,rfl,⟨i+1,rfl,by simp;omega,hqn',hqm',List.mem_append_left _ hqv,hoi',fun y hy=> ?_,fun a w ha haw=> ?_⟩,by dsimp only;omega⟩
   ·obtain⟨a,w,h1,h2,h3,h4,h5,h6⟩:=hom' y hy
    exact⟨a,w,h1,h2,h3,h4,List.mem_append_left _ h5,h6⟩
   ·dsimp only at ha ⊢
    rw[List.take_append_of_le_length (by omega),List.take_succ_eq_append_getElem hiq,hu1] at ha
    rcases List.mem_append.1 ha with ha|ha
    ·have:=hcl a w ha haw
     exact⟨fun h=>List.mem_append_left _ (this.1 h),fun h1 h2=>hsup _ (this.2 h1 h2)⟩
    ·have:a=u:=Int.ofNat.inj (List.mem_singleton.1 ha)
     subst this
     exact hcl' w ((El hg hu).1 haw)
 ·obtain rfl:i=q.length:=by omega
  rw[Ba,cond_false]
  rw[List.take_length] at hcl
  refine⟨_,rfl,?_⟩
  show out=_
  have hall:∀x,Via (g.map mk) (fun y=>has m y=true) v x→(x:Int)∈q:=fun x hx=>by
   induction hx with
   |me=>exact hqv
   |step _ h1 h2 ih=>exact(hcl _ _ ih h1).1 h2
  refine hoi.ext (BJ _) (fun y=>⟨fun hy=> ?_,fun hy=> ?_⟩)
  ·obtain⟨u,w,rfl,h1,h2,h3,h4,h5⟩:=hom y hy
   refine(Be hb.2.1).2 ((hb.2.2 w).2 ⟨⟨u,?_,h5⟩,h2,h3⟩)
   obtain⟨u',e,_,h6⟩:=hqm _ h4
   obtain rfl:u=u':=by omega
   exact h6
  ·obtain⟨w,_,hw,rfl⟩:=mem_elems.1 hy
   obtain⟨⟨x,h1,h2⟩,h3,h4⟩:=(hb.2.2 w).1 hw
   exact(hcl x w (hall x h1) h2).2 h3 h4
end Go.Sx

namespace Go.Sx
noncomputable def wv (F:List Int)(rec:Int→Int)(m v:Int):Int:=if((Ap (bh F m v)).length:Int)<rec (ior .u32 m (ishl .u32 1 v)) then rec (ior .u32 m (ishl .u32 1 v)) else((Ap (bh F m v)).length:Int)
noncomputable def wd (F:List Int)(n:Nat):Nat→Int→Int
 |0,_=>0
 |k+1,m=>(Ap (rm n m)).foldl (fun b v=>if wv F (wd F n k) m v<b then wv F (wd F n k) m v else b) 16
theorem Du (f:Int→Int):∀(l:List Int) (b:Int),(l.foldl (fun b v=>if f v<b then f v else b) b≤b)∧(∀v∈l,l.foldl (fun b v=>if f v<b then f v else b) b≤f v)∧(l.foldl (fun b v=>if f v<b then f v else b) b=b∨∃v∈l,l.foldl (fun b v=>if f v<b then f v else b) b=f v)
 |[],b=>by simp
 |x::l,b=>by
  obtain⟨h1,h2,h3⟩:=Du f l (if f x<b then f x else b)
  rw[List.foldl_cons]
  have hc:(if f x<b then f x else b)≤b∧(if f x<b then f x else b)≤f x∧((if f x<b then f x else b)=b∨(if f x<b then f x else b)=f x):=by split<;>omega
  generalize (if f x<b then f x else b)=c at*
  refine⟨by omega,fun v hv=> ?_,?_⟩
  ·rcases List.mem_cons.1 hv with rfl|hv
   ·omega
   ·exact h2 v hv
  ·rcases h3 with h3|⟨v,hv,h3⟩
   ·rcases hc.2.2 with h4|h4
    ·exact .inl (by omega)
    ·exact .inr ⟨x,by simp,by omega⟩
   ·exact .inr ⟨v,List.mem_cons_of_mem _ hv,h3⟩
theorem wd_le (F:List Int)(n:Nat):∀k m,wd F n k m≤16
 |0,_=>by unfold wd;omega
 |k+1,m=>by unfold wd;exact(Du (wv F (wd F n k) m) _ 16).1
theorem wv_ge (F:List Int)(rec:Int→Int)(m v:Int):((Ap (bh F m v)).length:Int)≤wv F rec m v∧rec (ior .u32 m (ishl .u32 1 v))≤wv F rec m v:=by
 unfold wv;split<;>omega
theorem wv_le {F:List Int}{rec:Int→Int}{m v b:Int}:wv F rec m v≤b↔((Ap (bh F m v)).length:Int)≤b∧rec (ior .u32 m (ishl .u32 1 v))≤b:=by
 unfold wv;split<;>omega
theorem wd_nonneg (F:List Int)(n:Nat):∀k m,0≤wd F n k m
 |0,_=>by unfold wd;omega
 |k+1,m=>by
  unfold wd
  rcases(Du (wv F (wd F n k) m) (Ap (rm n m)) 16).2.2 with h|⟨v,_,h⟩
  ·rw[h];omega
  ·rw[h]
   have:=(wv_ge F (wd F n k) m v).1
   omega
theorem wv_len {F:List Int}{n v:Nat}{m:Int}(hn:n≤16)(hF:FOk F n)(hm:VS m)(hv:v<n)(k:Nat):wv F (wd F n k) m (v:Int)≤16:=by
 rw[wv_le]
 have:=bh_len hn hF hm hv
 exact⟨by omega,wd_le _ _ _ _⟩
theorem Dx {n:Nat}{m:Int}(hn:n≤16)(hm:VS m){x:Int}:x∈Ap (rm n m)↔∃v:Nat,x=v∧v<n∧has m v=false:=by
 rw[mem_elems]
 constructor
 ·rintro⟨v,_,h,rfl⟩
  rw[DN hn hm,Bool.and_eq_true,decide_eq_true_eq,Bool.not_eq_true'] at h
  exact⟨v,rfl,h⟩
 ·rintro⟨v,rfl,h1,h2⟩
  exact⟨v,by omega,by rw[DN hn hm,decide_eq_true h1,h2];rfl,rfl⟩
theorem GS.done {n:Nat}{m:Int}(hn:n≤16)(h:GS n m 0):m=full n:=by
 have hz:rm n m=0:=h.left.z
 refine h.vs.ext (CA n) (fun v _=> ?_)
 rw[CR hn]
 have:=DN hn h.vs v
 rw[hz,Cy] at this
 cases hm:has m v with
 |true=>exact(decide_eq_true (h.lt v hm)).symm
 |false=>
  rw[hm] at this
  simp at this
  simp;exact this
theorem GS.undone {n k:Nat}{m:Int}(h:GS n m (k+1)):m≠full n:=by
 intro e
 have h2:=h.left.ne
 rw[e] at h2
 apply h2
 have:iandNot .u32 (full n) (full n)=0:=(VS.iandNot _ _).ext VS.zero (fun v _=>by rw[Bd (CA n) (CA n),Cy];cases has (full n) v<;>rfl)
 rw[this,DY]
theorem GS.le {n k:Nat}{m:Int}(h:GS n m k)(hn:n≤16):k≤n:=by
 have h1:=h.left.card
 rw[←Fl (n:=n) (by omega) (fun v hv=>by
  have:=DN hn h.vs v
  unfold rm at this
  rw[this,Bool.and_eq_true] at hv
  exact of_decide_eq_true hv.1)] at h1
 unfold els at h1
 rw[List.length_map] at h1
 have:=List.length_filter_le (has (iandNot .u32 (full n) m)) (List.range n)
 simp at this;omega
theorem wWith_ok {F:List Int}{n v:Nat}{m:Int}(hn:n≤16)(hF:FOk F n)(hm:VS m)(hv:v<n){rec:Int→Option Int}{r:Int→Int}(hr:rec (ior .u32 m (ishl .u32 1 (v:Int)))=some (r (ior .u32 m (ishl .u32 1 (v:Int))))):
  D.a0 rec F m (v:Int)=some (wv F r m (v:Int)):=by
 obtain⟨e,h1,_⟩:=Fe hn hF hm hv
 unfold D.a0 wv
 rw[e,Option.bind_some,size_eq h1,Option.bind_some,BR,Option.bind_some,hr,Option.bind_some]
theorem EL {F:List Int}{n:Nat}(hn:n≤16)(hF:FOk F n):∀(fuel k:Nat) (m:Int),GS n m k→k<fuel→D.l fuel F m=some (wd F n k m)
 |0,_,_,_,h=>absurd h (by omega)
 |fuel+1,k,m,hm,h=>by
  unfold D.l
  rw[DR,Option.bind_some,hF.len]
  cases k with
  |zero=>
   rw[hm.done hn,beq_self_eq_true,cond_true];rfl
  |succ k=>
   rw[show (m==full n)=false by simpa using hm.undone,cond_false]
   have hrv:VS (rm n m):=VS.iandNot _ _
   have er:iandNot .u32 (full n) m=rm n m:=rfl
   rw[er,Dc _ hrv,Option.bind_some]
   have:=B2 (rm n m)
   refine(Fb (σ:=Int) (Ap (rm n m)) (fun s i=>(s,i)) (fun b v=>if wv F (wd F n k) m v<b then wv F (wd F n k) m v else b) (fun s=>s) (fun _=>True) 16 trivial (fun s i hi _=> ?_) (fun s _=> ?_)).1
   ·refine⟨?_,trivial⟩
    obtain⟨v,e,hv,hmv⟩:=(Dx hn hm.vs).1 (List.getElem_mem hi)
    unfold D.A0
    dsimp only
    rw[dlt hi,cond_true,Ar hi,Option.bind_some,e,wWith_ok hn hF hm.vs hv (r:=wd F n k) (EL hn hF fuel k _ (hm.add hn hv hmv) (by omega)),Option.bind_some,wi (show i<4611686018427387904 by omega)]
   ·unfold D.A0
    dsimp only
    rw[Ba,cond_false]
theorem some_attains {F:List Int}{n k:Nat}{m:Int}(hn:n≤16)(hF:FOk F n)(hm:GS n m (k+1)):∃v:Nat,v<n∧has m v=false∧wv F (wd F n k) m (v:Int)=wd F n (k+1) m:=by
 have h:=Du (wv F (wd F n k) m) (Ap (rm n m)) 16
 obtain⟨x,hx⟩:∃x,x∈Ap (rm n m):=List.exists_mem_of_ne_nil _ hm.left.ne
 rcases h.2.2 with h3|⟨v,hv,h3⟩
 ·obtain⟨v,rfl,h4,h5⟩:=(Dx hn hm.vs).1 hx
  refine⟨v,h4,h5,?_⟩
  have h6:=wv_len hn hF hm.vs h4 k
  have h7:=h.2.1 _ hx
  unfold wd
  omega
 ·obtain⟨v,rfl,h4,h5⟩:=(Dx hn hm.vs).1 hv
  exact⟨v,h4,h5,by unfold wd;rw[h3]⟩
end Go.Sx

namespace Go.Sx
theorem toNat_div {m:Int}(hm:VS m)(v:Nat):m.toNat/2^v=2*(m.toNat/2^(v+1))+bit (has m v):=by
 have h1:m.toNat/2^(v+1)=m.toNat/2^v/2:=by rw[Nat.pow_succ,Nat.div_div_eq_div_mul]
 have h2:bit (has m v)=m.toNat/2^v%2:=by
  unfold has bit
  rw[Nat.testBit_eq_decide_div_mod_eq]
  have:=Nat.mod_lt (m.toNat/2^v) (show 2>0 by omega)
  by_cases hc:m.toNat/2^v%2=1
  ·simp[hc]
  ·simp[hc];omega
 omega
theorem toNat_lt {n:Nat}{m:Int}(h:∀v,has m v=true→v<n):m.toNat<2^n:=by
 refine Nat.lt_pow_two_of_testBit _ (fun i hi=> ?_)
 cases hc:m.toNat.testBit i with
 |false=>rfl
 |true=>have:=h i hc;omega
theorem code_ok {n:Nat}{m:Int}(hn:n≤10)(hm:VS m)(h:∀v,has m v=true→v<n):D.w0 (mks n m)=some m:=by
 have hlt:=toNat_lt h
 have hp:2^n≤2^10:=Nat.pow_le_pow_right (by omega) hn
 have hle:∀v,m.toNat/2^v≤m.toNat:=fun v=>Nat.div_le_self _ _
 have h10:(2:Nat)^10=1024:=rfl
 unfold D.w0
 rw[mks_len]
 refine(Bx (fun j=>(((m.toNat/2^(n-j):Nat):Int),(n:Int)-1-(j:Int))) n m ?_ (fun j hj=> ?_) ?_).trans rfl
 ·rw[Nat.sub_zero,Nat.div_eq_of_lt hlt,w64 (by omega) (by omega)]
  simp
 ·obtain⟨v,hv⟩:∃v,v=n-(j+1):=⟨_,rfl⟩
  have e1:(n:Int)-1-(j:Int)=(v:Int):=by omega
  have e2:n-j=v+1:=by omega
  have d0:decide ((0:Int)≤(v:Int))=true:=by simp
  dsimp only
  rw[e1,d0,cond_true,D5 (show v<n by omega),Option.bind_some,e2,←hv]
  have ef:D.v (has m v)=some ((bit (has m v):Nat):Int):=by
   unfold D.v bit;cases has m v<;>rfl
  have h1:=toNat_div hm v
  have h2:=hle v
  have h3:bit (has m v)≤1:=by unfold bit;split<;>omega
  rw[ef,Option.bind_some,w64 (x:=2*_) (by omega) (by omega),w64 (by omega) (by omega),w64 (by omega) (by omega),h1]
  congr 3
  omega
 ·have d0:decide ((0:Int)≤(n:Int)-1-(n:Int))=false:=by simp;omega
  dsimp only
  rw[d0,cond_false,Nat.sub_self,Nat.pow_zero,Nat.div_one]
  congr 2
  have:=hm.1
  omega
structure TOk (F:List Int)(n:Nat)(T:List Int):Prop where
 len:T.length=2^n
 ok:∀m k,GS n m k→T.getD m.toNat (-1)= -1∨T.getD m.toNat (-1)=wd F n k m
theorem GS.tlt {n k:Nat}{m:Int}(h:GS n m k):m.toNat<2^n:=toNat_lt h.lt
theorem GS.card {n k k':Nat}{m:Int}(h:GS n m k)(h':GS n m k'):k=k':=by rw[←h.left.card,h'.left.card]
theorem TOk.set {F:List Int}{n k:Nat}{T:List Int}{m:Int}(h:TOk F n T)(hm:GS n m k):TOk F n (T.set m.toNat (wd F n k m)):=by
 refine⟨by rw[List.length_set,h.len],fun m' k' hm'=> ?_⟩
 have hl:=hm'.tlt
 rw[←h.len] at hl
 rw[List.getD_eq_getElem?_getD,List.getElem?_set]
 by_cases he:m.toNat=m'.toNat
 ·have e:m=m':=by have:=hm.vs.1;have:=hm'.vs.1;omega
  subst e
  rw[if_pos rfl,if_pos hl]
  obtain rfl:=hm.card hm'
  exact .inr rfl
 ·rw[if_neg he,←List.getD_eq_getElem?_getD]
  exact h.ok m' k' hm'
theorem Table_ok {g:List (List Int)}(hn:g.length≤10)(F:List Int):∃T,D.L0 g=some T∧TOk F g.length T:=by
 have hp:∀j,j≤10→2^j≤1024:=fun j hj=>(Nat.pow_le_pow_right (by omega) hj:2^j≤2^10)
 have hpn:=hp _ hn
 refine⟨List.replicate (2^g.length) (-1),?_,by simp,fun m k hm=> .inl ?_⟩
 ·unfold D.L0 D.a
  refine(Bx (fun j=>(((2^j:Nat):Int),(j:Int))) g.length ((2^g.length:Nat):Int) rfl (fun j hj=> ?_) ?_).trans ?_
  ·have h1:=hp j (by omega)
   have h2:=hp (j+1) (by omega)
   rw[Nat.pow_succ] at h2
   dsimp only
   rw[Option.bind_some,dlt hj,cond_true,w64 (x:=_*2) (by omega) (by omega),wi (show j<4611686018427387904 by omega),Nat.pow_succ]
   congr 3
  ·dsimp only
   rw[Option.bind_some,Ba,cond_false]
  ·dsimp only
   rw[CJ (by omega) (by omega),Option.bind_some]
   refine(Bx (fun j=>(List.replicate j (-1)++List.replicate (2^g.length-j) (0:Int),(j:Int))) (2^g.length) (List.replicate (2^g.length) (-1)) (by simp) (fun j hj=> ?_) ?_).trans rfl
   ·dsimp only
    rw[dlt hj,cond_true,Ar (show j<_ by simp;omega),Option.bind_some,wi (show j<4611686018427387904 by omega)]
    congr 3
    rw[Int.toNat_natCast]
    obtain⟨d,hd⟩:∃d,2^g.length-j=d+1:=⟨2^g.length-j-1,by omega⟩
    rw[hd,show 2^g.length-(j+1)=d by omega,List.set_append_right _ _ (by simp),List.length_replicate,Nat.sub_self,List.replicate_succ,List.set_cons_zero,List.replicate_succ',List.append_assoc];rfl
   ·dsimp only
    rw[Ba,cond_false];simp
 ·have hl:=hm.tlt
  simp[List.getD_eq_getElem?_getD,hl]
def mst (f:Int→Int)(b v:Int):Int:=if b<0∨f v<b then f v else b
theorem mst_run (f:Int→Int):∀(l:List Int) (b:Int),0≤b→(∀v∈l,0≤f v)→l.foldl (mst f) b=l.foldl (fun b v=>if f v<b then f v else b) b
 |[],_,_,_=>rfl
 |x::l,b,hb,hl=>by
  rw[List.foldl_cons,List.foldl_cons]
  have hx:=hl x (by simp)
  have e:mst f b x=if f x<b then f x else b:=by
   unfold mst
   by_cases hc:f x<b
   ·rw[if_pos (.inr hc),if_pos hc]
   ·rw[if_neg (by omega),if_neg hc]
  rw[e]
  exact mst_run f l _ (by split<;>omega) (fun v hv=>hl v (List.mem_cons_of_mem _ hv))
theorem mst_all (f:Int→Int)(l:List Int)(hne:l≠[])(hl:∀v∈l,0≤f v∧f v≤16):l.foldl (mst f) (-1)=l.foldl (fun b v=>if f v<b then f v else b) 16:=by
 cases l with
 |nil=>exact absurd rfl hne
 |cons x l=>
  rw[List.foldl_cons,List.foldl_cons]
  have hx:=hl x (by simp)
  have e1:mst f (-1) x=f x:=by unfold mst;rw[if_pos (.inl (by omega))]
  have e2:(if f x<16 then f x else 16)=f x:=by split<;>omega
  rw[e1,e2]
  exact mst_run f l _ hx.1 (fun v hv=>(hl v (List.mem_cons_of_mem _ hv)).1)
theorem FromR_ok {g:List (List Int)}(hg:GOk g)(hn:g.length≤10):∀(fuel k:Nat) (m:Int) (T:List Int),GS g.length m k→k<fuel→TOk (g.map mk) g.length T→
  ∃T',D.X fuel g (mks g.length m) T=some (wd (g.map mk) g.length k m,mks g.length m,T')∧TOk (g.map mk) g.length T'
 |0,_,_,_,_,h,_=>absurd h (by omega)
 |fuel+1,k,m,T,hm,h,hT=>by
  have h16:=hg.n16
  have hF:=FOk.of hg
  have hlt:=hm.tlt
  have hm0:=hm.vs.1
  have hi:m.toNat<T.length:=by rw[hT.len];exact hlt
  have ec:((m.toNat:Nat):Int)=m:=by omega
  have hix:idx T m=some (T.getD m.toNat (-1)):=by
   rw[←ec,Ar hi,Int.toNat_natCast,AD hi]
  unfold D.X
  rw[code_ok hn hm.vs hm.lt,Option.bind_some,hix,Option.bind_some]
  by_cases h0:0≤T.getD m.toNat (-1)
  ·have e:T.getD m.toNat (-1)=wd (g.map mk) g.length k m:=by
    rcases hT.ok m k hm with h|h
    ·omega
    ·exact h
   rw[decide_eq_true h0,cond_true,Option.bind_some,e]
   exact⟨T,rfl,hT⟩
  ·rw[decide_eq_false h0,cond_false]
   have hk2:∀k',k=k'+1→∀v:Nat,v<g.length→0≤wv (g.map mk) (wd (g.map mk) g.length k') m (v:Int)∧wv (g.map mk) (wd (g.map mk) g.length k') m (v:Int)≤16:=fun k' _ v hv=>by
    have:=(wv_ge (g.map mk) (wd (g.map mk) g.length k') m (v:Int)).1
    exact⟨by omega,wv_len h16 hF hm.vs hv k'⟩
   refine opt_ex ?_
   refine AN (fun s=>∃i:Nat,s.2.2.2=(i:Int)∧i≤g.length∧TOk (g.map mk) g.length s.1∧s.2.1=mks g.length m∧s.2.2.1=(els (rm g.length m) i).foldl (mst (wv (g.map mk) (wd (g.map mk) g.length (k-1)) m)) (-1)) (fun s=>g.length-s.2.2.2.toNat)
    (fun r=>TOk (g.map mk) g.length r.1∧r.2.1=mks g.length m∧r.2.2=(Ap (rm g.length m)).foldl (mst (wv (g.map mk) (wd (g.map mk) g.length (k-1)) m)) (-1)) ?_ ⟨0,rfl,by omega,hT,rfl,rfl⟩ ?_
   ·rintro⟨T1,_,b,_⟩ ⟨i,rfl,hin,hT1,rfl,hb⟩
    dsimp only at hT1 hb ⊢
    unfold D.a
    rw[Option.bind_some]
    by_cases hi2:i<g.length
    ·rw[dlt hi2,cond_true,D5 hi2,Option.bind_some]
     cases hmi:has m i with
     |true=>
      rw[cond_true,wi (show i<4611686018427387904 by omega)]
      refine⟨_,rfl,⟨i+1,rfl,by omega,hT1,rfl,?_⟩,by dsimp only;omega⟩
      dsimp only
      rw[els_succ,DN h16 hm.vs,hmi,Bool.not_true,Bool.and_false,if_neg (by simp)]
      exact hb
     |false=>
      obtain⟨k',rfl⟩:∃k',k=k'+1:=by
       cases k with
       |zero=>
        have:=hm.done h16
        have h3:=CR h16 i
        rw[←this,hmi,decide_eq_true hi2] at h3
        cases h3
       |succ k=>exact⟨k,rfl⟩
      rw[cond_false,Ey hg hm.vs hi2,Option.bind_some,Option.bind_some,Int.toNat_natCast,mks_set h16 hm.vs hi2]
      obtain⟨T2,e2,hT2⟩:=FromR_ok hg hn fuel k' _ T1 (hm.add h16 hi2 hmi) (by omega) hT1
      rw[e2,Option.bind_some,l1Max_eq,Option.bind_some,D5 hi2,Option.bind_some]
      dsimp only
      have emx:max ((Ap (bh (g.map mk) m (i:Int))).length:Int) (wd (g.map mk) g.length k' (ior .u32 m (ishl .u32 1 (i:Int))))=wv (g.map mk) (wd (g.map mk) g.length k') m (i:Int):=by
       unfold wv
       rw[Int.max_def]
       split<;>split<;>omega
      have ese:els (rm g.length m) (i+1)=els (rm g.length m) i++[(i:Int)]:=by
       rw[els_succ,DN h16 hm.vs,hmi,decide_eq_true hi2];rfl
      rw[emx,mks_unset h16 hm.vs hi2 hmi,wi (show i<4611686018427387904 by omega)]
      simp only[Nat.add_sub_cancel] at hb
      by_cases hc:b<0∨wv (g.map mk) (wd (g.map mk) g.length k') m (i:Int)<b
      ·have hd:(decide (b<0)||decide (wv (g.map mk) (wd (g.map mk) g.length k') m (i:Int)<b))=true:=by simpa using hc
       rw[hd,cond_true]
       refine⟨_,rfl,⟨i+1,rfl,by omega,hT2,rfl,?_⟩,by dsimp only;omega⟩
       dsimp only
       rw[Nat.add_sub_cancel,ese,List.foldl_append,←hb,List.foldl_cons,List.foldl_nil]
       unfold mst
       rw[if_pos hc]
      ·have hd:(decide (b<0)||decide (wv (g.map mk) (wd (g.map mk) g.length k') m (i:Int)<b))=false:=by simpa using hc
       rw[hd,cond_false]
       refine⟨_,rfl,⟨i+1,rfl,by omega,hT2,rfl,?_⟩,by dsimp only;omega⟩
       dsimp only
       rw[Nat.add_sub_cancel,ese,List.foldl_append,←hb,List.foldl_cons,List.foldl_nil]
       unfold mst
       rw[if_neg hc]
    ·obtain rfl:i=g.length:=by omega
     rw[Ba,cond_false]
     refine⟨_,rfl,hT1,rfl,?_⟩
     dsimp only
     rw[hb,Fl (by omega) (fun v hv=>by
      rw[DN h16 hm.vs,Bool.and_eq_true] at hv
      exact of_decide_eq_true hv.1)]
   ·rintro⟨T1,_,b⟩ ⟨hT1,rfl,hb⟩
    dsimp only at hT1 hb ⊢
    have hi1:m.toNat<T1.length:=by rw[hT1.len];exact hlt
    have hi2:m.toNat<(T1.set m.toNat (max b 0)).length:=by rw[List.length_set];exact hi1
    have er:max b 0=wd (g.map mk) g.length k m:=by
     cases k with
     |zero=>
      have hz:rm g.length m=0:=hm.left.z
      rw[hz,DY,List.foldl_nil] at hb
      rw[hb];rfl
     |succ k=>
      have e:b=wd (g.map mk) g.length (k+1) m:=by
       rw[hb,Nat.add_sub_cancel]
       unfold wd
       refine mst_all _ _ hm.left.ne (fun v hv=> ?_)
       obtain⟨u,rfl,hu,_⟩:=(Dx h16 hm.vs).1 hv
       exact hk2 k rfl u hu
      have:=wd_nonneg (g.map mk) g.length (k+1) m
      omega
    have ex:∀{X:List Int} (hX:m.toNat<X.length),idx X m=some (X[m.toNat]):=fun{X} hX=>by
     have:=Ar hX
     rwa [ec] at this
    rw[l1Max_eq,Option.bind_some,ex hi1,Option.bind_some,ex hi2,Option.bind_some,List.getElem_set_self,er]
    exact⟨_,rfl,_,rfl,hT1.set hm⟩
end Go.Sx

namespace Go.Sx
def cz :List Int→List Int→Int
 |[],[]=>0
 |[],_::_=> -1
 |_::_,[]=>1
 |a::x,b::y=>if a<b then-1 else if b<a then 1 else cz x y
def lk :Nat→List Int→Int
 |0,_=>0
 |_+1,[]=>0
 |d+1,a::l=>(a+1)*33^d+lk d l
end Go.Sx

namespace Go.Sx
end Go.Sx

namespace Go.Sx
def CQ (F:List Int)(K:Int):Prop:=∀u w,has K u=true→has K w=true→u≠w→nb F u w=true
def MX (F:List Int)(n:Nat)(K:Int):Prop:=CQ F K∧∀w,w<n→has K w=false→∃u,has K u=true∧nb F u w=false
def In (n:Nat)(K:Int):Prop:=VS K∧∀w,has K w=true→w<n
structure Tgt (F:List Int)(n:Nat)(C O K:Int):Prop where
 ok:In n K
 mx:MX F n K
 sup:∀w,has C w=true→has K w=true
 sub:∀w,has K w=true→has C w=true∨has O w=true
theorem In.lt {n:Nat}{K:Int}(h:In n K)(hn:n≤16):0≤K∧K<65536:=by
 obtain⟨m,rfl,hm⟩:=h.1.nat
 refine⟨by omega,?_⟩
 have:m<2^16:=by
  apply Nat.lt_pow_two_of_testBit
  intro i hi
  cases hc:m.testBit i
  ·rfl
  ·have:=h.2 i (by rw[Cj];exact hc)
   omega
 omega
structure BK (F:List Int)(n:Nat)(C O S:Int):Prop where
 c:In n C
 o:In n O
 s:In n S
 cq:CQ F C
 cn:∀w,w<n→((has O w=true∨has S w=true)↔∀u,has C u=true→nb F u w=true)
 dis:∀w,has O w=true→has S w=false
theorem EH :33≤BW:=by have:=Eu;omega
end Go.Sx

namespace Go.Sx
theorem loop_first {ρ:Type}{step:Int→Option (Int ⊕ ρ)}(xs:List Int)(p:Int→Bool)(mkr:Int→ρ)(fin:ρ)
  (hstep:∀i (h:i<xs.length),step (i:Int)=if p xs[i] then some (.inr (mkr xs[i])) else some (.inl ((i+1:Nat):Int))) (hend:step (xs.length:Int)=some (.inr fin)):
  An step 0=some (match xs.find? p with|some x=>mkr x|none=>fin):=by
 have key:∀(k i:Nat),i+k=xs.length→An step (i:Int)=some (match(xs.drop i).find? p with|some x=>mkr x|none=>fin):=by
  intro k
  induction k with
  |zero=>
   intro i hi
   obtain rfl:i=xs.length:=by omega
   rw[Bi hend,List.drop_length];rfl
  |succ k ih=>
   intro i hi
   have hil:i<xs.length:=by omega
   rw[List.drop_eq_getElem_cons hil,List.find?_cons]
   by_cases hp:p xs[i]=true
   ·rw[Bi (r:=mkr xs[i]) (by rw[hstep i hil,if_pos hp]),hp]
   ·rw[Bu (s':=((i+1:Nat):Int)) (by rw[hstep i hil,if_neg hp]),ih (i+1) (by omega)]
    have:p xs[i]=false:=by simpa using hp
    rw[this]
 exact key xs.length 0 (by omega)
section
variable {g : List (List Int)} (hg : GOk g)
include hg
end
end Go.Sx

namespace Go.Sx
theorem less2 (a b c d:Int):D.N [a,b] [c,d]=some (decide (a<c∨(a=c∧b<d))):=by
 unfold D.N
 have i0:∀x y:Int,idx [x,y] 0=some x:=fun x y=>by unfold idx;simp
 have i1:∀x y:Int,idx [x,y] 1=some y:=fun x y=>by unfold idx;simp
 have w1:IntKind.i64.wrap 1=1:=by decide
 have w2:IntKind.i64.wrap 2=2:=by decide
 have e0:((([a,b]:List Int).length:Int) !=(([c,d]:List Int).length:Int))=false:=by simp
 rw[e0,cond_false]
 by_cases h1:a=c
 ·subst h1
  rw[Bu (s':=1) (by simp[i0,w1])]
  by_cases h2:b=d
  ·subst h2
   rw[Bu (s':=2) (by simp[i1,w2]),Bi (r:= .inl ()) (by simp)];simp
  ·have e:(b !=d)=true:=by simpa using h2
   rw[Bi (r:= .inr (decide (b<d))) (by simp[i1,e])];simp
 ·have e:(a !=c)=true:=by simpa using h1
  rw[Bi (r:= .inr (decide (a<c))) (by simp[i0,e])];simp[h1]
theorem less_key {x y:List Int}(hx:B7 x)(hy:B7 y):D.N x y=some (decide (Bb x<Bb y)):=by
 obtain⟨h1,h2,h3,h4,h5⟩:=hx
 obtain⟨k1,k2,k3,k4,k5⟩:=hy
 obtain⟨a,b,rfl⟩:=list2 h1
 obtain⟨c,d,rfl⟩:=list2 k1
 rw[less2]
 unfold Bb
 simp only[List.getD_cons_zero,List.getD_cons_succ] at*
 congr 1
 rw[decide_eq_decide]
 constructor<;>intro h<;>omega
def Db (l:List Int)(xs:List (List Int)):Nat:=xs.findIdx fun x=>decide (Bb l<Bb x)
def ins (l:List Int)(xs:List (List Int)):List (List Int):=xs.take (Db l xs)++l::xs.drop (Db l xs)
theorem ins_perm (l:List Int)(xs:List (List Int)):(ins l xs).Perm (l::xs):=by
 unfold ins
 refine List.perm_middle.trans ?_
 rw[List.take_append_drop]
def DV (xs:List (List Int)):Prop:=xs.Pairwise (fun a b=>Bb a≤Bb b)
theorem ins_sorted (l:List Int){xs:List (List Int)}(h:DV xs):DV (ins l xs):=by
 unfold ins DV
 have hlt:∀x∈xs.take (Db l xs),Bb x≤Bb l:=fun x hx=>by
  obtain⟨j,hj,hji,rfl⟩:=mem_take_iff.1 hx
  have:=List.not_of_lt_findIdx (p:=fun x=>decide (Bb l<Bb x)) (xs:=xs) hji
  simp at this
  omega
 have hge:∀x∈xs.drop (Db l xs),Bb l<Bb x:=fun x hx=>by
  obtain⟨j,hj,rfl⟩:=List.getElem_of_mem hx
  have hk:Db l xs<xs.length:=by simp at hj;omega
  have h1:decide (Bb l<Bb (xs[Db l xs]))=true:=List.findIdx_getElem (p:=fun x=>decide (Bb l<Bb x)) (xs:=xs) (w:=hk)
  have h1:=of_decide_eq_true h1
  rw[List.getElem_drop]
  rcases Nat.eq_zero_or_pos j with e|e
  ·subst e;simpa using h1
  ·have:=(List.pairwise_iff_getElem.1 h) (Db l xs) (Db l xs+j) hk (by simp at hj;omega) (by omega)
   omega
 rw[List.pairwise_append]
 refine⟨h.sublist (List.take_sublist _ _),?_,fun a ha b hb=> ?_⟩
 ·rw[List.pairwise_cons]
  exact⟨fun b hb=>by have:=hge b hb;omega,h.sublist (List.drop_sublist _ _)⟩
 ·have:=hlt a ha
  rcases List.mem_cons.1 hb with rfl|hb
  ·exact this
  ·have:=hge b hb;omega
def BN (a b:Int):List Int:=[min a b,max a b]
theorem l1Min_eq (a b:Int):D.R0 a b=some (min a b):=by
 unfold D.R0
 by_cases h:a<b
 ·simp only[h,decide_true,cond_true];congr 1;omega
 ·simp only[h,decide_false,cond_false];congr 1;omega
theorem l1Max_eq2 (a b:Int):D.w a b=some (max a b):=by
 unfold D.w
 by_cases h:b<a
 ·simp only[h,decide_true,cond_true];congr 1;omega
 ·simp only[h,decide_false,cond_false];congr 1;omega
theorem EV (a b:Int):D.Y a b=some (BN a b):=by
 unfold D.Y BN
 congr 2
 ·split<;>omega
 ·congr 1;split<;>omega
theorem Ff {xs:List (List Int)}{a b:Int}(hg:∀x∈xs,B7 x)(hl:B7 (BN a b))(hx:xs.length≤1000000):D.I xs a b=some (ins (BN a b) xs):=by
 unfold D.I
 rw[l1Min_eq,Option.bind_some,l1Max_eq2,Option.bind_some]
 have el:([min a b,max a b]:List Int)=BN a b:=rfl
 simp only[el]
 have hk:=List.findIdx_le_length (p:=fun x=>decide (Bb (BN a b)<Bb x)) (xs:=xs)
 generalize hkk:Db (BN a b) xs=k
 have hkl:k≤xs.length:=by rw[←hkk];exact hk
 generalize hL:BN a b=l at*
 have hlo:∀i (hi:i<xs.length),i<k→D.N l xs[i]=some false:=fun i hi hik=>by
  rw[less_key hl (hg _ (List.getElem_mem hi))]
  have:=List.not_of_lt_findIdx (p:=fun x=>decide (Bb l<Bb x)) (xs:=xs) (i:=i) (by unfold Db at hkk;omega)
  simp at this
  simp;omega
 have hhi:∀(h:k<xs.length),D.N l xs[k]=some true:=fun h=>by
  rw[less_key hl (hg _ (List.getElem_mem h))]
  unfold Db at hkk
  have h1:decide (Bb l<Bb (xs[xs.findIdx fun x=>decide (Bb l<Bb x)]'(by rw[hkk];exact h)))=true:=List.findIdx_getElem (p:=fun x=>decide (Bb l<Bb x)) (xs:=xs) (w:=by rw[hkk];exact h)
  simp only[hkk] at h1
  rw[h1]
 let st:Nat→List Int×List (List Int)×Bool×Int:=fun i=>if i≤k then(l,xs.take i,false,(i:Int)) else(l,xs.take k++l::(xs.drop k).take (i-k),true,(i:Int))
 have hst:st xs.length=(l,if k=xs.length then xs else ins l xs,decide (k<xs.length),(xs.length:Int)):=by
  by_cases e:k=xs.length
  ·simp[st,e]
  ·have h1:¬xs.length≤k:=by omega
   have h2:k<xs.length:=by omega
   simp only[st,h1,if_false,e,h2,decide_true]
   unfold ins;rw[hkk,List.take_of_length_le (l:=xs.drop k) (by simp)]
 refine(Bx st xs.length (l,if k=xs.length then xs else ins l xs,decide (k<xs.length)) (by simp[st]) (fun i hi=> ?_) ?_).trans ?_
 ·by_cases h1:i<k
  ·have e1:st i=(l,xs.take i,false,(i:Int)):=by simp only[st];rw[if_pos (by omega)]
   have e2:st (i+1)=(l,xs.take (i+1),false,((i+1:Nat):Int)):=by simp only[st];rw[if_pos (by omega)]
   rw[e1,e2]
   simp only[dlt hi,cond_true,Bool.not_false,Ar hi,Option.bind_some,hlo i hi h1,cond_false,wi (show i<4611686018427387904 by omega)]
   rw[A4 (by simp;omega),Option.bind_some,List.take_succ_eq_append_getElem hi]
  ·by_cases h2:i=k
   ·subst h2
    have e1:st i=(l,xs.take i,false,(i:Int)):=by simp only[st];rw[if_pos (by omega)]
    have e2:st (i+1)=(l,xs.take i++l::(xs.drop i).take 1,true,((i+1:Nat):Int)):=by simp only[st];rw[if_neg (by omega)];congr;omega
    rw[e1,e2]
    simp only[dlt hi,cond_true,Bool.not_false,Ar hi,Option.bind_some,hhi hi,wi (show i<4611686018427387904 by omega)]
    rw[A4 (by simp;omega),Option.bind_some,A4 (by simp;omega),Option.bind_some]
    have:(xs.drop i).take 1=[xs[i]]:=by rw[List.drop_eq_getElem_cons hi,List.take_succ_cons,List.take_zero]
    rw[this];simp
   ·have e1:st i=(l,xs.take k++l::(xs.drop k).take (i-k),true,(i:Int)):=by simp only[st];rw[if_neg (by omega)]
    have e2:st (i+1)=(l,xs.take k++l::(xs.drop k).take (i+1-k),true,((i+1:Nat):Int)):=by simp only[st];rw[if_neg (by omega)]
    rw[e1,e2]
    simp only[dlt hi,cond_true,Bool.not_true,cond_false,Option.bind_some,Ar hi,wi (show i<4611686018427387904 by omega)]
    rw[A4 (by simp;omega),Option.bind_some]
    have:(xs.drop k).take (i+1-k)=(xs.drop k).take (i-k)++[xs[i]]:=by
     rw[show i+1-k=(i-k)+1 by omega,List.take_succ_eq_append_getElem (by simp;omega)]
     congr 2
     rw[List.getElem_drop];congr 1;omega
    rw[this];simp
 ·rw[hst]
  simp only[Ba,cond_false]
 ·by_cases e:k=xs.length
  ·simp only[e,if_true,Nat.lt_irrefl,decide_false,Bool.not_false,cond_true]
   rw[A4 (by simp;omega),Option.bind_some]
   unfold ins;rw[hkk,e];simp
  ·have h2:k<xs.length:=by omega
   simp only[e,if_false,h2,decide_true,Bool.not_true,cond_false]
end Go.Sx

namespace Go.Sx
structure KOk (n:Nat)(K:List (List Int)):Prop where
 nd:K.Nodup
 lk:∀l∈K,LinkIn n l
theorem LinkIn.good {n:Nat}(hn:n≤1000){l:List Int}(h:LinkIn n l):B7 l:=by
 obtain⟨a,b,rfl,h1,h2⟩:=h
 refine⟨rfl,?_⟩
 simp only[List.getD_cons_zero,List.getD_cons_succ]
 omega
theorem KOk.len {n:Nat}(hn:n≤16){K:List (List Int)}(h:KOk n K):K.length≤256:=by
 have h1:(K.map Bb).Nodup:=by
  unfold List.Nodup
  rw[List.pairwise_map]
  refine List.Pairwise.imp_of_mem (fun{a b} ha hb hab e=> ?_) h.nd
  exact hab (row_inj ((h.lk a ha).good (by omega)) ((h.lk b hb).good (by omega)) e)
 have h2:=Cw (m:=(List.range 16).flatMap (fun a=>(List.range 16).map fun b=>((a:Nat):Int)*1048576+((b:Nat):Int))) h1 (fun x hx=>by
  obtain⟨l,hl,rfl⟩:=List.mem_map.1 hx
  obtain⟨a,b,rfl,h3,h4⟩:=h.lk l hl
  exact List.mem_flatMap.2 ⟨a,List.mem_range.2 (by omega),List.mem_map.2 ⟨b,List.mem_range.2 (by omega),rfl⟩⟩)
 have h3:((List.range 16).flatMap (fun a=>(List.range 16).map fun b=>((a:Nat):Int)*1048576+((b:Nat):Int))).length=256:=by decide+kernel
 rw[h3,List.length_map] at h2
 exact h2
def WayP (K:List (List Int))(a b:Int):Prop:=∀T:Int→Prop,T a→(∀x y,T x→Lk K x y→T y)→T b
theorem Lk.perm {K K':List (List Int)}(h:K.Perm K'){x y:Int}:Lk K x y↔Lk K' x y:=by
 unfold Lk;rw[h.mem_iff,h.mem_iff]
theorem WayP.perm {K K':List (List Int)}(h:K.Perm K'){a b:Int}:WayP K a b↔WayP K' a b:=by
 unfold WayP
 constructor
 ·intro hh T h1 h2;exact hh T h1 (fun x y hx hl=>h2 x y hx ((Lk.perm h).1 hl))
 ·intro hh T h1 h2;exact hh T h1 (fun x y hx hl=>h2 x y hx ((Lk.perm h).2 hl))
structure NetL (A:List Int)(n:Nat)(K:List (List Int)):Prop where
 net:Net A n
 nb:∀x y,x<n→y<n→(nb A x y=true↔Lk K (x:Int) (y:Int))
end Go.Sx

namespace Go.Sx
theorem GOk.shr {g:List (List Int)}(hg:GOk g):Sh2 g:=by
 have h16:=hg.n16
 exact⟨by unfold Sh;omega,fun r hr=>by have:=(hg.mem0 hr).1;unfold Sh;omega⟩
structure PB (g bags:List (List Int)):Prop where
 n16:bags.length≤16
 sets:∀i,i<bags.length→SetOf (bags.getD i []) g.length
 some:∀i,i<bags.length→bags.getD i []≠[]
 all:∀v:Nat,v<g.length→∃i,i<bags.length∧(v:Int)∈bags.getD i []
 edge:∀u v:Nat,u<g.length→adj g u v→∃i,i<bags.length∧(u:Int)∈bags.getD i []∧(v:Int)∈bags.getD i []
 run:∀(v:Nat) (i j k:Nat),i<j→j<k→k<bags.length→(v:Int)∈bags.getD i []→(v:Int)∈bags.getD k []→(v:Int)∈bags.getD j []
theorem PB.sh {g bags:List (List Int)}(hg:GOk g)(h:PB g bags):Sh2 bags:=by
 have:=h.n16;have:=hg.n16
 refine⟨by unfold Sh;omega,fun b hb=> ?_⟩
 obtain⟨i,hi,rfl⟩:=List.getElem_of_mem hb
 have:=(h.sets i hi).length_le (by omega)
 rw[AD hi] at this
 unfold Sh;omega
section
variable {g : List (List Int)} {o : List Int} (hg : GOk g) (ho : OOk g o)
include hg ho
end
section
variable {g : List (List Int)} {o : List Int} (hg : GOk g) (ho : OOk g o)
include hg ho
end
section
variable {g bags : List (List Int)} (hg : GOk g) (h : PB g bags)
include hg h
end
section
variable {g : List (List Int)} {o : List Int} (hg : GOk g) (ho : OOk g o)
include hg ho
end
end Go.Sx

namespace Go.Sx
theorem link_iff (n:Nat)(l:List Int):LinkIn n l↔l.length=2∧SetOf l (n:Int):=by
 constructor
 ·rintro⟨a,b,rfl,h1,h2⟩
  refine⟨rfl,by simp[Inc];omega,fun x hx=> ?_⟩
  simp at hx;omega
 ·rintro⟨h1,h2,h3⟩
  obtain⟨x,y,rfl⟩:=list2 h1
  have a1:=h3 x (by simp);have a2:=h3 y (by simp)
  simp[Inc] at h2
  exact⟨x.toNat,y.toNat,by rw[show ((x.toNat:Nat):Int)=x by omega,show ((y.toNat:Nat):Int)=y by omega],by omega,by omega⟩
def lkB (n:Nat)(l:List Int):Bool:=decide (l.length=2)&&CS l (n:Int)
theorem lkB_iff (n:Nat)(l:List Int):lkB n l=true↔LinkIn n l:=by
 unfold lkB
 rw[link_iff,Bool.and_eq_true,decide_eq_true_eq,C4]
section
variable {B K : List (List Int)} (hB : Sh2 B) (hK : Sh2 K)
include hB hK
theorem l9Form_eq :D.y0 B K=some ((decide (1≤B.length)&&decide (B.length≤16))&&decide (K.length≤16)&&K.all (lkB B.length)):=by
 have hBl:B.length≤4294967296:=hB.1
 have hKl:K.length≤4294967296:=hK.1
 unfold D.y0
 rw[Ft,Option.bind_some]
 have e1:(decide ((1:Int)≤(B.length:Int))&&decide ((B.length:Int)≤16))=(decide (1≤B.length)&&decide (B.length≤16)):=by
  congr 1<;>rw[decide_eq_decide]<;>omega
 rw[e1]
 cases hb:(decide (1≤B.length)&&decide (B.length≤16))
 ·simp
 ·by_cases hk:K.length≤16
  ·have e2:decide ((16:Int)<(K.length:Int))=false:=by rw[decide_eq_false_iff_not];omega
   rw[e2,decide_eq_true hk,Bool.not_true,Bool.or_self,cond_false,Bool.and_self,Bool.true_and]
   refine(CB K.length (fun i=>lkB B.length (K.getD i [])) false (fun i hi=> ?_) ?_ rfl rfl).trans ?_
   ·have hs:=hK.2 _ (List.getElem_mem hi)
    simp only[dlt hi,cond_true,Ar hi,Option.bind_some,wi (show i<4611686018427387904 by omega),AD hi]
    unfold lkB
    by_cases h2:K[i].length=2
    ·have:((K[i].length:Int) !=2)=false:=by simp;omega
     rw[this,cond_false,l1Set_eq _ _ hs (by omega) (by omega),Option.bind_some,decide_eq_true h2,Bool.true_and,Option.bind_some]
     cases CS K[i] (B.length:Int)<;>rfl
    ·have:((K[i].length:Int) !=2)=true:=by simp;omega
     rw[this,cond_true,Option.bind_some,decide_eq_false h2,Bool.false_and];rfl
   ·simp only[Ba,cond_false]
   ·rw[CN K (lkB B.length) _ (fun i hi=>by rw[AD hi])]
  ·have e2:decide ((16:Int)<(K.length:Int))=true:=by rw[decide_eq_true_eq];omega
   rw[e2,decide_eq_false hk,Bool.or_true,cond_true];simp
open Classical in
theorem reached_eq (sel:List Int)(hl:K.length≤1000000)(hp:Pairs K)(hs:sel.length≤1000000)(hne:sel≠[])(hn:sel.Nodup):
  ∃y,D.B B K sel=some y∧(y=(sel.length:Int)↔Ds K sel):=by
 obtain⟨y,h1,m,rfl,h2,h3,h4⟩:=l9Reached_ok B K sel hl hp hs hne
 refine⟨_,h1,fun h m' hm' x hx=> ?_,fun hc=> ?_⟩
 ·have hxm:x∈m:=by
   apply Classical.byContradiction
   intro hno
   have:=Cw (l:=x::m) (m:=sel) (List.nodup_cons.2 ⟨hno,h2⟩) (fun z hz=>by
    rcases List.mem_cons.1 hz with rfl|hz
    ·exact hx
    ·exact h3.sub z hz)
   simp at this;omega
  exact h4 m' hm' x hxm
 ·rw[nodup_all h2 hn h3.sub (hc m h3)]
end
def allB (n:Nat):List Int:=(List.range n).map Int.ofNat
theorem allB_nodup (n:Nat):(allB n).Nodup:=by
 refine Inc.nodup ?_
 unfold Inc allB
 rw[List.pairwise_map]
 exact List.Pairwise.imp (fun{a b} h=>by show (a:Int)<(b:Int);omega) List.pairwise_lt_range
theorem allB_ne {n:Nat}(h:1≤n):allB n≠[]:=by
 intro hc
 have:=congrArg List.length hc
 simp[allB] at this;omega
theorem Fh {α:Type}(p:Nat→Bool)(f:Nat→α)(s0:List α)(x:α):∀n,x∈(List.range n).foldl (fun s i=>if p i then s++[f i] else s) s0↔x∈s0∨∃i,i<n∧p i=true∧x=f i
 |0=>by simp
 |n+1=>by
  rw[List.range_succ,List.foldl_append,List.foldl_cons,List.foldl_nil]
  have ih:=Fh p f s0 x n
  by_cases hp:p n=true
  ·rw[if_pos hp,List.mem_append,ih]
   constructor
   ·rintro((h|⟨i,h1,h2⟩)|h)
    ·exact .inl h
    ·exact .inr ⟨i,by omega,h2⟩
    ·simp at h;exact .inr ⟨n,by omega,hp,h⟩
   ·rintro(h|⟨i,h1,h2,h3⟩)
    ·exact .inl (.inl h)
    ·by_cases e:i=n
     ·subst e;exact .inr (by simp[h3])
     ·exact .inl (.inr ⟨i,by omega,h2,h3⟩)
  ·rw[if_neg hp,ih]
   constructor
   ·rintro(h|⟨i,h1,h2⟩)
    ·exact .inl h
    ·exact .inr ⟨i,by omega,h2⟩
   ·rintro(h|⟨i,h1,h2,h3⟩)
    ·exact .inl h
    ·by_cases e:i=n
     ·subst e;exact absurd h2 hp
     ·exact .inr ⟨i,by omega,h2,h3⟩
theorem mem_rowF (r:List Int)(u:Nat)(s:List (List Int))(x:List Int):x∈rowF r u s↔x∈s∨∃v∈r,(u:Int)<v∧x=[(u:Int),v]:=by
 unfold rowF
 have:=Fh (fun i=>decide ((u:Int)<r.getD i 0)) (fun i=>[(u:Int),r.getD i 0]) s x r.length
 simp only[decide_eq_true_eq] at this
 rw[this]
 constructor
 ·rintro(h|⟨i,h1,h2,h3⟩)
  ·exact .inl h
  ·rw[AD h1] at h2 h3
   exact .inr ⟨r[i],List.getElem_mem h1,h2,h3⟩
 ·rintro(h|⟨v,h1,h2,h3⟩)
  ·exact .inl h
  ·obtain⟨i,hi,rfl⟩:=List.getElem_of_mem h1
   exact .inr ⟨i,hi,by rw[AD hi];exact h2,by rw[AD hi];exact h3⟩
theorem ER {g:List (List Int)}(hg:GOk g)(x:List Int):x∈Cu g↔∃u v:Nat,u<g.length∧adj g u v∧u<v∧x=[(u:Int),(v:Int)]:=by
 have key:∀n,n≤g.length→(x∈(List.range n).foldl (fun s u=>rowF (row g u) u s) []↔∃u v:Nat,u<n∧adj g u v∧u<v∧x=[(u:Int),(v:Int)]):=by
  intro n
  induction n with
  |zero=>intro _;simp
  |succ n ih=>
   intro hn
   rw[List.range_succ,List.foldl_append,List.foldl_cons,List.foldl_nil,mem_rowF,ih (by omega)]
   constructor
   ·rintro(⟨u,v,h1,h2⟩|⟨v,h1,h2,h3⟩)
    ·exact⟨u,v,by omega,h2⟩
    ·obtain⟨w,rfl,hw,ha⟩:=hg.mem (by omega) h1
     exact⟨n,w,by omega,ha,by omega,h3⟩
   ·rintro⟨u,v,h1,h2,h3,h4⟩
    by_cases e:u=n
    ·subst e;exact .inr ⟨v,h2,by omega,h4⟩
    ·exact .inl ⟨u,v,by omega,h2,h3,h4⟩
 exact key g.length (Nat.le_refl _)
section
variable {g B K : List (List Int)} (hg : GOk g) (hB : Sh2 B) (hK : Sh2 K)
include hg hB hK
open Classical in
theorem FL :D.N0 g B K=some (decide (TB g B K)):=by
 have h16:=hg.n16
 have hKl:K.length≤4294967296:=hK.1
 have hBl:B.length≤4294967296:=hB.1
 unfold D.N0
 rw[Dz g hg.shr,(DQ g).2 hg]
 simp only[Option.bind_some,Bool.not_true,cond_false]
 unfold D.j1
 rw[l9Form_eq hB hK,Option.bind_some]
 by_cases hform:(1≤B.length∧B.length≤16∧K.length+1=B.length)∧∀l∈K,LinkIn B.length l
 case neg=>
  have hT:¬TB g B K:=fun h=>hform ⟨⟨h.n1,h.n16,h.many⟩,h.lks⟩
  have e:(((decide (1≤B.length)&&decide (B.length≤16))&&decide (K.length≤16)&&K.all (lkB B.length))&&((K.length:Int)==IntKind.i64.wrap ((B.length:Int)-1)))=false:=by
   rw[w64 (by omega) (by omega)]
   cases hc:(((decide (1≤B.length)&&decide (B.length≤16))&&decide (K.length≤16)&&K.all (lkB B.length))&&((K.length:Int)==(B.length:Int)-1))
   ·rfl
   ·exfalso
    simp only[Bool.and_eq_true,decide_eq_true_eq,beq_iff_eq,List.all_eq_true] at hc
    exact hform ⟨⟨hc.1.1.1.1,hc.1.1.1.2,by omega⟩,fun l hl=>(lkB_iff _ _).1 (hc.1.2 l hl)⟩
  rw[e,cond_false,decide_eq_false hT]
  rfl
 case pos=>
  obtain⟨⟨n1,n16,hm⟩,hlk⟩:=hform
  have hpairs:Pairs K:=fun l hl=>by obtain⟨a,b,e,_⟩:=hlk l hl;exact⟨a,b,e⟩
  have e:(((decide (1≤B.length)&&decide (B.length≤16))&&decide (K.length≤16)&&K.all (lkB B.length))&&((K.length:Int)==IntKind.i64.wrap ((B.length:Int)-1)))=true:=by
   rw[w64 (by omega) (by omega)]
   simp only[Bool.and_eq_true,decide_eq_true_eq,beq_iff_eq,List.all_eq_true]
   exact⟨⟨⟨⟨n1,n16⟩,by omega⟩,fun l hl=>(lkB_iff _ _).2 (hlk l hl)⟩,by omega⟩
  rw[e,cond_true,l1All_eq B.length (by omega),Option.bind_some]
  obtain⟨y,e1,hy⟩:=reached_eq hB hK (allB B.length) (by omega) hpairs (by simp[allB];omega) (allB_ne n1) (allB_nodup _)
  have hal:(allB B.length).length=B.length:=by simp[allB]
  rw[hal] at hy
  have e1':D.B B K ((List.range B.length).map Int.ofNat)=some y:=e1
  rw[e1',Option.bind_some,Option.bind_some,Option.bind_some]
  by_cases hc:Ds K (allB B.length)
  case neg=>
   have:(y==(B.length:Int))=false:=by rw[beq_eq_false_iff_ne];exact fun h=>hc (hy.1 h)
   rw[this,Bool.not_false,cond_true,decide_eq_false (fun h=>hc h.tree)]
  case pos=>
   have:(y==(B.length:Int))=true:=by rw[beq_iff_eq];exact hy.2 hc
   rw[this,Bool.not_true,cond_false]
   unfold D.a
   refine(D4 B.length (fun i=>CS (B.getD i []) g.length) (.inl ()) (.inr false) (fun i hi=> ?_) ?_).trans ?_
   ·simp only[dlt hi,cond_true,Ar hi,Option.bind_some,l1Set_eq _ _ (hB.2 _ (List.getElem_mem hi)) (show (0:Int)≤(g.length:Int) by omega) (by omega),wi (show i<4611686018427387904 by omega),AD hi]
    cases CS B[i] (g.length:Int)<;>rfl
   ·simp only[Ba,cond_false]
   ·rw[CN B (fun b=>CS b g.length) _ (fun i hi=>by rw[AD hi])]
    by_cases hs:∀b∈B,SetOf b (g.length:Int)
    case neg=>
     have:(B.all fun b=>CS b g.length)=false:=by
      cases hh:(B.all fun b=>CS b g.length)
      ·rfl
      ·exact absurd (fun b hb=>(C4 _ _).1 (List.all_eq_true.1 hh b hb)) hs
     rw[this,cond_false,decide_eq_false (fun h=>hs h.sets)]
    case pos=>
     have:(B.all fun b=>CS b g.length)=true:=List.all_eq_true.2 (fun b hb=>(C4 _ _).2 (hs b hb))
     rw[this,cond_true]
     dsimp only
     rw[l1Edges_eq g hg,Option.bind_some]
     have hel:(Cu g).length≤256:=by
      obtain⟨y,y1,y2,_⟩:=l1Edges_ok g hg
      rw[l1Edges_eq g hg] at y1
      cases y1;exact y2
     refine(D4 (Cu g).length (fun i=>B.any fun b=>((Cu g).getD i []).all fun x=>decide (x∈b)) (.inl ()) (.inr false) (fun i hi=> ?_) ?_).trans ?_
     ·obtain⟨u,v,_,_,_,e2⟩:=(ER hg _).1 (List.getElem_mem hi)
      simp only[dlt hi,cond_true,Ar hi,Option.bind_some,l9In_eq B K (Cu g)[i] hB (by rw[e2];simp[Sh]),wi (show i<4611686018427387904 by omega),AD hi]
      cases (B.any fun b=>((Cu g)[i]).all fun x=>decide (x∈b))<;>rfl
     ·simp only[Ba,cond_false]
     ·rw[CN (Cu g) (fun e=>B.any fun b=>e.all fun x=>decide (x∈b)) _ (fun i hi=>by rw[AD hi])]
      by_cases hE:∀u v:Nat,u<g.length→adj g u v→∃b∈B,(u:Int)∈b∧(v:Int)∈b
      case neg=>
       have:((Cu g).all fun e=>B.any fun b=>e.all fun x=>decide (x∈b))=false:=by
        cases hh:((Cu g).all fun e=>B.any fun b=>e.all fun x=>decide (x∈b))
        ·rfl
        ·exfalso
         refine hE (fun u v hu ha=> ?_)
         have hlt:∀u v:Nat,u<g.length→adj g u v→u<v→∃b∈B,(u:Int)∈b∧(v:Int)∈b:=fun u v hu ha huv=>by
          obtain⟨b,hb,hbb⟩:=List.any_eq_true.1 (List.all_eq_true.1 hh _ ((ER hg _).2 ⟨u,v,hu,ha,huv,rfl⟩))
          simp at hbb
          exact⟨b,hb,hbb⟩
         rcases Nat.lt_trichotomy u v with c|c|c
         ·exact hlt u v hu ha c
         ·subst c;exact absurd ha (hg.irr u hu)
         ·obtain⟨b,hb,h1,h2⟩:=hlt v u (hg.lt hu ha) (hg.sym u v hu ha) c
          exact⟨b,hb,h2,h1⟩
       rw[this,cond_false,decide_eq_false (fun h=>hE h.edges)]
      case pos=>
       have:((Cu g).all fun e=>B.any fun b=>e.all fun x=>decide (x∈b))=true:=List.all_eq_true.2 (fun e he=>by
        obtain⟨u,v,hu,ha,_,rfl⟩:=(ER hg _).1 he
        obtain⟨b,hb,h1,h2⟩:=hE u v hu ha
        exact List.any_eq_true.2 ⟨b,hb,by simp[h1,h2]⟩)
       rw[this,cond_true]
       dsimp only
       refine(CB g.length (fun v=>decide (Cn B (v:Int)≠[]∧Ds K (Cn B (v:Int)))) false (fun v hv=> ?_) ?_ rfl rfl).trans ?_
       ·have hwl:(Cn B (v:Int)).length≤16:=by
         have:=(withV_inc B (v:Int)).short (n:=B.length) (fun x hx=>by
          obtain⟨b,rfl,hb,_⟩:=mem_withV.1 hx;omega)
         omega
        simp only[Option.bind_some,dlt hv,cond_true,l9With_eq B K (v:Int) hB (by omega),wi (show v<4611686018427387904 by omega)]
        by_cases hne:Cn B (v:Int)=[]
        ·rw[hne];simp
        ·have e0:(((Cn B (v:Int)).length:Int)==0)=false:=by
          rw[beq_eq_false_iff_ne]
          have:=List.length_pos_iff.2 hne
          omega
         obtain⟨y,e2,hy2⟩:=reached_eq hB hK (Cn B (v:Int)) (by omega) hpairs (by omega) hne (withV_inc B (v:Int)).nodup
         rw[e0,cond_false,e2,Option.bind_some,Option.bind_some]
         by_cases hcv:Ds K (Cn B (v:Int))
         ·have:(y !=((Cn B (v:Int)).length:Int))=false:=by rw[bne_eq_false_iff_eq];exact hy2.2 hcv
          rw[this,cond_false,if_pos (decide_eq_true ⟨hne,hcv⟩)]
         ·have:(y !=((Cn B (v:Int)).length:Int))=true:=by rw[bne_iff_ne];exact fun h=>hcv (hy2.1 h)
          rw[this,cond_true,if_neg (by simpa using fun h=>hcv)]
       ·simp only[Option.bind_some,Ba,cond_false]
       ·congr 1
        rw[Bool.eq_iff_iff,C9,decide_eq_true_eq]
        simp only[decide_eq_true_eq]
        constructor
        ·intro hv
         exact⟨n1,n16,hm,hlk,hs,hc,hE,fun v h=>(hv v h).1,fun v h=>(hv v h).2⟩
        ·intro h v hv
         exact⟨h.some v hv,h.conn v hv⟩
end
end Go.Sx

namespace Go.Sx
section
variable {g B K : List (List Int)} (hg : GOk g) (hs : ∀ b ∈ B, SetOf b (g.length : Int)) (hBl : B.length ≤ 16)
include hg hs hBl
theorem masks_eq :D.W0 B=some (B.map mk):=by
 have h16:=hg.n16
 unfold D.W0
 refine(Dm B (fun s i=>(s,i)) mk (by omega) (fun s i hi _=> ?_) (fun s=> ?_)).trans rfl
 ·have hb:=hs _ (List.getElem_mem hi)
  have hl:=hb.length_le (by omega)
  simp only[dlt hi,cond_true,Ar hi,Option.bind_some,maskOf_eq _ (show Sh B[i] by unfold Sh;omega) (fun x hx=>(hb.2 x hx).1),wi (show i<4611686018427387904 by omega)]
 ·simp only[Ba,cond_false]
end
section
variable {g B K : List (List Int)} (hg : GOk g) (hB : Sh2 B) (hK : Sh2 K)
include hg hB hK
end
end Go.Sx

namespace Go.Sx
theorem elems_mk' {n:Nat}{x:List Int}(hn:n≤16)(hi:Inc x)(hr:∀z∈x,0≤z∧z<n):Ap (mk x)=x:=by
 refine Inc.ext (BJ _) hi (fun z=> ?_)
 rw[mem_elems]
 constructor
 ·rintro⟨v,_,h2,rfl⟩
  rw[Ev (fun y hy=>by have:=hr y hy;omega)] at h2
  exact of_decide_eq_true h2
 ·intro hz
  have:=hr z hz
  refine⟨z.toNat,by omega,?_,by omega⟩
  rw[Ev (fun y hy=>by have:=hr y hy;omega)]
  exact decide_eq_true (by rw[show ((z.toNat:Nat):Int)=z by omega];exact hz)
theorem Ee {α β γ:Type}(f:α→Option β)(h:β→γ):∀xs:List α,xs.findSome? (fun i=>(f i).map h)=(xs.findSome? f).map h
 |[]=>rfl
 |x::xs=>by
  rw[List.findSome?_cons,List.findSome?_cons]
  cases f x with
  |none=>exact Ee f h xs
  |some y=>rfl
def prt (s t:Int):Bool:=(iandNot .u32 s t)==0
theorem Fd {s t:Int}(hs:VS s)(ht:VS t):D.t (Ap s) (Ap t)=some (prt s t):=by
 have h1:=B2 s;have h2:=B2 t
 rw[l9Part_eq _ _ (show Sh (Ap s) by unfold Sh;omega) (show Sh (Ap t) by unfold Sh;omega)]
 congr 1
 unfold prt
 rw[Bool.eq_iff_iff,List.all_eq_true,beq_iff_eq,(VS.iandNot _ _).eq_zero]
 constructor
 ·intro h v hv
  rw[Bd hs ht]
  cases hh:has s v
  ·rfl
  ·have:=h (v:Int) ((Be hs).2 hh)
   rw[decide_eq_true_eq,Be ht] at this
   rw[this];rfl
 ·intro h x hx
  obtain⟨v,hv,h3,rfl⟩:=mem_elems.1 hx
  have:=h v hv
  rw[Bd hs ht,h3,Bool.true_and,Bool.not_eq_false'] at this
  rw[decide_eq_true_eq,Be ht];exact this
def ren (gone kept x:Int):Int:=if gone<(if x=gone then kept else x) then(if x=gone then kept else x)-1 else(if x=gone then kept else x)
def lnk (gone kept:Int)(l:List Int):Option (List Int):=if ren gone kept (l.getD 0 0)=ren gone kept (l.getD 1 0) then none else some (BN (ren gone kept (l.getD 0 0)) (ren gone kept (l.getD 1 0)))
structure TS (M:List Int)(K:List (List Int)):Prop where
 n16:M.length≤16
 vs:∀s∈M,VS s
 lk:∀l∈K,LinkIn M.length l
 k16:K.length≤16
theorem Fo {n g k:Nat}(hg:g<n)(hk:k<n)(hgk:g≠k){a:Nat}(ha:a<n):0≤ren g k a∧ren g k a<((n-1:Nat):Int):=by
 unfold ren
 by_cases e:(a:Int)=g
 ·simp only[e,if_true];split<;>omega
 ·simp only[e,if_false];split<;>omega
theorem lnk_in {n g k:Nat}(hg:g<n)(hk:k<n)(hgk:g≠k){l r:List Int}(hl:LinkIn n l)(h:lnk g k l=some r):LinkIn (n-1) r:=by
 obtain⟨a,b,rfl,hab,hb⟩:=hl
 unfold lnk at h
 simp only[List.getD_cons_zero,List.getD_cons_succ] at h
 have h1:=Fo hg hk hgk (show a<n by omega)
 have h2:=Fo hg hk hgk hb
 split at h
 ·cases h
 ·rename_i hne
  cases h
  generalize ren g k a=x at*
  generalize ren g k b=y at*
  refine⟨(min x y).toNat,(max x y).toNat,?_,by omega,by omega⟩
  unfold BN
  rw[show (((min x y).toNat:Nat):Int)=min x y by omega,show (((max x y).toNat:Nat):Int)=max x y by omega]
def B4 (g k:Nat)(K:List (List Int)):List (List Int):=K.filterMap (lnk g k)
theorem DX {n g k:Nat}{K:List (List Int)}(hK:∀l∈K,LinkIn n l)(hg:g<n)(hk:k<n)(hgk:g≠k):∀r∈B4 g k K,LinkIn (n-1) r:=fun r hr=>by
 obtain⟨l,hl,e⟩:=List.mem_filterMap.1 hr
 exact lnk_in hg hk hgk (hK l hl) e
theorem merged_len (g k:Nat)(K:List (List Int)):(B4 g k K).length≤K.length:=List.length_filterMap_le _ _
theorem E3 {xs:List (List Int)}(hl:xs.length≤1000000)(hg:∀x∈xs,B7 x):CI xs=some (xs.mergeSort BM):=by
 unfold CI;rw[if_pos ⟨hl,hg⟩]
theorem Ej {g k:Nat}(hg:g≤1000000)(hk:k≤1000000){x:Int}(h0:0≤x)(h1:x≤1000000):D.O x (g:Int) (k:Int)=some (ren g k x):=by
 unfold D.O ren
 rw[w64 (by omega) (by omega),w64 (by omega) (by omega)]
 by_cases e:x=(g:Int)
 ·have:(x==(g:Int))=true:=by simpa using e
  rw[this,cond_true]
  simp only[e,if_true]
  by_cases h:(g:Int)<(k:Int)
  ·rw[decide_eq_true h,cond_true,if_pos h]
  ·rw[decide_eq_false h,cond_false,if_neg h]
 ·have:(x==(g:Int))=false:=by simpa using e
  rw[this,cond_false]
  simp only[e,if_false]
  by_cases h:(g:Int)<x
  ·rw[decide_eq_true h,cond_true,if_pos h]
  ·rw[decide_eq_false h,cond_false,if_neg h]
theorem DA {α β:Type}(f:α→Option β){l:List α}{i:Nat}(hi:i<l.length):(l.take (i+1)).filterMap f=(l.take i).filterMap f++(f l[i]).toList:=by
 rw[List.take_succ_eq_append_getElem hi,List.filterMap_append]
 cases hf:f l[i]<;>simp[hf]
section
variable {M : List Int} {K : List (List Int)} (h : TS M K) {g k : Nat} (hg : g < M.length) (hk : k < M.length) (hgk : g ≠ k)
include h hg hk hgk
theorem impl_merge :D.g M K (g:Int) (k:Int)=some (M.eraseIdx g,(B4 g k K).mergeSort BM):=by
 have h16:=h.n16;have hk16:=h.k16
 unfold D.g
 refine(Bx (fun i=>((K.take i).filterMap (lnk g k),(i:Int))) K.length (B4 g k K) (by simp) (fun i hi=> ?_) ?_).trans ?_
 ·obtain⟨a,b,e,hab,hb⟩:=h.lk _ (List.getElem_mem hi)
  have i0:idx K[i] 0=some (a:Int):=by rw[e];rfl
  have i1:idx K[i] 1=some (b:Int):=by rw[e];rfl
  simp only[dlt hi,cond_true,Ar hi,Option.bind_some,i0,i1,Ej (show g≤1000000 by omega) (show k≤1000000 by omega) (show (0:Int)≤(a:Int) by omega) (by omega),Ej (show g≤1000000 by omega) (show k≤1000000 by omega) (show (0:Int)≤(b:Int) by omega) (by omega),wi (show i<4611686018427387904 by omega),DA (lnk g k) hi]
  have el:lnk (g:Int) (k:Int) K[i]=if ren g k a=ren g k b then none else some (BN (ren g k a) (ren g k b)):=by rw[e];rfl
  rw[el]
  have hfl:((K.take i).filterMap (lnk g k)).length≤16:=by
   have:=List.length_filterMap_le (lnk (g:Int) (k:Int)) (K.take i)
   rw[List.length_take] at this;omega
  by_cases hc:ren g k a=ren g k b
  ·have:(ren g k a !=ren g k b)=false:=by simpa using hc
   rw[this,cond_false,if_pos hc];simp
  ·have:(ren g k a !=ren g k b)=true:=by simpa using hc
   rw[this,cond_true,if_neg hc,EV,Option.bind_some,A4 (by simp;omega),Option.bind_some];simp
 ·simp only[Ba,cond_false,List.take_length];rfl
 ·have hml:=merged_len g k K
  rw[E3 (by omega) (fun x hx=>(DX h.lk hg hk hgk x hx).good (by omega)),Option.bind_some]
  unfold D.i1 D.u1 delD
  rw[A4 (by simp;omega)]
  simp only[Option.bind_some,List.nil_append]
  rw[wi (show g<4611686018427387904 by omega),if_pos ⟨by omega,by omega,by omega⟩,Option.bind_some]
  congr 2
  rw[Int.toNat_natCast,Int.toNat_natCast,List.eraseIdx_eq_take_drop_succ]
def CE (acc xs:List (List Int)):List (List Int):=xs.foldl (fun acc l=>ins l acc) acc
omit h hg hk hgk in
theorem DO :∀(xs acc:List (List Int)),DV acc→(CE acc xs).Perm (xs++acc)∧DV (CE acc xs)
 |[],acc,h=>⟨List.Perm.refl _,h⟩
 |x::xs,acc,h=>by
  obtain⟨h1,h2⟩:=DO xs (ins x acc) (ins_sorted x h)
  refine⟨h1.trans ?_,h2⟩
  exact((ins_perm x acc).append_left xs).trans List.perm_middle
omit h hg hk hgk in
theorem FD {xs:List (List Int)}(hx:∀x∈xs,B7 x):CE [] xs=xs.mergeSort BM:=by
 obtain⟨h1,h2⟩:=DO xs [] (by simp[DV])
 rw[List.append_nil] at h1
 exact Fi (h1.trans (BC xs).symm) (fun x hx'=>hx x ((BC xs).mem_iff.1 hx')) h2 (Dv xs)
omit h hg hk hgk in
theorem Fx (acc xs:List (List Int))(x:List Int):CE acc (xs++[x])=ins x (CE acc xs):=by
 unfold CE;rw[List.foldl_append];rfl
theorem spec_merge :D.Q (M.map Ap) K (g:Int) (k:Int)=some ((M.eraseIdx g).map Ap,(B4 g k K).mergeSort BM):=by
 have h16:=h.n16;have hk16:=h.k16
 unfold D.Q
 refine(Bx (fun i=>((i:Int),(if i≤g then M.take i else M.take g++(M.drop (g+1)).take (i-(g+1))).map Ap)) M.length ((M.eraseIdx g).map Ap) (by simp) (fun i hi=> ?_) ?_).trans ?_
 ·have hd:decide ((i:Int)<((M.map Ap).length:Int))=true:=by simp;omega
  have hcp:D.e (Ap M[i])=some (Ap M[i]):=DP _ (by have:=B2 M[i];unfold Sh;omega)
  simp only[hd,cond_true,wi (show i<4611686018427387904 by omega)]
  by_cases e:i=g
  ·subst e
   have:(((i:Nat):Int) !=(i:Int))=false:=by simp
   rw[this,cond_false,if_pos (Nat.le_refl i),if_neg (by omega)];simp
  ·have:(((i:Nat):Int) !=(g:Int))=true:=by rw[bne_iff_ne];omega
   rw[this,cond_true,Ar (show i<(M.map Ap).length by simpa using hi),Option.bind_some,List.getElem_map,hcp,Option.bind_some]
   rcases Nat.lt_or_gt_of_ne e with c|c
   ·rw[if_pos (by omega),if_pos (by omega),A4 (by simp;omega),Option.bind_some,List.take_succ_eq_append_getElem hi,List.map_append];rfl
   ·rw[if_neg (by omega),if_neg (by omega),A4 (by simp;omega),Option.bind_some]
    have e2:(M.drop (g+1)).take (i+1-(g+1))=(M.drop (g+1)).take (i-(g+1))++[M[i]]:=by
     rw[show i+1-(g+1)=(i-(g+1))+1 by omega,List.take_succ_eq_append_getElem (by simp;omega)]
     congr 2
     rw[List.getElem_drop];congr 1;omega
    rw[e2];simp
 ·have hd:decide (((M.length:Nat):Int)<((M.map Ap).length:Int))=false:=by simp
  simp only[hd,cond_false]
  rw[if_neg (by omega),List.eraseIdx_eq_take_drop_succ,List.take_of_length_le (l:=M.drop (g+1)) (by simp)]
 ·refine(Bx (fun i=>((i:Int),CE [] ((K.take i).filterMap (lnk g k)))) K.length (CE [] (B4 g k K)) (by simp[CE]) (fun i hi=> ?_) ?_).trans ?_
  ·obtain⟨a,b,e,hab,hb⟩:=h.lk _ (List.getElem_mem hi)
   have i0:idx K[i] 0=some (a:Int):=by rw[e];rfl
   have i1:idx K[i] 1=some (b:Int):=by rw[e];rfl
   have ra:=Fo hg hk hgk (show a<M.length by omega)
   have rb:=Fo hg hk hgk hb
   have el:lnk (g:Int) (k:Int) K[i]=if ren g k a=ren g k b then none else some (BN (ren g k a) (ren g k b)):=by rw[e];rfl
   simp only[dlt hi,cond_true,Ar hi,Option.bind_some,i0,i1,wi (show i<4611686018427387904 by omega),DA (lnk g k) hi,el]
   have hsub:∀x:Int,(cond (x==(g:Int)) (some (k:Int)) (some x))=some (if x=(g:Int) then(k:Int) else x):=fun x=>by
    by_cases hx:x=(g:Int)
    ·simp[hx]
    ·have:(x==(g:Int))=false:=by simpa using hx
     rw[this,cond_false,if_neg hx]
   have hfl:∀x:Int,D.v (decide ((g:Int)<x))=some (if(g:Int)<x then 1 else 0):=fun x=>by
    unfold D.v
    by_cases hx:(g:Int)<x
    ·simp[hx]
    ·simp[hx]
   have hren:∀x:Int,ren g k x=(if x=(g:Int) then(k:Int) else x)-(if(g:Int)<(if x=(g:Int) then(k:Int) else x) then 1 else 0):=fun x=>by
    unfold ren
    by_cases hx:(g:Int)<(if x=(g:Int) then(k:Int) else x)
    ·rw[if_pos hx,if_pos hx]
    ·rw[if_neg hx,if_neg hx];omega
   have ne1:(if(a:Int)=(g:Int) then(k:Int) else a)≠(g:Int):=by split<;>omega
   have ne2:(if(b:Int)=(g:Int) then(k:Int) else b)≠(g:Int):=by split<;>omega
   have hA:=hren (a:Int);have hBb:=hren (b:Int)
   rw[hsub,Option.bind_some,hsub,Option.bind_some]
   generalize (if(a:Int)=(g:Int) then(k:Int) else a)=x at*
   generalize (if(b:Int)=(g:Int) then(k:Int) else b)=y at*
   have hiff:ren g k a=ren g k b↔x=y:=by
    rw[hA,hBb]
    constructor
    ·intro hh;split at hh<;>split at hh<;>omega
    ·rintro rfl;rfl
   by_cases hc:x=y
   ·have:(x !=y)=false:=by simpa using hc
    rw[this,cond_false,if_pos (hiff.2 hc)];simp
   ·have:(x !=y)=true:=by simpa using hc
    rw[this,cond_true,if_neg (fun hh=>hc (hiff.1 hh)),hfl,Option.bind_some,hfl,Option.bind_some,←hA,←hBb,w64 (by omega) (by omega),w64 (by omega) (by omega)]
    have hlen:(CE [] ((K.take i).filterMap (lnk g k))).length≤16:=by
     obtain⟨hp,_⟩:=DO ((K.take i).filterMap (lnk g k)) [] (by simp[DV])
     rw[hp.length_eq,List.append_nil]
     have:=List.length_filterMap_le (lnk (g:Int) (k:Int)) (K.take i)
     rw[List.length_take] at this;omega
    have hin:LinkIn (M.length-1) (BN (ren g k a) (ren g k b)):=lnk_in hg hk hgk (h.lk _ (List.getElem_mem hi)) (by rw[el,if_neg (fun hh=>hc (hiff.1 hh))])
    rw[Ff (fun x hx=> ?_) (hin.good (by omega)) (by omega),Option.bind_some,Option.toList_some,Fx]
    obtain⟨hp,_⟩:=DO ((K.take i).filterMap (lnk g k)) [] (by simp[DV])
    rw[List.append_nil] at hp
    exact((DX (fun l hl=>h.lk l (List.mem_of_mem_take hl)) hg hk hgk x (hp.mem_iff.1 hx))).good (by omega)
  ·simp only[Ba,cond_false,List.take_length];rfl
  ·rw[FD (fun x hx=>(DX h.lk hg hk hgk x hx).good (by omega))]
theorem TS.merge :TS (M.eraseIdx g) ((B4 g k K).mergeSort BM):=by
 have h16:=h.n16
 have hl:(M.eraseIdx g).length=M.length-1:=by rw[List.length_eraseIdx,if_pos hg]
 refine⟨by omega,fun s hs=>h.vs s (List.mem_of_mem_eraseIdx hs),fun l hl'=> ?_,?_⟩
 ·rw[hl]
  exact DX h.lk hg hk hgk l ((BC _).mem_iff.1 hl')
 ·rw[(BC _).length_eq]
  exact Nat.le_trans (merged_len g k K) h.k16
end
def Dh (M:List Int)(l:List Int):Option (Nat×Nat):=
 if prt (M.getD (l.getD 1 0).toNat 0) (M.getD (l.getD 0 0).toNat 0) then some ((l.getD 1 0).toNat,(l.getD 0 0).toNat)
 else if prt (M.getD (l.getD 0 0).toNat 0) (M.getD (l.getD 1 0).toNat 0) then some ((l.getD 0 0).toNat,(l.getD 1 0).toNat) else none
def Ck (M:List Int)(K:List (List Int)):Option (Nat×Nat):=(List.range K.length).findSome? (fun i=>Dh M (K.getD i []))
section
variable {M : List Int} {K : List (List Int)} (h : TS M K)
include h
theorem spareM_in {l:List Int}(hl:l∈K){g k:Nat}(e:Dh M l=some (g,k)):g<M.length∧k<M.length∧g≠k:=by
 obtain⟨a,b,rfl,hab,hb⟩:=h.lk l hl
 unfold Dh at e
 simp only[List.getD_cons_zero,List.getD_cons_succ,Int.toNat_natCast] at e
 split at e
 ·cases e;omega
 ·split at e
  ·cases e;omega
  ·cases e
theorem spare_in {g k:Nat}(e:Ck M K=some (g,k)):g<M.length∧k<M.length∧g≠k:=by
 obtain⟨i,hi,e2⟩:=List.exists_of_findSome?_eq_some e
 have hi':=List.mem_range.1 hi
 rw[AD hi'] at e2
 exact spareM_in h (List.getElem_mem hi') e2
theorem EI :D.g0 (M.map Ap) K=some (match Ck M K with|some (g,k)=>((g:Int),(k:Int))|none=>(-1,-1)):=by
 have h16:=h.n16;have hk16:=h.k16
 unfold D.g0
 have key:=Do (ρ:=Unit ⊕ (Int×Int)) (step:=(fun(x_134:Int)=>cond (decide (x_134<(K.length:Int))) ((idx K x_134).bind fun e_200=>(idx e_200 0).bind fun e_206=>(idx K x_134).bind fun e_212=>(idx e_212 1).bind fun e_218=>(idx (M.map Ap) e_218).bind fun e_224=>(idx (M.map Ap) e_206).bind fun e_230=>(D.t e_224 e_230).bind fun y_236=>cond y_236 (some (.inr (.inr (e_218,e_206)))) ((idx (M.map Ap) e_206).bind fun e_242=>(idx (M.map Ap) e_218).bind fun e_248=>(D.t e_242 e_248).bind fun y_254=>cond y_254 (some (.inr (.inr (e_206,e_218)))) (some (.inl (IntKind.i64.wrap (x_134+1)))))) (some (.inr (.inl ()))))) K.length (fun i=>(Dh M (K.getD i [])).map fun p=> .inr ((p.1:Int),(p.2:Int))) (.inl ()) (fun i hi=>by
  obtain⟨a,b,e,hab,hb⟩:=h.lk _ (List.getElem_mem hi)
  have i0:idx K[i] 0=some (a:Int):=by rw[e];rfl
  have i1:idx K[i] 1=some (b:Int):=by rw[e];rfl
  have hm:∀x:Nat,x<M.length→idx (M.map Ap) (x:Int)=some (Ap (M.getD x 0))∧VS (M.getD x 0):=fun x hx=>by
   rw[Ar (by simpa using hx),List.getElem_map,AD hx]
   exact⟨rfl,h.vs _ (List.getElem_mem hx)⟩
  obtain⟨ma,va⟩:=hm a (by omega)
  obtain⟨mb,vb⟩:=hm b hb
  simp only[dlt hi,cond_true,Ar hi,Option.bind_some,i0,i1,ma,mb,Fd vb va,Fd va vb,wi (show i<4611686018427387904 by omega),AD hi]
  have es:Dh M K[i]=if prt (M.getD b 0) (M.getD a 0) then some (b,a) else if prt (M.getD a 0) (M.getD b 0) then some (a,b) else none:=by rw[e];rfl
  rw[es]
  cases prt (M.getD b 0) (M.getD a 0)
  ·cases prt (M.getD a 0) (M.getD b 0)<;>rfl
  ·rfl) (by simp only[Ba,cond_false])
 rw[key,Option.bind_some,Ee]
 unfold Ck
 cases (List.range K.length).findSome? (fun i=>Dh M (K.getD i [])) with
 |none=>rfl
 |some p=>rfl
theorem EO :An (σ:=Int) (ρ:=((List Int)×(List (List Int))×Bool)) (fun(x_1473:Int)=>cond (decide (x_1473<(K.length:Int))) ((idx K x_1473).bind fun e_1582=>(idx e_1582 0).bind fun e_1588=>(idx e_1582 1).bind fun e_1594=>(idx M e_1594).bind fun e_1602=>(idx M e_1588).bind fun e_1608=>cond ((iandNot .u32 e_1602 e_1608)==0) ((D.g M K e_1594 e_1588).bind fun y_1623=>some (.inr (y_1623.1,y_1623.2,true))) ((idx M e_1588).bind fun e_1638=>(idx M e_1594).bind fun e_1644=>cond ((iandNot .u32 e_1638 e_1644)==0) ((D.g M K e_1588 e_1594).bind fun y_1659=>some (.inr (y_1659.1,y_1659.2,true))) (some (.inl (IntKind.i64.wrap (x_1473+1)))))) (some (.inr (M,K,false)))) 0=
  some (match Ck M K with|some (g,k)=>(M.eraseIdx g,(B4 g k K).mergeSort BM,true)|none=>(M,K,false)):=by
 have h16:=h.n16;have hk16:=h.k16
 have key:=Do (ρ:=((List Int)×(List (List Int))×Bool)) (step:=(fun(x_1473:Int)=>cond (decide (x_1473<(K.length:Int))) ((idx K x_1473).bind fun e_1582=>(idx e_1582 0).bind fun e_1588=>(idx e_1582 1).bind fun e_1594=>(idx M e_1594).bind fun e_1602=>(idx M e_1588).bind fun e_1608=>cond ((iandNot .u32 e_1602 e_1608)==0) ((D.g M K e_1594 e_1588).bind fun y_1623=>some (.inr (y_1623.1,y_1623.2,true))) ((idx M e_1588).bind fun e_1638=>(idx M e_1594).bind fun e_1644=>cond ((iandNot .u32 e_1638 e_1644)==0) ((D.g M K e_1588 e_1594).bind fun y_1659=>some (.inr (y_1659.1,y_1659.2,true))) (some (.inl (IntKind.i64.wrap (x_1473+1)))))) (some (.inr (M,K,false))))) K.length (fun i=>(Dh M (K.getD i [])).map fun p=>(M.eraseIdx p.1,(B4 p.1 p.2 K).mergeSort BM,true)) (M,K,false) (fun i hi=>by
  obtain⟨a,b,e,hab,hb⟩:=h.lk _ (List.getElem_mem hi)
  have i0:idx K[i] 0=some (a:Int):=by rw[e];rfl
  have i1:idx K[i] 1=some (b:Int):=by rw[e];rfl
  have hm:∀x:Nat,x<M.length→idx M (x:Int)=some (M.getD x 0):=fun x hx=>by
   rw[Ar hx,AD hx]
  have ma:=hm a (by omega)
  have mb:=hm b hb
  simp only[dlt hi,cond_true,Ar hi,Option.bind_some,i0,i1,ma,mb,impl_merge h hb (show a<M.length by omega) (by omega),impl_merge h (show a<M.length by omega) hb (by omega),wi (show i<4611686018427387904 by omega),AD hi]
  have es:Dh M K[i]=if prt (M.getD b 0) (M.getD a 0) then some (b,a) else if prt (M.getD a 0) (M.getD b 0) then some (a,b) else none:=by rw[e];rfl
  rw[es]
  have p1:((iandNot .u32 (M.getD b 0) (M.getD a 0))==0)=prt (M.getD b 0) (M.getD a 0):=rfl
  have p2:((iandNot .u32 (M.getD a 0) (M.getD b 0))==0)=prt (M.getD a 0) (M.getD b 0):=rfl
  rw[p1,p2]
  cases prt (M.getD b 0) (M.getD a 0)
  ·cases prt (M.getD a 0) (M.getD b 0)<;>rfl
  ·rfl) (by simp only[Ba,cond_false])
 rw[key,Ee]
 unfold Ck
 cases (List.range K.length).findSome? (fun i=>Dh M (K.getD i [])) with
 |none=>rfl
 |some p=>rfl
end
theorem tidy_both :∀(m:Nat) (M:List Int) (K:List (List Int)),M.length≤m→TS M K→∃M' K',TS M' K'∧
  An (σ:=(List Int)×(List (List Int))×Bool) (ρ:=((List Int)×(List (List Int)))) (fun(s_853:(List Int)×(List (List Int))×Bool)=>match s_853 with|(l_856,l_861,b_866)=>cond b_866 ((An (σ:=Int) (ρ:=((List Int)×(List (List Int))×Bool)) (fun(x_1473:Int)=>cond (decide (x_1473<(l_861.length:Int))) ((idx l_861 x_1473).bind fun e_1582=>(idx e_1582 0).bind fun e_1588=>(idx e_1582 1).bind fun e_1594=>(idx l_856 e_1594).bind fun e_1602=>(idx l_856 e_1588).bind fun e_1608=>cond ((iandNot .u32 e_1602 e_1608)==0) ((D.g l_856 l_861 e_1594 e_1588).bind fun y_1623=>some (.inr (y_1623.1,y_1623.2,true))) ((idx l_856 e_1588).bind fun e_1638=>(idx l_856 e_1594).bind fun e_1644=>cond ((iandNot .u32 e_1638 e_1644)==0) ((D.g l_856 l_861 e_1588 e_1594).bind fun y_1659=>some (.inr (y_1659.1,y_1659.2,true))) (some (.inl (IntKind.i64.wrap (x_1473+1)))))) (some (.inr (l_856,l_861,false)))) 0).bind fun(l_1569,l_1574,b_1579)=>some (.inl (l_1569,l_1574,b_1579))) (some (.inr (l_856,l_861)))) (M,K,true)=some (M',K')∧
  An (σ:=(List (List Int))×(List (List Int))) (ρ:=(((List (List Int)))×((List (List Int)))×Bool)) (fun(s_125:(List (List Int))×(List (List Int)))=>match s_125 with|(l_128,l_133)=>(D.g0 l_128 l_133).bind fun y_139=>cond (decide (y_139.1<0)) (some (.inr (l_128,l_133,true))) ((D.Q l_128 l_133 y_139.1 y_139.2).bind fun y_160=>some (.inl (y_160.1,y_160.2)))) (M.map Ap,K)=some (M'.map Ap,K',true)∧Ck M' K'=none∧
  ∀I:List Int→List (List Int)→Prop,I M K→(∀M K g k,TS M K→Ck M K=some (g,k)→I M K→I (M.eraseIdx g) ((B4 g k K).mergeSort BM))→I M' K':=by
 intro m
 induction m with
 |zero=>
  intro M K hm h
  have hK:K=[]:=by
   cases K with
   |nil=>rfl
   |cons l K=>
    obtain⟨a,b,_,h1,h2⟩:=h.lk l (by simp)
    omega
  subst hK
  refine⟨M,[],h,?_,?_,rfl,fun I hI _=>hI⟩
  ·rw[Bu (s':=(M,[],false)) (by simp only[cond_true];rw[EO h];rfl),Bi (r:=(M,[])) (by rfl)]
  ·rw[Bi (r:=(M.map Ap,[],true)) (by simp only[EI h];rfl)]
 |succ m ih=>
  intro M K hm h
  cases hsp:Ck M K with
  |none=>
   refine⟨M,K,h,?_,?_,hsp,fun I hI _=>hI⟩
   ·rw[Bu (s':=(M,K,false)) (by simp only[cond_true];rw[EO h,hsp];rfl),Bi (r:=(M,K)) (by rfl)]
   ·rw[Bi (r:=(M.map Ap,K,true)) (by simp only[EI h,hsp];rfl)]
  |some p=>
   obtain⟨g,k⟩:=p
   obtain⟨hg,hk,hgk⟩:=spare_in h hsp
   obtain⟨M',K',h1,h2,h3,h4,h5⟩:=ih (M.eraseIdx g) ((B4 g k K).mergeSort BM) (by rw[List.length_eraseIdx,if_pos hg];omega) (h.merge hg hk hgk)
   refine⟨M',K',h1,?_,?_,h4,fun I hI hs=>h5 I (hs M K g k h hsp hI) hs⟩
   ·rw[Bu (s':=(M.eraseIdx g,(B4 g k K).mergeSort BM,true)) (by simp only[cond_true];rw[EO h,hsp];rfl)]
    exact h2
   ·have hn:decide ((g:Int)<0)=false:=by simp
    rw[Bu (s':=((M.eraseIdx g).map Ap,(B4 g k K).mergeSort BM)) (by simp only[EI h,hsp,Option.bind_some,hn,cond_false,spec_merge h hg hk hgk])]
    exact h3
end Go.Sx

namespace Go.Sx
theorem loop_set {α S ρ β:Type}{step:S→Option (S ⊕ ρ)}{k:ρ→Option β}{s0:S}(xs ys:List α)(hl:xs.length=ys.length)(enc:List α→Int→S)(r:ρ)(h0:enc ys 0=s0)
  (hstep:∀l (i:Nat) (h:i<xs.length),l.length=xs.length→step (enc l i)=some (.inl (enc (l.set i xs[i]) ((i+1:Nat):Int))))
  (hend:step (enc xs xs.length)=some (.inr r)):(An step s0).bind k=k r:=by
 refine Bx (fun i=>enc (xs.take i++ys.drop i) (i:Int)) xs.length r (by simpa using h0) (fun i hi=> ?_) ?_
 ·have e:(xs.take i++ys.drop i).set i xs[i]=xs.take (i+1)++ys.drop (i+1):=by
   rw[List.take_succ_eq_append_getElem hi,List.drop_eq_getElem_cons (show i<ys.length by omega),List.set_append_right _ _ (by simp;omega)]
   have e0:i-(xs.take i).length=0:=by rw[List.length_take];omega
   rw[e0,List.set_cons_zero,List.append_assoc];rfl
  rw[hstep _ i hi (by simp;omega),e]
 ·rw[←hend,List.take_length,hl,List.drop_length,List.append_nil]
theorem toS_eq (xs:List Int)(h:Sh xs):D.s xs=some xs:=by
 unfold Sh at h
 unfold D.s
 rw[CJ (by omega) (by omega),Option.bind_some]
 refine(loop_set xs (List.replicate xs.length 0) (by simp) (fun l i=>(l,i)) xs rfl (fun l i hi hl=> ?_) ?_).trans rfl
 ·simp only[dlt hi,cond_true,Ar hi,Ar (show i<l.length by omega),Option.bind_some,wi (show i<4611686018427387904 by omega),Int.toNat_natCast]
 ·simp only[Ba,cond_false]
theorem toSS_eq (xs:List (List Int))(h:Sh2 xs):D.M0 xs=some xs:=by
 obtain⟨h,h2⟩:=h
 unfold Sh at h
 unfold D.M0
 rw[CJ (by omega) (by omega),Option.bind_some]
 refine(loop_set xs (List.replicate xs.length []) (by simp) (fun l i=>(l,i)) xs rfl (fun l i hi hl=> ?_) ?_).trans rfl
 ·simp only[dlt hi,cond_true,Ar hi,Ar (show i<l.length by omega),Option.bind_some,wi (show i<4611686018427387904 by omega),Int.toNat_natCast,toS_eq _ (h2 _ (List.getElem_mem hi))]
 ·simp only[Ba,cond_false]
theorem toGraph_eq (g:List (List Int))(h:Sh2 g):D.x g=some g:=by
 unfold D.x;rw[toSS_eq g h];rfl
theorem FF {α:Type}[DecidableEq α](xs ys:List α)(d:α)(hl:xs.length=ys.length):(List.range xs.length).all (fun i=>decide (xs.getD i d=ys.getD i d))=decide (xs=ys):=by
 rw[Bool.eq_iff_iff,C9,decide_eq_true_eq]
 constructor
 ·intro h
  apply List.ext_getElem hl
  intro i h1 h2
  have:=h i h1
  rw[AD h1,AD h2] at this
  exact of_decide_eq_true this
 ·rintro rfl i _;simp
theorem eqS_eq (xs ys:List Int)(h:Sh xs):D.n xs ys=some (decide (xs=ys)):=by
 unfold Sh at h
 unfold D.n
 by_cases hl:xs.length=ys.length
 ·have e:((xs.length:Int) !=(ys.length:Int))=false:=by simp[hl]
  rw[e,cond_false,←FF xs ys 0 hl]
  refine CB xs.length _ false (fun i hi=> ?_) ?_ rfl rfl
  ·have hi':i<ys.length:=by omega
   simp only[dlt hi,cond_true,Ar hi,Ar hi',Option.bind_some,wi (show i<4611686018427387904 by omega),AD hi,AD hi']
   by_cases hc:xs[i]=ys[i]
   ·simp[hc]
   ·have:(xs[i] !=ys[i])=true:=by simpa using hc
    simp[hc,this]
  ·simp only[Ba,cond_false]
 ·have e:((xs.length:Int) !=(ys.length:Int))=true:=by simp;omega
  have:xs≠ys:=by rintro rfl;exact hl rfl
  simp[e,this]
theorem eqSS_eq (xs ys:List (List Int))(h:Sh2 xs):D.D xs ys=some (decide (xs=ys)):=by
 obtain⟨h,h2⟩:=h
 unfold Sh at h
 unfold D.D
 by_cases hl:xs.length=ys.length
 ·have e:((xs.length:Int) !=(ys.length:Int))=false:=by simp[hl]
  rw[e,cond_false,←FF xs ys [] hl]
  refine CB xs.length _ false (fun i hi=> ?_) ?_ rfl rfl
  ·have hi':i<ys.length:=by omega
   simp only[dlt hi,cond_true,Ar hi,Ar hi',Option.bind_some,wi (show i<4611686018427387904 by omega),AD hi,AD hi',eqS_eq _ _ (h2 _ (List.getElem_mem hi))]
   by_cases hc:xs[i]=ys[i]
   ·simp[hc]
   ·simp[hc]
  ·simp only[Ba,cond_false]
 ·have e:((xs.length:Int) !=(ys.length:Int))=true:=by simp;omega
  have:xs≠ys:=by rintro rfl;exact hl rfl
  simp[e,this]
theorem eqGraph_eq (xs ys:List (List Int))(h:Sh2 xs):D.v0 xs ys=some (decide (xs=ys)):=by
 unfold D.v0;rw[eqSS_eq xs ys h,Option.bind_some];cases decide (xs=ys)<;>rfl
def tot :List (List Int)→Int
 |[]=>0
 |x::xs=>x.length+tot xs
theorem BL :∀xs,0≤tot xs
 |[]=>Int.le_refl _
 |x::xs=>by have:=BL xs;simp only[tot];omega
theorem Fs :∀xs ys,tot (xs++ys)=tot xs+tot ys
 |[],ys=>by simp[tot]
 |x::xs,ys=>by simp only[List.cons_append,tot,Fs xs ys];omega
theorem tot_mem :∀{xs:List (List Int)} {x},x∈xs→(x.length:Int)≤tot xs
 |y::xs,x,h=>by
  have:=BL xs
  simp only[tot]
  rcases List.mem_cons.1 h with rfl|h
  ·omega
  ·have:=tot_mem h;omega
theorem tot_take {xs:List (List Int)}{i:Nat}(h:i<xs.length):tot (xs.take (i+1))=tot (xs.take i)+xs[i].length:=by
 rw[List.take_succ_eq_append_getElem h,Fs];simp[tot]
theorem tot_le {xs:List (List Int)}{n:Int}(h:∀x∈xs,(x.length:Int)≤n):tot xs≤xs.length*n:=by
 induction xs with
 |nil=>simp[tot]
 |cons x xs ih=>
  have:=ih (fun y hy=>h y (by simp[hy]))
  have:=h x (by simp)
  simp only[tot,List.length_cons,Int.natCast_add,Int.add_mul];omega
theorem Sh2.of_tot {xs:List (List Int)}(h:Sh xs)(h2:tot xs≤4294967296):Sh2 xs:=⟨h,fun x hx=>by have:=tot_mem hx;unfold Sh;omega⟩
theorem szS_eq (xs:List Int)(k:Int)(hx:(xs.length:Int)≤9223372036854775807)(h0:0≤k)(h1:k≤1048576):
  D.q xs k=some (if(xs.length:Int)≤k then k-xs.length else-1):=by
 unfold D.q
 rw[w64 (by omega) (by omega)]
 by_cases h:k-(xs.length:Int)<0
 ·rw[if_neg (by omega)];simp[h]
 ·rw[if_pos (by omega)];simp[h]
theorem szSS_eq (xs:List (List Int))(k:Int)(hx:(xs.length:Int)≤9223372036854775807)(hx2:∀x∈xs,(x.length:Int)≤9223372036854775807)(h0:0≤k)(h1:k≤1048576):
  ∃y,D.x0 xs k=some y∧(y<0∨(y+xs.length+tot xs=k∧0≤y)):=by
 unfold D.x0
 rw[w64 (by omega) (by omega)]
 by_cases h:k-(xs.length:Int)<0
 ·simp only[h,decide_true,cond_true];exact⟨-1,rfl,.inl (by omega)⟩
 ·simp only[h,decide_false,cond_false]
  have key:∀(n i:Nat) (l:Int),i+n=xs.length→0≤l→l+tot (xs.take i)=k-xs.length→
    ∃r,An (σ:=Int×Int) (ρ:=(Int) ⊕ (Int)) (fun(s_39:Int×Int)=>match s_39 with|(x_42,x_43)=>cond (decide (x_43<(xs.length:Int))) ((idx xs x_43).bind fun e_64=>(D.q e_64 x_42).bind fun y_70=>cond (decide (y_70<0)) (some (.inr (.inr (-1)))) (some (.inl (y_70,(IntKind.i64.wrap (x_43+1)))))) (some (.inr (.inl x_42)))) (l,(i:Int))=some r∧
     (r= .inr (-1)∨∃y,r= .inl y∧y+xs.length+tot xs=k∧0≤y):=by
   intro n
   induction n with
   |zero=>
    intro i l hi hl he
    obtain rfl:i=xs.length:=by omega
    refine⟨.inl l,Bi (by simp only[Ba,cond_false]),.inr ⟨l,rfl,?_,hl⟩⟩
    rw[List.take_length] at he;omega
   |succ n ih=>
    intro i l hi hl he
    have hil:i<xs.length:=by omega
    have ht:=BL (xs.take i)
    have e1:=szS_eq xs[i] l (hx2 _ (List.getElem_mem hil)) hl (by omega)
    by_cases hc:(xs[i].length:Int)≤l
    ·rw[if_pos hc] at e1
     obtain⟨r,hr,hp⟩:=ih (i+1) (l-xs[i].length) (by omega) (by omega) (by rw[tot_take hil];omega)
     refine⟨r,?_,hp⟩
     rw[Bu (s':=(l-xs[i].length,((i+1:Nat):Int)))]
     ·exact hr
     ·have hd:decide (l-(xs[i].length:Int)<0)=false:=by simp;omega
      simp only[dlt hil,cond_true,Ar hil,Option.bind_some,e1,hd,cond_false,wi (show i<4611686018427387904 by omega)]
    ·rw[if_neg hc] at e1
     refine⟨.inr (-1),Bi ?_,.inl rfl⟩
     have hd:decide ((-1:Int)<0)=true:=by decide
     simp only[dlt hil,cond_true,Ar hil,Option.bind_some,e1,hd]
  obtain⟨r,hr,hp⟩:=key xs.length 0 (k-xs.length) (by omega) (by omega) (by simp[tot])
  rw[show ((0:Nat):Int)=0 from rfl] at hr
  rw[hr,Option.bind_some]
  rcases hp with rfl|⟨y,rfl,h1,h2⟩
  ·exact⟨-1,rfl,.inl (by omega)⟩
  ·exact⟨y,rfl,.inr ⟨h1,h2⟩⟩
theorem szGraph_eq (xs:List (List Int))(k:Int)(hx:(xs.length:Int)≤9223372036854775807)(hx2:∀x∈xs,(x.length:Int)≤9223372036854775807)(h0:0≤k)(h1:k≤1048576):
  ∃y,D.a1 xs k=some y∧(y<0∨(y+xs.length+tot xs=k∧0≤y)):=by
 obtain⟨y,e,h⟩:=szSS_eq xs k hx hx2 h0 h1
 unfold D.a1
 rw[e,Option.bind_some]
 by_cases hy:y<0
 ·simp only[hy,decide_true,cond_true];exact⟨-1,rfl,.inl (by omega)⟩
 ·simp only[hy,decide_false,cond_false];exact⟨y,rfl,h⟩
def Cf (k:Int)(n:Nat):List Int:=(List.range n).map fun(i:Nat)=>k+(i:Int)
theorem Dp (k:Int)(n:Nat):(Cf k n).length=n:=by simp[Cf]
theorem numsI_get (k:Int){n i:Nat}(h:i<(Cf k n).length):(Cf k n)[i]=k+(i:Int):=by simp[Cf]
def Bv (k:Int):List (List Int)→List (List Int)
 |[]=>[]
 |x::xs=>Cf k x.length::Bv (k+x.length) xs
theorem marked_app :∀xs ys k,Bv k (xs++ys)=Bv k xs++Bv (k+tot xs) ys
 |[],ys,k=>by simp[Bv,tot]
 |x::xs,ys,k=>by simp only[List.cons_append,Bv,marked_app xs ys,tot];rw[show k+(x.length:Int)+tot xs=k+(x.length+tot xs) by omega]
theorem Dd :∀xs k,(Bv k xs).length=xs.length
 |[],_=>rfl
 |x::xs,k=>by simp[Bv,Dd xs]
theorem marked_get :∀(xs:List (List Int)) (k:Int) (i:Nat) (h:i<xs.length),(Bv k xs)[i]'(by rw[Dd];exact h)=Cf (k+tot (xs.take i)) xs[i].length
 |x::xs,k,0,h=>by simp[Bv,tot]
 |x::xs,k,i+1,h=>by
  simp only[Bv,List.getElem_cons_succ,List.take_succ_cons,tot]
  rw[marked_get xs (k+x.length) i (by simpa using h)]
  congr 1;omega
theorem markS_eq (xs:List Int)(k:Int)(h:Sh xs)(h0:0≤k)(h1:k≤4611686018427387904):D.k xs k=some (k+xs.length,Cf k xs.length):=by
 unfold Sh at h
 unfold D.k
 have e:(Cf k xs.length++xs.drop xs.length)=Cf k xs.length:=by simp
 refine(Bx (fun i=>(Cf k i++xs.drop i,k+(i:Int),(i:Int))) xs.length (Cf k xs.length,k+(xs.length:Int)) (by simp[Cf]) (fun i hi=> ?_) ?_).trans rfl
 ·have hl:(Cf k i++xs.drop i).length=xs.length:=by simp[Dp];omega
  have hi':i<(Cf k i++xs.drop i).length:=by omega
  have hset:(Cf k i++xs.drop i).set i (k+i)=Cf k (i+1)++xs.drop (i+1):=by
   rw[List.drop_eq_getElem_cons hi,List.set_append_right _ _ (by rw[Dp];omega)]
   simp only[Dp,Nat.sub_self,List.set_cons_zero]
   unfold Cf
   rw[List.range_succ,List.map_append];simp
  simp only[dlt hi',cond_true,Ar hi',Option.bind_some,wi (show i<4611686018427387904 by omega),Int.toNat_natCast,hset]
  rw[w64 (by omega) (by omega)]
  have:k+(i:Int)+1=k+((i+1:Nat):Int):=by omega
  rw[this]
 ·simp only[e,Dp,Ba,cond_false]
theorem E6 (xs:List (List Int))(k:Int)(h:Sh2 xs)(h0:0≤k)(h1:k+tot xs≤4611686018427387904):D.E xs k=some (k+tot xs,Bv k xs):=by
 obtain⟨h,h2⟩:=h
 unfold Sh at h
 unfold D.E
 have hml:∀i,i≤xs.length→(Bv k (xs.take i)).length=i:=fun i hi=>by rw[Dd,List.length_take];omega
 refine(Bx (fun i=>(Bv k (xs.take i)++xs.drop i,k+tot (xs.take i),(i:Int))) xs.length (Bv k xs,k+tot xs) (by simp[Bv,tot]) (fun i hi=> ?_) ?_).trans rfl
 ·have hm:=hml i (by omega)
  have hl:(Bv k (xs.take i)++xs.drop i).length=xs.length:=by simp[hm];omega
  have hi':i<(Bv k (xs.take i)++xs.drop i).length:=by omega
  have hg:(Bv k (xs.take i)++xs.drop i)[i]=xs[i]:=by
   rw[List.getElem_append_right (by omega)]
   simp[hm]
  have ht:=tot_take hi
  have htn:tot (xs.take (i+1))≤tot xs:=by
   have:=Fs (xs.take (i+1)) (xs.drop (i+1))
   rw[List.take_append_drop] at this
   have:=BL (xs.drop (i+1));omega
  have htn0:=BL (xs.take i)
  have hset:(Bv k (xs.take i)++xs.drop i).set i (Cf (k+tot (xs.take i)) xs[i].length)=Bv k (xs.take (i+1))++xs.drop (i+1):=by
   have e0:i-(Bv k (xs.take i)).length=0:=by omega
   rw[List.drop_eq_getElem_cons hi,List.set_append_right _ _ (by omega),List.take_succ_eq_append_getElem hi,marked_app,e0,List.set_cons_zero,List.append_assoc]
   rfl
  simp only[dlt hi',cond_true,Ar hi',hg,Option.bind_some,wi (show i<4611686018427387904 by omega),Int.toNat_natCast,markS_eq xs[i] (k+tot (xs.take i)) (h2 _ (List.getElem_mem hi)) (by omega) (by omega),hset]
  rw[ht]
  have:k+tot (xs.take i)+(xs[i].length:Int)=k+(tot (xs.take i)+(xs[i].length:Int)):=by omega
  rw[this]
 ·have e:Bv k (xs.take xs.length)++xs.drop xs.length=Bv k xs:=by simp
  simp only[e,Dd,Ba,cond_false]
  simp only[List.take_length]
theorem markGraph_eq (xs:List (List Int))(k:Int)(h:Sh2 xs)(h0:0≤k)(h1:k+tot xs≤4611686018427387904):D.H0 xs k=some (k+tot xs,Bv k xs):=by
 unfold D.H0;rw[E6 xs k h h0 h1];rfl
theorem heldS_eq (n:Nat)(k:Int)(h:n≤4294967296)(h0:0≤k)(h1:k≤4611686018427387904):D.p (Cf k n) k=some (k+n):=by
 unfold D.p
 rw[Dp]
 refine(Bx (fun i=>(k+(i:Int),(i:Int))) n (.inl (k+(n:Int))) (by simp) (fun i hi=> ?_) ?_).trans rfl
 ·have hi':i<(Cf k n).length:=by rw[Dp];exact hi
  simp only[dlt hi,cond_true,Ar hi',numsI_get,Option.bind_some,bne_self_eq_false,cond_false,wi (show i<4611686018427387904 by omega)]
  rw[w64 (by omega) (by omega)]
  have:k+(i:Int)+1=k+((i+1:Nat):Int):=by omega
  rw[this]
 ·simp only[Ba,cond_false]
theorem heldSS_eq (xs:List (List Int))(k:Int)(h:Sh2 xs)(h0:0≤k)(h1:k+tot xs≤4611686018427387904):D.d0 (Bv k xs) k=some (k+tot xs):=by
 obtain⟨h,h2⟩:=h
 unfold Sh at h
 unfold D.d0
 rw[Dd]
 refine(Bx (fun i=>(k+tot (xs.take i),(i:Int))) xs.length (.inl (k+tot xs)) (by simp[tot]) (fun i hi=> ?_) ?_).trans rfl
 ·have hi':i<(Bv k xs).length:=by rw[Dd];exact hi
  have ht:=tot_take hi
  have htn:tot (xs.take (i+1))≤tot xs:=by
   have:=Fs (xs.take (i+1)) (xs.drop (i+1))
   rw[List.take_append_drop] at this
   have:=BL (xs.drop (i+1));omega
  have htn0:=BL (xs.take i)
  simp only[dlt hi,cond_true,Ar hi',marked_get xs k i hi,Option.bind_some,heldS_eq xs[i].length (k+tot (xs.take i)) (h2 _ (List.getElem_mem hi)) (by omega) (by omega),wi (show i<4611686018427387904 by omega)]
  have hd:decide (k+tot (xs.take i)+(xs[i].length:Int)<0)=false:=by simp;omega
  simp only[hd,cond_false,ht]
  have:k+tot (xs.take i)+(xs[i].length:Int)=k+(tot (xs.take i)+(xs[i].length:Int)):=by omega
  rw[this]
 ·simp only[Ba,cond_false,List.take_length]
end Go.Sx



namespace Go.Sx
theorem eqDecomp_eq (a b c d:List (List Int))(h1:Sh2 a)(h2:Sh2 b):D.C a b c d=some (decide (a=c)&&decide (b=d)):=by
 unfold D.C
 rw[eqSS_eq a c h1,Option.bind_some]
 cases decide (a=c)
 ·rfl
 ·rw[eqSS_eq b d h2,Option.bind_some];cases decide (b=d)<;>rfl
theorem markDecomp_eq (a b:List (List Int))(k:Int)(h1:Sh2 a)(h2:Sh2 b)(h0:0≤k)(h:k+tot a+tot b≤4611686018427387904):
  D.T0 a b k=some (k+tot a+tot b,Bv k a,Bv (k+tot a) b):=by
 have:=BL a;have:=BL b
 unfold D.T0
 rw[E6 a k h1 h0 (by omega),Option.bind_some,E6 b _ h2 (by dsimp only;omega) (by dsimp only;omega)];rfl
theorem heldDecomp_eq (a b:List (List Int))(k:Int)(h1:Sh2 a)(h2:Sh2 b)(h0:0≤k)(h:k+tot a+tot b≤4611686018427387904):
  D.S (Bv k a) (Bv (k+tot a) b) k=some (k+tot a+tot b):=by
 have:=BL a;have:=BL b
 unfold D.S
 rw[heldSS_eq a k h1 h0 (by omega),Option.bind_some,heldSS_eq b _ h2 (by omega) (by omega)]
 have d1:decide (k+tot a<0)=false:=by simp;omega
 have d2:decide (k+tot a+tot b<0)=false:=by simp;omega
 simp only[d1,d2,cond_false,Option.bind_some]
end Go.Sx
