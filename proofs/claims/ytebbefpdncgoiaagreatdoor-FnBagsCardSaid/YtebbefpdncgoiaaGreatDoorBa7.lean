/- Parts of the proof: Zk, Zl. -/
import Derived.Test.YtebbefpdncgoiaaGreatDoorBa6
set_option linter.unusedVariables false
set_option linter.unusedSimpArgs false
set_option linter.unusedSectionVars false
namespace Go.Sx
def fits (L:List Int)(w:Int):Bool:=L.any fun b=>decide (iandNot .u32 w b=0)
theorem fitsIn_eq {L:List Int}(hL:L.length≤1000)(w:Int):D.W0 L w=some (fits L w):=by
 unfold D.W0 D.b1
 have key:=CM (ρ:=Unit ⊕ Int) (step:=(fun(x_40:Int)=>cond (decide (x_40<(L.length:Int))) ((idx L x_40).bind fun e_60=>(D.z0 e_60 w).bind fun y_66=>cond y_66 (some (.inr (.inr x_40))) (some (.inl (IntKind.i64.wrap (x_40+1))))) (some (.inr (.inl ()))))) L.length (fun i=>if iandNot .u32 w (L.getD i 0)=0 then some (.inr (i:Int)) else none) (.inl ()) (fun i hi=>by
   rw[dlt hi,cond_true,Ay hi,Option.bind_some,wi (show i<4611686018427387904 by omega),Av hi]
   unfold D.z0
   rw[Option.bind_some]
   by_cases h:iandNot .u32 w L[i]=0
   ·rw[if_pos h,beq_iff_eq.2 h];rfl
   ·rw[if_neg h,beq_eq_false_iff_ne.2 h];rfl) (by simp only[A9,cond_false])
 rw[key,Option.bind_some]
 cases hf:(List.range L.length).findSome? (fun i=>if iandNot .u32 w (L.getD i 0)=0 then some (Sum.inr (α:=Unit) (i:Int)) else none) with
 |none=>
  rw[List.findSome?_eq_none_iff] at hf
  have:fits L w=false:=by
   unfold fits
   rw[List.any_eq_false]
   intro b hb
   obtain⟨i,hi,rfl⟩:=List.getElem_of_mem hb
   have:=hf i (List.mem_range.2 hi)
   rw[Av hi] at this
   split at this
   ·cases this
   ·rename_i h;simpa using h
  rw[this];rfl
 |some z=>
  obtain⟨j,hj,hz⟩:=List.exists_of_findSome?_eq_some hf
  have hj:=List.mem_range.1 hj
  rw[Av hj] at hz
  split at hz
  ·rename_i h
   cases hz
   have:fits L w=true:=by
    unfold fits
    rw[List.any_eq_true]
    exact⟨_,List.getElem_mem hj,decide_eq_true h⟩
   rw[this]
   show some (decide ((0:Int)≤(j:Int)))=some true
   rw[decide_eq_true (by omega)]
  ·cases hz
theorem fits_iff {L:List Int}{w:Int}(hL:∀b∈L,VS b)(hw:VS w):fits L w=true↔∃b∈L,∀v,has w v=true→has b v=true:=by
 unfold fits
 rw[List.any_eq_true]
 constructor
 ·rintro⟨b,hb,h⟩
  refine⟨b,hb,fun v hv=> ?_⟩
  have h:=(VS.eq_zero (VS.iandNot w b)).1 (of_decide_eq_true h) v (by obtain⟨v',h1,_,e⟩:=mem_elems.1 ((AU hw).2 hv);omega)
  rw[A6 hw (hL b hb),hv] at h
  simpa using h
 ·rintro⟨b,hb,h⟩
  refine⟨b,hb,decide_eq_true ((VS.eq_zero (VS.iandNot w b)).2 fun v _=> ?_)⟩
  rw[A6 hw (hL b hb)]
  cases hv:has w v
  ·rfl
  ·rw[h v hv];rfl
theorem Via.more {F:List Int}{P P':Nat→Prop}{v u x:Nat}(hP:∀y,P' y→P y∨y=v)(h:Via F P' u x):Via F P u x∨(Bhd F P u v∧Via F P v x):=by
 induction h with
 |me=>exact .inl .me
 |step _ h1 h2 ih=>
  rcases hP _ h2 with h3|rfl
  ·rcases ih with ih|⟨ih1,ih2⟩
   ·exact .inl (.step ih h1 h3)
   ·exact .inr ⟨ih1,.step ih2 h1 h3⟩
  ·rcases ih with ih|⟨ih1,ih2⟩
   ·exact .inr ⟨⟨_,ih,h1⟩,.me⟩
   ·exact .inr ⟨ih1,.me⟩
theorem Bhd.more {F:List Int}{P P':Nat→Prop}{v u w:Nat}(hP:∀y,P' y→P y∨y=v)(h:Bhd F P' u w):Bhd F P u w∨(Bhd F P u v∧Bhd F P v w):=by
 obtain⟨x,h1,h2⟩:=h
 rcases h1.more hP with h1|⟨h1,h3⟩
 ·exact .inl ⟨x,h1,h2⟩
 ·exact .inr ⟨h1,x,h3,h2⟩
structure OI (g B:List (List Int))(k:Nat)(m:Int)(a out:List Int):Prop where
 gs:GS g.length m k
 f:FOk a g.length
 near:∀u w,u<g.length→w<g.length→has m u=false→has m w=false→u≠w→Bhd (g.map mk) (fun y=>has m y=true) u w→nb a u w=true
 both:∀u w,u<g.length→has m u=false→has m w=false→nb a u w=true→∃i,i<B.length∧(u:Int)∈B.getD i []∧(w:Int)∈B.getD i []
 nd:out.Nodup
 rng:∀x∈out,∃v:Nat,x=v∧v<g.length∧has m v=true
 len:out.length+k=g.length
 wid:∀r,ow (g.map mk) m r≤wB B→ow (g.map mk) 0 (out++r)≤wB B
theorem oi_start {g B K:List (List Int)}(hg:GOk g)(hT:TB g B K):OI g B g.length 0 (g.map mk) [] where
 gs:=GS.zero hg.n16
 f:=FOk.of hg
 near:=fun u w hu hw _ _ _ ⟨x,h1,h2⟩=>by
  rcases h1.end_ with rfl|h
  ·exact h2
  ·rw[B4] at h;cases h
 both:=fun u w hu _ _ h=>by
  obtain⟨b,hb,h1,h2⟩:=hT.edges u w hu ((nb_mk hg hu).1 h)
  obtain⟨i,hi,rfl⟩:=List.getElem_of_mem hb
  exact⟨i,hi,by rw[Av hi];exact h1,by rw[Av hi];exact h2⟩
 nd:=by simp
 rng:=by simp
 len:=by simp
 wid:=fun r h=>h
theorem oi_some {g B K:List (List Int)}{k:Nat}{m:Int}{a out:List Int}(hg:GOk g)(hT:TB g B K)(h:OI g B (k+1) m a out):
  ∃v i,v<g.length∧has m v=false∧i<B.length∧(v:Int)∈B.getD i []∧∀u,u<g.length→has m u=false→nb a v u=true→(u:Int)∈B.getD i []:=by
 have h16:=hg.n16;have n1:=hT.n1;have hmany:=hT.many
 have hidx:∀{x:Int},x∈(List.range B.length).map Int.ofNat→∃i:Nat,x=i∧i<B.length:=fun{x} hx=>by
  obtain⟨i,hi,rfl⟩:=List.mem_map.1 hx;exact⟨i,rfl,List.mem_range.1 hi⟩
 have hin:∀i:Nat,i<B.length→(i:Int)∈(List.range B.length).map Int.ofNat:=fun i hi=>List.mem_map.2 ⟨i,List.mem_range.2 hi,rfl⟩
 obtain⟨v,i,⟨h1,h2⟩,h3,h4,h5⟩:=simp_ex (fun x v=>(v:Int)∈B.getD x.toNat []) (fun v=>v<g.length∧has m v=false) (fun u w=>nb a u w=true) (B.length-1) ((List.range B.length).map Int.ofNat) K (by simp;omega)
  (by rw[List.Nodup,List.pairwise_map];exact List.nodup_range.imp (fun h e=>h (Int.ofNat.inj e))) (by omega) hT.tree
  (fun l hl=>by
   obtain⟨a,b,rfl,hab,hb⟩:=hT.lks l hl
   exact⟨a,b,rfl,by omega,hin a (by omega),hin b hb⟩)
  (by
   obtain⟨x,hx⟩:=List.exists_mem_of_ne_nil _ h.gs.left.ne
   obtain⟨v,rfl,hv,hm⟩:=(mem_rm h16 h.gs.vs).1 hx
   exact⟨v,hv,hm⟩)
  (fun v ⟨hv,_⟩=>by
   obtain⟨x,hx⟩:=List.exists_mem_of_ne_nil _ (hT.some v hv)
   obtain⟨b,rfl,hb,hvb⟩:=mem_withV.1 hx
   exact⟨b,hin b hb,by simpa using hvb⟩)
  (fun v ⟨hv,_⟩ T ⟨x0,hx0,hb0,hT0⟩ hcl x hx hbx=>by
   obtain⟨i0,rfl,hi0⟩:=hidx hx0
   obtain⟨i,rfl,hi⟩:=hidx hx
   refine(conn_iff.1 (hT.conn v hv)) T ⟨(i0:Int),mem_withV.2 ⟨i0,rfl,hi0,by simpa using hb0⟩,hT0⟩ (fun p q hp hq hTp hlk=> ?_) _ (mem_withV.2 ⟨i,rfl,hi,by simpa using hbx⟩)
   obtain⟨p',rfl,hp',hvp⟩:=mem_withV.1 hp
   obtain⟨q',rfl,hq',hvq⟩:=mem_withV.1 hq
   exact hcl _ _ (hin p' hp') (hin q' hq') (by simpa using hvp) (by simpa using hvq) hTp hlk)
  (fun u w ⟨hu,hmu⟩ ⟨hw,hmw⟩ hR=>by
   obtain⟨i,hi,h1,h2⟩:=h.both u w hu hmu hmw hR
   exact⟨(i:Int),hin i hi,by simpa using h1,by simpa using h2⟩)
 obtain⟨i,rfl,hi⟩:=hidx h3
 exact⟨v,i,h1,h2,hi,by simpa using h4,fun u hu hmu hn=>by simpa using h5 u ⟨hu,hmu⟩ hn⟩
theorem oi_step {g B K:List (List Int)}{k v i:Nat}{m:Int}{a a' out:List Int}(hg:GOk g)(hT:TB g B K)(h:OI g B (k+1) m a out)(hv:v<g.length)(hm:has m v=false)(hi:i<B.length)(hvi:(v:Int)∈B.getD i [])
  (hfit:∀u,u<g.length→has m u=false→nb a v u=true→(u:Int)∈B.getD i [])
  (hf':FOk a' g.length) (ha':∀u w,u<g.length→nb a' u w=(nb a u w||((nb a v u&&has (rm g.length m) u)&&(nb a v w&&has (rm g.length m) w)&&decide (w≠u)))):
  OI g B k (ior .u32 m (ishl .u32 1 (v:Int))) a' (out++[(v:Int)]):=by
 have h16:=hg.n16
 have hF:=FOk.of hg
 have hvs:=h.gs.vs
 have hadd:=fun w=>Fk (w:=w) hvs (show v<32 by omega)
 have hold:∀w,has (ior .u32 m (ishl .u32 1 (v:Int))) w=false→has m w=false∧w≠v:=fun w hw=>by
  rw[hadd,Bool.or_eq_false_iff] at hw
  exact⟨hw.1,of_decide_eq_false hw.2⟩
 have hrm:∀w,w<g.length→has m w=false→has (rm g.length m) w=true:=fun w hw hmw=>by
  rw[DN h16 hvs,hmw,decide_eq_true hw];rfl
 refine⟨h.gs.add h16 hv hm,hf',fun u w hu hw hmu hmw hne hB=> ?_,fun u w hu hmu hmw hn=> ?_,?_,fun x hx=> ?_,?_,fun r hr=> ?_⟩
 ·obtain⟨hmu,huv⟩:=hold u hmu
  obtain⟨hmw,hwv⟩:=hold w hmw
  rw[ha' u w hu]
  rcases hB.more (P:=fun y=>has m y=true) (v:=v) (fun y hy=>by
   rw[hadd,Bool.or_eq_true] at hy
   exact hy.imp id (fun h=>of_decide_eq_true h)) with h1|⟨h1,h2⟩
  ·rw[h.near u w hu hw hmu hmw hne h1];rfl
  ·have e1:=h.f.sym u v hu (h.near u v hu hv hmu hm huv h1)
   have e2:=h.near v w hv hw hm hmw (fun e=>hwv e.symm) h2
   have e3:decide (w≠u)=true:=by simp;exact fun e=>hne e.symm
   rw[e1,e2,hrm u hu hmu,hrm w hw hmw,e3]
   simp
 ·obtain⟨hmu,huv⟩:=hold u hmu
  obtain⟨hmw,hwv⟩:=hold w hmw
  rw[ha' u w hu,Bool.or_eq_true] at hn
  rcases hn with hn|hn
  ·exact h.both u w hu hmu hmw hn
  ·simp only[Bool.and_eq_true] at hn
   obtain⟨⟨⟨h1,_⟩,h2,_⟩,_⟩:=hn
   exact⟨i,hi,hfit u hu hmu h1,hfit w (h.f.lt v w hv h2) hmw h2⟩
 ·rw[List.nodup_append]
  refine⟨h.nd,by simp,fun x hx y hy=> ?_⟩
  obtain rfl:y=(v:Int):=by simpa using hy
  obtain⟨u,rfl,_,hu⟩:=h.rng x hx
  intro e
  have:u=v:=by omega
  subst this
  rw[hm] at hu;cases hu
 ·rcases List.mem_append.1 hx with hx|hx
  ·obtain⟨u,rfl,h1,h2⟩:=h.rng x hx
   exact⟨u,rfl,h1,by rw[hadd,h2];rfl⟩
  ·obtain rfl:x=(v:Int):=by simpa using hx
   exact⟨v,rfl,hv,by rw[hadd];simp⟩
 ·have:=h.len
  simp;omega
 ·rw[List.append_assoc]
  refine h.wid _ ?_
  show ow (g.map mk) m ((v:Int)::r)≤wB B
  unfold ow
  obtain⟨_,hbv,hbh⟩:=EX h16 hF hvs hv
  have hle:(Ao (bh (g.map mk) m (v:Int))).length+1≤(B.getD i []).length:=by
   refine Ce (l:=(v:Int)::Ao (bh (g.map mk) m (v:Int))) (List.nodup_cons.2 ⟨fun hc=> ?_,(BH _).imp (fun h=>by omega)⟩) (fun x hx=> ?_)
   ·exact((hbh v).1 ((AU hbv).1 hc)).2.2 rfl
   ·rcases List.mem_cons.1 hx with rfl|hx
    ·exact hvi
    ·obtain⟨w,_,hw,rfl⟩:=mem_elems.1 hx
     obtain⟨h1,h2,h3⟩:=(hbh w).1 hw
     have hwn:=bh_lt h16 hF hvs hv hw
     exact hfit w hwn h2 (h.near v w hv hwn hm h2 (fun e=>h3 e.symm) h1)
  have hb:=(DX (B:=B) (Er _)).1 (Int.le_refl _) (B.getD i []) (by rw[Av hi];exact List.getElem_mem hi)
  omega
theorem fit_bag {g B K:List (List Int)}{k v:Nat}{m:Int}{a out:List Int}(hg:GOk g)(hT:TB g B K)(h:OI g B (k+1) m a out)(hv:v<g.length)(hm:has m v=false):
  fits (B.map mk) (ior .u32 (iand .u32 (a.getD v 0) (rm g.length m)) (ishl .u32 1 (v:Int)))=true↔∃i,i<B.length∧(v:Int)∈B.getD i []∧∀u,u<g.length→has m u=false→nb a v u=true→(u:Int)∈B.getD i []:=by
 have h16:=hg.n16
 have hvs:=h.gs.vs
 have hrv:VS (rm g.length m):=VS.iandNot _ _
 rw[fits_iff (fun b hb=>by obtain⟨x,_,rfl⟩:=List.mem_map.1 hb;exact VS.mk _) (VS.ior _ _)]
 have hh:∀w,has (ior .u32 (iand .u32 (a.getD v 0) (rm g.length m)) (ishl .u32 1 (v:Int))) w=true↔(nb a v w=true∧w<g.length∧has m w=false)∨w=v:=fun w=>by
  rw[Ca (VS.iand _ _) (VS.ishl _ _),B6 (h.f.vs v hv) hrv,BA (by omega),DN h16 hvs]
  unfold nb
  simp only[Bool.or_eq_true,Bool.and_eq_true,decide_eq_true_eq,Bool.not_eq_true']
 have hbag:∀{i:Nat},i<B.length→∀w:Nat,has (mk (B.getD i [])) w=true↔(w:Int)∈B.getD i []:=fun{i} hi w=>by
  rw[Av hi,EN hg (fun b hb=>hT.sets b hb) hT.n16 hi w,decide_eq_true_eq]
 constructor
 ·rintro⟨b,hb,hw⟩
  obtain⟨x,hx,rfl⟩:=List.mem_map.1 hb
  obtain⟨i,hi,rfl⟩:=List.getElem_of_mem hx
  have hbi:=hbag hi
  rw[Av hi] at hbi
  refine⟨i,hi,?_,fun u hu hmu hn=> ?_⟩
  ·rw[Av hi];exact(hbi v).1 (hw v ((hh v).2 (.inr rfl)))
  ·rw[Av hi];exact(hbi u).1 (hw u ((hh u).2 (.inl ⟨hn,hu,hmu⟩)))
 ·rintro⟨i,hi,h1,h2⟩
  refine⟨mk (B.getD i []),List.mem_map.2 ⟨_,by rw[Av hi];exact List.getElem_mem hi,rfl⟩,fun w hw=>(hbag hi w).2 ?_⟩
  rcases(hh w).1 hw with⟨h3,h4,h5⟩|rfl
  ·exact h2 w h4 h5 h3
  ·exact h1
theorem rm_add {n v:Nat}{m:Int}(hn:n≤16)(hm:VS m)(hv:v<n):iandNot .u32 (rm n m) (ishl .u32 1 (v:Int))=rm n (ior .u32 m (ishl .u32 1 (v:Int))):=by
 refine(VS.iandNot _ _).ext (VS.iandNot _ _) (fun w _=> ?_)
 have hr:VS (rm n m):=VS.iandNot _ _
 rw[A6 hr (VS.ishl _ _),DN hn (VS.ior _ _),Fk hm (by omega),BA (by omega),DN hn hm]
 cases decide (w<n)<;>cases has m w<;>simp
open Classical in
theorem OrderBy_ok {g B K:List (List Int)}(hg:GOk g)(hT:TB g B K):∃o,D.o g B K=some o∧OOk g o∧ow (g.map mk) 0 o≤wB B:=by
 have h16:=hg.n16
 obtain⟨s1,s2⟩:=hT.sh hg
 have hB16:=hT.n16
 unfold D.o
 rw[Dl hg s1 s2,decide_eq_true hT,Option.bind_some,Bool.not_true,cond_false,Eo g hg,Option.bind_some,masks_eq hg (fun b hb=>hT.sets b hb) hB16,Option.bind_some,Option.bind_some]
 dsimp only
 rw[nets_all_full,Option.bind_some]
 have hlen:(g.map mk).length=g.length:=by simp
 rw[hlen]
 refine AM (fun s=>∃(k:Nat) (m:Int),OI g B k m s.1 s.2.2.1∧s.2.1=B.map mk∧s.2.2.2=rm g.length m) (fun s=>g.length-s.2.2.1.length)
  (fun r=>∃o,r= .inl o∧OOk g o∧ow (g.map mk) 0 o≤wB B) ?_ ⟨g.length,0,oi_start hg hT,rfl,?_⟩ ?_
 ·rintro⟨a,_,out,_⟩ ⟨k,m,h,rfl,rfl⟩
  dsimp only at h ⊢
  have hol:=h.len
  have hrv:VS (rm g.length m):=VS.iandNot _ _
  cases k with
  |zero=>
   have e:rm g.length m=0:=h.gs.left.z
   rw[e]
   refine⟨_,rfl,out,rfl,⟨by omega,fun x hx=> ?_,h.nd⟩,?_⟩
   ·obtain⟨v,rfl,hv,_⟩:=h.rng x hx;omega
   ·have:=h.wid [] (by
     unfold ow
     obtain⟨b,hb⟩:∃b,b∈B:=List.exists_mem_of_ne_nil _ (by intro e;have:=hT.n1;rw[e] at this;simp at this)
     obtain⟨x,hx⟩:=List.exists_mem_of_ne_nil _ (hT.some 0 hg.n1)
     obtain⟨c,rfl,hc,hv⟩:=mem_withV.1 hx
     have h1:=(DX (B:=B) (Er _)).1 (Int.le_refl _) (B.getD c []) (by rw[Av hc];exact List.getElem_mem hc)
     have:=List.length_pos_of_mem hv
     omega)
    rwa [List.append_nil] at this
  |succ k=>
   have hnz:(rm g.length m !=0)=true:=bne_iff_ne.2 (show rm g.length m≠0 from h.gs.left.nz)
   rw[hnz,cond_true,Dq _ hrv,Option.bind_some]
   have hel:=Cc (rm g.length m)
   refine AM (fun s=>∃i:Nat,s=(i:Int)∧i≤(Ao (rm g.length m)).length∧∀j (hj:j<(Ao (rm g.length m)).length),j<i→fits (B.map mk) (ior .u32 (iand .u32 (a.getD ((Ao (rm g.length m))[j]).toNat 0) (rm g.length m)) (ishl .u32 1 (Ao (rm g.length m))[j]))=false) (fun s=>(Ao (rm g.length m)).length-s.toNat)
    (fun r=>∃v:Nat,r=(v:Int)∧v<g.length∧has m v=false∧fits (B.map mk) (ior .u32 (iand .u32 (a.getD v 0) (rm g.length m)) (ishl .u32 1 (v:Int)))=true) ?_ ⟨0,rfl,by omega,fun j hj h0=>by omega⟩ ?_
   ·rintro _ ⟨i,rfl,hi,hno⟩
    by_cases hil:i<(Ao (rm g.length m)).length
    ·obtain⟨v,ev,hv,hmv⟩:=(mem_rm h16 h.gs.vs).1 (List.getElem_mem hil)
     rw[dlt hil,cond_true,Ay hil,Option.bind_some,ev,Ay (by rw[h.f.len];exact hv),Option.bind_some,BG,Option.bind_some,fitsIn_eq (by simp;omega),Option.bind_some]
     rw[←Av (d:=0)]
     cases hf:fits (B.map mk) (ior .u32 (iand .u32 (a.getD v 0) (rm g.length m)) (ishl .u32 1 (v:Int)))
     ·rw[cond_false,wi (show i<4611686018427387904 by omega)]
      refine⟨_,rfl,⟨i+1,rfl,by omega,fun j hj hji=> ?_⟩,by dsimp only;omega⟩
      by_cases e:j=i
      ·subst e;rw[ev,Int.toNat_natCast];exact hf
      ·exact hno j hj (by omega)
     ·rw[cond_true]
      exact⟨_,rfl,v,rfl,hv,hmv,hf⟩
    ·exfalso
     obtain⟨v,b,hv,hmv,hb,h1,h2⟩:=oi_some hg hT h
     have hmem:(v:Int)∈Ao (rm g.length m):=(mem_rm h16 h.gs.vs).2 ⟨v,rfl,hv,hmv⟩
     obtain⟨j,hj,ej⟩:=List.getElem_of_mem hmem
     have:=hno j hj (by omega)
     rw[ej,Int.toNat_natCast,(fit_bag hg hT h hv hmv).2 ⟨b,hb,h1,h2⟩] at this
     cases this
   ·rintro _ ⟨v,rfl,hv,hmv,hf⟩
    obtain⟨i,hi,h1,h2⟩:=(fit_bag hg hT h hv hmv).1 hf
    have hneg:decide ((v:Int)<0)=false:=by simp
    obtain⟨a',ea,hfa,hna⟩:=Fd h16 h.f hrv hv
    rw[hneg,cond_false,ea,Option.bind_some,BG,Option.bind_some,A4 (by simp;omega),Option.bind_some,rm_add h16 h.gs.vs hv]
    exact⟨_,rfl,⟨k,_,oi_step hg hT h hv hmv hi h1 h2 hfa hna,rfl,rfl⟩,by dsimp only;simp;omega⟩
 ·show full g.length=rm g.length 0
  unfold rm
  exact((VS.iandNot _ _).ext (Cx _) (fun v _=>by rw[A6 (Cx _) VS.zero,B4];simp)).symm
 ·rintro _ ⟨o,rfl,ho,hw⟩
  dsimp only
  rw[wide_eq o (ho.sh hg),Option.bind_some]
  exact⟨_,rfl,ho,hw⟩
end Go.Sx

namespace Go.Sx
theorem largest_eq {B:List (List Int)}(h1:1≤B.length)(h:B.length≤16)(hb:∀b∈B,b.length≤4294967296):D.V0 B=some (wB B):=by
 unfold D.V0
 have hc:(decide ((B.length:Int)<1)||decide ((16:Int)<(B.length:Int)))=false:=by simp;omega
 rw[hc,cond_false]
 have key:∀(l:List (List Int)) (s:Int),-1≤s→l.foldl (fun s b=>if s<(b.length:Int) then(b.length:Int) else s) (s+1)=l.foldl (fun s b=>if s<(b.length:Int)-1 then(b.length:Int)-1 else s) s+1:=by
  intro l
  induction l with
  |nil=>intro s _;rfl
  |cons b l ih=>
   intro s hs
   rw[List.foldl_cons,List.foldl_cons]
   by_cases hc:s<(b.length:Int)-1
   ·rw[if_pos hc,if_pos (by omega),←ih _ (by omega)];congr 1;omega
   ·have h2:¬(s+1<(b.length:Int)):=by omega
    rw[if_neg h2,if_neg hc];exact ih _ hs
 have e:B.foldl (fun s b=>if s<(b.length:Int) then(b.length:Int) else s) 0=wB B+1:=by
  have:=key B (-1) (by omega)
  rw[show ((-1:Int)+1)=0 from rfl] at this
  exact this
 have hge:=Er B
 have hle:wB B≤4294967296:=(DX (by omega)).2 (fun b hbm=>by have:=hb b hbm;omega)
 refine(D2 B (fun s i=>(s,i)) (fun s b=>if s<(b.length:Int) then(b.length:Int) else s) (fun s=>s) (fun _=>True) 0 trivial (fun s i hi _=>⟨?_,trivial⟩) (fun s _=> ?_)).trans ?_
 ·dsimp only
  rw[dlt hi,cond_true,Ay hi,Option.bind_some,wi (show i<4611686018427387904 by omega)]
 ·dsimp only
  rw[A9,cond_false]
 ·rw[e,w64 (by omega) (by omega)];congr 1;omega
theorem canCount_ok {g B K:List (List Int)}(hg:GOk g)(hT:TB g B K):D.u0 B K=some true:=by
 obtain⟨s1,s2⟩:=hT.sh hg
 have h1:=hT.n1;have h2:=hT.n16;have h3:=hT.many
 unfold D.u0
 have e1:decide ((1:Int)≤(B.length:Int))=true:=by simp;omega
 have e2:decide ((B.length:Int)≤16)=true:=by simp;omega
 have e3:decide ((K.length:Int)≤16)=true:=by simp;omega
 rw[e1,e2,e3,Bool.and_self,Bool.and_self,cond_true,E8 s1 s2 h2,Option.bind_some,List.all_eq_true.2 (fun l hl=>(Ez _ _).2 (hT.lks l hl))];rfl
theorem MeetsOf_ok {g B K:List (List Int)}(hg:GOk g)(hT:TB g B K):∃y,D.R0 B K=some y∧y.length=K.length:=by
 obtain⟨s1,s2⟩:=hT.sh hg
 have h1:=hT.n1;have h2:=hT.n16;have h3:=hT.many;have h16:=hg.n16
 have hbl:∀i (hi:i<B.length),B[i].length≤16:=fun i hi=>by have:=(hT.sets _ (List.getElem_mem hi)).length_le (by omega);omega
 unfold D.R0
 rw[canCount_ok hg hT,Option.bind_some,Bool.not_true,cond_false]
 refine AM (fun s=>∃i:Nat,s.2=(i:Int)∧i≤K.length∧s.1.length=i) (fun s=>K.length-s.2.toNat) (fun r=>r.length=K.length) ?_ ⟨0,rfl,by omega,rfl⟩ (fun r hr=>⟨r,rfl,hr⟩)
 rintro⟨l,_⟩ ⟨i,rfl,hi,hl⟩
 dsimp only at hl ⊢
 by_cases hil:i<K.length
 ·obtain⟨a,b,e,hab,hbn⟩:=hT.lks _ (List.getElem_mem hil)
  rw[dlt hil,cond_true,Ay hil,Option.bind_some,e]
  rw[show idx [(a:Int),(b:Int)] 0=some (a:Int) from rfl,Option.bind_some,Ay (show a<B.length by omega),Option.bind_some]
  have ha:=hbl a (by omega)
  refine AM (fun s=>∃j:Nat,s.2=(j:Int)∧j≤B[a].length∧s.1.length≤j) (fun s=>B[a].length-s.2.toNat) (fun r=>r.length≤16) ?_ ⟨0,rfl,by omega,by simp⟩ ?_
  ·rintro⟨q,_⟩ ⟨j,rfl,hj,hq⟩
   dsimp only at hq ⊢
   by_cases hjl:j<B[a].length
   ·rw[dlt hjl,cond_true,Ay hjl,Option.bind_some,show idx [(a:Int),(b:Int)] 1=some (b:Int) from rfl,Option.bind_some,Ay hbn,Option.bind_some,Eu _ _ (s1.2 _ (List.getElem_mem hbn)),Option.bind_some,wi (show j<4611686018427387904 by omega)]
    cases decide (B[a][j]∈B[b])
    ·exact⟨_,rfl,⟨j+1,rfl,by omega,by dsimp only;omega⟩,by dsimp only;omega⟩
    ·rw[cond_true,A4 (by simp;omega),Option.bind_some]
     exact⟨_,rfl,⟨j+1,rfl,by omega,by simp;omega⟩,by dsimp only;omega⟩
   ·have hje:j=B[a].length:=by omega
    rw[hje,A9,cond_false]
    exact⟨_,rfl,by show q.length≤16;omega⟩
  ·intro r hr
   rw[A4 (by simp;omega),Option.bind_some,wi (show i<4611686018427387904 by omega)]
   exact⟨_,rfl,⟨i+1,rfl,by omega,by simp;omega⟩,by dsimp only;omega⟩
 ·obtain rfl:i=K.length:=by omega
  rw[A9,cond_false]
  exact⟨_,rfl,hl⟩
open Classical in
theorem FnBags_true (code:List Int)(hb:∀x∈code,0≤x∧x≤255):D.t1 code=some true:=by
 unfold D.t1 D.c1
 simp only[Option.bind_some]
 by_cases hl:(4096:Int)<code.length
 ·simp only[hl,decide_true,cond_true]
 ·simp only[hl,decide_false,cond_false]
  obtain⟨z,e1,k1⟩:=roll_ok code 808 hb (by omega)
  simp only[e1,Option.bind_some]
  obtain⟨⟨g,b,i,z2⟩,e2,hg,hg7,rfl,k2⟩:=w5Graph_ok k1 z 8 (by omega) (by omega)
  dsimp only at hg hg7 k2
  rw[show (((8:Nat):Nat):Int)=8 from rfl] at e2
  simp only[e2,Option.bind_some]
  obtain⟨⟨o,b2,i2,z3⟩,e3,h1,h2,h3,rfl,k3⟩:=w5Order_ok k2 z2 g.length hg.n16
  dsimp only at h1 h2 h3 k3
  simp only[e3,Option.bind_some]
  have ho:OOk g o:=⟨h1,h2,h3⟩
  have h16:=hg.n16
  obtain⟨F,L,hF⟩:=fill_ex hg ho
  have hT:=DecompBy_TB hg ho hF
  obtain⟨s1,s2⟩:=hT.sh hg
  obtain⟨B',K',f1,f2,f3,k1',k2',k3',k4',M',m1,m2,m3,hK⟩:=tidied_both hg hT
  have hT':TB g B' K':=by rw[m1];exact hK.tb
  obtain⟨s1',s2'⟩:=hT'.sh hg
  have hwA:=wB_order hg ho hF
  have hAe:(((List.range o.length).map (BF o L)).map mk).map Ao=(List.range o.length).map (BF o L):=by
   rw[List.map_map,List.map_map]
   refine List.map_congr_left (fun i hi=> ?_)
   have hi:=List.mem_range.1 hi
   have hr:=ho.rng _ (List.getElem_mem hi)
   have hl:=ho.len
   obtain⟨v,hv⟩:∃v:Nat,o[i]=(v:Int):=⟨_,(Int.toNat_of_nonneg hr.1).symm⟩
   show Ao (mk (BF _ _ i))=BF _ _ i
   rw[←EZ hg ho hF hi hv (by omega),mk_elems (VS.ior _ _)]
  have hwB:wB B'=ow (g.map mk) 0 o:=by
   rw[m1,wB_kept hK (fun s hs=>by obtain⟨b,_,rfl⟩:=List.mem_map.1 hs;exact VS.mk _),hAe,hwA]
  obtain⟨q,eq,hq,hqw⟩:=OrderBy_ok hg hT'
  obtain⟨Fq,Lq,hFq⟩:=fill_ex hg hq
  obtain⟨y,ey,hy⟩:=MeetsOf_ok hg hT'
  have hTd:D.A0 g ((List.range o.length).map (BF o L)) ((List.range (o.length-1)).map (CO o L))=some (B',K',true):=by
   unfold D.A0
   rw[Dl hg s1 s2,decide_eq_true hT,Option.bind_some,Bool.not_true,cond_false,f2];rfl
  have hlen:B'.length≤((List.range o.length).map (BF o L)).length:=by
   have:=hK.len
   rw[m1,List.length_map];rw[List.length_map] at this;exact this
  have hmany:=hT'.many
  have hn16:=hT'.n16
  have hn1:=hT'.n1
  rw[FE hg ho hF,Option.bind_some]
  dsimp only
  generalize hA:(List.range o.length).map (BF o L)=A at*
  generalize hKK:(List.range (o.length-1)).map (CO o L)=KK at*
  have hW:∀X Y,TB g X Y→D.u X Y=some (wB X):=fun X Y hX=>by
   unfold D.u
   rw[largest_eq hX.n1 hX.n16 (fun b hb=>(hX.sh hg).1.2 b hb)];rfl
  rw[Bool.not_true,cond_false,Ed hg s1 s2,decide_eq_true hT,Option.bind_some,Bool.not_true,Option.bind_some,cond_false,Dl hg s1 s2,decide_eq_true hT,Option.bind_some,Bool.not_true,Option.bind_some,cond_false,
   hW _ _ hT,Option.bind_some,DM hg ho hF,Option.bind_some,hwA,bne_self_eq_false,Option.bind_some,cond_false,hTd,Option.bind_some]
  dsimp only
  rw[Bool.not_true,cond_false,Ed hg s1' s2',decide_eq_true hT',Option.bind_some,Bool.not_true,Option.bind_some,cond_false,hW _ _ hT',Option.bind_some,Option.bind_some,hwB,bne_self_eq_false,Option.bind_some]
  have e5:decide ((A.length:Int)<(B'.length:Int))=false:=by simp;omega
  rw[e5,Bool.or_self,cond_false,eq,Option.bind_some,Em g q hg.sh2 (hq.sh hg),Fg hg,(ordB_iff g q).2 hq,Option.bind_some,Bool.and_self,cond_true,DM hg hq hFq,Option.bind_some,Option.bind_some,←hwB,decide_eq_true hqw,Option.bind_some,cond_true,ey,Option.bind_some,w64 (by omega) (by omega)]
  congr 1
  rw[beq_iff_eq];omega
end Go.Sx
