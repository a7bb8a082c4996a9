/- Parts. -/
import Derived.Test.YtgadoeifdbijcaaGreatDoorB1
import Derived.ArgAppend
import Derived.Laws.StructEq
import Derived.Laws.IdiomRangeMap
import Derived.WideKeyRuns
import Derived.Lib.TrailingZeros
import Derived.Shelf.Small.Bits
import Derived.Test.YtgadoeifdbijcaaGreatDoorProg
import Derived.KernelRfl
set_option linter.unusedVariables false
set_option linter.unusedSimpArgs false
namespace Go.Sx
open IntKind
noncomputable section
def D.V0 (a:LL):Option (Bool):=
 (D.u a).bind λb=>(cond b ((D.b a).bind λc=>some (decide (c≤10))) (some false)).bind λd=>some d
def D.P0 (f:LL):Option LI:=
 (Aq (σ:=Int×Int) (ρ:=(Int)) (fun(d,e)=>(D.b f).bind λh=>cond (decide (e<h)) (some (.inl ((i64.wrap (d*2)),(i64.wrap (e+1))))) (some (.inr d))) (1,0)).bind λb=>(Dl (0:Int) b b).bind λi=>(Aq (σ:=LI×Int) (ρ:=LI) (fun(c,a)=>cond (decide (a<b)) ((idx c a).bind λl=>some (.inl ((c.set (Int.toNat a) (-1)),(i64.wrap (a+1))))) (some (.inr c))) (i,0)).bind λk=>some k
def D.C0 (b:(List Bool)):Option (Int):=
 (Aq (σ:=Int×Int) (ρ:=(Int)) (fun(c,a)=>cond (decide ((0:Int)≤a)) ((idx b a).bind λe=>(D.A e).bind λf=>some (.inl ((i64.wrap ((i64.wrap (2*c))+f)),(i64.wrap (a-1))))) (some (.inr c))) (0,(i64.wrap ((b.length:Int)-1)))).bind λg=>some g
def D.L0 (k:LL)(g:(List Bool))(h:Int):Option LI:=
 (Aq (σ:=LI×LI×Int) (ρ:=LI) (fun(d,i,e)=>cond (decide (e<(d.length:Int))) ((idx d e).bind λm=>(idx k m).bind λb=>(Aq (σ:=LI×LI×Int) (ρ:=(LI×LI)) (fun(c,f,a)=>cond (decide (a<(b.length:Int))) ((idx b a).bind λo=>(idx g o).bind λp=>(cond p ((idx b a).bind λq=>(D.e c q).bind λr=>some (!r)) (some false)).bind λs=>((cond s ((idx b a).bind λt=>(AC c ([t]:LI)).bind λu=>some u) (some c):Option LI)).bind λj=>(idx b a).bind λv=>(idx g v).bind λw=>(cond (!w) ((idx b a).bind λx=>some (x !=h)) (some false)).bind λy=>cond y ((idx b a).bind λz=>(D.S f z).bind λaa=>some (.inl (j,aa,(i64.wrap (a+1))))) (some (.inl (j,f,(i64.wrap (a+1)))))) (some (.inr (c,f)))) (d,i,0)).bind fun(ab,ac)=>some (.inl (ab,ac,(i64.wrap (e+1))))) (some (.inr i))) (([h]:LI),([]:LI),0)).bind λad=>some ad
def D.m0 :Nat→LL→((List Bool))→LI→Option (Int×((List Bool))×LI)
 |0,_,_,_=>none
 |fuel+1,g,h,f=>(D.C0 h).bind λb=>(idx f b).bind λm=>cond (decide ((0:Int)≤m)) ((idx f b).bind λn=>some (n,h,f)) ((Aq (σ:=LI×(List Bool)×Int×Int) (ρ:=(LI×(List Bool)×Int)) (fun(i,c,e,a)=>(D.b g).bind λp=>cond (decide (a<p)) ((idx c a).bind λq=>cond q (some (.inl (i,c,e,(i64.wrap (a+1))))) ((D.L0 g c a).bind λr=>(idx c a).bind λv=>(D.m0 fuel g (c.set (Int.toNat a) true) i).bind λd=>(D.e0 (r.length:Int) d.1).bind λk=>(idx d.2.1 a).bind λw=>cond ((decide (e<0))||(decide (k<e))) (some (.inl (d.2.2,(d.2.1.set (Int.toNat a) false),k,(i64.wrap (a+1))))) (some (.inl (d.2.2,(d.2.1.set (Int.toNat a) false),e,(i64.wrap (a+1))))))) (some (.inr (i,c,e)))) (f,h,(-1),0)).bind fun(j,s,t)=>(D.e0 t 0).bind λl=>(idx j b).bind λx=>(idx (j.set (Int.toNat b) l) b).bind λu=>some (u,s,(j.set (Int.toNat b) l)))
def D.x (a:LL)(b:(List Bool))(c:LI):Option (Int×((List Bool))×LI):=D.m0 Bo a b c
def D.i0 (c:LI)(d a:Int):Option (Int):=
 (D.h a).bind λg=>(D.J c a (ior .u32 d g)).bind λh=>(D.q h).bind λe=>(Aq (σ:=Int×Int) (ρ:=(Int)) (fun(f,b)=>cond (decide (b<(e.length:Int))) ((idx e b).bind λj=>(idx c j).bind λk=>some (.inl ((ior .u32 f k),(i64.wrap (b+1))))) (some (.inr f))) (0,0)).bind λl=>(D.h a).bind λm=>some (iandNot .u32 (iandNot .u32 l d) m)
def D.b1 (f:LL)(c:LI):Option (((List Bool))):=
 (D.b f).bind λd=>(Dl (false:Bool) d d).bind λg=>(Aq (σ:=(List Bool)×Int) (ρ:=((List Bool))) (fun(a,b)=>cond (decide (b<(c.length:Int))) ((idx c b).bind λe=>(idx a e).bind λj=>some (.inl ((a.set (Int.toNat e) true),(i64.wrap (b+1))))) (some (.inr a))) (g,0)).bind λi=>some i
def D.k1 (a:LL)(b:LI):Option (Int):=
 (D.V0 a).bind λc=>(cond (!c) (some true) ((D.b a).bind λd=>(D.P b d).bind λe=>some (!e))).bind λf=>cond f (some (-1)) ((D.b1 a b).bind λg=>(D.P0 a).bind λh=>(D.x a g h).bind λi=>some i.1)
def D.o0 (a:LL):Option (Int):=
 (D.k1 a ([]:LI)).bind λb=>some b
end
end Go.Sx

namespace Go.Sx
open IntKind
noncomputable section
def D.s0 (rec:Int→Option Int)(F:LI)(gone v:Int):Option Int:=
 (D.i0 F gone v).bind λb=>(D.j0 b).bind λs=>(D.h v).bind λo=>(rec (ior .u32 gone o)).bind λt=>some (if s<t then t else s)
def D.S0 (rec:Int→Option Int)(F:LI)(gone:Int)(us:LI)(s:Int×Int):Option ((Int×Int) ⊕ Int):=
 cond (decide (s.2<(us.length:Int))) ((idx us s.2).bind λv=>(D.s0 rec F gone v).bind λw=>some (.inl ((if w<s.1 then w else s.1),(i64.wrap (s.2+1))))) (some (.inr s.1))
def D.n :Nat→LI→Int→Option Int
 |0,_,_=>none
 |fuel+1,F,gone=>(D.Q F).bind λall=>cond (gone==all) (some 0) ((D.q (iandNot .u32 all gone)).bind λus=>Aq (D.S0 (D.n fuel F) F gone us) (16,0))
theorem loopF_le {σ ρ:Type}{f g:σ→Option (σ ⊕ ρ)}(h:∀s y,f s=some y→g s=some y){s:σ}{r:ρ}(hr:Aq f s=some r):Aq g s=some r:=by
 rw[loopF_some] at hr ⊢
 induction hr with
 |done h1=>exact .done (h _ _ h1)
 |more h1 _ ih=>exact .more (h _ _ h1) ih
theorem wWith_le {r1 r2:Int→Option Int}(h:∀k y,r1 k=some y→r2 k=some y){F:LI}{gone v y:Int}(hy:D.s0 r1 F gone v=some y):D.s0 r2 F gone v=some y:=by
 unfold D.s0 at hy ⊢
 obtain⟨b,hb,hy⟩:=bind_some hy
 obtain⟨s,hs,hy⟩:=bind_some hy
 obtain⟨o,ho,hy⟩:=bind_some hy
 obtain⟨t,ht,hy⟩:=bind_some hy
 rw[hb,Option.bind_some,hs,Option.bind_some,ho,Option.bind_some,h _ _ ht,Option.bind_some]
 exact hy
theorem wStep_le {r1 r2:Int→Option Int}(h:∀k y,r1 k=some y→r2 k=some y){F:LI}{gone:Int}{us:LI}{s:Int×Int}{y:(Int×Int) ⊕ Int}(hy:D.S0 r1 F gone us s=some y):D.S0 r2 F gone us s=some y:=by
 unfold D.S0 at hy ⊢
 rcases Af hy with⟨hc,hy⟩|⟨hc,hy⟩
 ·rw[hc,cond_true]
  obtain⟨v,hv,hy⟩:=bind_some hy
  obtain⟨w,hw,hy⟩:=bind_some hy
  rw[hv,Option.bind_some,wWith_le h hw,Option.bind_some]
  exact hy
 ·rw[hc,cond_false];exact hy
theorem wAfterR_le {F:LI}:∀{n:Nat} {k y:Int},D.n n F k=some y→D.n (n+1) F k=some y
 |0,_,_,h=>by simp[D.n] at h
 |n+1,k,y,h=>by
  unfold D.n at h ⊢
  obtain⟨all,ha,h⟩:=bind_some h
  rw[ha,Option.bind_some]
  rcases Af h with⟨hc,h⟩|⟨hc,h⟩
  ·rw[hc,cond_true];exact h
  ·rw[hc,cond_false]
   obtain⟨us,hu,h⟩:=bind_some h
   rw[hu,Option.bind_some]
   exact loopF_le (λs y hs=>wStep_le (λk y hk=>wAfterR_le hk) hs) h
theorem D2 {F:LI}{n:Nat}{k y:Int}(h:D.n n F k=some y):∀d,D.n (n+d) F k=some y
 |0=>h
 |d+1=>wAfterR_le (D2 h d)
theorem wAfterR_det {F:LI}{n m:Nat}{k y z:Int}(h1:D.n n F k=some y)(h2:D.n m F k=some z):y=z:=by
 have a:=D2 h1 m
 have b:=D2 h2 n
 rw[Nat.add_comm m n,a] at b
 exact Option.some.inj b
def D7 (F:LI)(M:List (Int×Int)):Prop:=∀kv∈M,∃n,D.n n F kv.1=some kv.2
end
end Go.Sx

namespace Go.Sx
end Go.Sx

namespace Go.Sx
section
variable {P : Program} {ops : Array Oper} {nn r : AS} {x : List (Nat × AS)} {a : Act} {W : World} {T : Act → World → Prop} {H E : List Itm} {G : GH} {N fuel : Nat} {L : A2} {listed listed' : Array Bool}
variable {t : TypeId} {pos : String} {af : Array Edge} {gd : Option (Nat × Bool)} {d i : Nat}
end
end Go.Sx

namespace Go.Sx
end Go.Sx

namespace Go.Sx
open IntKind
noncomputable section
def D.B {σ:Type}(rec:Int→Int→Int→Int→σ→Option (Bool×σ))(n many chosen:Int)(s:σ×Int):Option ((σ×Int) ⊕ (Bool×σ)):=
 cond (decide (i64.wrap (s.2+many)≤n)) ((D.h s.2).bind λo=>(rec n (i64.wrap (s.2+1)) (i64.wrap (many-1)) (ior .u32 chosen o) s.1).bind λr=>cond r.1 (some (.inr (true,r.2))) (some (.inl (r.2,i64.wrap (s.2+1))))) (some (.inr (false,s.1)))
def D.m {σ:Type}(f:Int→σ→Option (Bool×σ)):Nat→Int→Int→Int→Int→σ→Option (Bool×σ)
 |0,_,_,_,_,_=>none
 |fuel+1,n,frm,many,chosen,s=>cond (many==0) (f chosen s) (Aq (D.B (D.m f fuel) n many chosen) (s,frm))
end
end Go.Sx

namespace Go.Sx
theorem RSr.sub {α:Type}{E:Rec α}{G:GH}{av:Option Addr}{c:Nat}{xs ys:List α}{lo hi:Int}(h:RSr E G (.slice av xs.length c) xs)(hs:BF xs lo hi=some ys):
  RSr E G (.slice (if c=lo.toNat then av else av.map (·.add (lo.toNat*E.m))) (hi.toNat-lo.toNat) (c-lo.toNat)) ys∧hi≤c:=by
 obtain⟨h0,h1,h2,hys,hl⟩:=DM hs
 rcases h with⟨e,rfl⟩|⟨⟨b,off,sp⟩,cap,e,h4,h5,h6⟩
 ·cases e
  simp only[List.length_nil] at h2
  have e1:lo=0:=by omega
  have e2:hi=0:=by omega
  subst e1;subst e2
  exact⟨.inl ⟨by simp,by simpa using hys⟩,by omega⟩
 ·cases e
  refine⟨.inr ?_,by omega⟩
  by_cases hc:c=lo.toNat
  ·refine⟨⟨b,off,sp⟩,c-lo.toNat,?_,by omega,by omega,λk u hu=> ?_⟩
   ·rw[if_pos hc,hl]
   ·exfalso
    have:ys=[]:=List.eq_nil_of_length_eq_zero (by omega)
    subst this
    simp at hu
  ·refine⟨(⟨b,off,sp⟩:Addr).add (lo.toNat*E.m),c-lo.toNat,?_,by omega,by omega,λk u hu=> ?_⟩
   ·rw[if_neg hc,hl];rfl
   ·have hsplit:xs.flatMap E.enc=(xs.take lo.toNat).flatMap E.enc++(ys.flatMap E.enc++(xs.drop hi.toNat).flatMap E.enc):=by
     have e1:xs.take hi.toNat=xs.take lo.toNat++ys:=by
      have:=List.take_append_drop lo.toNat (xs.take hi.toNat)
      rw[List.take_take,Nat.min_eq_left (by omega)] at this
      rw[←this,hys]
     have e2:=List.take_append_drop hi.toNat xs
     rw[e1] at e2
     rw[←List.flatMap_append,←List.flatMap_append,←List.append_assoc,e2]
    have hlen:((xs.take lo.toNat).flatMap E.enc).length=lo.toNat*E.m:=by rw[Rec.size,List.length_take,Nat.min_eq_left (by omega)]
    have hk:=(List.getElem?_eq_some_iff.1 hu).1
    have hg:(xs.flatMap E.enc)[lo.toNat*E.m+k]? =some u:=by
     rw[hsplit,List.getElem?_append_right (by omega),List.getElem?_append_left (by omega),show lo.toNat*E.m+k-((xs.take lo.toNat).flatMap E.enc).length=k by omega]
     exact hu
    obtain⟨h7,h8⟩:=h6 _ _ hg
    subst h7
    rw[BG]
    refine⟨rfl,?_⟩
    rwa [Nat.add_assoc]
section
variable {P : Program} {ops : Array Oper} {rest : List Oper} {n r : AS} {x : List (Nat × AS)} {a : Act} {w W : World} {N : Nat} {L : A2} {d : Nat} {t : TypeId} {pos : String} {af : Array Edge} {G : GH} {H : List Itm} {α : Type} {E : Rec α}
end
end Go.Sx

namespace Go.Sx
def OwT {α:Type}(R:Rep α)(t:TypeId)(G:GH)(it:Itm)(v:Value)(xs:List α):Prop:=
 ∃(b k c:Nat) (pre vs post:List Value),it= .obj b (.cells (pre++(vs++post)).toArray t (0,0))∧v= .slice (some ⟨b,k,none⟩) xs.length c∧pre.length=k∧xs.length≤c∧c≤vs.length+post.length∧c≤maxLen∧All2 (R G) vs xs
theorem OwT.mono {α:Type}{R:Rep α}(hR:Cs R){t:TypeId}{G G':GH}{it:Itm}{v:Value}{xs:List α}(hG:GLe G G')(h:OwT R t G it v xs):OwT R t G' it v xs:=by
 obtain⟨b,k,c,pre,vs,post,h1,h2,h3,h4,h5,h7,h6⟩:=h
 exact⟨b,k,c,pre,vs,post,h1,h2,h3,h4,h5,h7,h6.mono (λv x=>hR G G' v x hG)⟩
section
variable {P : Program} {ops : Array Oper} {rest : List Oper} {n r : AS} {x : List (Nat × AS)} {a : Act} {w W : World} {N : Nat} {L : A2} {d : Nat} {t : TypeId} {pos : String} {af : Array Edge} {G : GH} {H : List Itm}
variable {α : Type} {R : Rep α}
theorem OwT.of {tt:TypeId}{it:Itm}{v:Value}{xs:List α}(m:Mem W G w (it::H))(h:Ow R tt G it v xs)(hx:xs≠[]):∃it',Mem W G w (it'::H)∧OwT R tt G it' v xs:=by
 obtain⟨vs,rfl,hA⟩:=h
 have ok:w.ownsRow 0 tt 1 v xs.length vs:=m.items 0 _ rfl
 rcases ok.2 with⟨rfl,e⟩|⟨g,cap,cur,rfl,_,eh,e2,e3,e4,e5⟩
 ·exact absurd (List.eq_nil_of_length_eq_zero e) hx
 ·have hl:=hA.1
  simp only[Nat.mul_one] at e4 e5
  have hcur:cur=([]++(vs++cur.toList.drop xs.length)).toArray:=by
   rw[List.nil_append,←e5,List.take_append_drop]
  refine⟨.obj g (.cells cur tt (0,0)),?_,g,0,cap,[],vs,cur.toList.drop xs.length,by rw[←hcur],rfl,rfl,by omega,by simp;omega,e3,hA⟩
  have:=m.changeAt (h':= .obj g (.cells cur tt (0,0))) (w':=w) 0 rfl rfl rfl rfl (λq _ _=>rfl) eh (λq hq=> .inl (by simpa [Itm.foot,Value.ownBlock] using hq))
  simpa using this
theorem OwT.hdr {tt:TypeId}{it:Itm}{v:Value}{xs:List α}(h:OwT R tt G it v xs):∃a l c,v= .slice a l c:=by
 obtain⟨b,k,c,_,_,_,_,rfl,_⟩:=h;exact⟨_,_,_,rfl⟩
end
end Go.Sx

namespace Go.Sx
open IntKind
noncomputable section
def D.D1 (b c:LI):Option (Bool):=
 (Aq (σ:=Int) (ρ:=(Unit) ⊕ (Bool)) (fun(a:Int)=>cond ((decide (a<(b.length:Int)))&&(decide (a<(c.length:Int)))) ((idx b a).bind λd=>(idx c a).bind λe=>cond (d !=e) ((idx b a).bind λf=>(idx c a).bind λg=>some (.inr (.inr (decide (f<g))))) (some (.inl (i64.wrap (a+1))))) (some (.inr (.inl ())))) 0).bind λzz=>match zz with| .inl _=>(some (decide ((b.length:Int)<(c.length:Int))))| .inr z=>(some z)
def D.G1 (a:LL)(d:LI):Option LL:=
 (Aq (σ:=Int) (ρ:=(Int)) (fun(b:Int)=>(cond (decide (b<(a.length:Int))) ((idx a b).bind λe=>(D.D1 e d).bind λf=>some f) (some false)).bind λg=>cond g (some (.inl (i64.wrap (b+1)))) (some (.inr b))) 0).bind λc=>(cond (decide (c<(a.length:Int))) ((idx a c).bind λh=>(D.q0 h d).bind λi=>some i) (some false)).bind λj=>cond j (some a) ((BF a 0 c).bind λk=>(AC ([]:LL) k).bind λl=>(AC l ([d]:LL)).bind λm=>(BF a c (a.length:Int)).bind λn=>(AC m n).bind λo=>some o)
def D.L (d:LI)(e:Int):Option LI:=
 (Aq (σ:=Int×LI) (ρ:=LI) (fun(a,b)=>cond (a !=0) ((D.C a).bind λg=>(D.J d g a).bind λc=>(AC b ([c]:LI)).bind λh=>some (.inl ((iandNot .u32 a c),h))) (some (.inr b))) (e,([]:LI))).bind λi=>some i
end
end Go.Sx

namespace Go.Sx
end Go.Sx

namespace Go.Sx
end Go.Sx

namespace Go.Sx
open IntKind
noncomputable def D.c0 (d:LL)(b:LI)(e:Int):Option (Int):=
 (Aq (σ:=Int×Int) (ρ:=(Int)) (fun(c,a)=>cond (decide (a<(b.length:Int))) ((idx b a).bind λg=>(D.v0 d g e).bind λh=>(D.A h).bind λi=>some (.inl ((i64.wrap (c+i)),(i64.wrap (a+1))))) (some (.inr c))) (0,0)).bind λj=>some j
end Go.Sx

namespace Go.Sx
end Go.Sx

namespace Go.Sx
section
variable {P : Program} {ops : Array Oper} {rest : List Oper} {nn r : AS} {x : List (Nat × AS)} {a : Act} {w : World} {N : Nat} {L : A2}
variable {d : Nat} {t : TypeId} {pos : String} {af : Array Edge} {W : World} {G : GH} {H : List Itm} {α : Type} {C : Rec α}
end
section
variable {P : Program} {ops : Array Oper} {nn r : AS} {x : List (Nat × AS)} {a : Act} {W : World} {T : Act → World → Prop} {H E : List Itm} {G : GH} {N fuel : Nat} {L : A2} {listed listed' : Array Bool}
variable {i d : Nat} {t : TypeId} {pos : String} {af : Array Edge} {gd : Option (Nat × Bool)} {α : Type} {C : Rec α}
end
end Go.Sx

namespace Go.Sx
def OwMp {β:Type}(q:IntKind)(enc:β→Value)(it:Itm)(v:Value)(M:List (Int×β)):Prop:=
 ∃(b:Nat) (es:Array MapEntry) (clock:Nat),it= .obj b (.map es clock)∧v= .map (some b)∧es.toList.map (λe=>(e.key,e.val))=M.map (λkv=>(Value.int q kv.1,enc kv.2))
theorem find_now {β:Type}{q:IntKind}{enc:β→Value}(x:Int):∀(es:List MapEntry) (M:List (Int×β)) (i:Nat),es.map (λe=>(e.key,e.val))=M.map (λkv=>(Value.int q kv.1,enc kv.2))→
  (Instr.findNow (.int q) (.int q x) es i=some none∧∀kv∈M,kv.1≠x)∨∃j kv,Instr.findNow (.int q) (.int q x) es i=some (some (i+j,enc kv.2))∧M[j]? =some kv∧kv.1=x
 |[],M,i,h=>by
  have:M=[]:=by simpa using h.symm
  subst this
  exact .inl ⟨rfl,by simp⟩
 |e::es,[],i,h=>by simp at h
 |e::es,kv::M,i,h=>by
  simp only[List.map_cons,List.cons.injEq,Prod.mk.injEq] at h
  obtain⟨⟨h1,h2⟩,h3⟩:=h
  unfold Instr.findNow
  rw[h1]
  simp only[Instr.sameNow,if_true]
  by_cases hx:x=kv.1
  ·rw[show (x==kv.1)=true by simp[hx]]
   exact .inr ⟨0,kv,by simp[h2],rfl,hx.symm⟩
  ·rw[show (x==kv.1)=false by simp[hx]]
   rcases find_now x es M (i+1) h3 with⟨h4,h5⟩|⟨j,kv',h4,h5,h6⟩
   ·refine .inl ⟨h4,λz hz=> ?_⟩
    rcases List.mem_cons.1 hz with rfl|hz
    ·exact λe=>hx e.symm
    ·exact h5 z hz
   ·exact .inr ⟨j+1,kv',by simp only[h4];congr 3;omega,by simpa using h5,h6⟩
section
variable {P : Program} {ρ : Operand → Value} {w : World} {d : Option Tmp} {t : TypeId} {pos : String} {af : Array Edge} {gd : Option (Nat × Bool)}
theorem EA {q:IntKind}{kt:TypeId}(hk:P.underlying kt=some (.int q)){k:Value}{es:List MapEntry}{o:Option (Nat×Value)}(h:Instr.findNow (.int q) k es 0=some o):(Instr.findKey kt k es).run P w= .ok o w:=by
 simp[Instr.findKey,run_underlying hk,h]
theorem D8 {q:IntKind}{kt:TypeId}(hk:P.underlying kt=some (.int q))(e:Bool)(x:Int):(Instr.checkKey e 10000 kt (.int q x)).run P w= .ok () w:=by
 unfold Instr.checkKey
 simp[run_underlying hk]
theorem run_map {b:Nat}{es:Array MapEntry}{clock:Nat}(h:w.heap[b]? =some (.map es clock)):(getObj b).run P w= .ok (.map es clock) w:=by
 simp[getObj,Sem.run,h]
theorem run_setMap {b:Nat}{es:Array MapEntry}{clock:Nat}{o':Obj}(h:w.heap[b]? =some (.map es clock)):(setObj b o').run P w= .ok () {w with heap:=w.heap.setIfInBounds b o'}:=by
 simp[setObj,Sem.run,h]
theorem run_stays (q:IntKind)(x:Int):(Instr.keyThatStays (.int q x) (.int q x)).run P w= .ok (.int q x) w:=by
 have e:Instr.sameBits 10000 (.int q x) (.int q x)=true:=by simp[Instr.sameBits]
 unfold Instr.keyThatStays
 rw[e];rfl
theorem r_lookup {xo ko:Operand}{mt kt et:TypeId}{q:IntKind}{b:Nat}{es:Array MapEntry}{clock:Nat}{x:Int}{z:Value}{o:Option (Nat×Value)}{ok:Bool}(hx:ρ xo= .map (some b))(hk:ρ ko= .int q x)
  (ht:P.underlying mt=some (.map kt et)) (hq:P.underlying kt=some (.int q)) (hz:∀w,(zeroValue et).run P w= .ok z w) (hg:w.heap[b]? =some (.map es clock)) (ho:Instr.findNow (.int q) (.int q x) es.toList 0=some o):
  (execOp ρ ⟨d,.lookup mt xo ko ok,t,pos,af,gd⟩).run P w= .ok (.value (if ok then .tuple #[(o.map (·.2)).getD z,.bool o.isSome] else(o.map (·.2)).getD z)) w:=by
 cases o with
 |none=>simp[execOp,hx,hk,Instr.lookup,run_underlying ht,run_map hg,D8 hq,EA hq ho,hz w]
 |some p=>obtain⟨i,v⟩:=p;simp[execOp,hx,hk,Instr.lookup,run_underlying ht,run_map hg,D8 hq,EA hq ho]
theorem r_makeMap {mt:TypeId}:(execOp ρ ⟨d,.makeMap mt none,t,pos,af,gd⟩).run P w= .ok (.value (.map (some w.heap.size))) (w.alloc (.map #[] 0)):=by
 simp[execOp,Instr.makeMap]
theorem Fl {mo ko vo:Operand}{mt kt et:TypeId}{q:IntKind}{b:Nat}{es:Array MapEntry}{clock:Nat}{x:Int}{y:Value}{o:Option (Nat×Value)}(hm:ρ mo= .map (some b))(hk:ρ ko= .int q x)(hv:ρ vo=y)
  (ht:P.underlying mt=some (.map kt et)) (hq:P.underlying kt=some (.int q)) (hg:w.heap[b]? =some (.map es clock)) (ho:Instr.findNow (.int q) (.int q x) es.toList 0=some o) (hkey:∀j v,o=some (j,v)→(es[j]?).map (·.key)=some (.int q x)):
  (execOp ρ ⟨d,.mapUpdate mt mo ko vo,t,pos,af,gd⟩).run P w= .ok .skip {w with heap:=w.heap.setIfInBounds b (match o with|some (j,_)=> .map (es.modify j λe=>{e with key:= .int q x,val:=y}) clock|none=> .map (es.push {key:= .int q x,val:=y,born:=clock}) (clock+1))}:=by
 cases o with
 |none=>simp[execOp,hm,hk,hv,Instr.mapUpdate,run_underlying ht,run_map hg,D8 hq,EA hq ho,run_setMap hg]
 |some p=>
  obtain⟨j,v⟩:=p
  have h1:=hkey j v rfl
  have h2:((es[j]?).map (·.key)).getD (.int q x)= .int q x:=by rw[h1];rfl
  simp only[execOp,hm,hk,hv,Instr.mapUpdate]
  simp[run_underlying ht,run_map hg,D8 hq,EA hq ho,h2,run_stays,run_setMap hg]
end
section
variable {P : Program} {ops : Array Oper} {rest : List Oper} {n r : AS} {x : List (Nat × AS)} {a : Act} {w : World} {N : Nat} {L : A2}
variable {W : World} {G : GH} {H : List Itm}
variable {d : Nat} {t : TypeId} {pos : String} {af : Array Edge}
theorem l_makeMap {β:Type}(q:IntKind)(enc:β→Value){mt:TypeId}(m:Mem W G w H)(f:Fr a N L)(hN:Nat.blt d N=true)
  (k:∀it v w' a',Mem W G w' (it::H)→OwMp q enc it v []→Fr a' N ((d,v)::L)→wpList P ops (Qk n x r) rest a' w'):
  wpList P ops (Qk n x r) (⟨some d,.makeMap mt none,t,pos,af,none⟩::rest) a w:=
 AY f rfl rfl hN r_makeMap (λa' f'=>k (.obj w.heap.size (.map #[] 0)) _ _ a' (m.add rfl rfl rfl (λy hy=>by first|exact heap_alloc_old w _ y hy|exact heap_alloc_old w _ hy) (heap_alloc_new w _) (λy hy=>by simp[Itm.foot] at hy;omega)) ⟨_,_,_,rfl,rfl,rfl⟩ f')
theorem l_lookup2 {β:Type}{q:IntKind}{enc:β→Value}{it:Itm}{v z:Value}{M:List (Int×β)}{mt kt et:TypeId}{xo ko:Operand}{i:Int}(j:Nat)(m:Mem W G w H)(h:OwMp q enc it v M)(hj:H[j]? =some it)
  (ht:P.underlying mt=some (.map kt et)) (hq:P.underlying kt=some (.int q)) (hz:∀w,(zeroValue et).run P w= .ok z w) (f:Fr a N L) (hN:Nat.blt d N=true) (hx:AH L xo=some v) (hk:AH L ko=some (.int q i))
  (k:∀(o:Option β),(∀y,o=some y→(i,y)∈M)→∀a',Fr a' N ((d,.tuple #[(o.map enc).getD z,.bool o.isSome])::L)→wpList P ops (Qk n x r) rest a' w):
  wpList P ops (Qk n x r) (⟨some d,.lookup mt xo ko true,t,pos,af,none⟩::rest) a w:=by
 obtain⟨b,es,clock,rfl,rfl,he⟩:=h
 have hg:w.heap[b]? =some (.map es clock):=m.items j _ hj
 rcases find_now i es.toList M 0 he with⟨h1,_⟩|⟨j',kv,h1,h2,h3⟩
 ·exact AY f rfl rfl hN (r_lookup (f.eval hx) (f.eval hk) ht hq hz hg h1) (λa' f'=>k none (λy hy=>by cases hy) a' f')
 ·exact AY f rfl rfl hN (r_lookup (f.eval hx) (f.eval hk) ht hq hz hg h1) (λa' f'=>k (some kv.2) (λy hy=>by
   simp only[Option.some.injEq] at hy
   subst hy;rw[←h3];exact List.mem_of_getElem? h2) a' f')
theorem l_mapUpdate {β:Type}{q:IntKind}{enc:β→Value}{it:Itm}{v:Value}{M:List (Int×β)}{mt kt et:TypeId}{xo ko vo:Operand}{i:Int}{y:β}(j:Nat)(m:Mem W G w H)(h:OwMp q enc it v M)(hj:H[j]? =some it)
  (ht:P.underlying mt=some (.map kt et)) (hq:P.underlying kt=some (.int q)) (f:Fr a N L) (hx:AH L xo=some v) (hk:AH L ko=some (.int q i)) (hv:AH L vo=some (enc y))
  (k:∀it' M' w',(∀kv∈M',kv=(i,y)∨kv∈M)→Mem W G w' (H.set j it')→OwMp q enc it' v M'→wpList P ops (Qk n x r) rest a w'):
  wpList P ops (Qk n x r) (⟨none,.mapUpdate mt xo ko vo,t,pos,af,none⟩::rest) a w:=by
 obtain⟨b,es,clock,rfl,rfl,he⟩:=h
 have hg:w.heap[b]? =some (.map es clock):=m.items j _ hj
 have hb:b<w.heap.size:=(Array.getElem?_eq_some_iff.1 hg).1
 have hlen:es.toList.length=M.length:=by have:=congrArg List.length he;simpa using this
 have hmem:∀(o:Obj),Mem W G {w with heap:=w.heap.setIfInBounds b o} (H.set j (.obj b o)):=λo=>
  m.changeAt j hj rfl rfl rfl (λy _ hy=>by
   have:y≠b:=λe=>hy (by rw[e];simp[Itm.foot])
   simp[Ne.symm this]) (by simp[Itm.ok,hb]) (λy hy=> .inl hy)
 rcases find_now i es.toList M 0 he with⟨h1,_⟩|⟨j',kv,h1,h2,h3⟩
 ·refine l_void rfl rfl (Fl (f.eval hx) (f.eval hk) (f.eval hv) ht hq hg h1 (λj v hc=>by cases hc)) ?_
  refine k _ (M++[(i,y)]) _ (λkv hkv=> ?_) (hmem _) ⟨b,_,_,rfl,rfl,?_⟩
  ·rcases List.mem_append.1 hkv with h|h
   ·exact .inr h
   ·exact .inl (by simpa using h)
  ·simp[he]
 ·have hjl:j'<es.toList.length:=by rw[hlen];exact(List.getElem?_eq_some_iff.1 h2).1
  have hkey:(es[j']?).map (·.key)=some (.int q i):=by
   have hA:=congrArg (λl=>l[j']?) he
   simp only[List.getElem?_map,h2,Option.map_some,Array.getElem?_toList] at hA
   cases hE:es[j']? with
   |none=>rw[hE] at hA;simp at hA
   |some e=>
    rw[hE] at hA
    simp only[Option.map_some,Option.some.injEq,Prod.mk.injEq] at hA
    rw[Option.map_some,hA.1,h3]
  refine l_void rfl rfl (Fl (f.eval hx) (f.eval hk) (f.eval hv) ht hq hg h1 (λj v hc=>by
   simp only[Option.some.injEq,Prod.mk.injEq,Nat.zero_add] at hc
   rw[←hc.1];exact hkey)) ?_
  refine k _ (M.set j' (i,y)) _ (λkv' hkv=> ?_) (hmem _) ⟨b,_,_,rfl,rfl,?_⟩
  ·rcases List.mem_or_eq_of_mem_set hkv with h|h
   ·exact .inr h
   ·exact .inl h
  ·refine List.ext_getElem? λp=> ?_
   have hA:=congrArg (λl=>l[p]?) he
   simp only[List.getElem?_map,Array.getElem?_toList] at hA
   simp only[List.getElem?_map,Array.getElem?_toList,Array.getElem?_modify,List.getElem?_set,Nat.zero_add]
   by_cases hp:j'=p
   ·subst hp
    rw[if_pos rfl,if_pos rfl,if_pos (by rw[←hlen];exact hjl)]
    have:j'<es.size:=by simpa using hjl
    simp[this]
   ·rw[if_neg hp,if_neg hp]
    exact hA
end
end Go.Sx

namespace Go.Sx
def kyV (k:Int×Int):Value:= .agg #[.int .i64 k.1,.int .i64 k.2]
structure PrK (P:Program)(kt ft:TypeId)(f0 f1:Field):Prop where
 u:P.underlying kt=some (.struct #[f0,f1])
 t0:f0.type=ft
 t1:f1.type=ft
 o0:f0.offset=0
 o1:f1.offset=1
 n0:f0.name≠ "_"
 n1:f1.name≠ "_"
 i:P.underlying ft=some (.int .i64)
 a:∀w,(isAgg ft).run P w= .ok false w
 st:P.stoodInHeld kt=false
def OwMa (it:Itm)(v:Value)(M:List ((Int×Int)×Int)):Prop:=
 ∃(b:Nat) (es:Array MapEntry) (clock:Nat),it= .obj b (.map es clock)∧v= .map (some b)∧es.toList.map (λe=>(e.key,e.val))=M.map (λkv=>(kyV kv.1,Value.int .i64 kv.2))∧(∀e∈es.toList,e.born<clock)∧(es.toList.map (·.born)).Nodup
def mpGet (M:List ((Int×Int)×Int))(x:Int×Int):Option Int:=(M.find? λkv=>kv.1==x).map (·.2)
section
variable {P : Program} {kt ft : TypeId} {f0 f1 : Field}
theorem PrK.part0 (K:PrK P kt ft f0 f1)(x y:Value)(w:World):(part f0.type #[x,y] f0.offset).run P w= .ok x w:=by
 rw[K.t0,K.o0]
 simp[part,K.a w]
theorem PrK.part1 (K:PrK P kt ft f0 f1)(x y:Value)(w:World):(part f1.type #[x,y] f1.offset).run P w= .ok y w:=by
 rw[K.t1,K.o1]
 simp[part,K.a w]
theorem PrK.eq (K:PrK P kt ft f0 f1)(a b:Int×Int)(w:World):(Op.equal kt (kyV a) (kyV b)).run P w= .ok (a==b) w:=by
 have hf:P.fieldsOf kt= #[f0,f1]:=by simp[Program.fieldsOf,K.u]
 have h:(Op.equal kt (kyV a) (kyV b)).run P w=(Op.eqFields 9999 #[.int .i64 a.1,.int .i64 a.2] #[.int .i64 b.1,.int .i64 b.2] [f0,f1]).run P w:=by
  have:=run_equalIn_struct (P:=P) w 9999 kt #[.int .i64 a.1,.int .i64 a.2] #[.int .i64 b.1,.int .i64 b.2] (by rw[hf];exact K.u) K.st
  rw[hf] at this
  exact this
 rw[h]
 have e0:(Op.equalIn 9999 f0.type (.int .i64 a.1) (.int .i64 b.1)).run P w= .ok (a.1==b.1) w:=run_equalIn_int w 9998 _ _ _ _ _ (by rw[K.t0];exact K.i)
 have e1:(Op.equalIn 9999 f1.type (.int .i64 a.2) (.int .i64 b.2)).run P w= .ok (a.2==b.2) w:=run_equalIn_int w 9998 _ _ _ _ _ (by rw[K.t1];exact K.i)
 simp only[Op.eqFields,K.n0,K.n1,ne_eq,not_false_eq_true,if_true,Sem.run_bind,K.part0,K.part1,Result.andThen_ok,e0]
 obtain⟨a1,a2⟩:=a;obtain⟨b1,b2⟩:=b
 dsimp only at*
 cases h1:(a1==b1)
 ·have:((a1,a2)==(b1,b2))=false:=by
   show (a1==b1&&a2==b2)=false
   rw[h1];rfl
  simp[this]
 ·have:((a1,a2)==(b1,b2))=(a2==b2):=by
   show (a1==b1&&a2==b2)=_
   rw[h1];rfl
  rw[this]
  cases h2:(a2==b2)<;>simp[Sem.run_bind,K.part0,K.part1,e1,h2]
theorem PrK.find (K:PrK P kt ft f0 f1)(x:Int×Int)(w:World):∀(es:List MapEntry) (M:List ((Int×Int)×Int)) (i:Nat),es.map (λe=>(e.key,e.val))=M.map (λkv=>(kyV kv.1,Value.int .i64 kv.2))→
  ((Instr.findAsking kt (kyV x) es i).run P w= .ok none w∧mpGet M x=none)∨∃j kv,(Instr.findAsking kt (kyV x) es i).run P w= .ok (some (i+j,.int .i64 kv.2)) w∧M[j]? =some kv∧kv.1=x∧mpGet M x=some kv.2
 |[],M,i,h=>by
  have:M=[]:=by simpa using h.symm
  subst this
  exact .inl ⟨by simp[Instr.findAsking],rfl⟩
 |e::es,[],i,h=>by simp at h
 |e::es,kv::M,i,h=>by
  simp only[List.map_cons,List.cons.injEq,Prod.mk.injEq] at h
  obtain⟨⟨h1,h2⟩,h3⟩:=h
  unfold Instr.findAsking mpGet
  rw[h1]
  simp only[Sem.run_bind,K.eq,Result.andThen_ok,List.find?_cons]
  by_cases hx:x=kv.1
  ·have e1:(x==kv.1)=true:=by rw[beq_iff_eq];exact hx
   have e2:(kv.1==x)=true:=by rw[beq_iff_eq];exact hx.symm
   rw[e1,e2]
   exact .inr ⟨0,kv,by simp[h2],rfl,hx.symm,rfl⟩
  ·have e1:(x==kv.1)=false:=by rw[beq_eq_false_iff_ne];exact hx
   have e2:(kv.1==x)=false:=by rw[beq_eq_false_iff_ne];exact λe=>hx e.symm
   rw[e1,e2]
   rcases K.find x w es M (i+1) h3 with⟨h4,h5⟩|⟨j,kv',h4,h5,h6,h7⟩
   ·exact .inl ⟨by simpa using h4,h5⟩
   ·exact .inr ⟨j+1,kv',by simp only[Bool.false_eq_true,if_false,h4];congr 3;omega,by simpa using h5,h6,h7⟩
theorem PrK.findKey (K:PrK P kt ft f0 f1)(x:Int×Int)(w:World){es:List MapEntry}{M:List ((Int×Int)×Int)}(h:es.map (λe=>(e.key,e.val))=M.map (λkv=>(kyV kv.1,Value.int .i64 kv.2))):
  ((Instr.findKey kt (kyV x) es).run P w= .ok none w∧mpGet M x=none)∨∃j kv,(Instr.findKey kt (kyV x) es).run P w= .ok (some (j,.int .i64 kv.2)) w∧M[j]? =some kv∧kv.1=x∧mpGet M x=some kv.2:=by
 rw[run_findKey_eq w (by rw[K.u])]
 rcases K.find x w es M 0 h with h|⟨j,kv,h1,h2⟩
 ·exact .inl h
 ·exact .inr ⟨j,kv,by rw[h1,Nat.zero_add],h2⟩
end
section
variable {P : Program} {ops : Array Oper} {rest : List Oper} {n r : AS} {x : List (Nat × AS)} {a : Act} {w : World} {N : Nat} {L : A2}
variable {W : World} {G : GH} {H : List Itm} {d : Nat} {t : TypeId} {pos : String} {af : Array Edge} {kt ft : TypeId} {f0 f1 : Field}
theorem OwMa.push {it:Itm}{v:Value}{M:List ((Int×Int)×Int)}(j:Nat)(m:Mem W G w H)(h:OwMa it v M)(hj:H[j]? =some it)(i:Int×Int)(y:Int):
  ∃b es clock,v= .map (some b)∧w.heap[b]? =some (.map es clock)∧es.toList.map (λe=>(e.key,e.val))=M.map (λkv=>(kyV kv.1,Value.int .i64 kv.2))∧
   ∃it',Mem W G {w with heap:=w.heap.setIfInBounds b (.map (es.push {key:=kyV i,val:= .int .i64 y,born:=clock}) (clock+1))} (H.set j it')∧OwMa it' v (M++[(i,y)]):=by
 obtain⟨b,es,clock,rfl,rfl,he,hb,hn⟩:=h
 have hg:w.heap[b]? =some (.map es clock):=m.items j _ hj
 have hlt:b<w.heap.size:=(Array.getElem?_eq_some_iff.1 hg).1
 refine⟨b,es,clock,rfl,hg,he,.obj b (.map (es.push {key:=kyV i,val:= .int .i64 y,born:=clock}) (clock+1)),m.changeAt j hj rfl rfl rfl (λy _ hy=>by
   have:y≠b:=λe=>hy (by rw[e];simp[Itm.foot])
   simp[Ne.symm this]) (by simp[Itm.ok,hlt]) (λy hy=> .inl hy),b,_,_,rfl,rfl,by simp[he],λe hm=> ?_,?_⟩
 ·rw[Array.toList_push,List.mem_append] at hm
  rcases hm with hm|hm
  ·have:=hb e hm;omega
  ·simp at hm;subst hm;simp
 ·rw[Array.toList_push,List.map_append,List.nodup_append]
  refine⟨hn,by simp,λp hp q hq=> ?_⟩
  obtain⟨e,hm,rfl⟩:=List.mem_map.1 hp
  simp at hq
  have:=hb e hm
  omega
end
section
variable {P : Program} {ops : Array Oper} {rest : List Oper} {n r : AS} {x : List (Nat × AS)} {a : Act} {w : World} {N : Nat} {L : A2}
variable {W : World} {G : GH} {H : List Itm} {d : Nat} {t : TypeId} {pos : String} {af : Array Edge}
end
section
variable {P : Program} {ops : Array Oper} {nn r : AS} {x : List (Nat × AS)} {a : Act} {W : World} {T : Act → World → Prop} {H E : List Itm} {G : GH} {N fuel : Nat} {L : A2} {listed listed' : Array Bool}
variable {i d : Nat} {t : TypeId} {pos : String} {af : Array Edge} {gd : Option (Nat × Bool)} {kt ft : TypeId} {f0 f1 : Field}
end
end Go.Sx

namespace Go.Sx
theorem w64 {x:Int}(h1: -9223372036854775808≤x)(h2:x<9223372036854775808):IntKind.i64.wrap x=x:=by
 simp only[IntKind.wrap,IntKind.bits,IntKind.signed]
 have e:(2:Int)^64=18446744073709551616:=by decide
 have e':(2:Int)^(64-1)=9223372036854775808:=by decide
 simp
 omega
theorem dlt {i n:Nat}(h:i<n):decide ((i:Int)<(n:Int))=true:=by simp;omega
theorem A3 {n:Nat}:decide ((n:Int)<(n:Int))=false:=by simp
theorem Ax {α:Type}{xs:List α}{i:Nat}(h:i<xs.length):idx xs (i:Int)=some xs[i]:=by
 unfold idx;rw[if_pos (by omega)];simp[h]
theorem Fb {α:Type}{xs:List α}{i:Int}(h0:0≤i)(h:i<xs.length):idx xs i=some (xs[i.toNat]'(by omega)):=by
 unfold idx;rw[if_pos h0];simp
theorem wi {i:Nat}(h:i<4611686018427387904):IntKind.i64.wrap ((i:Int)+1)=((i+1:Nat):Int):=by
 rw[w64 (by omega) (by omega)];rfl
theorem wi' {i n:Nat}(h:i<n)(hn:n≤4611686018427387904):IntKind.i64.wrap ((i:Int)+1)=((i+1:Nat):Int):=wi (by omega)
theorem Ar {α:Type}{xs:List α}{i:Nat}(h:i<xs.length)(d:α):xs.getD i d=xs[i]:=by simp[h]
theorem AQ {α:Type}{xs ys:List α}(h:xs.length+ys.length≤4294967296):AC xs ys=some (xs++ys):=by
 unfold AC;rw[if_pos h]
theorem DO {α:Type}{xs:List α}{i:Nat}(h:i≤xs.length):BF xs 0 (i:Int)=some (xs.take i):=by
 unfold BF;rw[if_pos ⟨by omega,by omega,by omega⟩];simp
theorem Fu {α:Type}{xs:List α}{i:Nat}(h:i≤xs.length):BF xs (i:Int) (xs.length:Int)=some (xs.drop i):=by
 unfold BF;rw[if_pos ⟨by omega,by omega,by omega⟩];simp
theorem makeD_ok {α:Type}{z:α}{n:Nat}{c:Int}(h:(n:Int)≤c)(h2:c≤4294967296):Dl z (n:Int) c=some (List.replicate n z):=by
 unfold Dl;rw[if_pos ⟨by omega,h,h2⟩];simp
theorem makeD_zero {α:Type}{z:α}{c:Int}(h:0≤c)(h2:c≤4294967296):Dl z 0 c=some []:=by
 unfold Dl;rw[if_pos ⟨by omega,h,h2⟩];simp
def Stp {σ ρ:Type}(I:σ→Prop)(μ:σ→Nat)(Post:ρ→Prop)(s:σ):σ ⊕ ρ→Prop
 | .inl s'=>I s'∧μ s'<μ s
 | .inr r=>Post r
theorem AB {σ ρ β:Type}{step:σ→Option (σ ⊕ ρ)}{s:σ}{k:ρ→Option β}{Q:β→Prop}(I:σ→Prop)(μ:σ→Nat)(Post:ρ→Prop)
  (hstep:∀s,I s→∃y,step s=some y∧Stp I μ Post s y) (h0:I s) (hk:∀r,Post r→∃y,k r=some y∧Q y):∃y,(Aq step s).bind k=some y∧Q y:=by
 obtain⟨r,hr,hp⟩:=loopF_inv (step:=step) I μ Post (λs hs=>by
  obtain⟨y,hy,hq⟩:=hstep s hs
  cases y with
  |inl s'=>exact .inl ⟨s',hy,hq.1,hq.2⟩
  |inr r=>exact .inr ⟨r,hy,hq⟩) s h0
 rw[hr]
 exact hk r hp
theorem B5 {α β:Type}{e:Option α}{k:α→Option β}{Q:β→Prop}(R:α→Prop)(h:∃x,e=some x∧R x)(hk:∀x,R x→∃y,k x=some y∧Q y):∃y,e.bind k=some y∧Q y:=by
 obtain⟨x,rfl,hx⟩:=h
 exact hk x hx
theorem bind_eq {α β:Type}{e:Option α}{k:α→Option β}{Q:β→Prop}{x:α}(h:e=some x)(hk:∃y,k x=some y∧Q y):∃y,e.bind k=some y∧Q y:=by
 subst h;exact hk
theorem loop_steps {S ρ:Type}{step:S→Option (S ⊕ ρ)}(st:Nat→S)(n:Nat)(h:∀i,i<n→step (st i)=some (.inl (st (i+1)))):Aq step (st 0)=Aq step (st n):=by
 have key:∀k,k≤n→Aq step (st 0)=Aq step (st k):=by
  intro k
  induction k with
  |zero=>intro _;rfl
  |succ k ih=>intro hk;rw[ih (by omega),B2 (h k (by omega))]
 exact key n (Nat.le_refl n)
theorem C8 {S ρ β:Type}{step:S→Option (S ⊕ ρ)}{k:ρ→Option β}{s0:S}(st:Nat→S)(n:Nat)(r:ρ)(h0:st 0=s0)(h:∀i,i<n→step (st i)=some (.inl (st (i+1))))(he:step (st n)=some (.inr r)):
  (Aq step s0).bind k=k r:=by
 rw[←h0,loop_steps st n h,Bk he];rfl
theorem E3 {α σ S ρ:Type}{step:S→Option (S ⊕ ρ)}(xs:List α)(enc:σ→Int→S)(f:σ→α→σ)(fin:σ→ρ)(I:σ→Prop)(s0:σ)
  (h0:I s0) (hstep:∀s (i:Nat) (h:i<xs.length),I s→step (enc s i)=some (.inl (enc (f s xs[i]) ((i+1:Nat):Int)))∧I (f s xs[i]))
  (hend:∀s,I s→step (enc s xs.length)=some (.inr (fin s))):Aq step (enc s0 0)=some (fin (xs.foldl f s0))∧I (xs.foldl f s0):=by
 have key:∀(k i:Nat) (s:σ),i+k=xs.length→I s→Aq step (enc s i)=some (fin ((xs.drop i).foldl f s))∧I ((xs.drop i).foldl f s):=by
  intro k
  induction k with
  |zero=>
   intro i s hk hs
   obtain rfl:i=xs.length:=by omega
   simp only[List.drop_length,List.foldl_nil]
   exact⟨Bk (hend s hs),hs⟩
  |succ k ih=>
   intro i s hk hs
   have hi:i<xs.length:=by omega
   obtain⟨h1,h2⟩:=hstep s i hi hs
   rw[B2 h1,List.drop_eq_getElem_cons hi,List.foldl_cons]
   exact ih (i+1) _ (by omega) h2
 have:=key xs.length 0 s0 (by omega) h0
 simpa using this
theorem loop_listb {α σ S ρ β:Type}{step:S→Option (S ⊕ ρ)}{k:ρ→Option β}(xs:List α)(enc:σ→Int→S)(f:σ→α→σ)(fin:σ→ρ)(I:σ→Prop)(s0:σ)
  (h0:I s0) (hstep:∀s (i:Nat) (h:i<xs.length),I s→step (enc s i)=some (.inl (enc (f s xs[i]) ((i+1:Nat):Int)))∧I (f s xs[i]))
  (hend:∀s,I s→step (enc s xs.length)=some (.inr (fin s))):(Aq step (enc s0 0)).bind k=k (fin (xs.foldl f s0)):=by
 rw[(E3 xs enc f fin I s0 h0 hstep hend).1];rfl
theorem Ds {α β γ S:Type}{step:S→Option (S ⊕ List β)}{k:List β→Option γ}(xs:List α)(enc:List β→Int→S)(f:α→β)(hx:xs.length≤4294967296)
  (hstep:∀s (i:Nat) (h:i<xs.length),s.length=i→step (enc s i)=(AC s [f xs[i]]).bind λl=>some (.inl (enc l ((i+1:Nat):Int))))
  (hend:∀s,step (enc s xs.length)=some (.inr s)):(Aq step (enc [] 0)).bind k=k (xs.map f):=by
 have key:∀i,i≤xs.length→Aq step (enc [] 0)=Aq step (enc ((xs.take i).map f) i):=by
  intro i
  induction i with
  |zero=>intro _;simp
  |succ i ih=>
   intro hi
   rw[ih (by omega)]
   have h1:=hstep ((xs.take i).map f) i (by omega) (by simp;omega)
   have h2:AC ((xs.take i).map f) [f xs[i]]=some ((xs.take (i+1)).map f):=by
    unfold AC
    rw[if_pos (by simp;omega)]
    rw[List.take_succ_eq_append_getElem (show i<xs.length by omega),List.map_append];rfl
   rw[h2] at h1
   rw[B2 h1]
 rw[key xs.length (Nat.le_refl _),List.take_length,Bk (hend _)];rfl
theorem loop_nat {σ S ρ:Type}{step:S→Option (S ⊕ ρ)}(n:Nat)(enc:σ→Int→S)(f:σ→Nat→σ)(fin:σ→ρ)(I:Nat→σ→Prop)(s0:σ)
  (h0:I 0 s0) (hstep:∀s (i:Nat),i<n→I i s→step (enc s i)=some (.inl (enc (f s i) ((i+1:Nat):Int)))∧I (i+1) (f s i))
  (hend:∀s,I n s→step (enc s n)=some (.inr (fin s))):Aq step (enc s0 0)=some (fin ((List.range n).foldl f s0))∧I n ((List.range n).foldl f s0):=by
 have key:∀k,k≤n→Aq step (enc s0 0)=Aq step (enc ((List.range k).foldl f s0) k)∧I k ((List.range k).foldl f s0):=by
  intro k
  induction k with
  |zero=>intro _;exact⟨rfl,h0⟩
  |succ k ih=>
   intro hk
   obtain⟨h1,h2⟩:=ih (by omega)
   obtain⟨h3,h4⟩:=hstep _ k (by omega) h2
   rw[List.range_succ,List.foldl_append,List.foldl_cons,List.foldl_nil]
   exact⟨by rw[h1,B2 h3],h4⟩
 obtain⟨h1,h2⟩:=key n (Nat.le_refl n)
 exact⟨by rw[h1,Bk (hend _ h2)],h2⟩
theorem Ee {ρ : Type} {step : Int → Option (Int ⊕ ρ)} (n : Nat) (c : Nat → Option ρ) (fin : ρ)
    (hstep : ∀ i, i < n → step (i : Int) = match c i with | some r => some (.inr r) | none => some (.inl ((i + 1 : Nat) : Int)))
    (hend : step (n : Int) = some (.inr fin)) : Aq step 0 = some (((List.range n).findSome? c).getD fin) := by
  have key : ∀ (k i : Nat), i + k = n → Aq step (i : Int) = some (((List.range' i k).findSome? c).getD fin) := by
    intro k
    induction k with
    | zero => intro i h; obtain rfl : i = n := by omega
              simpa using Bk hend
    | succ k ih =>
      intro i h
      have h1 := hstep i (by omega)
      rw [List.range'_succ, List.findSome?_cons]
      cases hc : c i with
      | some r => rw [hc] at h1; simpa using Bk h1
      | none => rw [hc] at h1; rw [B2 h1]; exact ih (i + 1) (by omega)
  have := key n 0 (by omega)
  simpa [List.range_eq_range'] using this
theorem DB {β:Type}{step:Int→Option (Int ⊕ (Unit ⊕ β))}{k:Unit ⊕ β→Option Bool}(n:Nat)(c:Nat→Bool)(bad:β)
  (hstep:∀i,i<n→step (i:Int)=if c i then some (.inl ((i+1:Nat):Int)) else some (.inr (.inr bad)))
  (hend:step (n:Int)=some (.inr (.inl ()))) (hk1:k (.inl ())=some true) (hk2:k (.inr bad)=some false):
  (Aq step 0).bind k=some ((List.range n).all c):=by
 rw[Ee n (λi=>if c i then none else some (.inr bad)) (.inl ()) (λi hi=>by rw[hstep i hi];cases c i<;>rfl) hend]
 simp only[bs]
 cases h:(List.range n).all c with
 |true=>
  rw[List.findSome?_eq_none_iff.2 (λx hx=>by rw[if_pos (List.all_eq_true.1 h x hx)])]
  exact hk1
 |false=>
  cases h2:(List.range n).findSome? (λi=>if c i then none else some (Sum.inr bad)) with
  |none=>
   rw[List.findSome?_eq_none_iff] at h2
   have:(List.range n).all c=true:=List.all_eq_true.2 λx hx=>by
    have:=h2 x hx
    cases hc:c x
    ·rw[hc] at this;cases this
    ·rfl
   rw[this] at h;cases h
  |some r=>
   obtain⟨x,_,hx⟩:=List.exists_of_findSome?_eq_some h2
   cases hc:c x
   ·rw[hc] at hx;simp at hx;subst hx;exact hk2
   ·rw[hc] at hx;simp at hx
theorem Fc {ρ β:Type}{step:Int→Option (Int ⊕ ρ)}{k:ρ→Option β}(n:Nat)(c:Nat→Bool)(fine bad:ρ)
  (hstep:∀i,i<n→step (i:Int)=if c i then some (.inl ((i+1:Nat):Int)) else some (.inr bad))
  (hend:step (n:Int)=some (.inr fine)):(Aq step 0).bind k=cond ((List.range n).all c) (k fine) (k bad):=by
 rw[Ee n (λi=>if c i then none else some bad) fine (λi hi=>by rw[hstep i hi];cases c i<;>rfl) hend]
 simp only[bs]
 cases h:(List.range n).all c with
 |true=>
  rw[List.findSome?_eq_none_iff.2 (λx hx=>by rw[if_pos (List.all_eq_true.1 h x hx)])]
  rfl
 |false=>
  cases h2:(List.range n).findSome? (λi=>if c i then none else some bad) with
  |none=>
   rw[List.findSome?_eq_none_iff] at h2
   have:(List.range n).all c=true:=List.all_eq_true.2 λx hx=>by
    have:=h2 x hx
    cases hc:c x
    ·rw[hc] at this;cases this
    ·rfl
   rw[this] at h;cases h
  |some r=>
   obtain⟨x,_,hx⟩:=List.exists_of_findSome?_eq_some h2
   cases hc:c x
   ·rw[hc] at hx;simp at hx;subst hx;rfl
   ·rw[hc] at hx;simp at hx
theorem EP {β:Type}{step:Int→Option (Int ⊕ (Unit ⊕ β))}{k:Unit ⊕ β→Option Bool}(n:Nat)(c:Nat→Bool)(good:β)
  (hstep:∀i,i<n→step (i:Int)=if c i then some (.inr (.inr good)) else some (.inl ((i+1:Nat):Int)))
  (hend:step (n:Int)=some (.inr (.inl ()))) (hk1:k (.inl ())=some false) (hk2:k (.inr good)=some true):
  (Aq step 0).bind k=some ((List.range n).any c):=by
 rw[Ee n (λi=>if c i then some (.inr good) else none) (.inl ()) (λi hi=>by rw[hstep i hi];cases c i<;>rfl) hend]
 simp only[bs]
 cases h:(List.range n).any c with
 |false=>
  rw[List.findSome?_eq_none_iff.2 (λx hx=>by
   have:c x=false:=by
    cases hc:c x
    ·rfl
    ·rw[List.any_eq_true.2 ⟨x,hx,hc⟩] at h;cases h
   rw[this];rfl)]
  exact hk1
 |true=>
  obtain⟨x,hx,hc⟩:=List.any_eq_true.1 h
  cases h2:(List.range n).findSome? (λi=>if c i then some (Sum.inr good) else none) with
  |none=>
   rw[List.findSome?_eq_none_iff] at h2
   have:=h2 x hx
   rw[hc] at this;cases this
  |some r=>
   obtain⟨y,_,hy⟩:=List.exists_of_findSome?_eq_some h2
   cases hc:c y
   ·rw[hc] at hy;simp at hy
   ·rw[hc] at hy;simp at hy;subst hy;exact hk2
theorem Ej {α:Type}(xs:List α)(p:α→Bool)(c:Nat→Bool)(h:∀i (hi:i<xs.length),c i=p xs[i]):(List.range xs.length).all c=xs.all p:=by
 rw[Bool.eq_iff_iff,List.all_eq_true,List.all_eq_true]
 constructor
 ·intro hh x hx
  obtain⟨i,hi,rfl⟩:=List.getElem_of_mem hx
  rw[←h i hi];exact hh i (List.mem_range.2 hi)
 ·intro hh i hi
  have hi':=List.mem_range.1 hi
  rw[h i hi'];exact hh _ (List.getElem_mem _)
theorem range_any_list {α:Type}(xs:List α)(p:α→Bool)(c:Nat→Bool)(h:∀i (hi:i<xs.length),c i=p xs[i]):(List.range xs.length).any c=xs.any p:=by
 rw[Bool.eq_iff_iff,List.any_eq_true,List.any_eq_true]
 constructor
 ·rintro⟨i,hi,hc⟩
  have hi':=List.mem_range.1 hi
  exact⟨_,List.getElem_mem hi',by rw[←h i hi'];exact hc⟩
 ·rintro⟨x,hx,hc⟩
  obtain⟨i,hi,rfl⟩:=List.getElem_of_mem hx
  exact⟨i,List.mem_range.2 hi,by rw[h i hi];exact hc⟩
theorem Di (n:Nat)(c:Nat→Bool):(List.range n).all c=true↔∀i,i<n→c i=true:=by
 rw[List.all_eq_true]
 exact⟨λh i hi=>h i (List.mem_range.2 hi),λh i hi=>h i (List.mem_range.1 hi)⟩
theorem DZ (n:Int):IntKind.u32.wrap n=n%4294967296:=by simp[IntKind.wrap,IntKind.signed,IntKind.bits]
def VS (s:Int):Prop:=0≤s∧s<4294967296
def has (s:Int)(v:Nat):Bool:=s.toNat.testBit v
theorem VS.nat {s:Int}(h:VS s):∃n:Nat,s=n∧n<4294967296:=⟨s.toNat,by have:=h.1;omega,by have:=h.1;have:=h.2;omega⟩
theorem VS.zero :VS 0:=⟨by omega,by omega⟩
theorem VS.wrap (n:Int):VS (IntKind.u32.wrap n):=by rw[DZ];exact⟨by omega,by omega⟩
theorem VS.ofNat {n:Nat}(h:n<4294967296):VS (n:Int):=⟨by omega,by omega⟩
theorem BU (n v:Nat):has (n:Int) v=n.testBit v:=by simp[has]
theorem A4 (v:Nat):has 0 v=false:=by simp[has]
theorem Dd (n:Nat)(h:n<4294967296):(BitVec.ofInt 32 (n:Int)).toNat=n:=by
 rw[BitVec.toNat_ofInt]
 omega
theorem ior_nat {a b:Nat}(ha:a<4294967296)(hb:b<4294967296):ior .u32 (a:Int) (b:Int)=((a|||b:Nat):Int):=by
 have hw:a|||b<4294967296:=Nat.or_lt_two_pow (n:=32) ha hb
 show IntKind.u32.wrap (((BitVec.ofInt 32 (a:Int)|||BitVec.ofInt 32 (b:Int)).toNat:Nat):Int)=_
 rw[BitVec.toNat_or,Dd a ha,Dd b hb,DZ];omega
theorem ED {a b:Nat}(ha:a<4294967296)(hb:b<4294967296):iand .u32 (a:Int) (b:Int)=((a&&&b:Nat):Int):=by
 have hw:a&&&b<4294967296:=Nat.and_lt_two_pow (n:=32) _ hb
 show IntKind.u32.wrap (((BitVec.ofInt 32 (a:Int)&&&BitVec.ofInt 32 (b:Int)).toNat:Nat):Int)=_
 rw[BitVec.toNat_and,Dd a ha,Dd b hb,DZ];omega
theorem VS.ior (a b:Int):VS (ior .u32 a b):=VS.wrap _
theorem VS.iand (a b:Int):VS (iand .u32 a b):=VS.wrap _
theorem VS.iandNot (a b:Int):VS (iandNot .u32 a b):=VS.wrap _
theorem VS.ishl (a b:Int):VS (ishl .u32 a b):=VS.wrap _
theorem BV {a b:Int}(ha:VS a)(hb:VS b)(v:Nat):has (ior .u32 a b) v=(has a v||has b v):=by
 obtain⟨m,rfl,hm⟩:=ha.nat;obtain⟨n,rfl,hn⟩:=hb.nat
 rw[ior_nat hm hn];simp only[BU,Nat.testBit_or]
theorem Dp {a b:Int}(ha:VS a)(hb:VS b)(v:Nat):has (iand .u32 a b) v=(has a v&&has b v):=by
 obtain⟨m,rfl,hm⟩:=ha.nat;obtain⟨n,rfl,hn⟩:=hb.nat
 rw[ED hm hn];simp only[BU,Nat.testBit_and]
theorem Ba {a b:Int}(ha:VS a)(hb:VS b)(v:Nat):has (iandNot .u32 a b) v=(has a v&& !has b v):=by
 obtain⟨m,rfl,hm⟩:=ha.nat;obtain⟨n,rfl,hn⟩:=hb.nat
 have e:iandNot .u32 (m:Int) (n:Int)=(((BitVec.ofInt 32 (m:Int)&&& ~~~(BitVec.ofInt 32 (n:Int))).toNat:Nat):Int):=by
  have hw:=(BitVec.ofInt 32 (m:Int)&&& ~~~(BitVec.ofInt 32 (n:Int))).isLt
  show IntKind.u32.wrap (((BitVec.ofInt 32 (m:Int)&&& ~~~(BitVec.ofInt 32 (n:Int))).toNat:Nat):Int)=_
  rw[DZ];omega
 rw[e,BU,BU,BU]
 have h1:∀i,(BitVec.ofInt 32 (m:Int)).getLsbD i=m.testBit i:=λi=>by rw[BitVec.getLsbD,Dd m hm]
 have h2:∀i,(BitVec.ofInt 32 (n:Int)).getLsbD i=n.testBit i:=λi=>by rw[BitVec.getLsbD,Dd n hn]
 rw[←BitVec.getLsbD,BitVec.getLsbD_and,BitVec.getLsbD_not,h1,h2]
 by_cases hv:v<32
 ·simp[hv]
 ·have:m.testBit v=false:=Nat.testBit_lt_two_pow (Nat.lt_of_lt_of_le hm (Nat.pow_le_pow_right (n:=2) (by omega) (show 32≤v by omega)))
  simp[this]
theorem DS {a:Int}(ha:VS a){v:Nat}(hv:32≤v):has a v=false:=by
 obtain⟨m,rfl,hm⟩:=ha.nat
 rw[BU]
 exact Nat.testBit_lt_two_pow (Nat.lt_of_lt_of_le hm (Nat.pow_le_pow_right (n:=2) (by omega) hv))
theorem VS.ext {a b:Int}(ha:VS a)(hb:VS b)(h:∀v,v<32→has a v=has b v):a=b:=by
 have:∀v,has a v=has b v:=λv=>by
  by_cases hv:v<32
  ·exact h v hv
  ·rw[DS ha (by omega),DS hb (by omega)]
 obtain⟨m,rfl,hm⟩:=ha.nat;obtain⟨n,rfl,hn⟩:=hb.nat
 congr 1
 apply Nat.eq_of_testBit_eq
 intro v
 have:=this v
 rwa [BU,BU] at this
theorem VS.eq_zero {a:Int}(ha:VS a):a=0↔∀v,v<32→has a v=false:=
 ⟨λh v _=>by rw[h,A4],λh=>ha.ext VS.zero (λv hv=>by rw[h v hv,A4])⟩
theorem one_eq {v:Nat}(hv:v<32):ishl .u32 1 (v:Int)=((2^v:Nat):Int):=by
 have h:(2:Nat)^v<2^32:=Nat.pow_lt_pow_right (by omega) hv
 have h':(2:Nat)^32=4294967296:=by decide
 rw[h'] at h
 show IntKind.u32.wrap (1*2^(min ((v:Int)).toNat 32))=_
 rw[DZ,show min ((v:Int)).toNat 32=v by simp;omega,Int.one_mul]
 have e:((2^v:Nat):Int)=(2:Int)^v:=by simp
 rw[←e]
 generalize 2^v=p at h ⊢
 omega
theorem Bv {v:Nat}(hv:v<32)(u:Nat):has (ishl .u32 1 (v:Int)) u=decide (u=v):=by
 rw[one_eq hv,BU,Nat.testBit_two_pow]
 simp[eq_comm]
theorem shr_eq (s:Int)(v:Nat)(h:VS s)(hv:v<32):BR .u32 s (v:Int)=((s.toNat>>>v:Nat):Int):=by
 obtain⟨m,rfl,hm⟩:=h.nat
 show Int.fdiv (m:Int) (2^(min ((v:Int)).toNat 32))=_
 rw[show min ((v:Int)).toNat 32=v by simp;omega]
 have e:((2^v:Nat):Int)=(2:Int)^v:=by simp
 rw[←e,Int.fdiv_eq_ediv_of_nonneg _ (Int.natCast_nonneg _),Nat.shiftRight_eq_div_pow]
 simp
def Am (s:Int):LI:=((List.range 32).filter (has s)).map Int.ofNat
theorem mem_elems {s:Int}{x:Int}:x∈Am s↔∃v:Nat,v<32∧has s v=true∧x=v:=by
 unfold Am
 rw[List.mem_map]
 constructor
 ·rintro⟨v,hv,rfl⟩
  rw[List.mem_filter,List.mem_range] at hv
  exact⟨v,hv.1,hv.2,rfl⟩
 ·rintro⟨v,h1,h2,rfl⟩
  exact⟨v,List.mem_filter.2 ⟨List.mem_range.2 h1,h2⟩,rfl⟩
theorem AN {s:Int}(h:VS s){v:Nat}:(v:Int)∈Am s↔has s v=true:=by
 rw[mem_elems]
 constructor
 ·rintro⟨u,_,h2,h3⟩;obtain rfl:v=u:=by omega
  exact h2
 ·intro h2
  refine⟨v,?_,h2,rfl⟩
  by_cases hv:v<32
  ·exact hv
  ·rw[DS h (by omega)] at h2;cases h2
theorem BO (s:Int):(Am s).length≤32:=by
 unfold Am
 rw[List.length_map]
 exact Nat.le_trans (List.length_filter_le _ _) (by simp)
def Inc (l:LI):Prop:=l.Pairwise (·<·)
theorem Bu (s:Int):Inc (Am s):=by
 unfold Am Inc
 rw[List.pairwise_map]
 refine List.Pairwise.filter _ ?_
 refine List.Pairwise.imp ?_ (List.pairwise_lt_range (n:=32))
 intro a b h
 show (a:Int)<(b:Int)
 omega
theorem Inc.ext :∀{l l':LI},Inc l→Inc l'→(∀x,x∈l↔x∈l')→l=l'
 |[],[],_,_,_=>rfl
 |[],y::l',_,_,h=>by have:=(h y).2 (by simp);simp at this
 |x::l,[],_,_,h=>by have:=(h x).1 (by simp);simp at this
 |x::l,y::l',h1,h2,h=>by
  have h1':=List.pairwise_cons.1 h1;have h2':=List.pairwise_cons.1 h2
  have e:x=y:=by
   rcases List.mem_cons.1 ((h x).1 (by simp)) with e|e
   ·exact e
   ·rcases List.mem_cons.1 ((h y).2 (by simp)) with e'|e'
    ·exact e'.symm
    ·have:=h2'.1 x e;have:=h1'.1 y e';omega
  subst e
  have:l=l':=by
   refine Inc.ext h1'.2 h2'.2 (λz=> ?_)
   constructor
   ·intro hz
    rcases List.mem_cons.1 ((h z).1 (List.mem_cons_of_mem _ hz)) with e|e
    ·have:=h1'.1 z hz;omega
    ·exact e
   ·intro hz
    rcases List.mem_cons.1 ((h z).2 (List.mem_cons_of_mem _ hz)) with e|e
    ·have:=h2'.1 z hz;omega
    ·exact e
  rw[this]
theorem least_spec {s:Int}(h:VS s)(h0:s≠0):∃k:Nat,k<32∧has s k=true∧(∀v,v<k→has s v=false)∧
  iand .u32 s (IntKind.u32.wrap (0-s))=((2^k:Nat):Int)∧(∀v,has (iand .u32 s (IntKind.u32.wrap (s-1))) v=(has s v&& !decide (v=k))):=by
 obtain⟨m,rfl,hm⟩:=h.nat
 have hm0:m≠0:=by omega
 obtain⟨q,hq,hk⟩:=Lib.ctzFrom_spec 32 m (by omega) hm
 have hc:Lib.ctz 32 m=Lib.ctzFrom 32 m:=by unfold Lib.ctz;rw[if_neg hm0]
 obtain⟨hl,_⟩:=Lib.lowest_bit 32 m hm0 hm
 rw[hc] at hl
 generalize Lib.ctzFrom 32 m=k at*
 have hpos:0<2^k:=Nat.pow_pos (by omega)
 have hb:∀v,m.testBit v=(decide (v≥k)&&(2*q+1).testBit (v-k)):=λv=>by rw[hq,Nat.mul_comm,Nat.testBit_mul_two_pow,Bool.and_comm]
 refine⟨k,hk,?_,λv hv=> ?_,?_,λv=> ?_⟩
 ·rw[BU,hb];simp
 ·rw[BU,hb];simp;intro hc;omega
 ·have e:IntKind.u32.wrap (0-(m:Int))=((4294967296-m:Nat):Int):=by rw[DZ];omega
  rw[e,ED hm (by omega)]
  rw[←hl]
 ·have e:IntKind.u32.wrap ((m:Int)-1)=((m-1:Nat):Int):=by rw[DZ];omega
  rw[e,ED hm (by omega),BU,BU,Nat.testBit_and]
  have hm1:m-1=2^k*(2*q)+(2^k-1):=by rw[hq,Nat.mul_add];omega
  have hb1:(m-1).testBit v=if v<k then true else(2*q).testBit (v-k):=by
   rw[hm1,Nat.testBit_two_pow_mul_add _ (by omega)]
   split
   ·rename_i hv;rw[Nat.testBit_two_pow_sub_one];simp[hv]
   ·rfl
  rw[hb1,hb]
  by_cases hv:v<k
  ·simp[hv];intro hc;omega
  ·rw[if_neg hv]
   by_cases hvk:v=k
   ·subst hvk;simp
   ·obtain⟨t,ht⟩:∃t,v-k=t+1:=⟨v-k-1,by omega⟩
    rw[ht,Nat.testBit_succ,Nat.testBit_succ]
    have e1:(2*q+1)/2=q:=by omega
    have e2:2*q/2=q:=by omega
    rw[e1,e2]
    simp[hvk]
theorem elems_least {s t:Int}{k:Nat}(hk:k<32)(h1:has s k=true)(h2:∀v,v<k→has s v=false)(h3:∀v,has t v=(has s v&& !decide (v=k))):
  Am s=(k:Int)::Am t:=by
 refine Inc.ext (Bu s) ?_ (λx=> ?_)
 ·refine List.pairwise_cons.2 ⟨λx hx=> ?_,Bu t⟩
  obtain⟨v,hv,h4,rfl⟩:=mem_elems.1 hx
  rw[h3] at h4
  simp at h4
  by_cases hc:v<k
  ·rw[h2 v hc] at h4;simp at h4
  ·omega
 ·rw[List.mem_cons,mem_elems,mem_elems]
  constructor
  ·rintro⟨v,hv,h4,rfl⟩
   by_cases e:v=k
   ·left;omega
   ·right;exact⟨v,hv,by rw[h3,h4];simp[e],rfl⟩
  ·rintro(rfl|⟨v,hv,h4,rfl⟩)
   ·exact⟨k,hk,h1,rfl⟩
   ·rw[h3] at h4;simp at h4
    exact⟨v,hv,h4.1,rfl⟩
theorem CP :Am 0=[]:=by
 unfold Am
 rw[List.filter_eq_nil_iff.2 (λv _=>by simp[A4])];rfl
theorem tz_table :∀k:Nat,k<32→idx tab32 (BR .u32 (IntKind.u32.wrap (((2^k:Nat):Int)*125613361)) 27)=some (k:Int):=by decide+kernel
abbrev ArM :=List ((Int×Int)×Int)
abbrev ArL :=List (Int×Int)
end Go.Sx

namespace Go.Sx
end Go.Sx

namespace Go.Sx
open Go
section
variable {P : Program} {ρ : Operand → Value} {w : World} {d : Option Tmp} {t : TypeId} {pos : String} {af : Array Edge} {gd : Option (Nat × Bool)}
end
end Go.Sx

namespace Go.Sx
end Go.Sx

namespace Go.Sx
end Go.Sx

namespace Go.Sx
open Go
def A16 :Rec (Nat→Int):=⟨16,λx=>(List.range 16).map (λi=> .int .i64 (x i)),λ_=>by simp,by decide,λx c h=>by
 obtain⟨i,_,rfl⟩:=List.mem_map.1 h;rfl⟩
theorem A16.get (x:Nat→Int){j:Nat}(h:j<16):(A16.enc x)[j]? =some (.int .i64 (x j)):=by
 show ((List.range 16).map (λi=>Value.int .i64 (x i)))[j]? =_
 simp[h]
def ai (x:Nat→Int)(j:Int):Option Int:=if 0≤j∧j<16 then some (x j.toNat) else none
theorem ai_some {x:Nat→Int}{j y:Int}(h:ai x j=some y):0≤j∧j<16∧x j.toNat=y:=by
 unfold ai at h
 split at h
 ·rename_i hc;exact⟨hc.1,hc.2,Option.some.inj h⟩
 ·cases h
def aput (x:Nat→Int)(j:Nat)(y:Int):Nat→Int:=λk=>if k=j then y else x k
theorem A16.put (x:Nat→Int){j:Nat}(y:Int)(h:j<16):A16.enc (aput x j y)=(A16.enc x).take j++[.int .i64 y]++(A16.enc x).drop (j+1):=by
 have hl:(A16.enc x).length=16:=A16.len x
 apply List.ext_getElem?
 intro k
 rw[List.append_assoc,List.getElem?_append]
 have hlt:∀j,j<16→(List.take j (A16.enc x)).length=j:=λj hj=>by rw[List.length_take,hl];omega
 rw[hlt j h]
 by_cases hk:k<16
 ·rw[A16.get _ hk]
  by_cases h1:k<j
  ·rw[if_pos h1,List.getElem?_take,if_pos h1,A16.get _ hk]
   unfold aput
   rw[if_neg (by omega)]
  ·rw[if_neg h1]
   by_cases h2:k=j
   ·subst h2
    rw[show k-k=0 by omega]
    unfold aput
    rw[if_pos rfl];rfl
   ·rw[show k-j=(k-j-1)+1 by omega]
    simp only[List.singleton_append,List.getElem?_cons_succ,List.getElem?_drop]
    rw[show j+1+(k-j-1)=k by omega,A16.get _ hk]
    unfold aput
    rw[if_neg h2]
 ·rw[List.getElem?_eq_none (by rw[A16.len];exact Nat.le_of_not_lt hk),if_neg (by omega),List.getElem?_eq_none (by simp[hl];omega)]
theorem A16.at {x:Nat→Int}{j z:Int}(h:ai x j=some z):(A16.enc x)[j.toNat]? =some (.int .i64 z):=by
 obtain⟨h0,h1,rfl⟩:=ai_some h
 exact A16.get x (by omega)
theorem A16.le {x:Nat→Int}{j z:Int}{v:Value}(h:ai x j=some z):j.toNat+[v].length≤A16.m:=by
 obtain⟨h0,h1,_⟩:=ai_some h
 show j.toNat+1≤16
 omega
section
variable {P : Program} {ρ : Operand → Value} {w : World} {d : Option Tmp} {t : TypeId} {pos : String} {af : Array Edge} {gd : Option (Nat × Bool)}
end
section
variable {P : Program} {ops : Array Oper} {rest : List Oper} {n r : AS} {x : List (Nat × AS)} {a : Act} {w : World} {N : Nat} {L : A2}
variable {d : Nat} {t : TypeId} {pos : String} {af : Array Edge}
end
section
variable {P : Program} {ops : Array Oper} {nn r : AS} {x : List (Nat × AS)} {T : Act → World → Prop} {W : World} {G : GH} {E H : List Itm} {N : Nat} {L : A2} {a : Act} {fuel : Nat} {listed listed' : Array Bool}
variable {t : TypeId} {pos : String} {af : Array Edge} {gd : Option (Nat × Bool)} {d i : Nat}
end
end Go.Sx

namespace Go.Sx
open IntKind
noncomputable def D.x1 (f:Int→Int→Option (Bool×Int))(n:Int)(s:Int×Int):Option ((Int×Int) ⊕ (Int×Bool)):=
 cond (decide (s.2≤n)) ((D.m f Bo n 0 s.2 0 s.1).bind λr=>cond r.1 (some (.inr (r.2,true))) (some (.inl (r.2,i64.wrap (s.2+1))))) (some (.inr (0,false)))
end Go.Sx

namespace Go.Sx
open IntKind
noncomputable section
def D.d0 (i:LL)(d:Int)(j:LI):Option LI:=
 (Aq (σ:=LI×Int) (ρ:=LI) (fun(k,l)=>(D.b i).bind λp=>cond (decide (l<p)) ((AC k ([(-1)]:LI)).bind λq=>some (.inl (q,(i64.wrap (l+1))))) (some (.inr k))) (([]:LI),0)).bind λg=>(D.e j d).bind λr=>cond (!r) (some g) ((idx g d).bind λah=>(Aq (σ:=LI×LI×Int) (ρ:=LI) (fun(m,h,e)=>cond (decide (e<(h.length:Int))) ((idx h e).bind λt=>(idx i t).bind λc=>(Aq (σ:=LI×LI×Int) (ρ:=(LI×LI)) (fun(b,f,a)=>cond (decide (a<(c.length:Int))) ((idx c a).bind λv=>(idx b v).bind λw=>(cond (decide (w<0)) ((idx c a).bind λx=>(D.e j x).bind λy=>some y) (some false)).bind λz=>cond z ((idx c a).bind λn=>(idx f e).bind λaa=>(idx b aa).bind λab=>(idx b n).bind λai=>(idx c a).bind λac=>(AC f ([ac]:LI)).bind λad=>some (.inl ((b.set (Int.toNat n) (i64.wrap (ab+1))),ad,(i64.wrap (a+1))))) (some (.inl (b,f,(i64.wrap (a+1)))))) (some (.inr (b,f)))) (m,h,0)).bind fun(ae,af)=>some (.inl (ae,af,(i64.wrap (e+1))))) (some (.inr m))) ((g.set (Int.toNat d) 0),([d]:LI),0)).bind λag=>some ag)
def D.k (d:LL)(e:Int)(f:LI):Option LI:=
 (D.d0 d e f).bind λc=>(Aq (σ:=LI×Int) (ρ:=LI) (fun(b,a)=>cond (decide (a<(c.length:Int))) ((idx c a).bind λh=>cond (decide ((0:Int)≤h)) ((AC b ([a]:LI)).bind λi=>some (.inl (i,(i64.wrap (a+1))))) (some (.inl (b,(i64.wrap (a+1)))))) (some (.inr b))) (([]:LI),0)).bind λj=>some j
def D.w0 (f:LL)(b:LI):Option LL:=
 (Aq (σ:=LL×LI×Int) (ρ:=LL) (fun(c,d,a)=>cond (decide (a<(b.length:Int))) ((idx b a).bind λh=>(D.e d h).bind λi=>cond (!i) ((idx b a).bind λj=>(D.k f j b).bind λe=>(AC c ([e]:LL)).bind λk=>(AC d e).bind λl=>some (.inl (k,l,(i64.wrap (a+1))))) (some (.inl (c,d,(i64.wrap (a+1)))))) (some (.inr c))) (([]:LL),([]:LI),0)).bind λm=>some m
end
end Go.Sx

namespace Go.Sx
open IntKind
noncomputable section
def D.j1 (b:LI)(c:Int):Option (Int):=
 (Aq (σ:=Int) (ρ:=(Unit) ⊕ (Int)) (fun(a:Int)=>cond (decide (a<(b.length:Int))) ((idx b a).bind λd=>cond (c==d) (some (.inr (.inr a))) (some (.inl (i64.wrap (a+1))))) (some (.inr (.inl ())))) 0).bind λzz=>match zz with| .inl _=>(some (-1))| .inr z=>(some z)
def D.I0 (a:LI)(b:Int):Option (Bool):=
 (D.j1 a b).bind λc=>some (decide ((0:Int)≤c))
def D.c1 (a:LL):Option (Bool):=
 (D.u a).bind λb=>(cond b ((D.b a).bind λc=>some (decide (c≤8))) (some false)).bind λd=>some d
def D.a1 (g h:Int):Option LL:=
 (Aq (σ:=LL×Int) (ρ:=LL) (fun(a,d)=>cond (decide (d<h)) ((Aq (σ:=LL×Int) (ρ:=LL) (fun(e,b)=>cond (decide (b<(a.length:Int))) ((idx a b).bind λk=>((cond (decide ((0:Int)<(k.length:Int))) ((idx a b).bind λl=>(idx a b).bind λm=>(idx l (i64.wrap ((m.length:Int)-1))).bind λn=>some (i64.wrap (n+1))) (some 0):Option (Int))).bind λo=>(Aq (σ:=LL×Int) (ρ:=LL) (fun(f,c)=>cond (decide (c<g)) ((idx a b).bind λq=>(D.E q).bind λr=>(AC r ([c]:LI)).bind λs=>(AC f ([s]:LL)).bind λt=>some (.inl (t,(i64.wrap (c+1))))) (some (.inr f))) (e,o)).bind λu=>some (.inl (u,(i64.wrap (b+1))))) (some (.inr e))) (([]:LL),0)).bind λv=>some (.inl (v,(i64.wrap (d+1))))) (some (.inr a))) (([([]:LI)]:LL),0)).bind λw=>some w
def D.X (d:LL)(b c:LI):Option (Bool):=
 (Aq (σ:=Int) (ρ:=(Unit) ⊕ (Bool)) (fun(a:Int)=>cond (decide (a<(b.length:Int))) ((idx b a).bind λe=>(D.e c e).bind λf=>(cond f (some true) ((idx b a).bind λg=>(D.c0 d c g).bind λh=>some (decide ((0:Int)<h)))).bind λi=>cond i (some (.inr (.inr true))) (some (.inl (i64.wrap (a+1))))) (some (.inr (.inl ())))) 0).bind λzz=>match zz with| .inl _=>(some false)| .inr z=>(some z)
def D.V :Nat→LL→((List LL))→LL→Option LL
 |0,_,_,_=>none
 |fuel+1,e,b,a=>cond ((a.length:Int)==(b.length:Int)) (some a) ((Aq (σ:=Int) (ρ:=(Unit) ⊕ LL) (fun(c:Int)=>(idx b (a.length:Int)).bind λi=>cond (decide (c<(i.length:Int))) ((idx b (a.length:Int)).bind λj=>(idx j c).bind λf=>(Aq (σ:=Bool×Int) (ρ:=(Bool)) (fun(g,d)=>cond ((decide (d<(a.length:Int)))&&g) ((idx a d).bind λl=>(D.X e l f).bind λm=>some (.inl (m,(i64.wrap (d+1))))) (some (.inr g))) (true,0)).bind λn=>cond n ((((AC ([]:LL) a).bind λo=>(AC o ([f]:LL)).bind λp=>(D.V fuel e b p).bind λq=>some q:Option LL)).bind λh=>cond (decide ((0:Int)<(h.length:Int))) (some (.inr (.inr h))) (some (.inl (i64.wrap (c+1))))) (some (.inl (i64.wrap (c+1))))) (some (.inr (.inl ())))) 0).bind λzz=>match zz with| .inl _=>(some ([]:LL))| .inr z=>(some z))
def D.s (a:LL)(b:(List LL))(c:LL):Option LL:=D.V Bo a b c
def D.O0 (a:LL):Option LL:=
 (D.c1 a).bind λm=>cond (!m) (some ([]:LL)) ((D.b a).bind λi=>(D.o0 a).bind λn=>(D.a1 i n).bind λj=>(Aq (σ:=(List LL)×Int) (ρ:=((List LL))) (fun(k,e)=>cond (decide (e<(j.length:Int))) ((Aq (σ:=LI×Int) (ρ:=LI) (fun(f,b)=>cond (decide (b<i)) ((idx j e).bind λq=>(D.e q b).bind λr=>cond (!r) ((AC f ([b]:LI)).bind λs=>some (.inl (s,(i64.wrap (b+1))))) (some (.inl (f,(i64.wrap (b+1)))))) (some (.inr f))) (([]:LI),0)).bind λt=>(D.w0 a t).bind λu=>(AC k ([u]:List LL)).bind λv=>some (.inl (v,(i64.wrap (e+1))))) (some (.inr k))) (([]:List LL),0)).bind λw=>(D.s a w ([]:LL)).bind λg=>(Aq (σ:=LL×Int) (ρ:=LL) (fun(c,d)=>cond (decide (d<(g.length:Int))) ((Aq (σ:=Bool×Int) (ρ:=(Bool)) (fun(l,h)=>cond (decide (h<(c.length:Int))) ((cond l (some true) ((idx c h).bind λz=>(idx g d).bind λaa=>(D.q0 z aa).bind λab=>some ab)).bind λac=>some (.inl (ac,(i64.wrap (h+1))))) (some (.inr l))) (false,0)).bind λad=>cond (!ad) ((idx g d).bind λae=>(D.E ae).bind λaf=>(AC c ([af]:LL)).bind λag=>some (.inl (ag,(i64.wrap (d+1))))) (some (.inl (c,(i64.wrap (d+1)))))) (some (.inr c))) (([]:LL),0)).bind λah=>some ah)
def D.Y0 (q:LI)(r s:Int):Option (LL×LL×LI×Int×Int):=
 (D.y0 q r s).bind λa=>(D.O0 a.1).bind λt=>(D.i a.2.1 a.2.2.1 a.2.2.2 3).bind λb=>((cond b.1 ((D.a b.2.1 b.2.2.1 b.2.2.2 4).bind λf=>(Aq (σ:=LL×Int×LI×Int×Int) (ρ:=(LL×LI×Int×Int)) (fun(k,l,m,n,o)=>cond (decide ((0:Int)<l)) ((D.Z0 m n o a.1).bind λg=>(AC k ([g.1]:LL)).bind λv=>some (.inl (v,(i64.wrap (l-1)),g.2.1,g.2.2.1,g.2.2.2))) (some (.inr (k,m,n,o)))) (([]:LL),f.1,f.2.1,f.2.2.1,f.2.2.2)).bind fun(w,x,y,z)=>some (w,x,y,z)) (some (t,b.2.1,b.2.2.1,b.2.2.2)):Option (LL×LI×Int×Int))).bind fun(h,aa,ab,ac)=>(D.i aa ab ac 4).bind λc=>((cond (c.1&&(decide ((0:Int)<(h.length:Int)))) ((D.a c.2.1 c.2.2.1 c.2.2.2 (h.length:Int)).bind λi=>(BF h 0 i.1).bind λad=>some (ad,i.2.1,i.2.2.1,i.2.2.2)) (some (h,c.2.1,c.2.2.1,c.2.2.2)):Option (LL×LI×Int×Int))).bind fun(p,ae,af,ag)=>(D.i ae af ag 15).bind λd=>cond d.1 ((Aq (σ:=LL×LI×Int×Int) (ρ:=(LL×LI×Int×Int)) (fun(j,ai,aj,ak)=>(D.a ai aj ak 2).bind λe=>cond (decide ((j.length:Int)<(i64.wrap (80+e.1)))) ((AC j ([([0]:LI)]:LL)).bind λal=>some (.inl (al,e.2.1,e.2.2.1,e.2.2.2))) (some (.inr (j,e.2.1,e.2.2.1,e.2.2.2)))) (p,d.2.1,d.2.2.1,d.2.2.2)).bind fun(am,an,ao,ap)=>some (a.1,am,an,ao,ap)) (some (a.1,p,d.2.1,d.2.2.1,d.2.2.2))
def D.X0 (c:LI):Option (LL×LL):=
 (D.F0 c).bind λa=>(D.Y0 a.1 a.2.1 a.2.2).bind λb=>some (b.1,b.2.1)
def D.f0 (a:LL)(b:LI):Option (Bool):=
 (D.O a b).bind λc=>(cond c ((D.t a).bind λd=>(D.g b).bind λe=>(D.E0 d e).bind λf=>some f) (some false)).bind λg=>some g
def D.I (e:LI)(b c:Int):Option (Bool):=
 cond ((iand .u32 b c) !=0) (some true) ((D.q b).bind λd=>(Aq (σ:=Int) (ρ:=(Unit) ⊕ (Bool)) (fun(a:Int)=>cond (decide (a<(d.length:Int))) ((idx d a).bind λf=>(idx e f).bind λg=>cond ((iand .u32 g c) !=0) (some (.inr (.inr true))) (some (.inl (i64.wrap (a+1))))) (some (.inr (.inl ())))) 0).bind λzz=>match zz with| .inl _=>(some false)| .inr z=>(some z))
def D.p (c a:LL):Option (Bool):=
 (D.F c).bind λg=>cond ((!g)||(decide ((80:Int)<(a.length:Int)))) (some false) ((D.t c).bind λh=>(Aq (σ:=Int) (ρ:=(Unit) ⊕ (Bool)) (fun(b:Int)=>cond (decide (b<(a.length:Int))) ((idx a b).bind λe=>(D.f0 c e).bind λi=>cond (!i) (some (.inr (.inr false))) ((BF a 0 b).bind λf=>(Aq (σ:=Int) (ρ:=(Unit) ⊕ (Bool)) (fun(d:Int)=>cond (decide (d<(f.length:Int))) ((idx f d).bind λj=>(D.g e).bind λk=>(D.g j).bind λl=>(D.I h k l).bind λm=>cond (!m) (some (.inr (.inr false))) (some (.inl (i64.wrap (d+1))))) (some (.inr (.inl ())))) 0).bind λzz=>match zz with| .inl _=>(some (.inl (i64.wrap (b+1))))| .inr z=>(some (.inr (.inr z))))) (some (.inr (.inl ())))) 0).bind λzz=>match zz with| .inl _=>(some true)| .inr z=>(some z))
def D.n1 (b:LL)(a:LI):Option (Bool):=
 cond (decide ((0:Int)<(a.length:Int))) ((idx a 0).bind λc=>(D.k b c a).bind λd=>some ((d.length:Int)==(a.length:Int))) (some false)
def D.z0 (a:LL)(b:LI):Option (Bool):=
 (D.W0 a b).bind λc=>(cond c ((D.n1 a b).bind λd=>some d) (some false)).bind λe=>some e
def D.K (c a:LL):Option (Bool):=
 (D.u c).bind λe=>cond ((!e)||(decide ((80:Int)<(a.length:Int)))) (some false) ((Aq (σ:=Int) (ρ:=(Unit) ⊕ (Bool)) (fun(b:Int)=>cond (decide (b<(a.length:Int))) ((idx a b).bind λf=>(D.z0 c f).bind λg=>cond (!g) (some (.inr (.inr false))) ((Aq (σ:=Int) (ρ:=(Unit) ⊕ (Bool)) (fun(d:Int)=>cond (decide (d<b)) ((idx a d).bind λh=>(idx a b).bind λi=>(D.X c h i).bind λj=>cond (!j) (some (.inr (.inr false))) (some (.inl (i64.wrap (d+1))))) (some (.inr (.inl ())))) 0).bind λzz=>match zz with| .inl _=>(some (.inl (i64.wrap (b+1))))| .inr z=>(some (.inr (.inr z))))) (some (.inr (.inl ())))) 0).bind λzz=>match zz with| .inl _=>(some true)| .inr z=>(some z))
def D.M0 (a:LL):Option (Bool):=
 (D.F a).bind λb=>some (b&&(decide ((a.length:Int)≤8)))
def D.m1 (b:Int)(c:LL)(a:LI):Option (Bool×LL):=
 (D.Q a).bind λd=>(D.L a (iandNot .u32 d b)).bind λe=>(AC c ([e]:LL)).bind λf=>some (false,f)
def D.h0 (a:Int)(b:LI)(c:Int):Option (Bool):=
 (D.I b c a).bind λd=>some (!d)
def D.q1 (b c:LI)(d:Int):Option (Int):=
 (Aq (σ:=Int) (ρ:=(Unit) ⊕ (Int)) (fun(a:Int)=>cond (decide (a<(b.length:Int))) ((idx b a).bind λe=>(D.h0 e c d).bind λf=>cond f (some (.inr (.inr a))) (some (.inl (i64.wrap (a+1))))) (some (.inr (.inl ())))) 0).bind λzz=>match zz with| .inl _=>(some (-1))| .inr z=>(some z)
def D.x0 (a b:LI)(c:Int):Option (Bool):=
 (D.q1 a b c).bind λd=>some (decide ((0:Int)≤d))
def D.U :Nat→LI→LL→LI→Option LI
 |0,_,_,_=>none
 |fuel+1,d,c,a=>cond ((a.length:Int)==(c.length:Int)) ((nonE a).bind λ_=>some a) ((idx c (a.length:Int)).bind λe=>(Aq (σ:=Int) (ρ:=(Unit) ⊕ LI) (fun(b:Int)=>cond (decide (b<(e.length:Int))) ((idx e b).bind λf=>(D.x0 a d f).bind λh=>cond h (some (.inl (i64.wrap (b+1)))) ((((D.u0 a).bind λi=>(AC i ([f]:LI)).bind λj=>(D.U fuel d c j).bind λk=>some k:Option LI)).bind λg=>cond (!g.isEmpty) (some (.inr (.inr g))) (some (.inl (i64.wrap (b+1)))))) (some (.inr (.inl ())))) 0).bind λzz=>match zz with| .inl _=>(some ([]:LI))| .inr z=>(some z))
def D.f (a:LI)(b:LL)(c:LI):Option LI:=D.U Bo a b c
def D.t0 (a b:Int):Option (Bool):=
 some ((iand .u32 b a)==0)
def D.o1 (b:LI)(c:Int):Option (Int):=
 (Aq (σ:=Int) (ρ:=(Unit) ⊕ (Int)) (fun(a:Int)=>cond (decide (a<(b.length:Int))) ((idx b a).bind λd=>(D.t0 d c).bind λe=>cond e (some (.inr (.inr a))) (some (.inl (i64.wrap (a+1))))) (some (.inr (.inl ())))) 0).bind λzz=>match zz with| .inl _=>(some (-1))| .inr z=>(some z)
def D.l1 (a:LI)(b:Int):Option (Bool):=
 (D.o1 a b).bind λc=>some (decide ((0:Int)≤c))
def D.l (a:Int)(b:LI):Option (Bool):=
 (D.l1 b a).bind λc=>some (!c)
end
end Go.Sx

namespace Go.Sx
open IntKind
noncomputable section
def D.r1 (S:LI)(c _s:Int):Option (Bool×Int):=(D.l c S).bind λb=>some (b,c)
def D.c (n:Int)(S:LI):Option Int:=(Aq (D.x1 (D.r1 S) n) (0,0)).bind λr=>some r.1
def D.B1 (F:LI)(c:Int)(s:LL):Option (Bool×LL):=D.m1 c s F
def D.C1 (l:LI)(s:LI×Int):Option ((LI×Int) ⊕ LI):=
 cond (decide (s.2<(l.length:Int))) ((idx l s.2).bind λx=>(D.I0 s.1 x).bind λb=>cond (!b) ((AC s.1 [x]).bind λo=>some (.inl (o,i64.wrap (s.2+1)))) (some (.inl (s.1,i64.wrap (s.2+1))))) (some (.inr s.1))
def D.z (g:LL):Option LL:=
 (D.M0 g).bind λb=>cond (!b) (some []) ((D.t g).bind λF=>(D.n Bo F 0).bind λw=>(D.m (D.B1 F) Bo (F.length:Int) 0 w 0 []).bind λr=>(D.f F r.2 []).bind λl=>(Aq (D.C1 l) ([],0)).bind λo=>(D.T0 o).bind λz=>some z)
end
end Go.Sx

namespace Go.Sx
open IntKind
noncomputable section
def D.J0 (a b:LL):Option LI:=
 (D.p a b).bind λc=>cond (!c) (some ([]:LI)) ((D.T b).bind λd=>(D.c (a.length:Int) d).bind λe=>(D.b0 e).bind λf=>some f)
def D.N (a b:LL):Option (Int):=
 (D.p a b).bind λc=>cond (!c) (some (-1)) ((D.T b).bind λd=>(D.c (a.length:Int) d).bind λe=>(D.j0 e).bind λf=>some f)
def D.n0 (a b:LL)(c:Int):Option (Bool):=
 (D.p a b).bind λd=>(cond d ((D.N a b).bind λe=>some (decide (c<(i64.wrap (e-1))))) (some false)).bind λf=>some f
def D.k0 (a b c:LI):Option (Bool):=
 (D.g a).bind λd=>(D.g c).bind λe=>(D.I b d e).bind λf=>some (!f)
def D.p1 (b:LL)(c d:LI):Option (Int):=
 (Aq (σ:=Int) (ρ:=(Unit) ⊕ (Int)) (fun(a:Int)=>cond (decide (a<(b.length:Int))) ((idx b a).bind λe=>(D.k0 e c d).bind λf=>cond f (some (.inr (.inr a))) (some (.inl (i64.wrap (a+1))))) (some (.inr (.inl ())))) 0).bind λzz=>match zz with| .inl _=>(some (-1))| .inr z=>(some z)
def D.g1 (a:LL)(b c:LI):Option (Bool):=
 (D.p1 a b c).bind λd=>some (decide ((0:Int)≤d))
def D.o (a b:LL)(c:LI):Option (Bool):=
 (D.p a b).bind λd=>(cond (!d) (some true) ((D.f0 a c).bind λe=>some (!e))).bind λf=>cond f (some false) ((D.t a).bind λg=>(D.g1 b g c).bind λh=>some (!h))
def D.r0 (a:LL)(b c:LI):Option (Bool):=
 (D.O a b).bind λd=>(cond d ((D.O a c).bind λe=>some e) (some false)).bind λf=>(cond f ((D.t a).bind λg=>(D.g b).bind λh=>(D.g c).bind λi=>(D.I g h i).bind λj=>some j) (some false)).bind λk=>some k
def D.f1 (e:LI):Option (Bool):=
 (D.d1 e).bind λg=>cond g (some true) ((D.X0 e).bind λa=>(D.p a.1 a.2).bind λf=>(D.K a.1 a.2).bind λh=>cond (f !=h) (some false) ((D.u a.1).bind λi=>cond ((!i)||(decide ((7:Int)<(a.1.length:Int)))) (some true) ((D.o0 a.1).bind λc=>(D.z a.1).bind λb=>(D.J0 a.1 b).bind λj=>(D.K a.1 b).bind λk=>(cond (!k) (some true) ((D.N a.1 b).bind λl=>some (l !=(i64.wrap (c+1))))).bind λm=>(cond (m||((j.length:Int) !=(i64.wrap (c+1)))) (some true) ((D.n0 a.1 b (i64.wrap (c-1))).bind λn=>some (!n))).bind λo=>(cond o (some true) ((D.n0 a.1 b c).bind λp=>some p)).bind λq=>cond q (some false) ((Aq (σ:=Int) (ρ:=(Unit) ⊕ (Bool)) (fun(d:Int)=>cond (decide (d<(b.length:Int))) ((idx b d).bind λr=>(D.o a.1 b r).bind λs=>(cond (!s) (some true) ((idx b d).bind λt=>(idx b 0).bind λu=>(D.r0 a.1 t u).bind λv=>some (!v))).bind λw=>cond w (some (.inr (.inr false))) (some (.inl (i64.wrap (d+1))))) (some (.inr (.inl ())))) 0).bind λzz=>match zz with| .inl _=>((cond (!f) (some true) ((D.N a.1 a.2).bind λx=>some (decide (x≤(i64.wrap (c+1)))))).bind λy=>some y)| .inr z=>(some z)))))
end
end Go.Sx

namespace Go.Sx
end Go.Sx

namespace Go.Sx
end Go.Sx

namespace Go.Sx
end Go.Sx

namespace Go.Sx
end Go.Sx

namespace Go.Sx
end Go.Sx

namespace Go.Sx
end Go.Sx

namespace Go.Sx
end Go.Sx

namespace Go.Sx
end Go.Sx

namespace Go.Sx
end Go.Sx

namespace Go.Proofs
open Go.Shelf
end Go.Proofs
namespace Go.Proofs.YtgadoeifdbijcaaGreatDoor
open Go Go.Sx
end Go.Proofs.YtgadoeifdbijcaaGreatDoor



namespace Go.Sx
end Go.Sx

namespace Go.Sx.Gs
class Srtd (α:Type) where
 dflt:α
 key:α→Int
 good:α→Prop
 cmp:α→α→Option Int
 law:∀x y,good x→good y→∃v,cmp x y=some v∧decide (v<0)=decide (key x<key y)
variable {α : Type} [Srtd α]
def el (l:List α)(i:Int):α:=l.getD i.toNat Srtd.dflt
def at' (l:List α)(i:Int):Int:=Srtd.key (el l i)
theorem el_set {l:List α}{i k:Int}{x:α}(h0:0≤i)(h1:i<l.length)(hk:0≤k):el (l.set i.toNat x) k=if k=i then x else el l k:=by
 unfold el
 by_cases h:k=i
 ·subst h
  have:k.toNat<l.length:=by omega
  simp[this]
 ·rw[if_neg h]
  have:i.toNat≠k.toNat:=by omega
  simp[List.getD_eq_getElem?_getD,List.getElem?_set_ne this]
def sw (l:List α)(i j:Int):List α:=(l.set i.toNat (el l j)).set j.toNat (el l i)
theorem sw_len (l:List α)(i j:Int):(sw l i j).length=l.length:=by simp[sw]
theorem BN {l:List α}{i j k:Int}(hi:0≤i)(hi':i<l.length)(hj:0≤j)(hj':j<l.length)(hk:0≤k):
  at' (sw l i j) k=if k=j then at' l i else if k=i then at' l j else at' l k:=by
 unfold sw at'
 rw[el_set hj (by simpa using hj') hk]
 split
 ·rfl
 ·rw[el_set hi hi' hk]
  split<;>rfl
omit [Srtd α] in
theorem BE (z:α):∀(l:List α) (j:Nat),j<l.length→List.Perm (l.set j z) (z::l.eraseIdx j)
 |[],j,h=>by simp at h
 |x::l,0,_=>by simp
 |x::l,j+1,h=>by
  simp only[List.set_cons_succ,List.eraseIdx_cons_succ]
  exact((BE z l j (by simpa using h)).cons x).trans (List.Perm.swap _ _ _)
omit [Srtd α] in
theorem Dh (l:List α)(j:Nat)(h:j<l.length):List.Perm l (l[j]::l.eraseIdx j):=by
 have:=BE l[j] l j h
 rwa [List.set_getElem_self] at this
omit [Srtd α] in
theorem D3 :∀(l:List α) (i j:Nat) (x y:α),l[i]? =some x→l[j]? =some y→List.Perm ((l.set i y).set j x) l
 |[],i,j,x,y,h,_=>by simp at h
 |z::l,0,0,x,y,h,h'=>by simp at h h';subst h;simp
 |z::l,0,j+1,x,y,h,h'=>by
  simp at h h'
  subst h
  simp only[List.set_cons_zero,List.set_cons_succ]
  obtain⟨hj,rfl⟩:=List.getElem?_eq_some_iff.1 h'
  have h1:=BE z l j hj
  have h2:=Dh l j hj
  exact((h1.cons _).trans (List.Perm.swap _ _ _)).trans (h2.symm.cons z)
 |z::l,i+1,0,x,y,h,h'=>by
  simp at h h'
  subst h'
  simp only[List.set_cons_zero,List.set_cons_succ]
  obtain⟨hj,rfl⟩:=List.getElem?_eq_some_iff.1 h
  have h1:=BE z l i hj
  have h2:=Dh l i hj
  exact((h1.cons _).trans (List.Perm.swap _ _ _)).trans (h2.symm.cons z)
 |z::l,i+1,j+1,x,y,h,h'=>by
  simp at h h'
  simp only[List.set_cons_succ]
  exact(D3 l i j x y h h').cons z
theorem sw_perm {l:List α}{i j:Int}(hi:0≤i)(hi':i<l.length)(hj:0≤j)(hj':j<l.length):List.Perm (sw l i j) l:=by
 have h1:i.toNat<l.length:=by omega
 have h2:j.toNat<l.length:=by omega
 exact D3 l i.toNat j.toNat _ _ (by simp[el,h1]) (by simp[el,h2])
structure Rg (a b:Int)(l l':List α):Prop where
 len:l'.length=l.length
 perm:List.Perm l' l
 out:∀k,0≤k→(k<a∨b≤k)→at' l' k=at' l k
 all:∀Q:Int→Prop,(∀k,a≤k→k<b→Q (at' l k))→∀k,a≤k→k<b→Q (at' l' k)
theorem Rg.refl (a b:Int)(l:List α):Rg a b l l:=⟨rfl,List.Perm.refl _,λ_ _ _=>rfl,λ_ h=>h⟩
theorem Rg.trans {a b:Int}{l l' l'':List α}(h:Rg a b l l')(h':Rg a b l' l''):Rg a b l l'':=
 ⟨h'.len.trans h.len,h'.perm.trans h.perm,λk h0 hk=>(h'.out k h0 hk).trans (h.out k h0 hk),λQ hQ=>h'.all Q (h.all Q hQ)⟩
theorem Rg.swap {a b i j:Int}{l:List α}(ha:0≤a)(hb:b≤l.length)(hi:a≤i)(hi':i<b)(hj:a≤j)(hj':j<b):Rg a b l (sw l i j):=by
 refine⟨sw_len _ _ _,sw_perm (by omega) (by omega) (by omega) (by omega),λk h0 hk=> ?_,λQ hQ k h1 h2=> ?_⟩
 ·rw[BN (by omega) (by omega) (by omega) (by omega) h0,if_neg (by omega),if_neg (by omega)]
 ·rw[BN (by omega) (by omega) (by omega) (by omega) (by omega)]
  split
  ·exact hQ i hi hi'
  ·split
   ·exact hQ j hj hj'
   ·exact hQ k h1 h2
def Good (l:List α):Prop:=∀x∈l,Srtd.good x
theorem Rg.good {a b:Int}{l l':List α}(h:Rg a b l l')(hg:Good l):Good l':=λx hx=>hg x (h.perm.mem_iff.1 hx)
theorem Good.el {l:List α}(h:Good l){i:Int}(h0:0≤i)(h1:i<l.length):Srtd.good (el l i):=by
 unfold Gs.el
 have:i.toNat<l.length:=by omega
 rw[Ar this]
 exact h _ (List.getElem_mem this)
end Go.Sx.Gs

namespace Go.Sx.Gs
variable {α : Type} [Srtd α]
end Go.Sx.Gs

namespace Go.Sx.Gs
variable {α : Type} [Srtd α]
structure Parted (l0 l':List α)(a b mid:Int):Prop where
 rg:Rg a b l0 l'
 lo:a≤mid
 hi:mid<b
 left:∀k,a≤k→k<mid→at' l' k≤at' l' mid
 right:∀k,mid<k→k<b→at' l' mid≤at' l' k
end Go.Sx.Gs

namespace Go.Sx.Gs
variable {α : Type} [Srtd α]
end Go.Sx.Gs

namespace Go.Sx
def at' (l:LI)(i:Int):Int:=l.getD i.toNat 0
theorem A9 {l:LI}{i:Int}(h0:0≤i)(h1:i<l.length):idx l i=some (at' l i):=by
 unfold idx at'
 rw[if_pos h0]
 have:i.toNat<l.length:=by omega
 simp[this]
theorem at_set {l:LI}{i k x:Int}(h0:0≤i)(h1:i<l.length)(hk:0≤k):at' (l.set i.toNat x) k=if k=i then x else at' l k:=by
 unfold at'
 by_cases h:k=i
 ·subst h
  have:k.toNat<l.length:=by omega
  simp[this]
 ·rw[if_neg h]
  have:i.toNat≠k.toNat:=by omega
  simp[List.getD_eq_getElem?_getD,List.getElem?_set_ne this]
def sw (l:LI)(i j:Int):LI:=(l.set i.toNat (at' l j)).set j.toNat (at' l i)
theorem sw_len (l:LI)(i j:Int):(sw l i j).length=l.length:=by simp[sw]
theorem BN {l:LI}{i j k:Int}(hi:0≤i)(hi':i<l.length)(hj:0≤j)(hj':j<l.length)(hk:0≤k):
  at' (sw l i j) k=if k=j then at' l i else if k=i then at' l j else at' l k:=by
 unfold sw
 rw[at_set hj (by simpa using hj') hk]
 split
 ·rfl
 ·rw[at_set hi hi' hk]
theorem BE (z:Int):∀(l:LI) (j:Nat),j<l.length→List.Perm (l.set j z) (z::l.eraseIdx j)
 |[],j,h=>by simp at h
 |x::l,0,_=>by simp
 |x::l,j+1,h=>by
  simp only[List.set_cons_succ,List.eraseIdx_cons_succ]
  exact((BE z l j (by simpa using h)).cons x).trans (List.Perm.swap _ _ _)
theorem Dh (l:LI)(j:Nat)(h:j<l.length):List.Perm l (l[j]::l.eraseIdx j):=by
 have:=BE l[j] l j h
 rwa [List.set_getElem_self] at this
theorem D3 :∀(l:LI) (i j:Nat) (x y:Int),l[i]? =some x→l[j]? =some y→List.Perm ((l.set i y).set j x) l
 |[],i,j,x,y,h,_=>by simp at h
 |z::l,0,0,x,y,h,h'=>by simp at h h';subst h;simp
 |z::l,0,j+1,x,y,h,h'=>by
  simp at h h'
  subst h
  simp only[List.set_cons_zero,List.set_cons_succ]
  obtain⟨hj,rfl⟩:=List.getElem?_eq_some_iff.1 h'
  have h1:=BE z l j hj
  have h2:=Dh l j hj
  exact((h1.cons _).trans (List.Perm.swap _ _ _)).trans (h2.symm.cons z)
 |z::l,i+1,0,x,y,h,h'=>by
  simp at h h'
  subst h'
  simp only[List.set_cons_zero,List.set_cons_succ]
  obtain⟨hj,rfl⟩:=List.getElem?_eq_some_iff.1 h
  have h1:=BE z l i hj
  have h2:=Dh l i hj
  exact((h1.cons _).trans (List.Perm.swap _ _ _)).trans (h2.symm.cons z)
 |z::l,i+1,j+1,x,y,h,h'=>by
  simp at h h'
  simp only[List.set_cons_succ]
  exact(D3 l i j x y h h').cons z
theorem sw_perm {l:LI}{i j:Int}(hi:0≤i)(hi':i<l.length)(hj:0≤j)(hj':j<l.length):List.Perm (sw l i j) l:=by
 have h1:i.toNat<l.length:=by omega
 have h2:j.toNat<l.length:=by omega
 exact D3 l i.toNat j.toNat _ _ (by simp[at',h1]) (by simp[at',h2])
structure Rg (a b:Int)(l l':LI):Prop where
 len:l'.length=l.length
 perm:List.Perm l' l
 out:∀k,0≤k→(k<a∨b≤k)→at' l' k=at' l k
 all:∀Q:Int→Prop,(∀k,a≤k→k<b→Q (at' l k))→∀k,a≤k→k<b→Q (at' l' k)
theorem Rg.refl (a b:Int)(l:LI):Rg a b l l:=⟨rfl,List.Perm.refl _,λ_ _ _=>rfl,λ_ h=>h⟩
theorem Rg.trans {a b:Int}{l l' l'':LI}(h:Rg a b l l')(h':Rg a b l' l''):Rg a b l l'':=
 ⟨h'.len.trans h.len,h'.perm.trans h.perm,λk h0 hk=>(h'.out k h0 hk).trans (h.out k h0 hk),λQ hQ=>h'.all Q (h.all Q hQ)⟩
theorem Rg.swap {a b i j:Int}{l:LI}(ha:0≤a)(hb:b≤l.length)(hi:a≤i)(hi':i<b)(hj:a≤j)(hj':j<b):Rg a b l (sw l i j):=by
 refine⟨sw_len _ _ _,sw_perm (by omega) (by omega) (by omega) (by omega),λk h0 hk=> ?_,λQ hQ k h1 h2=> ?_⟩
 ·rw[BN (by omega) (by omega) (by omega) (by omega) h0,if_neg (by omega),if_neg (by omega)]
 ·rw[BN (by omega) (by omega) (by omega) (by omega) (by omega)]
  split
  ·exact hQ i hi hi'
  ·split
   ·exact hQ j hj hj'
   ·exact hQ k h1 h2
theorem Rg.widen {a b a' b':Int}{l l':LI}(h:Rg a b l l')(ha:a'≤a)(hb:b≤b')(h0:0≤a'):Rg a' b' l l':=by
 refine⟨h.len,h.perm,λk h0 hk=>h.out k h0 (by omega),λQ hQ k h1 h2=> ?_⟩
 by_cases hk:a≤k∧k<b
 ·exact h.all Q (λk h3 h4=>hQ k (by omega) (by omega)) k hk.1 hk.2
 ·rw[h.out k (by omega) (by omega)];exact hQ k h1 h2
def Srt (l:LI)(a b:Int):Prop:=∀i j,a≤i→i<j→j<b→at' l i≤at' l j
theorem B9 (x y:Int):D.j x y=some (decide (x<y)):=by
 simp[D.j,D.I1]
theorem B3 {l:LI}{i j x:Int}(h0:0≤i)(h1:i<l.length):idx (l.set j.toNat x) i=some (at' (l.set j.toNat x) i):=A9 h0 (by simpa using h1)
theorem EX (l0:LI)(a b:Int)(ha:0≤a)(hab:a≤b)(hb:b≤l0.length)(hlen:l0.length≤1000000):
  ∃l',D.V1 l0 a b=some l'∧Rg a b l0 l'∧Srt l' a b:=by
 unfold D.V1
 rw[w64 (show-9223372036854775808≤a+1 by omega) (by omega)]
 refine AB (λs=>Rg a b l0 s.1∧Srt s.1 a s.2∧a+1≤s.2∧s.2≤b+1) (λs=>(b-s.2).toNat) (λr=>Rg a b l0 r∧Srt r a b) ?_ ?_ ?_
 ·rintro⟨l,i⟩ ⟨hR,hS,h1,h2⟩
  dsimp only at hR hS h1 h2 ⊢
  have hll:=hR.len
  by_cases hi:i<b
  ·simp only[hi,decide_true,cond_true]
   rw[w64 (show-9223372036854775808≤i+1 by omega) (by omega)]
   refine AB (λs=>Rg a b l0 s.1∧a≤s.2∧s.2≤i∧∀p q,a≤p→p<q→q≤i→q≠s.2→at' s.1 p≤at' s.1 q) (λs=>(s.2-a).toNat) (λr=>Rg a b l0 r∧Srt r a (i+1)) ?_ ?_ ?_
   ·rintro⟨m,j⟩ ⟨hR',g1,g2,hS'⟩
    dsimp only at hR' g1 g2 hS' ⊢
    have hml:=hR'.len
    rw[w64 (show-9223372036854775808≤j-1 by omega) (by omega)]
    by_cases hj:a<j
    ·have r1:idx m j=some (at' m j):=A9 (by omega) (by omega)
     have r2:idx m (j-1)=some (at' m (j-1)):=A9 (by omega) (by omega)
     have r3:∀x,idx (m.set j.toNat x) (j-1)=some (at' (m.set j.toNat x) (j-1)):=λx=>B3 (by omega) (by omega)
     by_cases hlt:at' m j<at' m (j-1)
     ·refine⟨.inl (sw m j (j-1),j-1),?_,⟨hR'.trans (Rg.swap ha (by omega) (by omega) (by omega) (by omega) (by omega)),by dsimp only;omega,by dsimp only;omega,?_⟩,by dsimp only;omega⟩
      ·simp only[r1,r2,r3,hj,B9,hlt,decide_true,cond_true,bs]
       rfl
      ·intro p q k1 k2 k3 k4
       dsimp only at k4 ⊢
       rw[BN (by omega) (by omega) (by omega) (by omega) (by omega),BN (by omega) (by omega) (by omega) (by omega) (by omega)]
       by_cases c1:q=j
       ·subst c1
        rw[if_neg (show¬q=q-1 by omega),if_pos rfl]
        by_cases c2:p=q-1
        ·rw[if_pos c2];omega
        ·rw[if_neg c2,if_neg (by omega)]
         exact hS' p (q-1) k1 (by omega) (by omega) (by omega)
       ·rw[if_neg (show¬q=j-1 by omega),if_neg c1]
        by_cases c2:p=j-1
        ·rw[if_pos c2]
         exact hS' j q (by omega) (by omega) k3 c1
        ·rw[if_neg c2]
         by_cases c3:p=j
         ·rw[if_pos c3]
          exact hS' (j-1) q (by omega) (by omega) k3 c1
         ·rw[if_neg c3]
          exact hS' p q k1 k2 k3 c1
     ·refine⟨.inr m,?_,hR',?_⟩
      ·simp only[r1,r2,hj,B9,hlt,decide_true,decide_false,cond_true,cond_false,bs]
      ·intro p q k1 k2 k3
       by_cases c1:q=j
       ·subst c1
        by_cases c2:p=q-1
        ·subst c2;omega
        ·have:=hS' p (q-1) k1 (by omega) (by omega) (by omega)
         omega
       ·exact hS' p q k1 k2 (by omega) c1
    ·refine⟨.inr m,?_,hR',?_⟩
     ·simp only[hj,decide_false,cond_false,bs]
     ·intro p q k1 k2 k3
      exact hS' p q k1 k2 (by omega) (by omega)
   ·exact⟨hR,by dsimp only;omega,Int.le_refl _,λp q k1 k2 k3 k4=>hS p q k1 k2 (by dsimp only at k4 ⊢;omega)⟩
   ·rintro r ⟨hR',hS'⟩
    exact⟨.inl (r,i+1),rfl,⟨hR',hS',by dsimp only;omega,by dsimp only;omega⟩,by dsimp only;omega⟩
  ·refine⟨.inr l,by simp only[hi,decide_false,cond_false],hR,?_⟩
   intro p q k1 k2 k3
   exact hS p q k1 k2 (by omega)
 ·exact⟨Rg.refl _ _ _,λp q k1 k2 k3=>by dsimp only at k3;omega,by dsimp only;omega,by dsimp only;omega⟩
 ·rintro r hr
  exact⟨r,rfl,hr⟩
theorem Fe (l0:LI)(a b:Int)(ha:0≤a)(hab:a≤b)(hb:b≤l0.length)(hlen:l0.length≤1000000):
  ∃l',D.H1 l0 a b=some l'∧Rg a b l0 l':=by
 unfold D.H1
 rw[w64 (show-9223372036854775808≤b-1 by omega) (by omega)]
 refine AB (λs=>Rg a b l0 s.1∧a≤s.2.1∧s.2.1≤b∧s.2.2<b∧a-1≤s.2.2) (λs=>(s.2.2-s.2.1).toNat) (λr=>Rg a b l0 r) ?_ ?_ ?_
 ·rintro⟨l,i,j⟩ ⟨hR,h1,h2,h3,h4⟩
  dsimp only at hR h1 h2 h3 h4 ⊢
  have hll:=hR.len
  by_cases hi:i<j
  ·have r1:idx l i=some (at' l i):=A9 (by omega) (by omega)
   have r2:idx l j=some (at' l j):=A9 (by omega) (by omega)
   have r3:∀x,idx (l.set i.toNat x) j=some (at' (l.set i.toNat x) j):=λx=>B3 (by omega) (by omega)
   rw[w64 (show-9223372036854775808≤i+1 by omega) (by omega),w64 (show-9223372036854775808≤j-1 by omega) (by omega)]
   refine⟨.inl (sw l i j,i+1,j-1),?_,⟨hR.trans (Rg.swap ha (by omega) (by omega) (by omega) (by omega) (by omega)),by dsimp only;omega,by dsimp only;omega,by dsimp only;omega,by dsimp only;omega⟩,by dsimp only;omega⟩
   simp only[r1,r2,r3,hi,decide_true,cond_true,bs]
   rfl
  ·exact⟨.inr l,by simp only[hi,decide_false,cond_false],hR⟩
 ·exact⟨Rg.refl _ _ _,by dsimp only;omega,by dsimp only;omega,by dsimp only;omega,by dsimp only;omega⟩
 ·rintro r hr
  exact⟨r,rfl,hr⟩
theorem scanUp {β:Type}{k:Int→Option β}{Q:β→Prop}(l:LI)(a hi i0:Int)(ha:0≤a)(ha':a<l.length)(h0:0≤i0)(h1:i0≤hi+1)(h2:hi<l.length)(hlen:l.length≤1000000)
  (hk:∀i,i0≤i→i≤hi+1→(∀q,i0≤q→q<i→at' l q<at' l a)→(i≤hi→¬at' l i<at' l a)→∃y,k i=some y∧Q y):
  ∃y,(Aq (σ:=Int) (ρ:=(Int)) (fun(x:Int)=>(cond (decide (x≤hi)) ((idx l x).bind λe=>(idx l a).bind λe'=>(D.j e e').bind λy=>some y) (some false)).bind λb=>cond b (some (.inl (IntKind.i64.wrap (x+1)))) (some (.inr x))) i0).bind k=some y∧Q y:=by
 refine AB (λi=>i0≤i∧i≤hi+1∧∀q,i0≤q→q<i→at' l q<at' l a) (λi=>(hi+1-i).toNat) (λi=>i0≤i∧i≤hi+1∧(∀q,i0≤q→q<i→at' l q<at' l a)∧(i≤hi→¬at' l i<at' l a)) ?_ ?_ ?_
 ·rintro i ⟨g1,g2,g3⟩
  by_cases hi':i≤hi
  ·have r1:idx l i=some (at' l i):=A9 (by omega) (by omega)
   have r2:idx l a=some (at' l a):=A9 (by omega) (by omega)
   by_cases hlt:at' l i<at' l a
   ·refine⟨.inl (i+1),?_,⟨by omega,by omega,λq q1 q2=> ?_⟩,by dsimp only;omega⟩
    ·simp only[r1,r2,hi',B9,hlt,decide_true,cond_true,bs]
     rw[w64 (by omega) (by omega)]
    ·by_cases e:q=i
     ·rw[e];exact hlt
     ·exact g3 q q1 (by omega)
   ·exact⟨.inr i,by simp only[r1,r2,hi',B9,hlt,decide_true,decide_false,cond_true,cond_false,bs],g1,g2,g3,λ_=>hlt⟩
  ·exact⟨.inr i,by simp only[hi',decide_false,cond_false,bs],g1,g2,g3,λh=>absurd h hi'⟩
 ·exact⟨Int.le_refl _,h1,λq q1 q2=>by omega⟩
 ·rintro i ⟨g1,g2,g3,g4⟩
  exact hk i g1 g2 g3 g4
theorem scanDown {β:Type}{k:Int→Option β}{Q:β→Prop}(l:LI)(a lo j0:Int)(ha:0≤a)(ha':a<l.length)(h0:0≤lo)(h1:lo≤j0+1)(h2:j0<l.length)(hlen:l.length≤1000000)
  (hk:∀j,lo≤j+1→j≤j0→(∀q,j<q→q≤j0→¬at' l q<at' l a)→(lo≤j→at' l j<at' l a)→∃y,k j=some y∧Q y):
  ∃y,(Aq (σ:=Int) (ρ:=(Int)) (fun(x:Int)=>(cond (decide (lo≤x)) ((idx l x).bind λe=>(idx l a).bind λe'=>(D.j e e').bind λy=>some (!y)) (some false)).bind λb=>cond b (some (.inl (IntKind.i64.wrap (x-1)))) (some (.inr x))) j0).bind k=some y∧Q y:=by
 refine AB (λj=>lo≤j+1∧j≤j0∧∀q,j<q→q≤j0→¬at' l q<at' l a) (λj=>(j+1-lo).toNat) (λj=>lo≤j+1∧j≤j0∧(∀q,j<q→q≤j0→¬at' l q<at' l a)∧(lo≤j→at' l j<at' l a)) ?_ ?_ ?_
 ·rintro j ⟨g1,g2,g3⟩
  by_cases hi':lo≤j
  ·have r1:idx l j=some (at' l j):=A9 (by omega) (by omega)
   have r2:idx l a=some (at' l a):=A9 (by omega) (by omega)
   by_cases hlt:at' l j<at' l a
   ·exact⟨.inr j,by simp only[r1,r2,hi',B9,hlt,decide_true,Bool.not_true,cond_true,cond_false,bs],g1,g2,g3,λ_=>hlt⟩
   ·refine⟨.inl (j-1),?_,⟨by omega,by omega,λq q1 q2=> ?_⟩,by dsimp only;omega⟩
    ·simp only[r1,r2,hi',B9,hlt,decide_true,decide_false,Bool.not_false,cond_true,bs]
     rw[w64 (by omega) (by omega)]
    ·by_cases e:q=j
     ·rw[e];exact hlt
     ·exact g3 q (by omega) q2
  ·exact⟨.inr j,by simp only[hi',decide_false,cond_false,bs],g1,g2,g3,λh=>absurd h hi'⟩
 ·exact⟨h1,Int.le_refl _,λq q1 q2=>by omega⟩
 ·rintro j ⟨g1,g2,g3,g4⟩
  exact hk j g1 g2 g3 g4
structure Parted (l0 l':LI)(a b mid:Int):Prop where
 rg:Rg a b l0 l'
 lo:a≤mid
 hi:mid<b
 left:∀k,a≤k→k<mid→at' l' k≤at' l' mid
 right:∀k,mid<k→k<b→at' l' mid≤at' l' k
theorem partition_spec (l0:LI)(a b p:Int)(ha:0≤a)(hb:b≤l0.length)(hlen:l0.length≤1000000)(hp:a≤p)(hp':p<b):
  ∃y,D.U1 l0 a b p=some y∧Parted l0 y.2.2 a b y.1:=by
 unfold D.U1
 have r1:idx l0 p=some (at' l0 p):=A9 (by omega) (by omega)
 have r2:idx l0 a=some (at' l0 a):=A9 (by omega) (by omega)
 have r3:∀x,idx (l0.set a.toNat x) p=some (at' (l0.set a.toNat x) p):=λx=>B3 (by omega) (by omega)
 simp only[r1,r2,r3,bs]
 rw[show (l0.set a.toNat (at' l0 p)).set p.toNat (at' l0 a)=sw l0 a p from rfl]
 have hR0:Rg a b l0 (sw l0 a p):=Rg.swap ha hb (by omega) (by omega) hp hp'
 generalize sw l0 a p=m0 at hR0 ⊢
 have hm0:=hR0.len
 rw[w64 (show-9223372036854775808≤b-1 by omega) (by omega),w64 (show-9223372036854775808≤a+1 by omega) (by omega)]
 refine scanUp m0 a (b-1) (a+1) ha (by omega) (by omega) (by omega) (by omega) (by omega) (λi i1 i2 i3 i4=> ?_)
 refine scanDown m0 a i (b-1) ha (by omega) (by omega) (by omega) (by omega) (by omega) (λj j1 j2 j3 j4=> ?_)
 have q1:idx m0 a=some (at' m0 a):=A9 (by omega) (by omega)
 have q2:idx m0 j=some (at' m0 j):=A9 (by omega) (by omega)
 by_cases hij:j<i
 ·have q3:∀x,idx (m0.set j.toNat x) a=some (at' (m0.set j.toNat x) a):=λx=>B3 (by omega) (by omega)
  refine⟨(j,true,sw m0 j a),?_,⟨hR0.trans (Rg.swap ha (by omega) (by omega) (by omega) (by omega) (by omega)),by dsimp only;omega,by dsimp only;omega,λk k1 k2=> ?_,λk k1 k2=> ?_⟩⟩
  ·simp only[q1,q2,q3,hij,decide_true,cond_true,bs]
   rfl
  ·dsimp only at k1 k2 ⊢
   rw[BN (by omega) (by omega) (by omega) (by omega) (by omega),BN (by omega) (by omega) (by omega) (by omega) (by omega)]
   rw[if_neg (show¬j=a by omega),if_pos rfl]
   by_cases e:k=a
   ·rw[if_pos e]
    have:=i3 j (by omega) (by omega);omega
   ·rw[if_neg e,if_neg (by omega)]
    have:=i3 k (by omega) (by omega);omega
  ·dsimp only at k1 k2 ⊢
   rw[BN (by omega) (by omega) (by omega) (by omega) (by omega),BN (by omega) (by omega) (by omega) (by omega) (by omega)]
   rw[if_neg (show¬k=a by omega),if_neg (show¬k=j by omega)]
   have hk:=j3 k (by omega) (by omega)
   by_cases e:j=a
   ·rw[if_pos e];subst e;omega
   ·rw[if_neg e,if_pos rfl];omega
 ·have q4:idx m0 i=some (at' m0 i):=A9 (by omega) (by omega)
  have q5:∀x,idx (m0.set i.toNat x) j=some (at' (m0.set i.toNat x) j):=λx=>B3 (by omega) (by omega)
  simp only[q1,q2,q4,q5,hij,decide_false,cond_false,bs]
  rw[show (m0.set i.toNat (at' m0 j)).set j.toNat (at' m0 i)=sw m0 i j from rfl]
  have hia:=i4 (by omega)
  have hja:=j4 (by omega)
  have hne:i<j:=by
   rcases Int.lt_or_eq_of_le (show i≤j by omega) with h|h
   ·exact h
   ·subst h;exact absurd hja hia
  have hR1:Rg a b l0 (sw m0 i j):=hR0.trans (Rg.swap ha (by omega) (by omega) (by omega) (by omega) (by omega))
  have ea:at' (sw m0 i j) a=at' m0 a:=by rw[BN (by omega) (by omega) (by omega) (by omega) (by omega),if_neg (by omega),if_neg (by omega)]
  have hlo:∀q,a+1≤q→q<i+1→at' (sw m0 i j) q<at' (sw m0 i j) a:=λq h1 h2=>by
   rw[ea,BN (by omega) (by omega) (by omega) (by omega) (by omega),if_neg (by omega)]
   by_cases e:q=i
   ·rw[if_pos e];exact hja
   ·rw[if_neg e];exact i3 q h1 (by omega)
  have hhi:∀q,j-1<q→q<b→¬at' (sw m0 i j) q<at' (sw m0 i j) a:=λq h1 h2=>by
   rw[ea,BN (by omega) (by omega) (by omega) (by omega) (by omega)]
   by_cases e:q=j
   ·rw[if_pos e];exact hia
   ·rw[if_neg e,if_neg (by omega)];exact j3 q (by omega) (by omega)
  rw[w64 (show-9223372036854775808≤i+1 by omega) (by omega),w64 (show-9223372036854775808≤j-1 by omega) (by omega)]
  generalize sw m0 i j=m1 at hR1 hlo hhi ⊢
  refine AB (λs=>Rg a b l0 s.1∧a+1≤s.2.1∧s.2.1≤s.2.2+1∧s.2.2<b∧(∀q,a+1≤q→q<s.2.1→at' s.1 q<at' s.1 a)∧(∀q,s.2.2<q→q<b→¬at' s.1 q<at' s.1 a)) (λs=>(s.2.2+1-s.2.1).toNat)
   (λs=>Rg a b l0 s.1∧a≤s.2∧s.2<b∧(∀q,a+1≤q→q≤s.2→at' s.1 q<at' s.1 a)∧(∀q,s.2<q→q<b→¬at' s.1 q<at' s.1 a)) ?_ ?_ ?_
  ·rintro⟨m,u,v⟩ ⟨hR,g1,g2,g3,g4,g5⟩
   dsimp only at hR g1 g2 g3 g4 g5 ⊢
   have hml:=hR.len
   refine scanUp m a v u ha (by omega) (by omega) (by omega) (by omega) (by omega) (λi i1 i2 i3 i4=> ?_)
   refine scanDown m a i v ha (by omega) (by omega) (by omega) (by omega) (by omega) (λj j1 j2 j3 j4=> ?_)
   have f1:∀q,a+1≤q→q<i→at' m q<at' m a:=λq h1 h2=>by
    by_cases h:q<u
    ·exact g4 q h1 h
    ·exact i3 q (by omega) h2
   have f2:∀q,j<q→q<b→¬at' m q<at' m a:=λq h1 h2=>by
    by_cases h:q≤v
    ·exact j3 q h1 h
    ·exact g5 q (by omega) h2
   by_cases hij:j<i
   ·exact⟨.inr (m,j),by simp only[hij,decide_true,cond_true],hR,by dsimp only;omega,by dsimp only;omega,λq h1 h2=>f1 q h1 (by dsimp only at h2;omega),f2⟩
   ·have t1:idx m i=some (at' m i):=A9 (by omega) (by omega)
    have t2:idx m j=some (at' m j):=A9 (by omega) (by omega)
    have t3:∀x,idx (m.set i.toNat x) j=some (at' (m.set i.toNat x) j):=λx=>B3 (by omega) (by omega)
    have hia:=i4 (by omega)
    have hja:=j4 (by omega)
    have hne:i<j:=by
     rcases Int.lt_or_eq_of_le (show i≤j by omega) with h|h
     ·exact h
     ·subst h;exact absurd hja hia
    have ea:at' (sw m i j) a=at' m a:=by rw[BN (by omega) (by omega) (by omega) (by omega) (by omega),if_neg (by omega),if_neg (by omega)]
    rw[w64 (show-9223372036854775808≤i+1 by omega) (by omega),w64 (show-9223372036854775808≤j-1 by omega) (by omega)]
    refine⟨.inl (sw m i j,i+1,j-1),?_,⟨hR.trans (Rg.swap ha (by omega) (by omega) (by omega) (by omega) (by omega)),by dsimp only;omega,by dsimp only;omega,by dsimp only;omega,λq h1 h2=> ?_,λq h1 h2=> ?_⟩,by dsimp only;omega⟩
    ·simp only[t1,t2,t3,hij,decide_false,cond_false,bs]
     rfl
    ·dsimp only at h2 ⊢
     rw[ea,BN (by omega) (by omega) (by omega) (by omega) (by omega),if_neg (by omega)]
     by_cases e:q=i
     ·rw[if_pos e];exact hja
     ·rw[if_neg e];exact f1 q h1 (by omega)
    ·dsimp only at h1 ⊢
     rw[ea,BN (by omega) (by omega) (by omega) (by omega) (by omega)]
     by_cases e:q=j
     ·rw[if_pos e];exact hia
     ·rw[if_neg e,if_neg (by omega)];exact f2 q (by omega) h2
  ·exact⟨hR1,by dsimp only;omega,by dsimp only;omega,by dsimp only;omega,hlo,hhi⟩
  ·rintro⟨m,v⟩ ⟨hR,g1,g2,g3,g4⟩
   dsimp only at hR g1 g2 g3 g4 ⊢
   have hml:=hR.len
   have t1:idx m a=some (at' m a):=A9 (by omega) (by omega)
   have t2:idx m v=some (at' m v):=A9 (by omega) (by omega)
   have t3:∀x,idx (m.set v.toNat x) a=some (at' (m.set v.toNat x) a):=λx=>B3 (by omega) (by omega)
   refine⟨(v,false,sw m v a),?_,⟨hR.trans (Rg.swap ha (by omega) (by omega) (by omega) (by omega) (by omega)),g1,g2,λk k1 k2=> ?_,λk k1 k2=> ?_⟩⟩
   ·simp only[t1,t2,t3,bs]
    rfl
   ·dsimp only at k1 k2 ⊢
    rw[BN (by omega) (by omega) (by omega) (by omega) (by omega),BN (by omega) (by omega) (by omega) (by omega) (by omega)]
    rw[if_neg (show¬v=a by omega),if_pos rfl]
    by_cases e:k=a
    ·rw[if_pos e]
     have:=g3 v (by omega) (by omega);omega
    ·rw[if_neg e,if_neg (by omega)]
     have:=g3 k (by omega) (by omega);omega
   ·dsimp only at k1 k2 ⊢
    rw[BN (by omega) (by omega) (by omega) (by omega) (by omega),BN (by omega) (by omega) (by omega) (by omega) (by omega)]
    rw[if_neg (show¬k=a by omega),if_neg (show¬k=v by omega)]
    have hk:=g4 k (by omega) (by omega)
    by_cases e:v=a
    ·rw[if_pos e];subst e;omega
    ·rw[if_neg e,if_pos rfl];omega
theorem scanUp2 {β:Type}{k:Int→Option β}{Q:β→Prop}(l:LI)(a hi i0:Int)(ha:0≤a)(ha':a<l.length)(h0:0≤i0)(h1:i0≤hi+1)(h2:hi<l.length)(hlen:l.length≤1000000)
  (hk:∀i,i0≤i→i≤hi+1→(∀q,i0≤q→q<i→¬at' l a<at' l q)→(i≤hi→at' l a<at' l i)→∃y,k i=some y∧Q y):
  ∃y,(Aq (σ:=Int) (ρ:=(Int)) (fun(x:Int)=>(cond (decide (x≤hi)) ((idx l a).bind λe=>(idx l x).bind λe'=>(D.j e e').bind λy=>some (!y)) (some false)).bind λb=>cond b (some (.inl (IntKind.i64.wrap (x+1)))) (some (.inr x))) i0).bind k=some y∧Q y:=by
 refine AB (λi=>i0≤i∧i≤hi+1∧∀q,i0≤q→q<i→¬at' l a<at' l q) (λi=>(hi+1-i).toNat) (λi=>i0≤i∧i≤hi+1∧(∀q,i0≤q→q<i→¬at' l a<at' l q)∧(i≤hi→at' l a<at' l i)) ?_ ?_ ?_
 ·rintro i ⟨g1,g2,g3⟩
  by_cases hi':i≤hi
  ·have r1:idx l i=some (at' l i):=A9 (by omega) (by omega)
   have r2:idx l a=some (at' l a):=A9 (by omega) (by omega)
   by_cases hlt:at' l a<at' l i
   ·exact⟨.inr i,by simp only[r1,r2,hi',B9,hlt,decide_true,Bool.not_true,cond_true,cond_false,bs],g1,g2,g3,λ_=>hlt⟩
   ·refine⟨.inl (i+1),?_,⟨by omega,by omega,λq q1 q2=> ?_⟩,by dsimp only;omega⟩
    ·simp only[r1,r2,hi',B9,hlt,decide_true,decide_false,Bool.not_false,cond_true,bs]
     rw[w64 (by omega) (by omega)]
    ·by_cases e:q=i
     ·rw[e];exact hlt
     ·exact g3 q q1 (by omega)
  ·exact⟨.inr i,by simp only[hi',decide_false,cond_false,bs],g1,g2,g3,λh=>absurd h hi'⟩
 ·exact⟨Int.le_refl _,h1,λq q1 q2=>by omega⟩
 ·rintro i ⟨g1,g2,g3,g4⟩
  exact hk i g1 g2 g3 g4
theorem scanDown2 {β:Type}{k:Int→Option β}{Q:β→Prop}(l:LI)(a lo j0:Int)(ha:0≤a)(ha':a<l.length)(h0:0≤lo)(h1:lo≤j0+1)(h2:j0<l.length)(hlen:l.length≤1000000)
  (hk:∀j,lo≤j+1→j≤j0→(∀q,j<q→q≤j0→at' l a<at' l q)→(lo≤j→¬at' l a<at' l j)→∃y,k j=some y∧Q y):
  ∃y,(Aq (σ:=Int) (ρ:=(Int)) (fun(x:Int)=>(cond (decide (lo≤x)) ((idx l a).bind λe=>(idx l x).bind λe'=>(D.j e e').bind λy=>some y) (some false)).bind λb=>cond b (some (.inl (IntKind.i64.wrap (x-1)))) (some (.inr x))) j0).bind k=some y∧Q y:=by
 refine AB (λj=>lo≤j+1∧j≤j0∧∀q,j<q→q≤j0→at' l a<at' l q) (λj=>(j+1-lo).toNat) (λj=>lo≤j+1∧j≤j0∧(∀q,j<q→q≤j0→at' l a<at' l q)∧(lo≤j→¬at' l a<at' l j)) ?_ ?_ ?_
 ·rintro j ⟨g1,g2,g3⟩
  by_cases hi':lo≤j
  ·have r1:idx l j=some (at' l j):=A9 (by omega) (by omega)
   have r2:idx l a=some (at' l a):=A9 (by omega) (by omega)
   by_cases hlt:at' l a<at' l j
   ·refine⟨.inl (j-1),?_,⟨by omega,by omega,λq q1 q2=> ?_⟩,by dsimp only;omega⟩
    ·simp only[r1,r2,hi',B9,hlt,decide_true,cond_true,bs]
     rw[w64 (by omega) (by omega)]
    ·by_cases e:q=j
     ·rw[e];exact hlt
     ·exact g3 q (by omega) q2
   ·exact⟨.inr j,by simp only[r1,r2,hi',B9,hlt,decide_true,decide_false,cond_true,cond_false,bs],g1,g2,g3,λ_=>hlt⟩
  ·exact⟨.inr j,by simp only[hi',decide_false,cond_false,bs],g1,g2,g3,λh=>absurd h hi'⟩
 ·exact⟨h1,Int.le_refl _,λq q1 q2=>by omega⟩
 ·rintro j ⟨g1,g2,g3,g4⟩
  exact hk j g1 g2 g3 g4
theorem EN (l0:LI)(a b p:Int)(ha:0≤a)(hb:b≤l0.length)(hlen:l0.length≤1000000)(hp:a≤p)(hp':p<b):
  ∃y,D.F1 l0 a b p=some y∧Rg a b l0 y.2∧a<y.1∧y.1≤b∧(∀k,a≤k→k<y.1→at' y.2 k≤at' l0 p)∧(∀k,y.1≤k→k<b→at' l0 p<at' y.2 k):=by
 unfold D.F1
 have r1:idx l0 p=some (at' l0 p):=A9 (by omega) (by omega)
 have r2:idx l0 a=some (at' l0 a):=A9 (by omega) (by omega)
 have r3:∀x,idx (l0.set a.toNat x) p=some (at' (l0.set a.toNat x) p):=λx=>B3 (by omega) (by omega)
 simp only[r1,r2,r3,bs]
 rw[show (l0.set a.toNat (at' l0 p)).set p.toNat (at' l0 a)=sw l0 a p from rfl]
 have hR0:Rg a b l0 (sw l0 a p):=Rg.swap ha hb (by omega) (by omega) hp hp'
 have ep:at' (sw l0 a p) a=at' l0 p:=by
  rw[BN (by omega) (by omega) (by omega) (by omega) (by omega)]
  by_cases e:a=p
  ·rw[if_pos e,e]
  ·rw[if_neg e,if_pos rfl]
 generalize sw l0 a p=m0 at hR0 ep ⊢
 rw[w64 (show-9223372036854775808≤b-1 by omega) (by omega),w64 (show-9223372036854775808≤a+1 by omega) (by omega)]
 refine AB (λs=>Rg a b l0 s.1∧a+1≤s.2.1∧s.2.1≤s.2.2+1∧s.2.2<b∧at' s.1 a=at' l0 p∧(∀q,a+1≤q→q<s.2.1→¬at' s.1 a<at' s.1 q)∧(∀q,s.2.2<q→q<b→at' s.1 a<at' s.1 q)) (λs=>(s.2.2+1-s.2.1).toNat)
  (λs=>Rg a b l0 s.1∧a+1≤s.2∧s.2≤b∧at' s.1 a=at' l0 p∧(∀q,a+1≤q→q<s.2→¬at' s.1 a<at' s.1 q)∧(∀q,s.2≤q→q<b→at' s.1 a<at' s.1 q)) ?_ ?_ ?_
 ·rintro⟨m,u,v⟩ ⟨hR,g1,g2,g3,g6,g4,g5⟩
  dsimp only at hR g1 g2 g3 g4 g5 g6 ⊢
  have hml:=hR.len
  refine scanUp2 m a v u ha (by omega) (by omega) (by omega) (by omega) (by omega) (λi i1 i2 i3 i4=> ?_)
  refine scanDown2 m a i v ha (by omega) (by omega) (by omega) (by omega) (by omega) (λj j1 j2 j3 j4=> ?_)
  have f1:∀q,a+1≤q→q<i→¬at' m a<at' m q:=λq h1 h2=>by
   by_cases h:q<u
   ·exact g4 q h1 h
   ·exact i3 q (by omega) h2
  have f2:∀q,j<q→q<b→at' m a<at' m q:=λq h1 h2=>by
   by_cases h:q≤v
   ·exact j3 q h1 h
   ·exact g5 q (by omega) h2
  by_cases hij:j<i
  ·exact⟨.inr (m,i),by simp only[hij,decide_true,cond_true],hR,by dsimp only;omega,by dsimp only;omega,g6,f1,λq h1 h2=>f2 q (by dsimp only at h1;omega) h2⟩
  ·have t1:idx m i=some (at' m i):=A9 (by omega) (by omega)
   have t2:idx m j=some (at' m j):=A9 (by omega) (by omega)
   have t3:∀x,idx (m.set i.toNat x) j=some (at' (m.set i.toNat x) j):=λx=>B3 (by omega) (by omega)
   have hia:=i4 (by omega)
   have hja:=j4 (by omega)
   have hne:i<j:=by
    rcases Int.lt_or_eq_of_le (show i≤j by omega) with h|h
    ·exact h
    ·subst h;exact absurd hia hja
   have ea:at' (sw m i j) a=at' m a:=by rw[BN (by omega) (by omega) (by omega) (by omega) (by omega),if_neg (by omega),if_neg (by omega)]
   rw[w64 (show-9223372036854775808≤i+1 by omega) (by omega),w64 (show-9223372036854775808≤j-1 by omega) (by omega)]
   refine⟨.inl (sw m i j,i+1,j-1),?_,⟨hR.trans (Rg.swap ha (by omega) (by omega) (by omega) (by omega) (by omega)),by dsimp only;omega,by dsimp only;omega,by dsimp only;omega,by dsimp only;rw[ea];exact g6,λq h1 h2=> ?_,λq h1 h2=> ?_⟩,by dsimp only;omega⟩
   ·simp only[t1,t2,t3,hij,decide_false,cond_false,bs]
    rfl
   ·dsimp only at h2 ⊢
    rw[ea,BN (by omega) (by omega) (by omega) (by omega) (by omega),if_neg (by omega)]
    by_cases e:q=i
    ·rw[if_pos e];exact hja
    ·rw[if_neg e];exact f1 q h1 (by omega)
   ·dsimp only at h1 ⊢
    rw[ea,BN (by omega) (by omega) (by omega) (by omega) (by omega)]
    by_cases e:q=j
    ·rw[if_pos e];exact hia
    ·rw[if_neg e,if_neg (by omega)];exact f2 q (by omega) h2
 ·exact⟨hR0,by dsimp only;omega,by dsimp only;omega,by dsimp only;omega,ep,λq h1 h2=>by dsimp only at h2;omega,λq h1 h2=>by dsimp only at h1;omega⟩
 ·rintro⟨m,v⟩ ⟨hR,g1,g2,g3,g4,g5⟩
  refine⟨(v,m),rfl,hR,by dsimp only at*;omega,g2,λk k1 k2=> ?_,λk k1 k2=> ?_⟩
  ·dsimp only at*
   by_cases e:k=a
   ·rw[e,g3];exact Int.le_refl _
   ·have:=g4 k (by omega) k2;omega
  ·dsimp only at*
   have:=g5 k k1 k2;omega
theorem Eg (l:LI)(a b s:Int)(ha:0≤a)(ha':a<l.length)(hb:0≤b)(hb':b<l.length):
  ∃y,D.u1 l a b s=some y∧y.2.2.1=l∧((y.1=a∧y.2.1=b)∨(y.1=b∧y.2.1=a)):=by
 have r1:idx l a=some (at' l a):=A9 ha ha'
 have r2:idx l b=some (at' l b):=A9 hb hb'
 unfold D.u1
 simp only[r1,r2,B9,bs]
 by_cases h:at' l b<at' l a
 ·simp only[h,decide_true,cond_true];exact⟨_,rfl,rfl,.inr ⟨rfl,rfl⟩⟩
 ·simp only[h,decide_false,cond_false];exact⟨_,rfl,rfl,.inl ⟨rfl,rfl⟩⟩
theorem median_spec (l:LI)(a b c s:Int)(ha:0≤a)(ha':a<l.length)(hb:0≤b)(hb':b<l.length)(hc:0≤c)(hc':c<l.length):
  ∃y,D.y1 l a b c s=some y∧y.2.1=l∧(y.1=a∨y.1=b∨y.1=c):=by
 unfold D.y1
 obtain⟨y1,h1,e1,c1⟩:=Eg l a b s ha ha' hb hb'
 rw[h1,bs,e1]
 have b1:0≤y1.2.1∧y1.2.1<l.length∧0≤y1.1∧y1.1<l.length:=by rcases c1 with⟨c,d⟩|⟨c,d⟩<;>rw[c,d]<;>exact⟨by assumption,by assumption,by assumption,by assumption⟩
 obtain⟨y2,h2,e2,c2⟩:=Eg l y1.2.1 c y1.2.2.2 b1.1 b1.2.1 hc hc'
 rw[h2,bs,e2]
 have b2:0≤y2.1∧y2.1<l.length:=by rcases c2 with⟨c,d⟩|⟨c,d⟩<;>rw[c]<;>exact⟨by omega,by omega⟩
 obtain⟨y3,h3,e3,c3⟩:=Eg l y1.1 y2.1 y2.2.2.2 b1.2.2.1 b1.2.2.2 b2.1 b2.2
 rw[h3,bs]
 refine⟨_,rfl,e3,?_⟩
 dsimp only
 omega
theorem Fw (l:LI)(a b:Int)(ha:0≤a)(hb:b≤l.length)(h8:8≤b-a)(h50:b-a<50)(hlen:l.length≤1000000):
  ∃y,D.A1 l a b=some y∧y.2.2=l∧a≤y.1∧y.1<b:=by
 unfold D.A1
 rw[w64 (show-9223372036854775808≤b-a by omega) (by omega)]
 have e4:(b-a).tdiv 4=(b-a)/4:=Int.tdiv_eq_ediv_of_nonneg (by omega)
 rw[e4,w64 (show-9223372036854775808≤(b-a)/4 by omega) (by omega)]
 rw[w64 (show-9223372036854775808≤(b-a)/4*1 by omega) (by omega),w64 (show-9223372036854775808≤(b-a)/4*2 by omega) (by omega),w64 (show-9223372036854775808≤(b-a)/4*3 by omega) (by omega)]
 rw[w64 (show-9223372036854775808≤a+(b-a)/4*1 by omega) (by omega),w64 (show-9223372036854775808≤a+(b-a)/4*2 by omega) (by omega),w64 (show-9223372036854775808≤a+(b-a)/4*3 by omega) (by omega)]
 simp only[h8,show¬(50≤b-a) by omega,decide_true,decide_false,cond_true,cond_false,bs]
 obtain⟨y,h1,e1,c1⟩:=median_spec l (a+(b-a)/4*1) (a+(b-a)/4*2) (a+(b-a)/4*3) 0 (by omega) (by omega) (by omega) (by omega) (by omega) (by omega)
 rw[h1,bs,e1]
 have hy:a≤y.1∧y.1<b:=by omega
 cases (y.2.2==0)
 ·cases (y.2.2==12)
  ·exact⟨_,rfl,rfl,hy⟩
  ·exact⟨_,rfl,rfl,hy⟩
 ·exact⟨_,rfl,rfl,hy⟩
theorem Ew (l:LI)(a b:Int)(ha:0≤a)(hab:a<b)(hb:b≤l.length)(h50:b-a<50)(hlen:l.length≤1000000):
  ∃y,D.E1 l a b=some y∧y.2=l∧(y.1=true→Srt l a b):=by
 unfold D.E1
 rw[w64 (show-9223372036854775808≤a+1 by omega) (by omega)]
 refine AB (λs=>s=(l,a+1,0)) (λ_=>0) (λr=>∃y:Bool×LI,r= .inr y∧y.2=l∧(y.1=true→Srt l a b)) ?_ rfl ?_
 ·rintro s rfl
  dsimp only
  simp only[show ((0:Int)<5) from by decide,decide_true,cond_true]
  refine AB (λi=>a+1≤i∧i≤b∧Srt l a i) (λi=>(b-i).toNat) (λi=>a+1≤i∧i≤b∧Srt l a i) ?_ ?_ ?_
  ·rintro i ⟨g1,g2,g3⟩
   by_cases hi:i<b
   ·have r1:idx l i=some (at' l i):=A9 (by omega) (by omega)
    have r2:idx l (i-1)=some (at' l (i-1)):=A9 (by omega) (by omega)
    have e1:IntKind.i64.wrap (i-1)=i-1:=w64 (by omega) (by omega)
    by_cases hlt:at' l i<at' l (i-1)
    ·exact⟨.inr i,by simp only[r1,r2,e1,hi,B9,hlt,decide_true,Bool.not_true,cond_true,cond_false,bs],g1,g2,g3⟩
    ·refine⟨.inl (i+1),?_,⟨by omega,by omega,λp q k1 k2 k3=> ?_⟩,by dsimp only;omega⟩
     ·simp only[r1,r2,e1,hi,B9,hlt,decide_true,decide_false,Bool.not_false,cond_true,bs]
      rw[w64 (by omega) (by omega)]
     ·by_cases e:q=i
      ·subst e
       by_cases e2:p=q-1
       ·subst e2;omega
       ·have:=g3 p (q-1) k1 (by omega) (by omega);omega
      ·exact g3 p q k1 k2 (by omega)
   ·exact⟨.inr i,by simp only[hi,decide_false,cond_false,bs],g1,g2,g3⟩
  ·exact⟨Int.le_refl _,by omega,λp q k1 k2 k3=>by omega⟩
  ·rintro i ⟨g1,g2,g3⟩
   rw[w64 (show-9223372036854775808≤b-a by omega) (by omega)]
   by_cases he:i=b
   ·refine⟨.inr (.inr (true,l)),?_,_,rfl,rfl,λ_=>by rw[←he];exact g3⟩
    have:(i==b)=true:=by simp[he]
    simp only[this,cond_true]
   ·refine⟨.inr (.inr (false,l)),?_,_,rfl,rfl,λh=>by cases h⟩
    have:(i==b)=false:=by simp[he]
    simp only[this,h50,decide_true,cond_true,cond_false]
 ·rintro r ⟨y,rfl,h1,h2⟩
  exact⟨y,rfl,h1,h2⟩
theorem iand_small (y m:Int)(h0:0≤m)(h1:m<4294967296):0≤iand .u64 y m∧iand .u64 y m≤m:=by
 unfold iand
 have e:(BitVec.ofInt IntKind.u64.bits y&&&BitVec.ofInt IntKind.u64.bits m).toNat≤(BitVec.ofInt IntKind.u64.bits m).toNat:=by
  rw[BitVec.toNat_and];exact Nat.and_le_right
 have e2:(BitVec.ofInt IntKind.u64.bits m).toNat=m.toNat:=by
  rw[BitVec.toNat_ofInt]
  show (m%(2^64:Nat)).toNat=m.toNat
  congr 1
  omega
 rw[e2] at e
 generalize (BitVec.ofInt IntKind.u64.bits y&&&BitVec.ofInt IntKind.u64.bits m).toNat=t at e
 have:IntKind.u64.wrap (t:Int)=t:=by
  simp only[IntKind.wrap,IntKind.bits,IntKind.signed]
  simp
  omega
 rw[this]
 omega
theorem wu64 {x:Int}(h1:0≤x)(h2:x<18446744073709551616):IntKind.u64.wrap x=x:=by
 simp only[IntKind.wrap,IntKind.bits,IntKind.signed]
 simp
 omega
theorem pow2_spec (n:Int)(h1:8≤n)(h2:n≤16):∃y,D.J1 n=some y∧n<y∧y≤2*n:=by
 unfold D.J1
 rw[wu64 (by omega) (by omega)]
 have key:∀k:Int,k=8∨k=9∨k=10∨k=11∨k=12∨k=13∨k=14∨k=15∨k=16→k<ishl .u64 1 (Lib.bitLen k.toNat:Nat)∧ishl .u64 1 (Lib.bitLen k.toNat:Nat)≤2*k:=by
  rintro k (rfl|rfl|rfl|rfl|rfl|rfl|rfl|rfl|rfl)<;>decide
 obtain⟨k1,k2⟩:=key n (by omega)
 refine⟨_,?_,k1,k2⟩
 unfold D.v1
 rw[if_pos (by omega),bs]
 have:decide (((Lib.bitLen n.toNat:Nat):Int)<0)=false:=by simp
 rw[this]
 rfl
theorem EV (l0:LI)(a b:Int)(ha:0≤a)(hb:b≤l0.length)(h8:8≤b-a)(h16:b-a≤16)(hlen:l0.length≤1000000):
  ∃l',D.N1 l0 a b=some l'∧Rg a b l0 l':=by
 unfold D.N1
 rw[w64 (show-9223372036854775808≤b-a by omega) (by omega)]
 have e4:(b-a).tdiv 4=(b-a)/4:=Int.tdiv_eq_ediv_of_nonneg (by omega)
 rw[e4,w64 (show-9223372036854775808≤(b-a)/4 by omega) (by omega)]
 rw[w64 (show-9223372036854775808≤(b-a)/4*2 by omega) (by omega)]
 rw[w64 (show-9223372036854775808≤a+(b-a)/4*2 by omega) (by omega)]
 rw[w64 (show-9223372036854775808≤a+(b-a)/4*2+1 by omega) (by omega),w64 (show-9223372036854775808≤a+(b-a)/4*2-1 by omega) (by omega)]
 simp only[h8,decide_true,cond_true]
 obtain⟨y,hy,g1,g2⟩:=pow2_spec (b-a) h8 h16
 rw[hy,bs,wu64 (show 0≤y-1 by omega) (by omega)]
 refine AB (λs=>Rg a b l0 s.1∧a+(b-a)/4*2-1≤s.2.1∧s.2.1≤a+(b-a)/4*2+2) (λs=>(a+(b-a)/4*2+2-s.2.1).toNat) (λr=>Rg a b l0 r) ?_ ?_ ?_
 ·rintro⟨l,i,z⟩ ⟨hR,k1,k2⟩
  dsimp only at hR k1 k2 ⊢
  have hll:=hR.len
  by_cases hi:i≤a+(b-a)/4*2+1
  ·simp only[hi,decide_true,cond_true,D.d2,bs]
   obtain⟨t1,t2⟩:=iand_small (Bt .u64 (Bt .u64 (Bt .u64 z (ishl .u64 z 13)) (BR .u64 (Bt .u64 z (ishl .u64 z 13)) 7)) (ishl .u64 (Bt .u64 (Bt .u64 z (ishl .u64 z 13)) (BR .u64 (Bt .u64 z (ishl .u64 z 13)) 7)) 17)) (y-1) (by omega) (by omega)
   revert t1 t2
   generalize iand .u64 (Bt .u64 (Bt .u64 (Bt .u64 z (ishl .u64 z 13)) (BR .u64 (Bt .u64 z (ishl .u64 z 13)) 7)) (ishl .u64 (Bt .u64 (Bt .u64 z (ishl .u64 z 13)) (BR .u64 (Bt .u64 z (ishl .u64 z 13)) 7)) 17)) (y-1)=t
   generalize (Bt .u64 (Bt .u64 (Bt .u64 z (ishl .u64 z 13)) (BR .u64 (Bt .u64 z (ishl .u64 z 13)) 7)) (ishl .u64 (Bt .u64 (Bt .u64 z (ishl .u64 z 13)) (BR .u64 (Bt .u64 z (ishl .u64 z 13)) 7)) 17))=z'
   intro t1 t2
   rw[w64 (show-9223372036854775808≤t by omega) (by omega),w64 (show-9223372036854775808≤t-(b-a) by omega) (by omega)]
   have hc:∃o,(bif decide (b-a≤t) then some (t-(b-a)) else some t)=some o∧0≤o∧o<b-a:=by
    by_cases h:b-a≤t
    ·exact⟨t-(b-a),by simp[h],by omega,by omega⟩
    ·exact⟨t,by simp[h],by omega,by omega⟩
   obtain⟨o,ho,o1,o2⟩:=hc
   rw[ho,bs,w64 (show-9223372036854775808≤a+o by omega) (by omega),w64 (show-9223372036854775808≤i+1 by omega) (by omega)]
   have r1:idx l i=some (at' l i):=A9 (by omega) (by omega)
   have r2:idx l (a+o)=some (at' l (a+o)):=A9 (by omega) (by omega)
   have r3:∀x,idx (l.set i.toNat x) (a+o)=some (at' (l.set i.toNat x) (a+o)):=λx=>B3 (by omega) (by omega)
   refine⟨.inl (sw l i (a+o),i+1,z'),?_,⟨hR.trans (Rg.swap ha (by omega) (by omega) (by omega) (by omega) (by omega)),by dsimp only;omega,by dsimp only;omega⟩,by dsimp only;omega⟩
   simp only[r1,r2,r3,bs]
   rfl
  ·exact⟨.inr l,by simp only[hi,decide_false,cond_false],hR⟩
 ·exact⟨Rg.refl _ _ _,by dsimp only;omega,by dsimp only;omega⟩
 ·rintro r hr
  exact⟨r,rfl,hr⟩
end Go.Sx

namespace Go.Sx.Gs
variable {α : Type} [Srtd α]
end Go.Sx.Gs

namespace Go.Sx.Gs
variable {α : Type} [Srtd α]
end Go.Sx.Gs

namespace Go.Sx.Gs
variable {α : Type} [Srtd α]
def Out (l:List α)(a0 b0 a b:Int):Prop:=∀i j,a0≤i→i<j→j<b0→¬(a≤i∧j<b)→at' l i≤at' l j
theorem Out.keep {a0 a b b0:Int}{l l':List α}(h:Rg a b l l')(h0:0≤a0)(ha:a0≤a)(hb:b≤b0)(c:Out l a0 b0 a b):Out l' a0 b0 a b:=by
 intro i j h1 h2 h3 h4
 by_cases hi:a≤i∧i<b
 ·rw[h.out j (by omega) (by omega)]
  exact h.all (λx=>x≤at' l j) (λk k1 k2=>c k j (by omega) (by omega) h3 (by omega)) i hi.1 hi.2
 ·rw[h.out i (by omega) (by omega)]
  by_cases hj:a≤j∧j<b
  ·exact h.all (λx=>at' l i≤x) (λk k1 k2=>c i k (by omega) (by omega) (by omega) (by omega)) j hj.1 hj.2
  ·rw[h.out j (by omega) (by omega)];exact c i j h1 h2 h3 h4
end Go.Sx.Gs

namespace Go.Sx
theorem list2 {l:LI}(h:l.length=2):∃a b,l=[a,b]:=by
 match l,h with
 |[a,b],_=>exact⟨a,b,rfl⟩
theorem row_inj {x y:LI}(hx:rowGood x)(hy:rowGood y)(h:Et x=Et y):x=y:=by
 obtain⟨h1,h2,h3,h4,h5⟩:=hx
 obtain⟨k1,k2,k3,k4,k5⟩:=hy
 obtain⟨a,b,rfl⟩:=list2 h1
 obtain⟨c,d,rfl⟩:=list2 k1
 unfold Et at h
 simp only[List.getD_cons_zero,List.getD_cons_succ] at*
 have:a=c:=by omega
 subst this
 have:b=d:=by omega
 subst this
 rfl
theorem CX (xs:LL):(xs.mergeSort D6).Perm xs:=List.mergeSort_perm _ _
theorem RSl.notNil {α:Type}{R:Rep α}{G:GH}{v:Value}{xs:List α}{u:Unit}(h:RSl R G v xs)(hx:nonE xs=some u):CS v=xs.isEmpty:=by
 obtain⟨vs,hA,h2⟩:=h
 cases xs with
 |nil=>cases hx
 |cons x xs=>
  rcases h2 with⟨_,h4⟩|⟨a,c,h3,h4⟩
  ·simp at h4
  ·rw[h3];rfl
end Go.Sx

set_option maxRecDepth 100000
namespace Go.Proofs.YtgadoeifdbijcaaGreatDoor
open Go Go.Sx
open Go.Proofs.Tryz Go.Proofs.YtgadoeifdbijcaaGreatDoor.Tryz IntKind
variable {W w : World} {G : GH} {H : List Itm}
theorem A7 :prog.follows .mixedOrders=true:=by kernel_rfl
theorem Pl2 :By prog 2:=isAgg2
theorem T33 :SlT prog 33 2 1 8 (iv 0):=⟨underlying33,Tryz.t2,by kernel_rfl,by kernel_rfl,by kernel_rfl,by kernel_rfl⟩
theorem Pl5 :By prog 5:=isAgg5
theorem T75 :SlT prog 75 80 1 4 (.int .u32 0):=⟨underlying75,Tryz.t80,by kernel_rfl,by kernel_rfl,by kernel_rfl,by kernel_rfl⟩
theorem Pl80 :By prog 80:=isAgg80
theorem Wk.h1 {v0:Value}{x0:LI}{x1:Int}(m:Mem W G w (H))(h0:R1 G v0 x0){y:Int}(hd:D.h1 x0 x1=some y):
  Calls prog 252 #[v0,(iv x1)] w (Res W G H (λ_ Ho v=>Ho=[]∧v=(iv y))):=by
 refine Ap (args:=[v0,(iv x1)]) (N:=19) [.tmp 4] func252 Z Z (lb Z) Z λa f=> ?_
 unfold D.h1 at hd
 refine Ae ?_
 refine Ac f Z λa f=>Aa (Ag (Ae ?_))
 refine Ab f Z λa f=>AZ underlying33 f Z Z h0 λa f=>Ab f Z λa f=>Aa ?_
 have⟨aa,ab,hd⟩:=bind_some hd
 refine AM (λa w=>∃q_19':Unit,aa= .inl q_19'∧∃(ac:GH),GLe G ac∧Fr a 19 []∧Mem W ac w (H)) ?_ ?_
 ·refine Ak ?_
  refine AI (λad a w=>∃ae:Int,ae=ad∧∃(af:GH),GLe G af∧Fr a 19 [(0,v0),(1,(iv x1)),(7,(iv (x0.length:Int))),(8,(iv ae))]∧Mem W af w (H)) ab ⟨_,Z,_,gr,f.k Z,m⟩ ?_
  clear ab f m
  rintro ad ag ah ai a w ⟨ae,rfl,af,aj,f,m⟩
  have h0:=rd1 aj h0
  refine Ae ?_
  refine Aj f Z Z AP λa f=>Aa (Ag ?_)
  rcases Af ah with⟨ak,ah⟩|⟨ak,ah⟩
  ·refine Al f Z ak ?_
   refine An ?_
   refine Ag (Ak (Ae ?_))
   refine Ab f Z λa f=>Ac f Z λa f=>Az ?_
   refine Ab f Z λa f=>Ab f Z λa f=>Ab f Z λa f=> ?_
   have⟨al,am,ah⟩:=bind_some ah
   refine Be T33 f Z Z Z h0 am λan ao a ap aq f=> ?_
   subst aq
   refine AK m Pl2 f Z Z ap λa f=>Aj f Z Z BW λa f=>Aa ?_
   rcases Af ah with⟨ar,ah⟩|⟨ar,ah⟩
   ·refine Al f Z ar ?_
    refine Ae ?_
    refine Ab f Z λa f=>Ac f Z λa f=>Aa ?_
    refine Ao ?_
    obtain rfl:=sj ah
    obtain rfl:=ai _ rfl
    obtain rfl:=sj hd
    exact⟨[(iv ae)],f.g Z,f.d,_,[],aj,m,Z,Z⟩
   ·refine Ai f Z ar ?_
    refine An ?_
    refine Ah ?_
    refine Aj f Z Z Ay λa f=>Ab f Z λa f=>Aa ?_
    obtain rfl:=sj ah
    exact⟨_,Z,_,Z,_,aj,f.k Z,m⟩
  ·refine Ai f Z ak ?_
   refine AG Z ?_
   obtain rfl:=sj ah
   obtain rfl:=ai _ rfl
   exact⟨_,Z,_,aj,f.weak trivial,m⟩
 ·rintro a w ⟨_,rfl,ac,au,f,m⟩
  refine Ae ?_
  refine Ac f Z λa f=>Aa ?_
  refine Ao ?_
  obtain rfl:=sj hd
  exact⟨[(iv (-1))],f.g Z,f.d,_,[],au,m,Z,Z⟩
theorem Wk.l0 {v0:Value}{x0:LI}{x1:Int}(m:Mem W G w (H))(h0:R1 G v0 x0){y:Bool}(hd:D.l0 x0 x1=some y):
  Calls prog 175 #[v0,(iv x1)] w (Res W G H (λ_ Ho v=>Ho=[]∧v=(.bool y))):=by
 refine Ap (args:=[v0,(iv x1)]) (N:=9) [.tmp 4] func175 Z Z (lb Z) Z λa f=> ?_
 unfold D.l0 at hd
 refine Ae ?_
 refine Ac f Z λa f=>Az ?_
 refine Ab f Z λa f=>Ab f Z λa f=> ?_
 have⟨aa,ab,hd⟩:=bind_some hd
 refine AR f Z call252 (Wk.h1 m h0 ab) λac w ad m a f=>Aj f Z Z Dv λa f=>Ac f Z λa f=>Aa ?_
 refine Ao ?_
 obtain rfl:=sj hd
 exact⟨[(.bool (decide ((0:Int)≤aa)))],f.g Z,f.d,_,[],ad,m,Z,Z⟩
theorem Wk.s1 {x0:Int}(hW:BJ W)(m:Mem W G w (H)){y:Int}(hd:D.s1 x0=some y):
  Calls prog 243 #[(.int .u32 x0)] w (Res W G H (λ_ Ho v=>Ho=[]∧v=(iv y))):=by
 refine Ap (args:=[(.int .u32 x0)]) (N:=14) [.tmp 2] func243 Z Z (lb Z) Z λa f=> ?_
 unfold D.s1 at hd
 refine Ae ?_
 refine Ac f Z λa f=>Aa (Ag (Ae ?_))
 refine Ab f Z λa f=>Aj f Z Z BW λa f=>Aa ?_
 rcases Af hd with⟨aa,hd⟩|⟨aa,hd⟩
 ·refine Al f Z aa ?_
  refine Ae ?_
  refine Ac f Z λa f=>Aa ?_
  refine Ao ?_
  obtain rfl:=sj hd
  exact⟨[(iv 32)],f.g Z,f.d,_,[],gr,m,Z,Z⟩
 ·refine Ai f Z aa ?_
  refine An ?_
  refine Ae ?_
  refine Ab f Z λa f=>Ab f Z λa f=>l_o f (r_neg (f.e Z)) λa f=>Aj f Z Z CY λa f=>Aj f Z Z D9 λa f=>l_o f (r_shr (f.e Z) (f.e Z) (by decide)) λa f=> ?_
  have⟨ab,ac,hd⟩:=bind_some hd
  refine l_tab hW m underlying265 sizeOf5 f Z Z ac λad a ae f=>AK m Pl5 f Z Z ae λa f=>l_o f (r_conv (f.e Z) ⟨_,underlying5⟩ underlying3) λa f=>Ac f Z λa f=>Aa ?_
  refine Ao ?_
  obtain rfl:=sj hd
  exact⟨[(iv (i64.wrap ab))],f.g Z,f.d,_,[],gr,m,Z,Z⟩
theorem Wk.K0 {x0:Int}(m:Mem W G w (H)){y:Int}(hd:D.K0 x0=some y):
  Calls prog 194 #[(.int .u32 x0)] w (Res W G H (λ_ Ho v=>Ho=[]∧v=(iv y))):=by
 refine Ap (args:=[(.int .u32 x0)]) (N:=21) [.tmp 2] func194 Z Z (lb Z) Z λa f=> ?_
 unfold D.K0 at hd
 refine Ae ?_
 refine Ac f Z λa f=>Aa (Ag ?_)
 refine Bp 19 A7 (by kernel_rfl) m ?_
 refine AJ 0 19 Z f Z λa f=>q_p 1 19 Z f (λ_=>r_shr (f.e Z) (f.e Z) (by decide)) λa f=> ?_
 have⟨aa,ab,hd⟩:=bind_some hd
 refine q_p 2 19 Z f (λ_=>E9 (f.e Z) (f.e Z) underlying9 ab) λa f=>AJ 3 19 Z f Z λa f=>q_p 4 19 Z f (λ_=>r_shr (f.e Z) (f.e Z) (by decide)) λa f=>q_p 5 19 Z f (λ_=>Bm (f.e Z) (f.e Z) CY) λa f=> ?_
 have⟨ac,ad,hd⟩:=bind_some hd
 refine q_p 6 19 Z f (λ_=>E9 (f.e Z) (f.e Z) underlying9 ad) λa f=>q_p 7 19 Z f (λ_=>Bm (f.e Z) (f.e Z) Ay) λa f=>AJ 8 19 Z f Z λa f=>q_p 9 19 Z f (λ_=>r_shr (f.e Z) (f.e Z) (by decide)) λa f=>q_p 10 19 Z f (λ_=>Bm (f.e Z) (f.e Z) CY) λa f=> ?_
 have⟨ae,af,hd⟩:=bind_some hd
 refine q_p 11 19 Z f (λ_=>E9 (f.e Z) (f.e Z) underlying9 af) λa f=>q_p 12 19 Z f (λ_=>Bm (f.e Z) (f.e Z) Ay) λa f=>AJ 13 19 Z f Z λa f=>q_p 14 19 Z f (λ_=>Bm (f.e Z) (f.e Z) CY) λa f=> ?_
 have⟨ag,ah,hd⟩:=bind_some hd
 refine q_p 15 19 Z f (λ_=>E9 (f.e Z) (f.e Z) underlying9 ah) λa f=>q_p 16 19 Z f (λ_=>Bm (f.e Z) (f.e Z) Ay) λa f=>q_p 17 19 Z f (λ_=>r_conv (f.e Z) ⟨_,underlying5⟩ underlying3) λa f=>q_p 18 19 Z f (λ_=>A6 (f.e Z)) λa f=>Bd λai w aj m=>Aa ?_
 refine Ao ?_
 obtain rfl:=sj hd
 exact⟨[(iv (i64.wrap (IntKind.u8.wrap ((IntKind.u8.wrap ((IntKind.u8.wrap (aa+ac))+ae))+ag))))],f.g Z,f.d,_,[],aj,m,Z,Z⟩
theorem Wk.u0 {v0:Value}{x0:LI}(m:Mem W G w (H))(h0:RSl (RI .u32) G v0 x0){y:(LI)}(hd:D.u0 x0=some y):
  Calls prog 188 #[v0] w (Res W G H (λG' Ho v=>∃r0:Value,∃i0:Itm,Ho=[i0]∧r0=v∧Ow (RI .u32) 80 G' i0 r0 y)):=by
 refine Ap (args:=[v0]) (N:=8) [.tmp 2] func188 Z Z (lb Z) Z λa f=> ?_
 unfold D.u0 at hd
 refine Ae ?_
 refine Ac f Z λa f=>Aa (Ag (Ae ?_))
 refine Ab f Z λa f=>l_o f (r_nil_eql (f.e Z) (f.e Z) h0.hdr underlying75 Z) λa f=>Aa ?_
 rcases Bool.eq_false_or_eq_true (CS v0) with aa|aa
 ·have hz:=h0.nil_inv aa
  subst hz
  replace hd:some ([]:LI)=some _:=hd
  refine Al f Z aa ?_
  refine Ae ?_
  refine Ac f Z λa f=>Aa ?_
  refine Ao ?_
  obtain⟨ab,m,ac⟩:=Ow.nil (RI .u32) 80 m
  obtain rfl:=sj hd
  exact⟨[sn],f.g Z,f.d,_,[ab],gr,m,_,_,Z,Z,ac⟩
 ·refine Ai f Z aa ?_
  refine An ?_
  refine Ae ?_
  refine AF (R:=(RI .u32)) (xs:=([]:LI)) (RI.one _) m T75 f Z Z Z (by decide) (All2.nil _) λad ae w a m af f=>Ab f Z λa f=> ?_
  have⟨ag,ah,hd⟩:=bind_some hd
  refine AT (RI.one _) 0 m af Z T75 Z (by decide) f Z Z Z (h0.src m) ah λai aj w a m ak f=>Ac f Z λa f=>Aa ?_
  refine Ao ?_
  obtain rfl:=sj hd
  exact⟨[aj],f.g Z,f.d,_,[ai],gr,m,_,_,Z,Z,ak⟩
theorem Wk.j1 {v0:Value}{x0:LI}{x1:Int}(m:Mem W G w (H))(h0:RSl (RI .u32) G v0 x0){y:Int}(hd:D.j1 x0 x1=some y):
  Calls prog 189 #[v0,(.int .u32 x1)] w (Res W G H (λ_ Ho v=>Ho=[]∧v=(iv y))):=by
 refine Ap (args:=[v0,(.int .u32 x1)]) (N:=19) [.tmp 4] func189 Z Z (lb Z) Z λa f=> ?_
 unfold D.j1 at hd
 refine Ae ?_
 refine Ac f Z λa f=>Aa (Ag (Ae ?_))
 refine Ab f Z λa f=>AZ underlying75 f Z Z h0 λa f=>Ab f Z λa f=>Aa ?_
 have⟨aa,ab,hd⟩:=bind_some hd
 refine AM (λa w=>∃q_19':Unit,aa= .inl q_19'∧∃(ac:GH),GLe G ac∧Fr a 19 []∧Mem W ac w (H)) ?_ ?_
 ·refine Ak ?_
  refine AI (λad a w=>∃ae:Int,ae=ad∧∃(af:GH),GLe G af∧Fr a 19 [(0,v0),(1,(.int .u32 x1)),(7,(iv (x0.length:Int))),(8,(iv ae))]∧Mem W af w (H)) ab ⟨_,Z,_,gr,f.k Z,m⟩ ?_
  clear ab f m
  rintro ad ag ah ai a w ⟨ae,rfl,af,aj,f,m⟩
  have h0:=rd1 aj h0
  refine Ae ?_
  refine Aj f Z Z AP λa f=>Aa (Ag ?_)
  rcases Af ah with⟨ak,ah⟩|⟨ak,ah⟩
  ·refine Al f Z ak ?_
   refine An ?_
   refine Ag (Ak (Ae ?_))
   refine Ab f Z λa f=>Ac f Z λa f=>Az ?_
   refine Ab f Z λa f=>Ab f Z λa f=>Ab f Z λa f=> ?_
   have⟨al,am,ah⟩:=bind_some ah
   refine Be T75 f Z Z Z h0 am λan ao a ap aq f=> ?_
   subst aq
   refine AK m Pl80 f Z Z ap λa f=>Aj f Z Z BW λa f=>Aa ?_
   rcases Af ah with⟨ar,ah⟩|⟨ar,ah⟩
   ·refine Al f Z ar ?_
    refine Ae ?_
    refine Ab f Z λa f=>Ac f Z λa f=>Aa ?_
    refine Ao ?_
    obtain rfl:=sj ah
    obtain rfl:=ai _ rfl
    obtain rfl:=sj hd
    exact⟨[(iv ae)],f.g Z,f.d,_,[],aj,m,Z,Z⟩
   ·refine Ai f Z ar ?_
    refine An ?_
    refine Ah ?_
    refine Aj f Z Z Ay λa f=>Ab f Z λa f=>Aa ?_
    obtain rfl:=sj ah
    exact⟨_,Z,_,Z,_,aj,f.k Z,m⟩
  ·refine Ai f Z ak ?_
   refine AG Z ?_
   obtain rfl:=sj ah
   obtain rfl:=ai _ rfl
   exact⟨_,Z,_,aj,f.weak trivial,m⟩
 ·rintro a w ⟨_,rfl,ac,au,f,m⟩
  refine Ae ?_
  refine Ac f Z λa f=>Aa ?_
  refine Ao ?_
  obtain rfl:=sj hd
  exact⟨[(iv (-1))],f.g Z,f.d,_,[],au,m,Z,Z⟩
theorem Wk.I0 {v0:Value}{x0:LI}{x1:Int}(m:Mem W G w (H))(h0:RSl (RI .u32) G v0 x0){y:Bool}(hd:D.I0 x0 x1=some y):
  Calls prog 74 #[v0,(.int .u32 x1)] w (Res W G H (λ_ Ho v=>Ho=[]∧v=(.bool y))):=by
 refine Ap (args:=[v0,(.int .u32 x1)]) (N:=9) [.tmp 4] func74 Z Z (lb Z) Z λa f=> ?_
 unfold D.I0 at hd
 refine Ae ?_
 refine Ac f Z λa f=>Az ?_
 refine Ab f Z λa f=>Ab f Z λa f=> ?_
 have⟨aa,ab,hd⟩:=bind_some hd
 refine AR f Z call189 (Wk.j1 m h0 ab) λac w ad m a f=>Aj f Z Z Dv λa f=>Ac f Z λa f=>Aa ?_
 refine Ao ?_
 obtain rfl:=sj hd
 exact⟨[(.bool (decide ((0:Int)≤aa)))],f.g Z,f.d,_,[],ad,m,Z,Z⟩
end Go.Proofs.YtgadoeifdbijcaaGreatDoor

set_option maxRecDepth 100000
namespace Go.Proofs.YtgadoeifdbijcaaGreatDoor
open Go Go.Sx
open Go.Proofs.Tryz Go.Proofs.YtgadoeifdbijcaaGreatDoor.Tryz IntKind
variable {W w : World} {G : GH} {H : List Itm}
theorem T22 :SlT prog 22 5 1 1 (.int .u8 0):=⟨underlying22,Tryz.t5,by kernel_rfl,by kernel_rfl,by kernel_rfl,by kernel_rfl⟩
theorem Pl3 :By prog 3:=isAgg3
theorem Pl22 :By prog 22:=isAgg22
theorem T24 :SlT prog 24 33 1 24 sn:=⟨underlying24,Tryz.t33,by kernel_rfl,by kernel_rfl,by kernel_rfl,by kernel_rfl⟩
theorem BH :By prog 24:=isAgg24
theorem AE :Agg prog 26 1:=⟨isAgg26,sizeOf26⟩
theorem Br :By prog 33:=isAgg33
theorem Wk.d1 {v0:Value}{x0:LI}(m:Mem W G w (H))(h0:RSl (RI .u8) G v0 x0){y:Bool}(hd:D.d1 x0=some y):
  Calls prog 7 #[v0] w (Res W G H (λ_ Ho v=>Ho=[]∧v=(.bool y))):=by
 refine Ap (args:=[v0]) (N:=6) [.tmp 2] func7 Z Z (lb Z) Z λa f=> ?_
 unfold D.d1 at hd
 refine Ae ?_
 refine Ac f Z λa f=>Az ?_
 refine Ab f Z λa f=>AZ underlying22 f Z Z h0 λa f=>Aj f Z Z Cu λa f=>Ac f Z λa f=>Aa ?_
 refine Ao ?_
 obtain rfl:=sj hd
 exact⟨[(.bool (decide ((4096:Int)<(x0.length:Int))))],f.g Z,f.d,_,[],gr,m,Z,Z⟩
theorem Wk.F0 {v0:Value}{x0:LI}(m:Mem W G w (H))(h0:RSl (RI .u8) G v0 x0){y:(LI)×Int×Int}(hd:D.F0 x0=some y):
  Calls prog 52 #[v0] w (Res W G H (λG' Ho v=>∃r0:Value,∃c1:Nat,Ho=[ib c1 181 [r0,(iv y.2.1),(iv y.2.2)]]∧v=(pb c1)∧RSl (RI .u8) G' r0 y.1)):=by
 refine Ap (args:=[v0]) (N:=28) [.tmp 2] func52 Z Z (lb Z) Z λa f=> ?_
 unfold D.F0 at hd
 refine Ae ?_
 refine Ac f Z λa f=>Az ?_
 refine Ab f Z λa f=>AZ underlying22 f Z Z h0 λa f=>Aj f Z Z Ay λa f=>Ac f Z λa f=>Aa (Ag (Ae ?_))
 refine Ac f Z λa f=>Aa ?_
 have⟨aa,ab,hd⟩:=bind_some hd
 refine AM (λa w=>∃ac:Int,ac=aa∧∃(ad:GH),GLe G ad∧Fr a 28 [(0,v0),(3,(iv ac))]∧Mem W ad w (H)) ?_ ?_
 ·refine Ak ?_
  refine AI (λae a w=>∃af:Int,∃ag:Int,(af,ag)=ae∧∃(ah:GH),GLe G ah∧Fr a 28 [(0,v0),(3,(iv af)),(4,(iv ag))]∧Mem W ah w (H)) ab ⟨_,_,Z,_,gr,f.k Z,m⟩ ?_
  clear ab f m
  rintro ae ai aj ak a w ⟨af,ag,rfl,ah,al,f,m⟩
  have h0:=rd1 al h0
  refine Ag (Ae ?_)
  refine Ab f Z λa f=>Ab f Z λa f=>AZ underlying22 f Z Z h0 λa f=>Aj f Z Z AP λa f=>Aa ?_
  rcases Af aj with⟨am,aj⟩|⟨am,aj⟩
  ·refine Al f Z am ?_
   refine An ?_
   refine Ag (Ak (Ah ?_))
   refine Ab f Z λa f=>Aj f Z Z D9 λa f=>Ab f Z λa f=>Ab f Z λa f=> ?_
   have⟨an,ao,aj⟩:=bind_some aj
   refine Be T22 f Z Z Z h0 ao λap aq a ar au f=> ?_
   subst au
   refine AK m Pl5 f Z Z ar λa f=>l_o f (r_conv (f.e Z) ⟨_,underlying5⟩ underlying2) λa f=>Aj f Z Z Ay λa f=>Aj f Z Z Ay λa f=>Aj f Z Z CY λa f=>Ac f Z λa f=>Aa (Ah ?_)
   refine Ab f Z λa f=>Aj f Z Z Ay λa f=>Ac f Z λa f=>Aa ?_
   obtain rfl:=sj aj
   exact⟨_,Z,_,_,Z,_,al,f.k Z,m⟩
  ·refine Ai f Z am ?_
   refine AG Z ?_
   obtain rfl:=sj aj
   obtain rfl:=ak _ rfl
   exact⟨_,Z,_,al,f.k Z,m⟩
 ·rintro a w ⟨ac,rfl,ad,av,f,m⟩
  have h0:=rd1 av h0
  refine Ae ?_
  refine Ab f Z λa f=>Ab f Z λa f=> ?_
  have aw:∀w,(Instr.build 181 #[(0,v0),(2,(iv ac))]).run prog w= .ok (.agg #[v0,(iv 0),(iv ac)]) w:=by intro w;simp[Instr.build,Instr.fill,h0.cells,DA,Dg,CF,CV,Cz,C9]
  refine DU f Z Z aw λa f=>A8 (cs:=[v0,(iv 0),(iv ac)]) m f Z Z Z λax w a m f=>Ac f Z λa f=>Aa ?_
  refine Ao ?_
  obtain rfl:=sj hd
  exact⟨[(pb ax)],f.g Z,f.d,_,[ib ax 181 [v0,(iv 0),(iv ac)]],av,m,_,_,Z,Z,h0⟩
theorem Wk.v {aa:Value}{b0:Nat}{ab:LI}{ac ad:Int}(m:Mem W G w (ib b0 181 [aa,(iv ac),(iv ad)]::H))(ae:RSl (RI .u8) G aa ab){y:Int×(LI)×Int×Int}(hd:D.v ab ac ad=some y):
  Calls prog 251 #[(pb b0)] w (Res W G H (λG' Ho v=>∃r0:Value,Ho=[ib b0 181 [r0,(iv y.2.2.1),(iv y.2.2.2)]]∧v=(iv y.1)∧RSl (RI .u8) G' r0 y.2.1)):=by
 refine Ap (args:=[(pb b0)]) (N:=58) [.tmp 2] func251 Z Z (lb Z) Z λa f=> ?_
 unfold D.v at hd
 refine Ae ?_
 refine Ac f Z λa f=>Az ?_
 refine Ab f Z λa f=>Ab f Z λa f=>l_o f (Bx (f.e Z)) λa f=>BQ underlying181 Z sizeOf2 f Z λa f=>AV 0 2 m Pl2 f Z Z Z Z λa f=>Aj f Z Z D9 λa f=>Aj f Z Z Ay λa f=>l_o f (Bx (f.e Z)) λa f=>BQ underlying181 Z sizeOf2 f Z λa f=>AD 0 2 (ds:=[(iv (i64.wrap ((i64.wrap (ad*6364136223846793005))+1442695040888963407)))]) m sizeOf2 f Z Z Z (AL Z AO) Z (lb Z) Z λw m=>Aa (Ag ?_)
 refine Bp 13 A7 (by kernel_rfl) m ?_
 refine AJ 0 13 Z f Z λa f=>q_p 1 13 Z f (λ_=>Bx (f.e Z)) λa f=>CC 2 13 underlying181 Z sizeOf2 Z f Z λa f=>Ce 3 13 0 Pl2 Z Z Z f Z λa f=>q_p 4 13 Z f (λ_=>r_shr (f.e Z) (f.e Z) (by decide)) λa f=>AJ 5 13 Z f Z λa f=>q_p 6 13 Z f (λ_=>Bx (f.e Z)) λa f=>CC 7 13 underlying181 Z sizeOf2 Z f Z λa f=>Ce 8 13 0 Pl2 Z Z Z f Z λa f=>q_p 9 13 Z f (λ_=>r_shr (f.e Z) (f.e Z) (by decide)) λa f=>q_p 10 13 Z f (λ_=>Bm (f.e Z) (f.e Z) b_xor) λa f=>q_p 11 13 Z f (λ_=>Bm (f.e Z) (f.e Z) CY) λa f=>q_p 12 13 Z f (λ_=>A6 (f.e Z)) λa f=>Bd λaf w ag m=> ?_
 have ae:=rd1 ag ae
 refine Aa (Ag (Ag ?_))
 refine Bp 10 A7 (by kernel_rfl) m ?_
 refine AJ 0 10 Z f Z λa f=>q_p 1 10 Z f (λ_=>Bx (f.e Z)) λa f=>CC 2 10 underlying181 Z sizeOf3 Z f Z λa f=>Ce 3 10 0 Pl3 Z Z Z f Z λa f=>AJ 4 10 Z f Z λa f=>q_p 5 10 Z f (λ_=>Bx (f.e Z)) λa f=>CC 6 10 underlying181 Z sizeOf22 Z f Z λa f=>Ce 7 10 0 Pl22 Z Z Z f Z λa f=>q_len (i:=8) 10 underlying22 ae Z (by kernel_rfl) Z f Z Z Z λa f=>q_p 9 10 Z f (λ_=>Bm (f.e Z) (f.e Z) AP) λa f=>Bd λah w ai m=> ?_
 have ae:=rd1 ai ae
 refine Aa ?_
 rcases Af hd with⟨aj,hd⟩|⟨aj,hd⟩
 ·refine Al f Z aj ?_
  refine Ag ?_
  refine Bp 15 A7 (by kernel_rfl) m ?_
  refine AJ 0 15 Z f Z λa f=>AJ 1 15 Z f Z λa f=>q_p 2 15 Z f (λ_=>Bx (f.e Z)) λa f=>CC 3 15 underlying181 Z sizeOf22 Z f Z λa f=>Ce 4 15 0 Pl22 Z Z Z f Z λa f=>AJ 5 15 Z f Z λa f=>q_p 6 15 Z f (λ_=>Bx (f.e Z)) λa f=>CC 7 15 underlying181 Z sizeOf3 Z f Z λa f=>Ce 8 15 0 Pl3 Z Z Z f Z λa f=> ?_
  have⟨ak,al,hd⟩:=bind_some hd
  refine B8 9 15 T22 ae al Z f Z Z λam an a ao ap f=> ?_
  subst ap
  refine B6 10 15 Pl5 ao Z f Z λa f=>q_p 11 15 Z f (λ_=>r_conv (f.e Z) ⟨_,underlying5⟩ underlying2) λa f=>q_p 12 15 Z f (λ_=>Bm (f.e Z) (f.e Z) Ay) λa f=>q_p 13 15 Z f (λ_=>Bm (f.e Z) (f.e Z) CY) λa f=>q_p 14 15 Z f (λ_=>A6 (f.e Z)) λa f=>Bd λaq w ar m=> ?_
  have ae:=rd1 ar ae
  refine Aa (Ah ?_)
  refine Ab f Z λa f=>Ab f Z λa f=>l_o f (Bx (f.e Z)) λa f=>BQ underlying181 Z sizeOf3 f Z λa f=>AV 0 1 m Pl3 f Z Z Z Z λa f=>Aj f Z Z Ay λa f=>l_o f (Bx (f.e Z)) λa f=>BQ underlying181 Z sizeOf3 f Z λa f=>AD 0 1 (ds:=[(iv (i64.wrap (ac+1)))]) m sizeOf3 f Z Z Z (AL Z AO) Z (lb Z) Z λw m=>Az ?_
  refine Ab f Z λa f=>Ac f Z λa f=>Aa ?_
  refine Ao ?_
  obtain rfl:=sj hd
  exact⟨[(iv (iand .i64 (i64.wrap ((iand .i64 (Bt .i64 (BR .i64 (i64.wrap ((i64.wrap (ad*6364136223846793005))+1442695040888963407)) 33) (BR .i64 (i64.wrap ((i64.wrap (ad*6364136223846793005))+1442695040888963407)) 45)) 255)+(i64.wrap ak))) 255))],f.g Z,f.d,_,[ib b0 181 [aa,(iv (i64.wrap (ac+1))),(iv (i64.wrap ((i64.wrap (ad*6364136223846793005))+1442695040888963407)))]],(gt ag (gt ai ar)),m,_,Z,Z,ae⟩
 ·refine Ai f Z aj ?_
  refine An ?_
  refine Ae ?_
  refine Ab f Z λa f=>Ac f Z λa f=>Aa ?_
  refine Ao ?_
  obtain rfl:=sj hd
  exact⟨[(iv (iand .i64 (Bt .i64 (BR .i64 (i64.wrap ((i64.wrap (ad*6364136223846793005))+1442695040888963407)) 33) (BR .i64 (i64.wrap ((i64.wrap (ad*6364136223846793005))+1442695040888963407)) 45)) 255))],f.g Z,f.d,_,[ib b0 181 [aa,(iv ac),(iv (i64.wrap ((i64.wrap (ad*6364136223846793005))+1442695040888963407)))]],(gt ag ai),m,_,Z,Z,ae⟩
theorem Wk.a {aa:Value}{b0:Nat}{ab:LI}{ac ad x1:Int}(m:Mem W G w (ib b0 181 [aa,(iv ac),(iv ad)]::H))(ae:RSl (RI .u8) G aa ab){y:Int×(LI)×Int×Int}(hd:D.a ab ac ad x1=some y):
  Calls prog 173 #[(pb b0),(iv x1)] w (Res W G H (λG' Ho v=>∃r0:Value,Ho=[ib b0 181 [r0,(iv y.2.2.1),(iv y.2.2.2)]]∧v=(iv y.1)∧RSl (RI .u8) G' r0 y.2.1)):=by
 refine Ap (args:=[(pb b0),(iv x1)]) (N:=37) [.tmp 4] func173 Z Z (lb Z) Z λa f=> ?_
 unfold D.a at hd
 refine Ae ?_
 refine Ac f Z λa f=>Aa (Ag (Ae ?_))
 refine Ab f Z λa f=>Aj f Z Z CN λa f=>Aa ?_
 rcases Af hd with⟨af,hd⟩|⟨af,hd⟩
 ·refine Al f Z af ?_
  refine Ae ?_
  refine Ac f Z λa f=>Aa ?_
  refine Ao ?_
  obtain rfl:=sj hd
  exact⟨[(iv 0)],f.g Z,f.d,_,[ib b0 181 [aa,(iv ac),(iv ad)]],gr,m,_,Z,Z,ae⟩
 ·refine Ai f Z af ?_
  refine An ?_
  refine Ag (Ae ?_)
  refine Ab f Z λa f=>Aj f Z Z CN λa f=>Aa ?_
  rcases Af hd with⟨ag,hd⟩|⟨ag,hd⟩
  ·refine Al f Z ag ?_
   refine Ae ?_
   refine Ab f Z λa f=> ?_
   have⟨ah,ai,hd⟩:=bind_some hd
   refine AA f Z call251 (Wk.v m ae ai) λaj ak al w am m an a f=> ?_
   obtain⟨ao,rfl,rfl,ap⟩:=an
   refine Ab f Z λa f=> ?_
   obtain⟨aq,hd⟩:=Ea hd
   refine Aj f Z Z (b_rem aq) λa f=>Ac f Z λa f=>Aa ?_
   refine Ao ?_
   obtain rfl:=sj hd
   exact⟨[(iv (Int.tmod ah.1 x1))],f.g Z,f.d,_,[ib b0 181 [ao,(iv ah.2.2.1),(iv ah.2.2.2)]],am,m,_,Z,Z,ap⟩
  ·refine Ai f Z ag ?_
   refine An ?_
   refine Ae ?_
   refine Ab f Z λa f=> ?_
   have⟨ar,au,hd⟩:=bind_some hd
   refine AA f Z call251 (Wk.v m ae au) λav aw ax w ay m az a f=> ?_
   obtain⟨aA,rfl,rfl,aB⟩:=az
   refine Ac f Z λa f=>Az ?_
   refine Ab f Z λa f=> ?_
   have⟨aC,aD,hd⟩:=bind_some hd
   refine AA f Z call251 (Wk.v m aB aD) λaE aF aG w aH m aI a f=> ?_
   obtain⟨aJ,rfl,rfl,aK⟩:=aI
   refine Ac f Z λa f=>Az ?_
   refine Ab f Z λa f=> ?_
   have⟨aL,aM,hd⟩:=bind_some hd
   refine AA f Z call251 (Wk.v m aK aM) λaN aO aP w aQ m aR a f=> ?_
   obtain⟨aS,rfl,rfl,aT⟩:=aR
   refine Ac f Z λa f=>Az ?_
   refine Ab f Z λa f=> ?_
   have⟨aU,aV,hd⟩:=bind_some hd
   refine AA f Z call251 (Wk.v m aT aV) λaW aX aY w aZ m a0 a f=> ?_
   obtain⟨a1,rfl,rfl,a2⟩:=a0
   refine Ac f Z λa f=>Az ?_
   refine Ab f Z λa f=>Aj f Z Z D9 λa f=>Ab f Z λa f=>Aj f Z Z D9 λa f=>Aj f Z Z Ay λa f=>Ab f Z λa f=>Aj f Z Z D9 λa f=>Aj f Z Z Ay λa f=>Ab f Z λa f=>Aj f Z Z Ay λa f=>Ab f Z λa f=> ?_
   obtain⟨a3,hd⟩:=Ea hd
   refine Aj f Z Z (b_rem a3) λa f=>Ac f Z λa f=>Aa ?_
   refine Ao ?_
   obtain rfl:=sj hd
   exact⟨[(iv (Int.tmod (i64.wrap ((i64.wrap ((i64.wrap ((i64.wrap (ar.1*16777216))+(i64.wrap (aC.1*65536))))+(i64.wrap (aL.1*256))))+aU.1)) x1))],f.g Z,f.d,_,[ib b0 181 [a1,(iv aU.2.2.1),(iv aU.2.2.2)]],(gt ay (gt aH (gt aQ aZ))),m,_,Z,Z,a2⟩
theorem Wk.d {x0 x1 x2:Int}(m:Mem W G w (H)){y:Bool}(hd:D.d x0 x1 x2=some y):
  Calls prog 62 #[(iv x0),(iv x1),(iv x2)] w (Res W G H (λ_ Ho v=>Ho=[]∧v=(.bool y))):=by
 refine Ap (args:=[(iv x0),(iv x1),(iv x2)]) (N:=15) [.tmp 6] func62 Z Z (lb Z) Z λa f=> ?_
 unfold D.d at hd
 refine Ae ?_
 refine Ac f Z λa f=>Az ?_
 refine Ab f Z λa f=>Ab f Z λa f=>Aj f Z Z Dv λa f=>Ab f Z λa f=> ?_
 refine Bh 4 (λa w=>∃aa,GLe G aa∧Mem W aa w (H)∧Fr a 15 [(0,(iv x0)),(1,(iv x1)),(2,(iv x2)),(7,(iv x0)),(8,(iv x1)),(9,(.bool (decide (x1≤x0)))),(10,(.bool (decide (x1≤x0)))),(14,(.bool ((decide (x1≤x0))&&(decide (x0≤x2)))))]) ?_ ?_
 ·rcases Bool.eq_false_or_eq_true (decide (x1≤x0)) with ab|ab
  ·refine As f ab ?_
   refine Ab f Z λa f=>As f ab ?_
   refine Ab f Z λa f=>As f ab ?_
   refine Aj f Z Z CN λa f=>l_o f (AW (f.e Z) ab (f.e Z)) λa f=> ?_
   exact⟨_,gr,m,f.weak ⟨Z,Z,Z,Z,Z,Z,Z,by rw[ab];rfl,trivial⟩⟩
  ·refine Au f ab λa f=> ?_
   refine Au f ab λa f=>Au f ab λa f=>l_o f (AX (f.e Z) ab (f.e Z)) λa f=> ?_
   exact⟨_,gr,m,f.weak ⟨Z,Z,Z,Z,Z,Z,Z,by rw[ab];rfl,trivial⟩⟩
 ·rintro a w ⟨aa,ac,m,f⟩
  refine Ac f Z λa f=>Aa ?_
  refine Ao ?_
  obtain rfl:=sj hd
  exact⟨[(.bool ((decide (x1≤x0))&&(decide (x0≤x2))))],f.g Z,f.d,_,[],ac,m,Z,Z⟩
theorem Wk.E {v0:Value}{x0:LI}(m:Mem W G w (H))(h0:R1 G v0 x0){y:(LI)}(hd:D.E x0=some y):
  Calls prog 87 #[v0] w (Res W G H (λG' Ho v=>∃r0:Value,∃i0:Itm,Ho=[i0]∧r0=v∧Ow R0 2 G' i0 r0 y)):=by
 refine Ap (args:=[v0]) (N:=6) [.tmp 2] func87 Z Z (lb Z) Z λa f=> ?_
 unfold D.E at hd
 refine Ae ?_
 refine Ac f Z λa f=>Az ?_
 refine AF (R:=R0) (xs:=([]:LI)) (RI.one _) m T33 f Z Z Z (by decide) (All2.nil _) λaa ab w a m ac f=>Ab f Z λa f=> ?_
 have⟨ad,ae,hd⟩:=bind_some hd
 refine AT (RI.one _) 0 m ac Z T33 Z (by decide) f Z Z Z (h0.src m) ae λaf ag w a m ah f=>Ac f Z λa f=>Aa ?_
 refine Ao ?_
 obtain rfl:=sj hd
 exact⟨[ag],f.g Z,f.d,_,[af],gr,m,_,_,Z,Z,ah⟩
theorem Wk.i {aa:Value}{b0:Nat}{ab:LI}{ac ad x1:Int}(m:Mem W G w (ib b0 181 [aa,(iv ac),(iv ad)]::H))(ae:RSl (RI .u8) G aa ab){y:Bool×(LI)×Int×Int}(hd:D.i ab ac ad x1=some y):
  Calls prog 172 #[(pb b0),(iv x1)] w (Res W G H (λG' Ho v=>∃r0:Value,Ho=[ib b0 181 [r0,(iv y.2.2.1),(iv y.2.2.2)]]∧v=(.bool y.1)∧RSl (RI .u8) G' r0 y.2.1)):=by
 refine Ap (args:=[(pb b0),(iv x1)]) (N:=9) [.tmp 4] func172 Z Z (lb Z) Z λa f=> ?_
 unfold D.i at hd
 refine Ae ?_
 refine Ac f Z λa f=>Az ?_
 refine Ab f Z λa f=>Ab f Z λa f=> ?_
 have⟨af,ag,hd⟩:=bind_some hd
 refine AA f Z call173 (Wk.a m ae ag) λah ai aj w ak m al a f=> ?_
 obtain⟨am,rfl,rfl,an⟩:=al
 refine Aj f Z Z BW λa f=>Ac f Z λa f=>Aa ?_
 refine Ao ?_
 obtain rfl:=sj hd
 exact⟨[(.bool (af.1==0))],f.g Z,f.d,_,[ib b0 181 [am,(iv af.2.2.1),(iv af.2.2.2)]],ak,m,_,Z,Z,an⟩
theorem Wk.U0 {aa:Value}{b0:Nat}{ab:LI}{ac ad:Int}(m:Mem W G w (ib b0 181 [aa,(iv ac),(iv ad)]::H))(ae:RSl (RI .u8) G aa ab){y:Int×(LI)×Int×Int}(hd:D.U0 ab ac ad=some y):
  Calls prog 280 #[(pb b0)] w (Res W G H (λG' Ho v=>∃r0:Value,Ho=[ib b0 181 [r0,(iv y.2.2.1),(iv y.2.2.2)]]∧v=(iv y.1)∧RSl (RI .u8) G' r0 y.2.1)):=by
 refine Ap (args:=[(pb b0)]) (N:=8) [.tmp 2] func280 Z Z (lb Z) Z λa f=> ?_
 unfold D.U0 at hd
 refine Ae ?_
 refine Ac f Z λa f=>Az ?_
 refine AF (R:=R0) (xs:=([(-1),0,1,2147483648,(-2147483648),1099511627776,4611686018427387904,(-4611686018427387904),9223372036854775807,(-9223372036854775808)]:LI)) (RI.one _) m T33 f Z Z Z (by decide) (All2.cons Z (All2.cons Z (All2.cons Z (All2.cons Z (All2.cons Z (All2.cons Z (All2.cons Z (All2.cons Z (All2.cons Z (All2.cons Z (All2.nil _))))))))))) λaf ag w a m ah f=>Ab f Z λa f=> ?_
 have m:=m.fr 1
 have⟨ai,aj,hd⟩:=bind_some hd
 refine AA f Z call173 (Wk.a m ae aj) λak al am w an m ao a f=> ?_
 obtain⟨ap,rfl,rfl,aq⟩:=ao
 have ah:=od1 an ah
 have⟨ar,au,hd⟩:=bind_some hd
 refine Bj 1 m ah Z T33 f Z Z Z au λav a aw f=>Bl 1 m ah Z Pl2 f Z Z aw au λax a ay f=> ?_
 subst ay
 refine Ac f Z λa f=>Aa ?_
 refine Ao ?_
 have m:=m.eraseAt 1
 obtain rfl:=sj hd
 exact⟨[(iv ar)],f.g Z,f.d,_,[ib b0 181 [ap,(iv ai.2.2.1),(iv ai.2.2.2)]],an,m,_,Z,Z,aq⟩
theorem Wk.N0 {x0 x1:Int}(m:Mem W G w (H)){y:Int}(hd:D.N0 x0 x1=some y):
  Calls prog 201 #[(iv x0),(iv x1)] w (Res W G H (λ_ Ho v=>Ho=[]∧v=(iv y))):=by
 refine Ap (args:=[(iv x0),(iv x1)]) (N:=10) [.tmp 4] func201 Z Z (lb Z) Z λa f=> ?_
 unfold D.N0 at hd
 refine Ae ?_
 refine Ac f Z λa f=>Aa (Ag (Ae ?_))
 refine Ab f Z λa f=>Ab f Z λa f=>Aj f Z Z AP λa f=>Aa ?_
 rcases Af hd with⟨aa,hd⟩|⟨aa,hd⟩
 ·refine Al f Z aa ?_
  refine Ae ?_
  refine Ab f Z λa f=>Ac f Z λa f=>Aa ?_
  refine Ao ?_
  obtain rfl:=sj hd
  exact⟨[(iv x0)],f.g Z,f.d,_,[],gr,m,Z,Z⟩
 ·refine Ai f Z aa ?_
  refine An ?_
  refine Ae ?_
  refine Ab f Z λa f=>Ac f Z λa f=>Aa ?_
  refine Ao ?_
  obtain rfl:=sj hd
  exact⟨[(iv x1)],f.g Z,f.d,_,[],gr,m,Z,Z⟩
theorem Wk.R {aa:Value}{b0:Nat}{ab:LI}{ac ad x1:Int}(m:Mem W G w (ib b0 181 [aa,(iv ac),(iv ad)]::H))(ae:RSl (RI .u8) G aa ab){y:Int×(LI)×Int×Int}(hd:D.R ab ac ad x1=some y):
  Calls prog 246 #[(pb b0),(iv x1)] w (Res W G H (λG' Ho v=>∃r0:Value,Ho=[ib b0 181 [r0,(iv y.2.2.1),(iv y.2.2.2)]]∧v=(iv y.1)∧RSl (RI .u8) G' r0 y.2.1)):=by
 refine Ap (args:=[(pb b0),(iv x1)]) (N:=28) [.tmp 4] func246 Z Z (lb Z) Z λa f=> ?_
 unfold D.R at hd
 refine Ae ?_
 refine Ac f Z λa f=>Aa (Ag (Ae ?_))
 refine Ab f Z λa f=> ?_
 have⟨af,ag,hd⟩:=bind_some hd
 refine AA f Z call172 (Wk.i m ae ag) λah ai aj w ak m al a f=> ?_
 obtain⟨am,rfl,rfl,an⟩:=al
 refine Aa ?_
 rcases Af hd with⟨ao,hd⟩|⟨ao,hd⟩
 ·refine Al f Z ao ?_
  refine Ae ?_
  refine Ab f Z λa f=>Ab f Z λa f=>Aj f Z Z Ay λa f=>Ab f Z λa f=> ?_
  have⟨ap,aq,hd⟩:=bind_some hd
  refine AA f Z call280 (Wk.U0 m an aq) λar au av w aw m ax a f=> ?_
  obtain⟨ay,rfl,rfl,az⟩:=ax
  refine AF (R:=R0) (xs:=([(-1),x1,(i64.wrap (x1+1)),ap.1]:LI)) (RI.one _) m T33 f Z Z Z (by decide) (All2.cons Z (All2.cons Z (All2.cons Z (All2.cons Z (All2.nil _))))) λaA aB w a m aC f=>Ab f Z λa f=> ?_
  have m:=m.fr 1
  have⟨aD,aE,hd⟩:=bind_some hd
  refine AA f Z call173 (Wk.a m az aE) λaF aG aH w aI m aJ a f=> ?_
  obtain⟨aK,rfl,rfl,aL⟩:=aJ
  have aC:=od1 aI aC
  have⟨aM,aN,hd⟩:=bind_some hd
  refine Bj 1 m aC Z T33 f Z Z Z aN λaO a aP f=>Bl 1 m aC Z Pl2 f Z Z aP aN λaQ a aR f=> ?_
  subst aR
  refine Ac f Z λa f=>Aa ?_
  refine Ao ?_
  have m:=m.eraseAt 1
  obtain rfl:=sj hd
  exact⟨[(iv aM)],f.g Z,f.d,_,[ib b0 181 [aK,(iv aD.2.2.1),(iv aD.2.2.2)]],(gt ak (gt aw aI)),m,_,Z,Z,aL⟩
 ·refine Ai f Z ao ?_
  refine An ?_
  refine Ag (Ae ?_)
  refine Ab f Z λa f=> ?_
  have⟨aS,aT,hd⟩:=bind_some hd
  refine AA f Z call172 (Wk.i m an aT) λaU aV aW w aX m aY a f=> ?_
  obtain⟨aZ,rfl,rfl,a0⟩:=aY
  refine Aa ?_
  rcases Af hd with⟨a1,hd⟩|⟨a1,hd⟩
  ·refine Al f Z a1 ?_
   refine Ae ?_
   refine Ab f Z λa f=>Ab f Z λa f=> ?_
   have⟨a2,a3,hd⟩:=bind_some hd
   refine AR f Z call201 (Wk.N0 m a3) λa4 w a5 m a f=> ?_
   have a0:=rd1 a5 a0
   refine Aj f Z Z Ay λa f=> ?_
   have⟨a6,a7,hd⟩:=bind_some hd
   refine AA f Z call173 (Wk.a m a0 a7) λa8 a9 ba w bb m bc a f=> ?_
   obtain⟨bd,rfl,rfl,be⟩:=bc
   refine Ac f Z λa f=>Aa ?_
   refine Ao ?_
   obtain rfl:=sj hd
   exact⟨[(iv a6.1)],f.g Z,f.d,_,[ib b0 181 [bd,(iv a6.2.2.1),(iv a6.2.2.2)]],(gt ak (gt aX (gt a5 bb))),m,_,Z,Z,be⟩
  ·refine Ai f Z a1 ?_
   refine An ?_
   refine Ae ?_
   refine Ab f Z λa f=>Ab f Z λa f=>Aj f Z Z Ay λa f=> ?_
   have⟨bf,bg,hd⟩:=bind_some hd
   refine AA f Z call173 (Wk.a m a0 bg) λbh bi bj w bk m bl a f=> ?_
   obtain⟨bm,rfl,rfl,bn⟩:=bl
   refine Ac f Z λa f=>Aa ?_
   refine Ao ?_
   obtain rfl:=sj hd
   exact⟨[(iv bf.1)],f.g Z,f.d,_,[ib b0 181 [bm,(iv bf.2.2.1),(iv bf.2.2.2)]],(gt ak (gt aX bk)),m,_,Z,Z,bn⟩
theorem Wk.S {v0:Value}{it0:Itm}{x0:LI}{x1:Int}(m:Mem W G w (it0::H))(o0:Ow R0 2 G it0 v0 x0){y:(LI)}(hd:D.S x0 x1=some y):
  Calls prog 86 #[v0,(iv x1)] w (Res W G H (λG' Ho v=>∃r0:Value,∃i0:Itm,Ho=[i0]∧r0=v∧Ow R0 2 G' i0 r0 y)):=by
 refine Ap (args:=[v0,(iv x1)]) (N:=46) [.tmp 4] func86 Z Z (lb Z) Z λa f=> ?_
 unfold D.S at hd
 refine Ae ?_
 refine Ac f Z λa f=>Az ?_
 refine Ac f Z λa f=>Aa (Ag ?_)
 have⟨aa,ab,hd⟩:=bind_some hd
 refine AM (λa w=>∃ac:Int,ac=aa∧∃(ad:GH),GLe G ad∧Fr a 46 [(0,v0),(1,(iv x1)),(5,(iv ac))]∧Mem W ad w (it0::H)) ?_ ?_
 ·refine Ak ?_
  refine AI (λae a w=>∃af:Int,af=ae∧∃(ag:GH),GLe G ag∧Fr a 46 [(0,v0),(1,(iv x1)),(5,(iv af))]∧Mem W ag w (it0::H)) ab ⟨_,Z,_,gr,f.k Z,m⟩ ?_
  clear ab f m
  rintro ae ah ai aj a w ⟨af,rfl,ag,ak,f,m⟩
  have o0:=od1 ak o0
  refine Ag (Ae ?_)
  refine Ab f Z λa f=>Ab f Z λa f=>Bz 0 m o0 Z underlying33 f Z Z λa f=>Aj f Z Z AP λa f=>Ab f Z λa f=> ?_
  have⟨al,am,ai⟩:=bind_some ai
  refine Bh 7 (λa w=>∃an,GLe ag an∧Mem W an w (it0::H)∧Fr a 46 [(0,v0),(1,(iv x1)),(5,(iv af)),(7,(iv af)),(8,v0),(9,(iv (x0.length:Int))),(10,(.bool (decide (af<(x0.length:Int))))),(11,(.bool (decide (af<(x0.length:Int))))),(18,(.bool al))]) ?_ ?_
  ·rcases Af am with⟨ao,am⟩|⟨ao,am⟩
   ·refine As f ao ?_
    refine Ab f Z λa f=>As f ao ?_
    refine Ab f Z λa f=>As f ao ?_
    have⟨ap,aq,am⟩:=bind_some am
    refine Bj 0 m o0 Z T33 f Z Z Z aq λar a au f=>As f ao ?_
    refine Bl 0 m o0 Z Pl2 f Z Z au aq λav a aw f=> ?_
    subst aw
    refine As f ao ?_
    refine Ab f Z λa f=>As f ao ?_
    refine Aj f Z Z AP λa f=>l_o f (AW (f.e Z) ao (f.e Z)) λa f=> ?_
    obtain rfl:=sj am
    exact⟨_,gr,m,f.k Z⟩
   ·refine Au f ao λa f=> ?_
    refine Au f ao λa f=>Au f ao λa f=>Au f ao λa f=>Au f ao λa f=>Au f ao λa f=>l_o f (AX (f.e Z) ao (f.e Z)) λa f=> ?_
    obtain rfl:=sj am
    exact⟨_,gr,m,f.k Z⟩
  ·rintro a w ⟨an,ax,m,f⟩
   refine Aa ?_
   rcases Af ai with⟨ay,ai⟩|⟨ay,ai⟩
   ·refine Al f Z ay ?_
    refine An ?_
    refine Ak (Ah ?_)
    refine Ab f Z λa f=>Aj f Z Z Ay λa f=>Ac f Z λa f=>Aa ?_
    obtain rfl:=sj ai
    exact⟨_,Z,_,Z,_,(gt ak ax),f.k Z,m⟩
   ·refine Ai f Z ay ?_
    refine AG Z ?_
    obtain rfl:=sj ai
    obtain rfl:=aj _ rfl
    exact⟨_,Z,_,(gt ak ax),f.k Z,m⟩
 ·rintro a w ⟨ac,rfl,ad,az,f,m⟩
  have o0:=od1 az o0
  refine Ag (Ae ?_)
  refine Ab f Z λa f=>Ab f Z λa f=>Bz 0 m o0 Z underlying33 f Z Z λa f=>Aj f Z Z AP λa f=>Ab f Z λa f=> ?_
  have⟨aA,aB,hd⟩:=bind_some hd
  refine Bh 7 (λa w=>∃aC,GLe ad aC∧Mem W aC w (it0::H)∧Fr a 46 [(0,v0),(1,(iv x1)),(5,(iv ac)),(21,(iv ac)),(22,v0),(23,(iv (x0.length:Int))),(24,(.bool (decide (ac<(x0.length:Int))))),(25,(.bool (decide (ac<(x0.length:Int))))),(32,(.bool aA))]) ?_ ?_
  ·rcases Af aB with⟨aD,aB⟩|⟨aD,aB⟩
   ·refine As f aD ?_
    refine Ab f Z λa f=>As f aD ?_
    refine Ab f Z λa f=>As f aD ?_
    have⟨aE,aF,aB⟩:=bind_some aB
    refine Bj 0 m o0 Z T33 f Z Z Z aF λaG a aH f=>As f aD ?_
    refine Bl 0 m o0 Z Pl2 f Z Z aH aF λaI a aJ f=> ?_
    subst aJ
    refine As f aD ?_
    refine Ab f Z λa f=>As f aD ?_
    refine Aj f Z Z BW λa f=>l_o f (AW (f.e Z) aD (f.e Z)) λa f=> ?_
    obtain rfl:=sj aB
    exact⟨_,gr,m,f.k Z⟩
   ·refine Au f aD λa f=> ?_
    refine Au f aD λa f=>Au f aD λa f=>Au f aD λa f=>Au f aD λa f=>Au f aD λa f=>l_o f (AX (f.e Z) aD (f.e Z)) λa f=> ?_
    obtain rfl:=sj aB
    exact⟨_,gr,m,f.k Z⟩
  ·rintro a w ⟨aC,aK,m,f⟩
   have o0:=od1 aK o0
   refine Aa ?_
   rcases Af hd with⟨aL,hd⟩|⟨aL,hd⟩
   ·refine Al f Z aL ?_
    refine Ae ?_
    refine Ab f Z λa f=>Ac f Z λa f=>Aa ?_
    refine Ao ?_
    obtain rfl:=sj hd
    exact⟨[v0],f.g Z,f.d,_,[it0],(gt az aK),m,_,_,Z,Z,o0⟩
   ·refine Ai f Z aL ?_
    refine An ?_
    refine Ae ?_
    refine Ab f Z λa f=>Ab f Z λa f=> ?_
    obtain⟨aM,aN,m,aO⟩:=Ow.stamp (RI.mono _) o0 m
    have⟨aP,aQ,hd⟩:=bind_some hd
    refine l_slice T33 f Z Z aO (.inl ⟨Z,Z⟩) (.inr ⟨_,_,Z,Z⟩) aQ λaR a aS f=> ?_
    have⟨aT,aU,hd⟩:=bind_some hd
    refine AA f Z call87 (Wk.E m aS aU) λaV aW aX w aY m aZ a f=> ?_
    obtain⟨a0,a1,rfl,rfl,a2⟩:=aZ
    have aO:=rd1 aY aO
    refine Ab f Z λa f=>AF (R:=R0) (xs:=([x1]:LI)) (RI.one _) m T33 f Z Z Z (by decide) (All2.cons Z (All2.nil _)) λa3 a4 w a m a5 f=> ?_
    have⟨a6,a7,hd⟩:=bind_some hd
    refine AT (RI.one _) 1 m a2 Z T33 Z (by decide) f Z Z Z (Ow.src (j:=0) a5 m Z) a7 λa8 a9 w a m ba f=>Ac f Z λa f=>Az ?_
    refine Ab f Z λa f=>Ab f Z λa f=>Ab f Z λa f=> ?_
    have⟨bb,bc,hd⟩:=bind_some hd
    refine l_slice T33 f Z Z aO (.inr ⟨_,_,Z,Z⟩) (.inl ⟨Z,Z⟩) bc λbd a be f=> ?_
    have⟨bf,bg,hd⟩:=bind_some hd
    refine AT (RI.one _) 1 m ba Z T33 Z (by decide) f Z Z Z (be.src m) bg λbh bi w a m bj f=>Ac f Z λa f=>Aa ?_
    refine Ao ?_
    have m:=m.fr 1
    have m:=m.eraseAt 1
    obtain rfl:=sj hd
    exact⟨[bi],f.g Z,f.d,_,[bh],(gt az (gt aK (gt aN aY))),m,_,_,Z,Z,bj⟩
theorem Wk.M {x0:Int}(m:Mem W G w (H)){y:(LL)}(hd:D.M x0=some y):
  Calls prog 196 #[(iv x0)] w (Res W G H (λG' Ho v=>∃r0:Value,∃i0:Itm,Ho=[i0]∧v=(.agg #[r0])∧Ow2 R0 33 2 G' i0 r0 y)):=by
 refine Ap (args:=[(iv x0)]) (N:=18) [.cell 2 26] func196 Z Z (lb Z) Z λa f=> ?_
 unfold D.M at hd
 refine Ae ?_
 refine Bn (cs:=[sn]) zeroValue26 m f Z Z λaa w a m f=>Az ?_
 have ab:∀w,(Instr.build 26 #[]).run prog w= .ok (.agg #[sn]) w:=by intro w;simp[Instr.build,Instr.fill,DA,Dg,CF,CV,Cz,C9]
 refine DU f Z Z ab λa f=>Bn (cs:=[sn]) zeroValue26 m f Z Z λac w a m f=>AD 0 0 (ds:=[sn]) m sizeOf26 f Z Z Z (AL Z AO) Z (lb Z) Z λw m=>Aa (Ag (Ae ?_))
 refine Ac f Z λa f=>Aa ?_
 obtain⟨ad,m,ae⟩:=Ow2.nil R0 33 2 m
 have⟨af,ag,hd⟩:=bind_some hd
 refine AM (λa w=>∃ah:LL,ah=af∧∃(ai:GH) (aj:Value) (ak:Itm),GLe G ai∧Fr a 18 [(2,(pb aa)),(3,(pb ac))]∧Mem W ai w (ib aa 26 [sn]::ib ac 26 [aj]::ak::H)∧Ow2 R0 33 2 ai ak aj ah) ?_ ?_
 ·refine Ak ?_
  have m:=m.fr 1
  have m:=m.fr 2
  refine AI (λal a w=>∃am:Int,∃an:LL,(am,an)=al∧∃(ao:GH) (ap:Value) (aq:Itm),GLe G ao∧Fr a 18 [(0,(iv x0)),(2,(pb aa)),(3,(pb ac)),(4,(iv am))]∧Mem W ao w (ib aa 26 [sn]::ib ac 26 [ap]::aq::H)∧Ow2 R0 33 2 ao aq ap an) ag ⟨_,_,Z,_,sn,ad,gr,f.k Z,m,ae⟩ ?_
  clear ag f m
  rintro al ar au av a w ⟨am,an,rfl,ao,ap,aq,aw,f,m,ax⟩
  refine Ag (Ae ?_)
  refine Ab f Z λa f=>Ab f Z λa f=>Aj f Z Z AP λa f=>Aa ?_
  rcases Af au with⟨ay,au⟩|⟨ay,au⟩
  ·refine Al f Z ay ?_
   refine An ?_
   refine Ag (Ak (Ah ?_))
   refine BQ underlying26 Z sizeOf24 f Z λa f=>AV 1 0 m BH f Z Z Z Z λa f=>AF (R:=R0) (xs:=([]:LI)) (RI.one _) m T33 f Z Z Z (by decide) (All2.nil _) λaz aA w a m aB f=>AF (R:=RawS) (xs:=[aA]) RawS.one m T24 f Z Z Z (by decide) (All2.cons ⟨Z,Ow.one1 0 m aB Z,Ow.cells 0 m aB Z⟩ (All2.nil _)) λaC aD w a m aE f=> ?_
   have m:=m.fr 1
   have m:Mem W ao w (aq::az::aC::ib aa 26 [sn]::ib ac 26 [ap]::H):=m.fr 4
   have⟨aF,aG,au⟩:=bind_some au
   refine l_append2 m ax aB aE T24 Z (by decide) f Z Z Z aG λaH aI w a m aJ f=>BQ underlying26 Z sizeOf24 f Z λa f=>AD 2 0 (ds:=[aI]) m sizeOf24 f Z Z (Ow2.cells 0 m aJ Z) (AL (Ow2.one1 0 m aJ Z) AO) Z (lb Z) Z λw m=>Aa (Ah ?_)
   refine Ab f Z λa f=>Aj f Z Z Ay λa f=>Ac f Z λa f=>Aa ?_
   have m:=m.fr 2
   have m:=m.fr 2
   obtain rfl:=sj au
   exact⟨_,Z,_,_,Z,_,aI,aH,aw,f.k Z,m,aJ⟩
  ·refine Ai f Z ay ?_
   refine AG Z ?_
   obtain rfl:=sj au
   obtain rfl:=av _ rfl
   exact⟨_,Z,_,ap,aq,aw,f.k Z,m,ax⟩
 ·rintro a w ⟨ah,rfl,ai,aj,ak,aK,f,m,aL⟩
  refine Ae ?_
  refine Aw 1 0 (ds:=[aj]) m AE f Z Z Z Z Z λa f=>AD 0 0 (ds:=[aj]) m sizeOf26 f Z Z Z (AL (Ow2.one1 2 m aL Z) AO) Z (lb Z) Z λw m=>Aa ?_
  refine Ao ?_
  have aM:=BM (P:=prog) 0 m AE f (s:=2) rfl rfl rfl
  have m:=m.fr 2
  have m:=m.eraseAt 2
  have m:=m.eraseAt 1
  obtain rfl:=sj hd
  exact⟨[(.agg #[aj])],⟨aM,trivial⟩,f.d,_,[ak],aK,m,_,_,Z,Z,aL⟩
theorem Wk.Y {aa:Value}{ab:Itm}{ac:LL}{x1 x2:Int}(m:Mem W G w (ab::H))(ad:Ow2 R0 33 2 G ab aa ac){y:(LL)}(hd:D.Y ac x1 x2=some y):
  Calls prog 197 #[(.agg #[aa]),(iv x1),(iv x2)] w (Res W G H (λG' Ho v=>∃i0:Itm,Ho=[i0]∧v=(.agg #[aa])∧Ow2 R0 33 2 G' i0 aa y)):=by
 refine Ap (args:=[(.agg #[aa]),(iv x1),(iv x2)]) (N:=30) [.cell 6 26] func197 Z Z (lb Z) Z λa f=> ?_
 unfold D.Y at hd
 refine Ae ?_
 refine A8 (cs:=[aa]) m f Z Z Z λae w a m f=>Bn (cs:=[sn]) zeroValue26 m f Z Z λaf w a m f=>Aa (Ag ?_)
 have m:=m.fr 2
 refine k_drawE [ab] (ib af 26 [sn]::ib ae 26 [aa]::H) 10 A7 (by kernel_rfl) m ?_
 refine CC 0 10 underlying26 Z sizeOf24 Z f Z λa f=>Ce 1 10 1 BH Z Z Z f Z λa f=>AJ 2 10 Z f Z λa f=>CC 3 10 underlying26 Z sizeOf24 Z f Z λa f=>Ce 4 10 1 BH Z Z Z f Z λa f=>AJ 5 10 Z f Z λa f=>AJ 8 10 Z f Z λa f=>Bs 6 Z λag w ah m ai ai=> ?_
 have ad:=od2 ah ad
 have⟨aj,ak,hd⟩:=bind_some hd
 refine CI 0 m ad Z T24 f Z Z Z ak λal a am f=>Aa ?_
 refine ai ag [ab] _ _ gr m ?_
 refine Bs 7 Z λan w ao m ap ap=> ?_
 have ad:=od2 ao ad
 refine Cf 0 m ad Z Br f Z Z am ak λaq a ar f=>Aa ?_
 refine ap an [ab] _ _ gr m ?_
 refine Bs 9 Z λau w av m aw aw=> ?_
 have ad:=od2 av ad
 obtain⟨ax,ay,m,az,aA⟩:=Ow2.out ad m ak ar
 have m:=m.fr 1
 have⟨aB,aC,hd⟩:=bind_some hd
 refine AA f Z call86 (Wk.S m aA aC) λaD aE aF w aG m aH a f=> ?_
 obtain⟨aI,aJ,rfl,rfl,aK⟩:=aH
 have az:=OwH.mono (RI.mono _) aG az
 refine Aa ?_
 refine aw aE [aJ,ax] _ _ aG m ?_
 refine Bd λaL w aM m=> ?_
 have aK:=od1 aM aK
 have az:=OwH.mono (RI.mono _) aM az
 have⟨aN,aO,hd⟩:=bind_some hd
 refine Cx 1 m az Z T24 f Z Z Z aO λaP a aQ f=> ?_
 have m:=m.fr 1
 refine B4 m az aK sizeOf33 f Z Z aQ λaR w m aS=>Aa (Ag ?_)
 refine k_drawE [aR] (ib af 26 [sn]::ib ae 26 [aa]::H) 10 A7 (by kernel_rfl) m ?_
 refine CC 0 10 underlying26 Z sizeOf24 Z f Z λa f=>Ce 1 10 1 BH Z Z Z f Z λa f=>AJ 2 10 Z f Z λa f=>CC 3 10 underlying26 Z sizeOf24 Z f Z λa f=>Ce 4 10 1 BH Z Z Z f Z λa f=>AJ 5 10 Z f Z λa f=>AJ 8 10 Z f Z λa f=>Bs 6 Z λaT w aU m aV aV=> ?_
 have aS:=od2 aU aS
 have⟨aW,aX,hd⟩:=bind_some hd
 refine CI 0 m aS Z T24 f Z Z Z aX λaY a aZ f=>Aa ?_
 refine aV aT [aR] _ _ gr m ?_
 refine Bs 7 Z λa0 w a1 m a2 a2=> ?_
 have aS:=od2 a1 aS
 refine Cf 0 m aS Z Br f Z Z aZ aX λa3 a a4 f=>Aa ?_
 refine a2 a0 [aR] _ _ gr m ?_
 refine Bs 9 Z λa5 w a6 m a7 a7=> ?_
 have aS:=od2 a6 aS
 obtain⟨a8,a9,m,ba,bb⟩:=Ow2.out aS m aX a4
 have m:=m.fr 1
 have⟨bc,bd,hd⟩:=bind_some hd
 refine AA f Z call86 (Wk.S m bb bd) λbe bf bg w bh m bi a f=> ?_
 obtain⟨bj,bk,rfl,rfl,bl⟩:=bi
 have ba:=OwH.mono (RI.mono _) bh ba
 refine Aa ?_
 refine a7 bf [bk,a8] _ _ bh m ?_
 refine Bd λbm w bn m=> ?_
 have bl:=od1 bn bl
 have ba:=OwH.mono (RI.mono _) bn ba
 have⟨bo,bp,hd⟩:=bind_some hd
 refine Cx 1 m ba Z T24 f Z Z Z bp λbq a br f=> ?_
 have m:=m.fr 1
 refine B4 m ba bl sizeOf33 f Z Z br λbs w m bt=>Az ?_
 refine Aw 2 0 (ds:=[aa]) m AE f Z Z Z Z Z λa f=>AD 1 0 (ds:=[aa]) m sizeOf26 f Z Z Z (AL (Ow2.one1 0 m bt Z) AO) Z (lb Z) Z λw m=>Aa ?_
 refine Ao ?_
 have bu:=BM (P:=prog) 1 m AE f (s:=6) rfl rfl rfl
 have m:=m.eraseAt 2
 have m:=m.eraseAt 1
 obtain rfl:=sj hd
 exact⟨[(.agg #[aa])],⟨bu,trivial⟩,f.d,_,[bs],(gt ah (gt ao (gt av (gt aG (gt aM (gt aU (gt a1 (gt a6 (gt bh bn))))))))),m,_,Z,Z,bt⟩
theorem Wk.B0 {x0:Int}(m:Mem W G w (H)){y:(LL)×Bool}(hd:D.B0 x0=some y):
  Calls prog 296 #[(iv x0)] w (Res W G H (λG' Ho v=>∃r0:Value,∃i0:Itm,Ho=[i0]∧v= .tuple #[(.agg #[r0]),(.bool y.2)]∧Ow2 R0 33 2 G' i0 r0 y.1)):=by
 refine Ap (args:=[(iv x0)]) (N:=10) [.cell 2 26,.tmp 3] func296 Z Z (lb Z) Z λa f=> ?_
 unfold D.B0 at hd
 refine Ae ?_
 refine Bn (cs:=[sn]) zeroValue26 m f Z Z λaa w a m f=>Ac f Z λa f=>Aa (Ag (Ae ?_))
 refine Ab f Z λa f=> ?_
 have⟨ab,ac,hd⟩:=bind_some hd
 refine AR f Z call62 (Wk.d m ac) λad w ae m a f=>l_o f (Bc (f.e Z)) λa f=>Aa ?_
 rcases Af hd with⟨af,hd⟩|⟨af,hd⟩
 ·refine Al f Z af ?_
  refine Ae ?_
  have ag:∀w,(Instr.build 26 #[]).run prog w= .ok (.agg #[sn]) w:=by intro w;simp[Instr.build,Instr.fill,DA,Dg,CF,CV,Cz,C9]
  refine DU f Z Z ag λa f=>AD 0 0 (ds:=[sn]) m sizeOf26 f Z Z Z (AL Z AO) Z (lb Z) Z λw m=>Ac f Z λa f=>Aa ?_
  refine Ao ?_
  obtain⟨ah,m,ai⟩:=Ow2.nil R0 33 2 m
  have aj:=BM (P:=prog) 1 m AE f (s:=2) rfl rfl rfl
  have m:=m.eraseAt 1
  obtain rfl:=sj hd
  exact⟨[(.agg #[sn]),(.bool false)],⟨aj,f.get _ _ Z,trivial⟩,f.d,_,[ah],ae,m,_,_,Z,Z,ai⟩
 ·refine Ai f Z af ?_
  refine An ?_
  refine Ae ?_
  refine Ab f Z λa f=> ?_
  have⟨ak,al,hd⟩:=bind_some hd
  refine AA f Z call196 (Wk.M m al) λam an ao w ap m aq a f=> ?_
  obtain⟨ar,au,rfl,rfl,av⟩:=aq
  refine AD 1 0 (ds:=[ar]) m sizeOf26 f Z Z Z (AL (Ow2.one1 0 m av Z) AO) Z (lb Z) Z λw m=>Ac f Z λa f=>Aa ?_
  refine Ao ?_
  have aw:=BM (P:=prog) 1 m AE f (s:=2) rfl rfl rfl
  have m:=m.eraseAt 1
  obtain rfl:=sj hd
  exact⟨[(.agg #[ar]),(.bool true)],⟨aw,f.get _ _ Z,trivial⟩,f.d,_,[au],(gt ae ap),m,_,_,Z,Z,av⟩
theorem Wk.g0 {x0:Int}(m:Mem W G w (H)){y:(LL)×Bool}(hd:D.g0 x0=some y):
  Calls prog 278 #[(iv x0)] w (Res W G H (λG' Ho v=>∃r0:Value,∃i0:Itm,Ho=[i0]∧v= .tuple #[(.agg #[r0]),(.bool y.2)]∧Ow2 R0 33 2 G' i0 r0 y.1)):=by
 refine Ap (args:=[(iv x0)]) (N:=27) [.cell 2 26,.tmp 3] func278 Z Z (lb Z) Z λa f=> ?_
 unfold D.g0 at hd
 refine Ae ?_
 refine Bn (cs:=[sn]) zeroValue26 m f Z Z λaa w a m f=>Ac f Z λa f=>Az ?_
 refine Ab f Z λa f=> ?_
 have⟨ab,ac,hd⟩:=bind_some hd
 refine AA f Z call296 (Wk.B0 m ac) λad ae af w ag m ah a f=> ?_
 obtain⟨ai,aj,rfl,rfl,ak⟩:=ah
 refine Ab f Z λa f=>l_o f (BA (f.e Z) Z) λa f=>l_o f (BA (f.e Z) Z) λa f=>Bn (cs:=[sn]) zeroValue26 m f Z Z λal w a m f=>AD 0 0 (ds:=[ai]) m sizeOf26 f Z Z Z (AL (Ow2.one1 1 m ak Z) AO) Z (lb Z) Z λw m=>Ac f Z λa f=>Aa (Ag (Ae ?_))
 refine Ac f Z λa f=>Aa ?_
 have⟨am,an,hd⟩:=bind_some hd
 refine AM (λa w=>∃ao:LL,ao=am∧∃(ap:GH) (aq:Itm),GLe ae ap∧Fr a 27 [(2,(pb aa)),(4,(pb al)),(5,(.bool ab.2))]∧Mem W ap w (ib aa 26 [sn]::ib al 26 [ai]::aq::H)∧Ow2 R0 33 2 ap aq ai ao) ?_ ?_
 ·refine Ak ?_
  have m:=m.fr 2
  refine AI (λar a w=>∃au:Int,∃av:LL,(au,av)=ar∧∃(aw:GH) (ax:Itm),GLe ae aw∧Fr a 27 [(0,(iv x0)),(2,(pb aa)),(4,(pb al)),(5,(.bool ab.2)),(6,(iv au))]∧Mem W aw w (ib aa 26 [sn]::ib al 26 [ai]::ax::H)∧Ow2 R0 33 2 aw ax ai av) an ⟨_,_,Z,_,aj,gr,f.k Z,m,ak⟩ ?_
  clear an f m
  rintro ar ay az aA a w ⟨au,av,rfl,aw,ax,aB,f,m,aC⟩
  refine Ag (Ae ?_)
  refine Ab f Z λa f=>Ab f Z λa f=>Aj f Z Z AP λa f=>Ab f Z λa f=> ?_
  refine Bh 2 (λa w=>∃aD,GLe aw aD∧Mem W aD w (ib aa 26 [sn]::ib al 26 [ai]::ax::H)∧Fr a 27 [(0,(iv x0)),(2,(pb aa)),(4,(pb al)),(5,(.bool ab.2)),(6,(iv au)),(12,(iv au)),(13,(iv x0)),(14,(.bool (decide (au<x0)))),(15,(.bool (decide (au<x0)))),(17,(.bool ((decide (au<x0))&&ab.2)))]) ?_ ?_
  ·rcases Bool.eq_false_or_eq_true (decide (au<x0)) with aE|aE
   ·refine As f aE ?_
    refine Ab f Z λa f=>l_o f (AW (f.e Z) aE (f.e Z)) λa f=> ?_
    exact⟨_,gr,m,f.weak ⟨Z,Z,Z,Z,Z,Z,Z,Z,Z,by rw[aE];rfl,trivial⟩⟩
   ·refine Au f aE λa f=> ?_
    refine l_o f (AX (f.e Z) aE (f.e Z)) λa f=> ?_
    exact⟨_,gr,m,f.weak ⟨Z,Z,Z,Z,Z,Z,Z,Z,Z,by rw[aE];rfl,trivial⟩⟩
  ·rintro a w ⟨aD,aF,m,f⟩
   have aC:=od2 aF aC
   refine Aa ?_
   rcases Af az with⟨aG,az⟩|⟨aG,az⟩
   ·refine Al f Z aG ?_
    refine An ?_
    refine Ag (Ak (Ah ?_))
    refine Aw 1 0 (ds:=[ai]) m AE f Z Z Z Z Z λa f=>Ab f Z λa f=>Aj f Z Z Ct λa f=>Ab f Z λa f=> ?_
    have m:=m.fr 2
    have⟨aH,aI,az⟩:=bind_some az
    refine AA f Z call197 (Wk.Y m aC aI) λaJ aK aL w aM m aN a f=> ?_
    obtain⟨aO,rfl,rfl,aP⟩:=aN
    refine AD 2 0 (ds:=[ai]) m sizeOf26 f Z Z Z (AL (Ow2.one1 0 m aP Z) AO) Z (lb Z) Z λw m=>Aa (Ah ?_)
    refine Ab f Z λa f=>Aj f Z Z Ay λa f=>Ac f Z λa f=>Aa ?_
    have m:=m.fr 2
    have m:=m.fr 2
    obtain rfl:=sj az
    exact⟨_,Z,_,_,Z,_,aO,(gt aB (gt aF aM)),f.k Z,m,aP⟩
   ·refine Ai f Z aG ?_
    refine AG Z ?_
    obtain rfl:=sj az
    obtain rfl:=aA _ rfl
    exact⟨_,Z,_,ax,(gt aB aF),f.k Z,m,aC⟩
 ·rintro a w ⟨ao,rfl,ap,aq,aQ,f,m,aR⟩
  refine Ae ?_
  refine Aw 1 0 (ds:=[ai]) m AE f Z Z Z Z Z λa f=>Ab f Z λa f=>AD 0 0 (ds:=[ai]) m sizeOf26 f Z Z Z (AL (Ow2.one1 2 m aR Z) AO) Z (lb Z) Z λw m=>Ac f Z λa f=>Aa ?_
  refine Ao ?_
  have aS:=BM (P:=prog) 0 m AE f (s:=2) rfl rfl rfl
  have m:=m.fr 2
  have m:=m.eraseAt 2
  have m:=m.eraseAt 1
  obtain rfl:=sj hd
  exact⟨[(.agg #[ai]),(.bool ab.2)],⟨aS,f.get _ _ Z,trivial⟩,f.d,_,[aq],(gt ag aQ),m,_,_,Z,Z,aR⟩
theorem Wk.Q0 {x0:Int}(m:Mem W G w (H)){y:(LL)×Bool}(hd:D.Q0 x0=some y):
  Calls prog 277 #[(iv x0)] w (Res W G H (λG' Ho v=>∃r0:Value,∃i0:Itm,Ho=[i0]∧v= .tuple #[(.agg #[r0]),(.bool y.2)]∧Ow2 R0 33 2 G' i0 r0 y.1)):=by
 refine Ap (args:=[(iv x0)]) (N:=22) [.cell 2 26,.tmp 3] func277 Z Z (lb Z) Z λa f=> ?_
 unfold D.Q0 at hd
 refine Ae ?_
 refine Bn (cs:=[sn]) zeroValue26 m f Z Z λaa w a m f=>Ac f Z λa f=>Az ?_
 refine Ab f Z λa f=> ?_
 have⟨ab,ac,hd⟩:=bind_some hd
 refine AA f Z call278 (Wk.g0 m ac) λad ae af w ag m ah a f=> ?_
 obtain⟨ai,aj,rfl,rfl,ak⟩:=ah
 refine Ab f Z λa f=>l_o f (BA (f.e Z) Z) λa f=>l_o f (BA (f.e Z) Z) λa f=>Bn (cs:=[sn]) zeroValue26 m f Z Z λal w a m f=>AD 0 0 (ds:=[ai]) m sizeOf26 f Z Z Z (AL (Ow2.one1 1 m ak Z) AO) Z (lb Z) Z λw m=>Ac f Z λa f=>Aa (Ag (Ae ?_))
 refine Ab f Z λa f=>l_o f (Bc (f.e Z)) λa f=>Ab f Z λa f=> ?_
 refine Bh 3 (λa w=>∃am,GLe ae am∧Mem W am w (ib al 26 [ai]::aj::ib aa 26 [sn]::H)∧Fr a 22 [(0,(iv x0)),(2,(pb aa)),(4,(pb al)),(5,(.bool ab.2)),(11,(.bool ab.2)),(12,(.bool (!ab.2))),(13,(.bool (!ab.2))),(16,(.bool ((!ab.2)||(decide (x0<3)))))]) ?_ ?_
 ·rcases Bool.eq_false_or_eq_true (!ab.2) with an|an
  ·refine Au f an λa f=> ?_
   refine Au f an λa f=>l_o f (AW (f.e Z) an (f.e Z)) λa f=> ?_
   exact⟨_,gr,m,f.weak ⟨Z,Z,Z,Z,Z,Z,Z,by rw[an];rfl,trivial⟩⟩
  ·refine As f an ?_
   refine Ab f Z λa f=>As f an ?_
   refine Aj f Z Z AP λa f=>l_o f (AX (f.e Z) an (f.e Z)) λa f=> ?_
   exact⟨_,gr,m,f.weak ⟨Z,Z,Z,Z,Z,Z,Z,by rw[an];rfl,trivial⟩⟩
 ·rintro a w ⟨am,ao,m,f⟩
  have ak:=od2 ao ak
  refine Aa ?_
  rcases Af hd with⟨ap,hd⟩|⟨ap,hd⟩
  ·refine Al f Z ap ?_
   refine Ae ?_
   have aq:∀w,(Instr.build 26 #[]).run prog w= .ok (.agg #[sn]) w:=by intro w;simp[Instr.build,Instr.fill,DA,Dg,CF,CV,Cz,C9]
   refine DU f Z Z aq λa f=>AD 2 0 (ds:=[sn]) m sizeOf26 f Z Z Z (AL Z AO) Z (lb Z) Z λw m=>Ac f Z λa f=>Aa ?_
   refine Ao ?_
   obtain⟨ar,m,au⟩:=Ow2.nil R0 33 2 m
   have av:=BM (P:=prog) 3 m AE f (s:=2) rfl rfl rfl
   have m:=m.fr 2
   have m:=m.fr 1
   have m:Mem W am w (ar::aj::ib al 26 [ai]::H):=m.eraseAt 3
   have m:=m.eraseAt 2
   have m:=m.eraseAt 1
   obtain rfl:=sj hd
   exact⟨[(.agg #[sn]),(.bool false)],⟨av,f.get _ _ Z,trivial⟩,f.d,_,[ar],(gt ag ao),m,_,_,Z,Z,au⟩
  ·refine Ai f Z ap ?_
   refine An ?_
   refine Ae ?_
   refine Aw 0 0 (ds:=[ai]) m AE f Z Z Z Z Z λa f=>Ab f Z λa f=>Aj f Z Z Ct λa f=> ?_
   have m:=m.fr 1
   have⟨aw,ax,hd⟩:=bind_some hd
   refine AA f Z call197 (Wk.Y m ak ax) λay az aA w aB m aC a f=> ?_
   obtain⟨aD,rfl,rfl,aE⟩:=aC
   refine AD 2 0 (ds:=[ai]) m sizeOf26 f Z Z Z (AL (Ow2.one1 0 m aE Z) AO) Z (lb Z) Z λw m=>Ac f Z λa f=>Aa ?_
   refine Ao ?_
   have aF:=BM (P:=prog) 2 m AE f (s:=2) rfl rfl rfl
   have m:=m.eraseAt 2
   have m:=m.eraseAt 1
   obtain rfl:=sj hd
   exact⟨[(.agg #[ai]),(.bool true)],⟨aF,f.get _ _ Z,trivial⟩,f.d,_,[aD],(gt ag (gt ao aB)),m,_,_,Z,Z,aE⟩
theorem Wk.H0 {aa:Value}{b0:Nat}{ab:LI}{ac ad x1:Int}(m:Mem W G w (ib b0 181 [aa,(iv ac),(iv ad)]::H))(ae:RSl (RI .u8) G aa ab){y:(LL)×(LI)×Int×Int}(hd:D.H0 ab ac ad x1=some y):
  Calls prog 279 #[(pb b0),(iv x1)] w (Res W G H (λG' Ho v=>∃r0:Value,∃i0:Itm,∃r2:Value,Ho=[i0,ib b0 181 [r2,(iv y.2.2.1),(iv y.2.2.2)]]∧v=(.agg #[r0])∧Ow2 R0 33 2 G' i0 r0 y.1∧RSl (RI .u8) G' r2 y.2.1)):=by
 refine Ap (args:=[(pb b0),(iv x1)]) (N:=33) [.cell 4 26] func279 Z Z (lb Z) Z λa f=> ?_
 unfold D.H0 at hd
 refine Ae ?_
 refine Bn (cs:=[sn]) zeroValue26 m f Z Z λaf w a m f=>Az ?_
 refine Ab f Z λa f=> ?_
 have⟨ag,ah,hd⟩:=bind_some hd
 refine AA f Z call196 (Wk.M m ah) λai aj ak w al m am a f=> ?_
 obtain⟨an,ao,rfl,rfl,ap⟩:=am
 have ae:=rd1 al ae
 refine Bn (cs:=[sn]) zeroValue26 m f Z Z λaq w a m f=>AD 0 0 (ds:=[an]) m sizeOf26 f Z Z Z (AL (Ow2.one1 1 m ap Z) AO) Z (lb Z) Z λw m=>Az ?_
 refine Ab f Z λa f=> ?_
 have m:Mem W aj w (ib b0 181 [aa,(iv ac),(iv ad)]::ib aq 26 [an]::ao::ib af 26 [sn]::H):=m.fr 3
 have⟨ar,au,hd⟩:=bind_some hd
 refine AA f Z call173 (Wk.a m ae au) λav aw ax w ay m az a f=> ?_
 obtain⟨aA,rfl,rfl,aB⟩:=az
 have ap:=od2 ay ap
 refine Aj f Z Z Ay λa f=>Ac f Z λa f=>Aa (Ag (Ae ?_))
 refine Ac f Z λa f=>Aa ?_
 have⟨aC,aD,hd⟩:=bind_some hd
 refine AM (λa w=>∃aE:LL,∃aF:LI,∃aG:Int,∃aH:Int,(aE,aF,aG,aH)=aC∧∃(aI:GH) (aJ:Itm) (aK:Value),GLe aw aI∧Fr a 33 [(4,(pb af)),(5,(pb aq))]∧Mem W aI w (ib af 26 [sn]::ib aq 26 [an]::ib b0 181 [aK,(iv aG),(iv aH)]::aJ::H)∧Ow2 R0 33 2 aI aJ an aE∧RSl (RI .u8) aI aK aF) ?_ ?_
 ·refine Ak ?_
  have m:=m.fr 3
  have m:Mem W aw w (ib b0 181 [aA,(iv ar.2.2.1),(iv ar.2.2.2)]::ib af 26 [sn]::ib aq 26 [an]::ao::H):=m.fr 1
  refine AI (λaL a w=>∃aM:Int,∃aN:LI,∃aO:Int,∃aP:Int,∃aQ:LL,(aM,aN,aO,aP,aQ)=aL∧∃(aR:GH) (aS:Value) (aT:Itm),GLe aw aR∧Fr a 33 [(0,(pb b0)),(1,(iv x1)),(4,(pb af)),(5,(pb aq)),(6,(iv (i64.wrap (1+ar.1)))),(7,(iv aM))]∧Mem W aR w (ib b0 181 [aS,(iv aO),(iv aP)]::ib af 26 [sn]::ib aq 26 [an]::aT::H)∧RSl (RI .u8) aR aS aN∧Ow2 R0 33 2 aR aT an aQ) aD ⟨_,_,_,_,_,Z,_,aA,ao,gr,f.k Z,m,aB,ap⟩ ?_
  clear aD f m
  rintro aL aU aV aW a w ⟨aM,aN,aO,aP,aQ,rfl,aR,aS,aT,aX,f,m,aY,aZ⟩
  refine Ag (Ae ?_)
  refine Ab f Z λa f=>Ab f Z λa f=>Aj f Z Z AP λa f=>Aa ?_
  rcases Af aV with⟨a0,aV⟩|⟨a0,aV⟩
  ·refine Al f Z a0 ?_
   refine An ?_
   refine Ag (Ak (Ae ?_))
   refine Ac f Z λa f=>Aa ?_
   have⟨a1,a2,aV⟩:=bind_some aV
   refine AM (λa w=>∃a3:LI,∃a4:Int,∃a5:Int,∃a6:LL,(a3,a4,a5,a6)=a1∧∃(a7:GH) (a8:Value) (a9:Itm),GLe aR a7∧Fr a 33 [(0,(pb b0)),(1,(iv x1)),(4,(pb af)),(5,(pb aq)),(6,(iv (i64.wrap (1+ar.1)))),(7,(iv aM))]∧Mem W a7 w (ib b0 181 [a8,(iv a4),(iv a5)]::ib af 26 [sn]::ib aq 26 [an]::a9::H)∧RSl (RI .u8) a7 a8 a3∧Ow2 R0 33 2 a7 a9 an a6) ?_ ?_
   ·refine Ak ?_
    refine AI (λba a w=>∃bb:Int,∃bc:LI,∃bd:Int,∃be:Int,∃bf:LL,(bb,bc,bd,be,bf)=ba∧∃(bg:GH) (bh:Value) (bi:Itm),GLe aR bg∧Fr a 33 [(0,(pb b0)),(1,(iv x1)),(4,(pb af)),(5,(pb aq)),(6,(iv (i64.wrap (1+ar.1)))),(7,(iv aM)),(8,(iv bb))]∧Mem W bg w (ib b0 181 [bh,(iv bd),(iv be)]::ib af 26 [sn]::ib aq 26 [an]::bi::H)∧RSl (RI .u8) bg bh bc∧Ow2 R0 33 2 bg bi an bf) a2 ⟨_,_,_,_,_,Z,_,aS,aT,gr,f.k Z,m,aY,aZ⟩ ?_
    clear a2 f m
    rintro ba bj bk bl a w ⟨bb,bc,bd,be,bf,rfl,bg,bh,bi,bm,f,m,bn,bo⟩
    refine Ag (Ae ?_)
    refine Ab f Z λa f=>Ab f Z λa f=>Aj f Z Z AP λa f=>Aa ?_
    rcases Af bk with⟨bp,bk⟩|⟨bp,bk⟩
    ·refine Al f Z bp ?_
     refine An ?_
     refine Ag (Ak (Ae ?_))
     refine Ab f Z λa f=> ?_
     have⟨bq,br,bk⟩:=bind_some bk
     refine AA f Z call173 (Wk.a m bn br) λbs bt bu w bv m bw a f=> ?_
     obtain⟨bx,rfl,rfl,bz⟩:=bw
     have bo:=od2 bv bo
     refine Ab f Z λa f=>Aj f Z Z AP λa f=>Aa ?_
     rcases Af bk with⟨bA,bk⟩|⟨bA,bk⟩
     ·refine Al f Z bA ?_
      refine Ah ?_
      refine Aw 2 0 (ds:=[an]) m AE f Z Z Z Z Z λa f=>Ab f Z λa f=>Ab f Z λa f=> ?_
      have m:Mem W bt w (bi::ib b0 181 [bx,(iv bq.2.2.1),(iv bq.2.2.2)]::ib af 26 [sn]::ib aq 26 [an]::H):=m.fr 3
      have⟨bB,bC,bk⟩:=bind_some bk
      refine AA f Z call197 (Wk.Y m bo bC) λbD bE bF w bG m bH a f=> ?_
      obtain⟨bI,rfl,rfl,bJ⟩:=bH
      have bz:=rd1 bG bz
      refine AD 3 0 (ds:=[an]) m sizeOf26 f Z Z Z (AL (Ow2.one1 0 m bJ Z) AO) Z (lb Z) Z λw m=>Aa (Ah ?_)
      refine Ab f Z λa f=>Aj f Z Z Ay λa f=>Ac f Z λa f=>Aa ?_
      have m:=m.fr 3
      have m:=m.fr 3
      have m:Mem W bE w (ib b0 181 [bx,(iv bq.2.2.1),(iv bq.2.2.2)]::ib af 26 [sn]::ib aq 26 [an]::bI::H):=m.fr 3
      obtain rfl:=sj bk
      exact⟨_,Z,_,_,_,_,_,Z,_,bx,bI,(gt bm (gt bv bG)),f.k Z,m,bz,bJ⟩
     ·refine Ai f Z bA ?_
      refine An ?_
      refine Ah ?_
      refine Ab f Z λa f=>Aj f Z Z Ay λa f=>Ac f Z λa f=>Aa ?_
      obtain rfl:=sj bk
      exact⟨_,Z,_,_,_,_,_,Z,_,bx,bi,(gt bm bv),f.k Z,m,bz,bo⟩
    ·refine Ai f Z bp ?_
     refine AG Z ?_
     obtain rfl:=sj bk
     obtain rfl:=bl _ rfl
     exact⟨_,_,_,_,Z,_,bh,bi,bm,f.k Z,m,bn,bo⟩
   ·rintro a w ⟨a3,a4,a5,a6,rfl,a7,a8,a9,bK,f,m,bL,bM⟩
    refine Ah ?_
    refine Ab f Z λa f=>Aj f Z Z Ay λa f=>Ac f Z λa f=>Aa ?_
    obtain rfl:=sj aV
    exact⟨_,Z,_,_,_,_,_,Z,_,a8,a9,(gt aX bK),f.k Z,m,bL,bM⟩
  ·refine Ai f Z a0 ?_
   refine AG Z ?_
   have m:=m.fr 2
   have m:Mem W aR w (ib af 26 [sn]::ib aq 26 [an]::ib b0 181 [aS,(iv aO),(iv aP)]::aT::H):=m.fr 2
   obtain rfl:=sj aV
   obtain rfl:=aW _ rfl
   exact⟨_,_,_,_,Z,_,aT,aS,aX,f.k Z,m,aZ,aY⟩
 ·rintro a w ⟨aE,aF,aG,aH,rfl,aI,aJ,aK,bN,f,m,bO,bP⟩
  refine Ae ?_
  refine Aw 1 0 (ds:=[an]) m AE f Z Z Z Z Z λa f=>AD 0 0 (ds:=[an]) m sizeOf26 f Z Z Z (AL (Ow2.one1 3 m bO Z) AO) Z (lb Z) Z λw m=>Aa ?_
  refine Ao ?_
  have bQ:=BM (P:=prog) 0 m AE f (s:=4) rfl rfl rfl
  have m:=m.fr 2
  have m:=m.fr 3
  have m:Mem W aI w (aJ::ib b0 181 [aK,(iv aG),(iv aH)]::ib af 26 [an]::H):=m.eraseAt 3
  have m:=m.eraseAt 2
  obtain rfl:=sj hd
  exact⟨[(.agg #[an])],⟨bQ,trivial⟩,f.d,_,[aJ,ib b0 181 [aK,(iv aG),(iv aH)]],(gt al (gt ay bN)),m,_,_,_,Z,Z,bO,bP⟩
theorem Wk.D0 {aa:Value}{b0:Nat}{ab:LI}{ac ad:Int}(m:Mem W G w (ib b0 181 [aa,(iv ac),(iv ad)]::H))(ae:RSl (RI .u8) G aa ab){y:(LL)×(LI)×Int×Int}(hd:D.D0 ab ac ad=some y):
  Calls prog 245 #[(pb b0)] w (Res W G H (λG' Ho v=>∃r0:Value,∃i0:Itm,∃r2:Value,Ho=[i0,ib b0 181 [r2,(iv y.2.2.1),(iv y.2.2.2)]]∧v=(.agg #[r0])∧Ow2 R0 33 2 G' i0 r0 y.1∧RSl (RI .u8) G' r2 y.2.1)):=by
 refine Ap (args:=[(pb b0)]) (N:=34) [.cell 2 26] func245 Z Z (lb Z) Z λa f=> ?_
 unfold D.D0 at hd
 refine Ae ?_
 refine Bn (cs:=[sn]) zeroValue26 m f Z Z λaf w a m f=>Aa (Ag (Ae ?_))
 refine Ab f Z λa f=> ?_
 have m:Mem W G w (ib b0 181 [aa,(iv ac),(iv ad)]::ib af 26 [sn]::H):=m.fr 1
 have⟨ag,ah,hd⟩:=bind_some hd
 refine AA f Z call173 (Wk.a m ae ah) λai aj ak w al m am a f=> ?_
 obtain⟨an,rfl,rfl,ao⟩:=am
 refine Aa (Ak (Ae ?_))
 refine Aj f Z Z BW λa f=>Ac f Z λa f=>Aa ?_
 rcases Af hd with⟨ap,hd⟩|⟨ap,hd⟩
 ·refine Al f Z ap ?_
  refine Ae ?_
  refine Ab f Z λa f=> ?_
  have⟨aq,ar,hd⟩:=bind_some hd
  refine AA f Z call173 (Wk.a m ao ar) λau av aw w ax m ay a f=> ?_
  obtain⟨az,rfl,rfl,aA⟩:=ay
  refine Aj f Z Z Ay λa f=> ?_
  have⟨aB,aC,hd⟩:=bind_some hd
  refine AA f Z call277 (Wk.Q0 m aC) λaD aE aF w aG m aH a f=> ?_
  obtain⟨aI,aJ,rfl,rfl,aK⟩:=aH
  have aA:=rd1 aG aA
  refine Ab f Z λa f=>l_o f (BA (f.e Z) Z) λa f=>l_o f (BA (f.e Z) Z) λa f=>Bn (cs:=[sn]) zeroValue26 m f Z Z λaL w a m f=>AD 0 0 (ds:=[aI]) m sizeOf26 f Z Z Z (AL (Ow2.one1 1 m aK Z) AO) Z (lb Z) Z λw m=>Ac f Z λa f=>Az ?_
  refine Aw 0 0 (ds:=[aI]) m AE f Z Z Z Z Z λa f=>AD 3 0 (ds:=[aI]) m sizeOf26 f Z Z Z (AL (Ow2.one1 1 m aK Z) AO) Z (lb Z) Z λw m=>Aa ?_
  refine Ao ?_
  have aM:=BM (P:=prog) 3 m AE f (s:=2) rfl rfl rfl
  have m:=m.fr 2
  have m:=m.fr 2
  have m:Mem W aE w (aJ::ib b0 181 [az,(iv aq.2.2.1),(iv aq.2.2.2)]::ib aL 26 [aI]::H):=m.eraseAt 3
  have m:=m.eraseAt 2
  obtain rfl:=sj hd
  exact⟨[(.agg #[aI])],⟨aM,trivial⟩,f.d,_,[aJ,ib b0 181 [az,(iv aq.2.2.1),(iv aq.2.2.2)]],(gt al (gt ax aG)),m,_,_,_,Z,Z,aK,aA⟩
 ·refine Ai f Z ap ?_
  refine Ae ?_
  refine Aj f Z Z BW λa f=>Ac f Z λa f=>Aa ?_
  rcases Af hd with⟨aN,hd⟩|⟨aN,hd⟩
  ·refine Al f Z aN ?_
   refine Ae ?_
   refine Ab f Z λa f=> ?_
   have⟨aO,aP,hd⟩:=bind_some hd
   refine AA f Z call173 (Wk.a m ao aP) λaQ aR aS w aT m aU a f=> ?_
   obtain⟨aV,rfl,rfl,aW⟩:=aU
   refine Aj f Z Z Ay λa f=> ?_
   have⟨aX,aY,hd⟩:=bind_some hd
   refine AA f Z call278 (Wk.g0 m aY) λaZ a0 a1 w a2 m a3 a f=> ?_
   obtain⟨a4,a5,rfl,rfl,a6⟩:=a3
   have aW:=rd1 a2 aW
   refine Ab f Z λa f=>l_o f (BA (f.e Z) Z) λa f=>l_o f (BA (f.e Z) Z) λa f=>Bn (cs:=[sn]) zeroValue26 m f Z Z λa7 w a m f=>AD 0 0 (ds:=[a4]) m sizeOf26 f Z Z Z (AL (Ow2.one1 1 m a6 Z) AO) Z (lb Z) Z λw m=>Ac f Z λa f=>Az ?_
   refine Aw 0 0 (ds:=[a4]) m AE f Z Z Z Z Z λa f=>AD 3 0 (ds:=[a4]) m sizeOf26 f Z Z Z (AL (Ow2.one1 1 m a6 Z) AO) Z (lb Z) Z λw m=>Aa ?_
   refine Ao ?_
   have a8:=BM (P:=prog) 3 m AE f (s:=2) rfl rfl rfl
   have m:=m.fr 2
   have m:=m.fr 2
   have m:Mem W a0 w (a5::ib b0 181 [aV,(iv aO.2.2.1),(iv aO.2.2.2)]::ib a7 26 [a4]::H):=m.eraseAt 3
   have m:=m.eraseAt 2
   obtain rfl:=sj hd
   exact⟨[(.agg #[a4])],⟨a8,trivial⟩,f.d,_,[a5,ib b0 181 [aV,(iv aO.2.2.1),(iv aO.2.2.2)]],(gt al (gt aT a2)),m,_,_,_,Z,Z,a6,aW⟩
  ·refine Ai f Z aN ?_
   refine An ?_
   refine Ae ?_
   refine Ab f Z λa f=>Ab f Z λa f=> ?_
   have⟨a9,ba,hd⟩:=bind_some hd
   refine AA f Z call173 (Wk.a m ao ba) λbb bc bd w be m bf a f=> ?_
   obtain⟨bg,rfl,rfl,bh⟩:=bf
   refine Aj f Z Z Ay λa f=> ?_
   have⟨bi,bj,hd⟩:=bind_some hd
   refine AA f Z call279 (Wk.H0 m bh bj) λbk bl bm w bn m bo a f=> ?_
   obtain⟨bp,bq,br,rfl,rfl,bs,bt⟩:=bo
   refine AD 2 0 (ds:=[bp]) m sizeOf26 f Z Z Z (AL (Ow2.one1 0 m bs Z) AO) Z (lb Z) Z λw m=>Aa ?_
   refine Ao ?_
   have bu:=BM (P:=prog) 2 m AE f (s:=2) rfl rfl rfl
   have m:=m.eraseAt 2
   obtain rfl:=sj hd
   exact⟨[(.agg #[bp])],⟨bu,trivial⟩,f.d,_,[bq,ib b0 181 [br,(iv bi.2.2.1),(iv bi.2.2.2)]],(gt al (gt be bn)),m,_,_,_,Z,Z,bs,bt⟩
theorem Wk.y0 {aa:Value}{b0:Nat}{ab:LI}{ac ad:Int}(m:Mem W G w (ib b0 181 [aa,(iv ac),(iv ad)]::H))(ae:RSl (RI .u8) G aa ab){y:(LL)×(LI)×Int×Int}(hd:D.y0 ab ac ad=some y):
  Calls prog 170 #[(pb b0)] w (Res W G H (λG' Ho v=>∃r0:Value,∃i0:Itm,∃r2:Value,Ho=[i0,ib b0 181 [r2,(iv y.2.2.1),(iv y.2.2.2)]]∧v=(.agg #[r0])∧Ow2 R0 33 2 G' i0 r0 y.1∧RSl (RI .u8) G' r2 y.2.1)):=by
 refine Ap (args:=[(pb b0)]) (N:=56) [.cell 2 26] func170 Z Z (lb Z) Z λa f=> ?_
 unfold D.y0 at hd
 refine Ae ?_
 refine Bn (cs:=[sn]) zeroValue26 m f Z Z λaf w a m f=>Az ?_
 refine Ab f Z λa f=> ?_
 have m:Mem W G w (ib b0 181 [aa,(iv ac),(iv ad)]::ib af 26 [sn]::H):=m.fr 1
 have⟨ag,ah,hd⟩:=bind_some hd
 refine AA f Z call245 (Wk.D0 m ae ah) λai aj ak w al m am a f=> ?_
 obtain⟨an,ao,ap,rfl,rfl,aq,ar⟩:=am
 refine Bn (cs:=[sn]) zeroValue26 m f Z Z λau w a m f=>AD 0 0 (ds:=[an]) m sizeOf26 f Z Z Z (AL (Ow2.one1 1 m aq Z) AO) Z (lb Z) Z λw m=>Aa (Ag (Ae ?_))
 refine Ab f Z λa f=> ?_
 have m:Mem W aj w (ib b0 181 [ap,(iv ag.2.2.1),(iv ag.2.2.2)]::ib au 26 [an]::ao::ib af 26 [sn]::H):=m.fr 2
 have⟨av,aw,hd⟩:=bind_some hd
 refine AA f Z call172 (Wk.i m ar aw) λax ay az w aA m aB a f=> ?_
 obtain⟨aC,rfl,rfl,aD⟩:=aB
 have aq:=od2 aA aq
 refine Aa ?_
 rcases Af hd with⟨aE,hd⟩|⟨aE,hd⟩
 ·refine Al f Z aE ?_
  refine Ae ?_
  refine Ab f Z λa f=>BQ underlying26 Z sizeOf24 f Z λa f=>AV 1 0 m BH f Z Z Z Z λa f=>l_own2_len 2 m aq Z underlying24 f Z Z λa f=> ?_
  have⟨aF,aG,hd⟩:=bind_some hd
  refine AA f Z call173 (Wk.a m aD aG) λaH aI aJ w aK m aL a f=> ?_
  obtain⟨aM,rfl,rfl,aN⟩:=aL
  have aq:=od2 aK aq
  refine Ac f Z λa f=>Az ?_
  refine Ab f Z λa f=> ?_
  have⟨aO,aP,hd⟩:=bind_some hd
  refine AA f Z call173 (Wk.a m aN aP) λaQ aR aS w aT m aU a f=> ?_
  obtain⟨aV,rfl,rfl,aW⟩:=aU
  have aq:=od2 aT aq
  refine Aa (Ak (Ae ?_))
  refine Aj f Z Z BW λa f=>Ac f Z λa f=>Aa ?_
  rcases Af hd with⟨aX,hd⟩|⟨aX,hd⟩
  ·refine Al f Z aX ?_
   have⟨aY,aZ,hd⟩:=bind_some hd
   refine AM (λa w=>∃a0:LL,∃a1:LI,∃a2:Int,∃a3:Int,(a0,a1,a2,a3)=aY∧∃(a4:GH) (a5:Itm) (a6:Value),GLe aR a4∧Fr a 56 [(2,(pb af)),(3,(pb au))]∧Mem W a4 w (ib af 26 [sn]::ib au 26 [an]::ib b0 181 [a6,(iv a2),(iv a3)]::a5::H)∧Ow2 R0 33 2 a4 a5 an a0∧RSl (RI .u8) a4 a6 a1) ?_ ?_
   ·have m:Mem W aR w (ao::ib b0 181 [aV,(iv aO.2.2.1),(iv aO.2.2.2)]::ib au 26 [an]::ib af 26 [sn]::H):=m.fr 2
    refine k_drawE [ao,ib b0 181 [aV,(iv aO.2.2.1),(iv aO.2.2.2)]] (ib au 26 [an]::ib af 26 [sn]::H) 12 A7 (by kernel_rfl) m ?_
    refine CC 0 12 underlying26 Z sizeOf24 Z f Z λa f=>Ce 1 12 0 BH Z Z Z f Z λa f=>AJ 2 12 Z f Z λa f=>CC 3 12 underlying26 Z sizeOf24 Z f Z λa f=>Ce 4 12 0 BH Z Z Z f Z λa f=>AJ 5 12 Z f Z λa f=>AJ 8 12 Z f Z λa f=>Eb (i:=6) (j:=9) (l1:= #[true,true,true,true,true,true,true,false,true,false,false,false,false,false]) (l2:= #[true,true,true,true,true,true,false,false,true,true,false,false,false,false]) Z Z (by kernel_rfl) Z Z ?_ ?_
    ·intro a7 w a8 m a9 a9
     have aq:=od2 a8 aq
     have aW:=rd1 a8 aW
     have⟨ba,bb,aZ⟩:=bind_some aZ
     refine CI 0 m aq Z T24 f Z Z Z bb λbc a bd f=>Aa ?_
     refine a9 a7 [ao,ib b0 181 [aV,(iv aO.2.2.1),(iv aO.2.2.2)]] _ _ gr m ?_
     refine Eb (i:=7) (j:=9) (l1:= #[true,true,true,true,true,true,true,true,true,false,false,false,false,false]) (l2:= #[true,true,true,true,true,true,true,false,true,true,false,false,false,false]) Z Z (by kernel_rfl) Z Z ?_ ?_
     ·intro be w bf m bg bg
      have aq:=od2 bf aq
      have aW:=rd1 bf aW
      refine Cf 0 m aq Z Br f Z Z bd bb λbh a bi f=>Aa ?_
      refine bg be [ao,ib b0 181 [aV,(iv aO.2.2.1),(iv aO.2.2.2)]] _ _ gr m ?_
      refine Bs 9 Z λbj w bk m bl bl=> ?_
      have aq:=od2 bk aq
      have aW:=rd1 bk aW
      have m:Mem W bj w (ib b0 181 [aV,(iv aO.2.2.1),(iv aO.2.2.2)]::ao::ib au 26 [an]::ib af 26 [sn]::H):=m.fr 1
      have⟨bm,bn,aZ⟩:=bind_some aZ
      refine AA f Z call246 (Wk.R m aW bn) λbo bp bq w br m bs a f=> ?_
      obtain⟨bt,rfl,rfl,bu⟩:=bs
      have aq:=od2 br aq
      refine Aa ?_
      refine bl bp [ib b0 181 [bt,(iv bm.2.2.1),(iv bm.2.2.2)],ao] _ _ br m ?_
      refine Bs 10 Z λbv w bw m bx bx=> ?_
      have bu:=rd1 bw bu
      have aq:=od2 bw aq
      refine AF (R:=R0) (xs:=([bm.1]:LI)) (RI.one _) m T33 f Z Z Z (by decide) (All2.cons Z (All2.nil _)) λbz bA w a m bB f=>Aa ?_
      refine bx bv [bz,ib b0 181 [bt,(iv bm.2.2.1),(iv bm.2.2.2)],ao] _ _ gr m ?_
      refine Bs 11 Z λbC w bD m bE bE=> ?_
      have bB:=od1 bD bB
      have bu:=rd1 bD bu
      have aq:=od2 bD aq
      have m:Mem W bC w (ao::bz::ib b0 181 [bt,(iv bm.2.2.1),(iv bm.2.2.2)]::ib au 26 [an]::ib af 26 [sn]::H):=m.fr 2
      obtain⟨bF,bG,m,bH,bI⟩:=Ow2.out aq m bb bi
      have⟨bJ,bK,aZ⟩:=bind_some aZ
      refine AT (RI.one _) 1 m bI Z T33 Z (by decide) f Z Z Z (Ow.src (j:=2) bB m Z) bK λbL bM w a m bN f=>Aa ?_
      refine bE bC [bF,bL,bz,ib b0 181 [bt,(iv bm.2.2.1),(iv bm.2.2.2)]] _ _ gr m ?_
      refine Bd λbO w bP m=> ?_
      have bH:=OwH.mono (RI.mono _) bP bH
      have bN:=od1 bP bN
      have bu:=rd1 bP bu
      have⟨bQ,bR,aZ⟩:=bind_some aZ
      refine Cx 0 m bH Z T24 f Z Z Z bR λbS a bT f=>B4 m bH bN sizeOf33 f Z Z bT λbU w m bV=>Aa ?_
      have m:=m.fr 2
      have m:=m.fr 3
      have m:Mem W bO w (ib af 26 [sn]::ib au 26 [an]::ib b0 181 [bt,(iv bm.2.2.1),(iv bm.2.2.2)]::bU::bz::H):=m.fr 4
      have m:Mem W bO w (ib af 26 [sn]::ib au 26 [an]::ib b0 181 [bt,(iv bm.2.2.1),(iv bm.2.2.2)]::bU::H):=m.eraseAt 4
      obtain rfl:=sj aZ
      exact⟨_,_,_,_,Z,_,bU,bt,(gt a8 (gt bf (gt bk (gt br (gt bw (gt bD bP)))))),f.k Z,m,bV,bu⟩
     ·intro bj w bk m bl bl
      have⟨bm,bn,aZ⟩:=bind_some aZ
      have⟨bJ,bK,aZ⟩:=bind_some aZ
      have⟨bQ,bR,aZ⟩:=bind_some aZ
      have aq:=od2 bk aq
      have aW:=rd1 bk aW
      have m:Mem W bj w (ib b0 181 [aV,(iv aO.2.2.1),(iv aO.2.2.2)]::ao::ib au 26 [an]::ib af 26 [sn]::H):=m.fr 1
      refine AA f Z call246 (Wk.R m aW bn) λbo bp bq w br m bs a f=> ?_
      obtain⟨bt,rfl,rfl,bu⟩:=bs
      have aq:=od2 br aq
      refine Aa ?_
      refine bl bp [ib b0 181 [bt,(iv bm.2.2.1),(iv bm.2.2.2)],ao] _ _ br m ?_
      refine Eb (i:=7) (j:=10) (l1:= #[true,true,true,true,true,true,true,true,true,true,false,false,false,false]) (l2:= #[true,true,true,true,true,true,true,false,true,true,true,false,false,false]) Z Z (by kernel_rfl) Z Z ?_ ?_
      ·intro be w bf m bg bg
       have bu:=rd1 bf bu
       have aq:=od2 bf aq
       refine Cf 1 m aq Z Br f Z Z bd bb λbh a bi f=>Aa ?_
       refine bg be [ib b0 181 [bt,(iv bm.2.2.1),(iv bm.2.2.2)],ao] _ _ gr m ?_
       refine Bs 10 Z λbv w bw m bx bx=> ?_
       have bu:=rd1 bw bu
       have aq:=od2 bw aq
       refine AF (R:=R0) (xs:=([bm.1]:LI)) (RI.one _) m T33 f Z Z Z (by decide) (All2.cons Z (All2.nil _)) λbz bA w a m bB f=>Aa ?_
       refine bx bv [bz,ib b0 181 [bt,(iv bm.2.2.1),(iv bm.2.2.2)],ao] _ _ gr m ?_
       refine Bs 11 Z λbC w bD m bE bE=> ?_
       have bB:=od1 bD bB
       have bu:=rd1 bD bu
       have aq:=od2 bD aq
       have m:Mem W bC w (ao::bz::ib b0 181 [bt,(iv bm.2.2.1),(iv bm.2.2.2)]::ib au 26 [an]::ib af 26 [sn]::H):=m.fr 2
       obtain⟨bF,bG,m,bH,bI⟩:=Ow2.out aq m bb bi
       refine AT (RI.one _) 1 m bI Z T33 Z (by decide) f Z Z Z (Ow.src (j:=2) bB m Z) bK λbL bM w a m bN f=>Aa ?_
       refine bE bC [bF,bL,bz,ib b0 181 [bt,(iv bm.2.2.1),(iv bm.2.2.2)]] _ _ gr m ?_
       refine Bd λbO w bP m=> ?_
       have bH:=OwH.mono (RI.mono _) bP bH
       have bN:=od1 bP bN
       have bu:=rd1 bP bu
       refine Cx 0 m bH Z T24 f Z Z Z bR λbS a bT f=>B4 m bH bN sizeOf33 f Z Z bT λbU w m bV=>Aa ?_
       have m:=m.fr 2
       have m:=m.fr 3
       have m:Mem W bO w (ib af 26 [sn]::ib au 26 [an]::ib b0 181 [bt,(iv bm.2.2.1),(iv bm.2.2.2)]::bU::bz::H):=m.fr 4
       have m:Mem W bO w (ib af 26 [sn]::ib au 26 [an]::ib b0 181 [bt,(iv bm.2.2.1),(iv bm.2.2.2)]::bU::H):=m.eraseAt 4
       obtain rfl:=sj aZ
       exact⟨_,_,_,_,Z,_,bU,bt,(gt a8 (gt bk (gt br (gt bf (gt bw (gt bD bP)))))),f.k Z,m,bV,bu⟩
      ·intro bv w bw m bx bx
       have bu:=rd1 bw bu
       have aq:=od2 bw aq
       refine AF (R:=R0) (xs:=([bm.1]:LI)) (RI.one _) m T33 f Z Z Z (by decide) (All2.cons Z (All2.nil _)) λbz bA w a m bB f=>Aa ?_
       refine bx bv [bz,ib b0 181 [bt,(iv bm.2.2.1),(iv bm.2.2.2)],ao] _ _ gr m ?_
       refine Bs 7 Z λbe w bf m bg bg=> ?_
       have bB:=od1 bf bB
       have bu:=rd1 bf bu
       have aq:=od2 bf aq
       refine Cf 2 m aq Z Br f Z Z bd bb λbh a bi f=>Aa ?_
       refine bg be [bz,ib b0 181 [bt,(iv bm.2.2.1),(iv bm.2.2.2)],ao] _ _ gr m ?_
       refine Bs 11 Z λbC w bD m bE bE=> ?_
       have bB:=od1 bD bB
       have bu:=rd1 bD bu
       have aq:=od2 bD aq
       have m:Mem W bC w (ao::bz::ib b0 181 [bt,(iv bm.2.2.1),(iv bm.2.2.2)]::ib au 26 [an]::ib af 26 [sn]::H):=m.fr 2
       obtain⟨bF,bG,m,bH,bI⟩:=Ow2.out aq m bb bi
       refine AT (RI.one _) 1 m bI Z T33 Z (by decide) f Z Z Z (Ow.src (j:=2) bB m Z) bK λbL bM w a m bN f=>Aa ?_
       refine bE bC [bF,bL,bz,ib b0 181 [bt,(iv bm.2.2.1),(iv bm.2.2.2)]] _ _ gr m ?_
       refine Bd λbO w bP m=> ?_
       have bH:=OwH.mono (RI.mono _) bP bH
       have bN:=od1 bP bN
       have bu:=rd1 bP bu
       refine Cx 0 m bH Z T24 f Z Z Z bR λbS a bT f=>B4 m bH bN sizeOf33 f Z Z bT λbU w m bV=>Aa ?_
       have m:=m.fr 2
       have m:=m.fr 3
       have m:Mem W bO w (ib af 26 [sn]::ib au 26 [an]::ib b0 181 [bt,(iv bm.2.2.1),(iv bm.2.2.2)]::bU::bz::H):=m.fr 4
       have m:Mem W bO w (ib af 26 [sn]::ib au 26 [an]::ib b0 181 [bt,(iv bm.2.2.1),(iv bm.2.2.2)]::bU::H):=m.eraseAt 4
       obtain rfl:=sj aZ
       exact⟨_,_,_,_,Z,_,bU,bt,(gt a8 (gt bk (gt br (gt bw (gt bf (gt bD bP)))))),f.k Z,m,bV,bu⟩
    ·intro bj w bk m bl bl
     have⟨ba,bb,aZ⟩:=bind_some aZ
     have⟨bm,bn,aZ⟩:=bind_some aZ
     have⟨bJ,bK,aZ⟩:=bind_some aZ
     have⟨bQ,bR,aZ⟩:=bind_some aZ
     have aq:=od2 bk aq
     have aW:=rd1 bk aW
     have m:Mem W bj w (ib b0 181 [aV,(iv aO.2.2.1),(iv aO.2.2.2)]::ao::ib au 26 [an]::ib af 26 [sn]::H):=m.fr 1
     refine AA f Z call246 (Wk.R m aW bn) λbo bp bq w br m bs a f=> ?_
     obtain⟨bt,rfl,rfl,bu⟩:=bs
     have aq:=od2 br aq
     refine Aa ?_
     refine bl bp [ib b0 181 [bt,(iv bm.2.2.1),(iv bm.2.2.2)],ao] _ _ br m ?_
     refine Eb (i:=6) (j:=10) (l1:= #[true,true,true,true,true,true,true,false,true,true,false,false,false,false]) (l2:= #[true,true,true,true,true,true,false,false,true,true,true,false,false,false]) Z Z (by kernel_rfl) Z Z ?_ ?_
     ·intro a7 w a8 m a9 a9
      have bu:=rd1 a8 bu
      have aq:=od2 a8 aq
      refine CI 1 m aq Z T24 f Z Z Z bb λbc a bd f=>Aa ?_
      refine a9 a7 [ib b0 181 [bt,(iv bm.2.2.1),(iv bm.2.2.2)],ao] _ _ gr m ?_
      refine Eb (i:=7) (j:=10) (l1:= #[true,true,true,true,true,true,true,true,true,true,false,false,false,false]) (l2:= #[true,true,true,true,true,true,true,false,true,true,true,false,false,false]) Z Z (by kernel_rfl) Z Z ?_ ?_
      ·intro be w bf m bg bg
       have bu:=rd1 bf bu
       have aq:=od2 bf aq
       refine Cf 1 m aq Z Br f Z Z bd bb λbh a bi f=>Aa ?_
       refine bg be [ib b0 181 [bt,(iv bm.2.2.1),(iv bm.2.2.2)],ao] _ _ gr m ?_
       refine Bs 10 Z λbv w bw m bx bx=> ?_
       have bu:=rd1 bw bu
       have aq:=od2 bw aq
       refine AF (R:=R0) (xs:=([bm.1]:LI)) (RI.one _) m T33 f Z Z Z (by decide) (All2.cons Z (All2.nil _)) λbz bA w a m bB f=>Aa ?_
       refine bx bv [bz,ib b0 181 [bt,(iv bm.2.2.1),(iv bm.2.2.2)],ao] _ _ gr m ?_
       refine Bs 11 Z λbC w bD m bE bE=> ?_
       have bB:=od1 bD bB
       have bu:=rd1 bD bu
       have aq:=od2 bD aq
       have m:Mem W bC w (ao::bz::ib b0 181 [bt,(iv bm.2.2.1),(iv bm.2.2.2)]::ib au 26 [an]::ib af 26 [sn]::H):=m.fr 2
       obtain⟨bF,bG,m,bH,bI⟩:=Ow2.out aq m bb bi
       refine AT (RI.one _) 1 m bI Z T33 Z (by decide) f Z Z Z (Ow.src (j:=2) bB m Z) bK λbL bM w a m bN f=>Aa ?_
       refine bE bC [bF,bL,bz,ib b0 181 [bt,(iv bm.2.2.1),(iv bm.2.2.2)]] _ _ gr m ?_
       refine Bd λbO w bP m=> ?_
       have bH:=OwH.mono (RI.mono _) bP bH
       have bN:=od1 bP bN
       have bu:=rd1 bP bu
       refine Cx 0 m bH Z T24 f Z Z Z bR λbS a bT f=>B4 m bH bN sizeOf33 f Z Z bT λbU w m bV=>Aa ?_
       have m:=m.fr 2
       have m:=m.fr 3
       have m:Mem W bO w (ib af 26 [sn]::ib au 26 [an]::ib b0 181 [bt,(iv bm.2.2.1),(iv bm.2.2.2)]::bU::bz::H):=m.fr 4
       have m:Mem W bO w (ib af 26 [sn]::ib au 26 [an]::ib b0 181 [bt,(iv bm.2.2.1),(iv bm.2.2.2)]::bU::H):=m.eraseAt 4
       obtain rfl:=sj aZ
       exact⟨_,_,_,_,Z,_,bU,bt,(gt bk (gt br (gt a8 (gt bf (gt bw (gt bD bP)))))),f.k Z,m,bV,bu⟩
      ·intro bv w bw m bx bx
       have bu:=rd1 bw bu
       have aq:=od2 bw aq
       refine AF (R:=R0) (xs:=([bm.1]:LI)) (RI.one _) m T33 f Z Z Z (by decide) (All2.cons Z (All2.nil _)) λbz bA w a m bB f=>Aa ?_
       refine bx bv [bz,ib b0 181 [bt,(iv bm.2.2.1),(iv bm.2.2.2)],ao] _ _ gr m ?_
       refine Bs 7 Z λbe w bf m bg bg=> ?_
       have bB:=od1 bf bB
       have bu:=rd1 bf bu
       have aq:=od2 bf aq
       refine Cf 2 m aq Z Br f Z Z bd bb λbh a bi f=>Aa ?_
       refine bg be [bz,ib b0 181 [bt,(iv bm.2.2.1),(iv bm.2.2.2)],ao] _ _ gr m ?_
       refine Bs 11 Z λbC w bD m bE bE=> ?_
       have bB:=od1 bD bB
       have bu:=rd1 bD bu
       have aq:=od2 bD aq
       have m:Mem W bC w (ao::bz::ib b0 181 [bt,(iv bm.2.2.1),(iv bm.2.2.2)]::ib au 26 [an]::ib af 26 [sn]::H):=m.fr 2
       obtain⟨bF,bG,m,bH,bI⟩:=Ow2.out aq m bb bi
       refine AT (RI.one _) 1 m bI Z T33 Z (by decide) f Z Z Z (Ow.src (j:=2) bB m Z) bK λbL bM w a m bN f=>Aa ?_
       refine bE bC [bF,bL,bz,ib b0 181 [bt,(iv bm.2.2.1),(iv bm.2.2.2)]] _ _ gr m ?_
       refine Bd λbO w bP m=> ?_
       have bH:=OwH.mono (RI.mono _) bP bH
       have bN:=od1 bP bN
       have bu:=rd1 bP bu
       refine Cx 0 m bH Z T24 f Z Z Z bR λbS a bT f=>B4 m bH bN sizeOf33 f Z Z bT λbU w m bV=>Aa ?_
       have m:=m.fr 2
       have m:=m.fr 3
       have m:Mem W bO w (ib af 26 [sn]::ib au 26 [an]::ib b0 181 [bt,(iv bm.2.2.1),(iv bm.2.2.2)]::bU::bz::H):=m.fr 4
       have m:Mem W bO w (ib af 26 [sn]::ib au 26 [an]::ib b0 181 [bt,(iv bm.2.2.1),(iv bm.2.2.2)]::bU::H):=m.eraseAt 4
       obtain rfl:=sj aZ
       exact⟨_,_,_,_,Z,_,bU,bt,(gt bk (gt br (gt a8 (gt bw (gt bf (gt bD bP)))))),f.k Z,m,bV,bu⟩
     ·intro bv w bw m bx bx
      have bu:=rd1 bw bu
      have aq:=od2 bw aq
      refine AF (R:=R0) (xs:=([bm.1]:LI)) (RI.one _) m T33 f Z Z Z (by decide) (All2.cons Z (All2.nil _)) λbz bA w a m bB f=>Aa ?_
      refine bx bv [bz,ib b0 181 [bt,(iv bm.2.2.1),(iv bm.2.2.2)],ao] _ _ gr m ?_
      refine Bs 6 Z λa7 w a8 m a9 a9=> ?_
      have bB:=od1 a8 bB
      have bu:=rd1 a8 bu
      have aq:=od2 a8 aq
      refine CI 2 m aq Z T24 f Z Z Z bb λbc a bd f=>Aa ?_
      refine a9 a7 [bz,ib b0 181 [bt,(iv bm.2.2.1),(iv bm.2.2.2)],ao] _ _ gr m ?_
      refine Bs 7 Z λbe w bf m bg bg=> ?_
      have bB:=od1 bf bB
      have bu:=rd1 bf bu
      have aq:=od2 bf aq
      refine Cf 2 m aq Z Br f Z Z bd bb λbh a bi f=>Aa ?_
      refine bg be [bz,ib b0 181 [bt,(iv bm.2.2.1),(iv bm.2.2.2)],ao] _ _ gr m ?_
      refine Bs 11 Z λbC w bD m bE bE=> ?_
      have bB:=od1 bD bB
      have bu:=rd1 bD bu
      have aq:=od2 bD aq
      have m:Mem W bC w (ao::bz::ib b0 181 [bt,(iv bm.2.2.1),(iv bm.2.2.2)]::ib au 26 [an]::ib af 26 [sn]::H):=m.fr 2
      obtain⟨bF,bG,m,bH,bI⟩:=Ow2.out aq m bb bi
      refine AT (RI.one _) 1 m bI Z T33 Z (by decide) f Z Z Z (Ow.src (j:=2) bB m Z) bK λbL bM w a m bN f=>Aa ?_
      refine bE bC [bF,bL,bz,ib b0 181 [bt,(iv bm.2.2.1),(iv bm.2.2.2)]] _ _ gr m ?_
      refine Bd λbO w bP m=> ?_
      have bH:=OwH.mono (RI.mono _) bP bH
      have bN:=od1 bP bN
      have bu:=rd1 bP bu
      refine Cx 0 m bH Z T24 f Z Z Z bR λbS a bT f=>B4 m bH bN sizeOf33 f Z Z bT λbU w m bV=>Aa ?_
      have m:=m.fr 2
      have m:=m.fr 3
      have m:Mem W bO w (ib af 26 [sn]::ib au 26 [an]::ib b0 181 [bt,(iv bm.2.2.1),(iv bm.2.2.2)]::bU::bz::H):=m.fr 4
      have m:Mem W bO w (ib af 26 [sn]::ib au 26 [an]::ib b0 181 [bt,(iv bm.2.2.1),(iv bm.2.2.2)]::bU::H):=m.eraseAt 4
      obtain rfl:=sj aZ
      exact⟨_,_,_,_,Z,_,bU,bt,(gt bk (gt br (gt bw (gt a8 (gt bf (gt bD bP)))))),f.k Z,m,bV,bu⟩
   ·rintro a w ⟨a0,a1,a2,a3,rfl,a4,a5,a6,bW,f,m,bX,bY⟩
    refine Ae ?_
    refine Aw 1 0 (ds:=[an]) m AE f Z Z Z Z Z λa f=>AD 0 0 (ds:=[an]) m sizeOf26 f Z Z Z (AL (Ow2.one1 3 m bX Z) AO) Z (lb Z) Z λw m=>Aa ?_
    refine Ao ?_
    have bZ:=BM (P:=prog) 0 m AE f (s:=2) rfl rfl rfl
    have m:=m.fr 2
    have m:=m.fr 3
    have m:Mem W a4 w (a5::ib b0 181 [a6,(iv a2),(iv a3)]::ib af 26 [an]::H):=m.eraseAt 3
    have m:=m.eraseAt 2
    obtain rfl:=sj hd
    exact⟨[(.agg #[an])],⟨bZ,trivial⟩,f.d,_,[a5,ib b0 181 [a6,(iv a2),(iv a3)]],(gt al (gt aA (gt aK (gt aT bW)))),m,_,_,_,Z,Z,bX,bY⟩
  ·refine Ai f Z aX ?_
   refine Ae ?_
   refine Aj f Z Z BW λa f=>Ac f Z λa f=>Aa ?_
   rcases Af hd with⟨b1,hd⟩|⟨b1,hd⟩
   ·refine Al f Z b1 ?_
    refine Ah ?_
    refine BQ underlying26 Z sizeOf24 f Z λa f=>AV 1 0 m BH f Z Z Z Z λa f=>Ab f Z λa f=>Ab f Z λa f=>AF (R:=R0) (xs:=([aF.1]:LI)) (RI.one _) m T33 f Z Z Z (by decide) (All2.cons Z (All2.nil _)) λb2 b3 w a m b4 f=> ?_
    have⟨b5,b6,hd⟩:=bind_some hd
    refine CI 3 m aq Z T24 f Z Z Z b6 λb7 a b8 f=> ?_
    have m:Mem W aR w (ao::b2::ib b0 181 [aV,(iv aO.2.2.1),(iv aO.2.2.2)]::ib au 26 [an]::ib af 26 [sn]::H):=m.fr 3
    refine EZ m aq b4 sizeOf33 f Z Z b8 b6 λb9 w m ca=>Az ?_
    refine Aw 2 0 (ds:=[an]) m AE f Z Z Z Z Z λa f=>AD 3 0 (ds:=[an]) m sizeOf26 f Z Z Z (AL (Ow2.one1 0 m ca Z) AO) Z (lb Z) Z λw m=>Aa ?_
    refine Ao ?_
    have cb:=BM (P:=prog) 3 m AE f (s:=2) rfl rfl rfl
    have m:=m.eraseAt 3
    have m:Mem W aR w (b9::ib b0 181 [aV,(iv aO.2.2.1),(iv aO.2.2.2)]::H):=m.eraseAt 2
    obtain rfl:=sj hd
    exact⟨[(.agg #[an])],⟨cb,trivial⟩,f.d,_,[b9,ib b0 181 [aV,(iv aO.2.2.1),(iv aO.2.2.2)]],(gt al (gt aA (gt aK aT))),m,_,_,_,Z,Z,ca,aW⟩
   ·refine Ai f Z b1 ?_
    refine Ae ?_
    refine Aj f Z Z BW λa f=>Ac f Z λa f=>Aa ?_
    rcases Af hd with⟨cc,hd⟩|⟨cc,hd⟩
    ·refine Al f Z cc ?_
     refine Ah ?_
     refine Ab f Z λa f=> ?_
     have⟨cd,ce,hd⟩:=bind_some hd
     refine AA f Z call173 (Wk.a m aW ce) λcf cg ch w ci m cj a f=> ?_
     obtain⟨ck,rfl,rfl,cl⟩:=cj
     refine Aj f Z Z Ay λa f=> ?_
     have⟨cm,cn,hd⟩:=bind_some hd
     refine AA f Z call196 (Wk.M m cn) λco cp cq w cr m ct a f=> ?_
     obtain⟨cu,cv,rfl,rfl,cw⟩:=ct
     have cl:=rd1 cr cl
     refine AD 2 0 (ds:=[cu]) m sizeOf26 f Z Z Z (AL (Ow2.one1 0 m cw Z) AO) Z (lb Z) Z λw m=>Az ?_
     refine Aw 2 0 (ds:=[cu]) m AE f Z Z Z Z Z λa f=>AD 4 0 (ds:=[cu]) m sizeOf26 f Z Z Z (AL (Ow2.one1 0 m cw Z) AO) Z (lb Z) Z λw m=>Aa ?_
     refine Ao ?_
     have cx:=BM (P:=prog) 4 m AE f (s:=2) rfl rfl rfl
     have m:=m.fr 3
     have m:=m.fr 2
     have m:Mem W cp w (cv::ib b0 181 [ck,(iv cd.2.2.1),(iv cd.2.2.2)]::ao::ib au 26 [cu]::ib af 26 [cu]::H):=m.fr 2
     have m:=m.eraseAt 4
     have m:=m.eraseAt 3
     have m:Mem W cp w (cv::ib b0 181 [ck,(iv cd.2.2.1),(iv cd.2.2.2)]::H):=m.eraseAt 2
     obtain rfl:=sj hd
     exact⟨[(.agg #[cu])],⟨cx,trivial⟩,f.d,_,[cv,ib b0 181 [ck,(iv cd.2.2.1),(iv cd.2.2.2)]],(gt al (gt aA (gt aK (gt aT (gt ci cr))))),m,_,_,_,Z,Z,cw,cl⟩
    ·refine Ai f Z cc ?_
     refine Ae ?_
     refine Aj f Z Z BW λa f=>Ac f Z λa f=>Aa ?_
     rcases Af hd with⟨cy,hd⟩|⟨cy,hd⟩
     ·refine Al f Z cy ?_
      refine Ah ?_
      have cz:∀w,(Instr.build 26 #[]).run prog w= .ok (.agg #[sn]) w:=by intro w;simp[Instr.build,Instr.fill,DA,Dg,CF,CV,Cz,C9]
      refine DU f Z Z cz λa f=>AD 1 0 (ds:=[sn]) m sizeOf26 f Z Z Z (AL Z AO) Z (lb Z) Z λw m=>Az ?_
      refine Aw 1 0 (ds:=[sn]) m AE f Z Z Z Z Z λa f=>AD 3 0 (ds:=[sn]) m sizeOf26 f Z Z Z (AL Z AO) Z (lb Z) Z λw m=>Aa ?_
      refine Ao ?_
      obtain⟨cA,m,cB⟩:=Ow2.nil R0 33 2 m
      have cC:=BM (P:=prog) 4 m AE f (s:=2) rfl rfl rfl
      have m:=m.eraseAt 4
      have m:=m.eraseAt 3
      have m:Mem W aR w (cA::ib b0 181 [aV,(iv aO.2.2.1),(iv aO.2.2.2)]::H):=m.eraseAt 2
      obtain rfl:=sj hd
      exact⟨[(.agg #[sn])],⟨cC,trivial⟩,f.d,_,[cA,ib b0 181 [aV,(iv aO.2.2.1),(iv aO.2.2.2)]],(gt al (gt aA (gt aK aT))),m,_,_,_,Z,Z,cB,aW⟩
     ·refine Ai f Z cy ?_
      refine Ae ?_
      refine Aj f Z Z BW λa f=>Ac f Z λa f=>Aa ?_
      rcases Af hd with⟨cD,hd⟩|⟨cD,hd⟩
      ·refine Al f Z cD ?_
       refine Ah ?_
       refine BQ underlying26 Z sizeOf24 f Z λa f=>AV 1 0 m BH f Z Z Z Z λa f=>Ab f Z λa f=>AF (R:=R0) (xs:=([]:LI)) (RI.one _) m T33 f Z Z Z (by decide) (All2.nil _) λcE cF w a m cG f=> ?_
       have⟨cH,cI,hd⟩:=bind_some hd
       refine CI 3 m aq Z T24 f Z Z Z cI λcJ a cK f=> ?_
       have m:Mem W aR w (ao::cE::ib b0 181 [aV,(iv aO.2.2.1),(iv aO.2.2.2)]::ib au 26 [an]::ib af 26 [sn]::H):=m.fr 3
       refine EZ m aq cG sizeOf33 f Z Z cK cI λcL w m cM=>Az ?_
       refine Aw 2 0 (ds:=[an]) m AE f Z Z Z Z Z λa f=>AD 3 0 (ds:=[an]) m sizeOf26 f Z Z Z (AL (Ow2.one1 0 m cM Z) AO) Z (lb Z) Z λw m=>Aa ?_
       refine Ao ?_
       have cN:=BM (P:=prog) 3 m AE f (s:=2) rfl rfl rfl
       have m:=m.eraseAt 3
       have m:Mem W aR w (cL::ib b0 181 [aV,(iv aO.2.2.1),(iv aO.2.2.2)]::H):=m.eraseAt 2
       obtain rfl:=sj hd
       exact⟨[(.agg #[an])],⟨cN,trivial⟩,f.d,_,[cL,ib b0 181 [aV,(iv aO.2.2.1),(iv aO.2.2.2)]],(gt al (gt aA (gt aK aT))),m,_,_,_,Z,Z,cM,aW⟩
      ·refine Ai f Z cD ?_
       refine An ?_
       refine Ae ?_
       refine Aw 1 0 (ds:=[an]) m AE f Z Z Z Z Z λa f=>AD 3 0 (ds:=[an]) m sizeOf26 f Z Z Z (AL (Ow2.one1 2 m aq Z) AO) Z (lb Z) Z λw m=>Aa ?_
       refine Ao ?_
       have cO:=BM (P:=prog) 3 m AE f (s:=2) rfl rfl rfl
       have m:=m.fr 2
       have m:=m.eraseAt 3
       have m:Mem W aR w (ao::ib b0 181 [aV,(iv aO.2.2.1),(iv aO.2.2.2)]::H):=m.eraseAt 2
       obtain rfl:=sj hd
       exact⟨[(.agg #[an])],⟨cO,trivial⟩,f.d,_,[ao,ib b0 181 [aV,(iv aO.2.2.1),(iv aO.2.2.2)]],(gt al (gt aA (gt aK aT))),m,_,_,_,Z,Z,aq,aW⟩
 ·refine Ai f Z aE ?_
  refine An ?_
  refine Ae ?_
  refine Aw 1 0 (ds:=[an]) m AE f Z Z Z Z Z λa f=>AD 3 0 (ds:=[an]) m sizeOf26 f Z Z Z (AL (Ow2.one1 2 m aq Z) AO) Z (lb Z) Z λw m=>Aa ?_
  refine Ao ?_
  have cP:=BM (P:=prog) 3 m AE f (s:=2) rfl rfl rfl
  have m:=m.fr 2
  have m:=m.eraseAt 3
  have m:=m.eraseAt 2
  obtain rfl:=sj hd
  exact⟨[(.agg #[an])],⟨cP,trivial⟩,f.d,_,[ao,ib b0 181 [aC,(iv av.2.2.1),(iv av.2.2.2)]],(gt al aA),m,_,_,_,Z,Z,aq,aD⟩
theorem Wk.b {aa:Value}{ab:LL}(m:Mem W G w (H))(ac:R2 G aa ab){y:Int}(hd:D.b ab=some y):
  Calls prog 61 #[(.agg #[aa])] w (Res W G H (λ_ Ho v=>Ho=[]∧v=(iv y))):=by
 refine Ap (args:=[(.agg #[aa])]) (N:=6) [.tmp 2] func61 Z Z (lb Z) Z λa f=> ?_
 unfold D.b at hd
 refine Ae ?_
 refine A8 (cs:=[aa]) m f Z Z Z λad w a m f=>Ac f Z λa f=>Az ?_
 refine BQ underlying26 Z sizeOf24 f Z λa f=>AV 0 0 m BH f Z Z Z Z λa f=>AZ underlying24 f Z Z ac λa f=>Ac f Z λa f=>Aa ?_
 refine Ao ?_
 have m:Mem W G w H:=Mem.drop (H':=[ib ad 26 [aa]]) m
 obtain rfl:=sj hd
 exact⟨[(iv (ab.length:Int))],f.g Z,f.d,_,[],gr,m,Z,Z⟩
theorem Wk.P {v0:Value}{x0:LI}{x1:Int}(m:Mem W G w (H))(h0:R1 G v0 x0){y:Bool}(hd:D.P x0 x1=some y):
  Calls prog 63 #[v0,(iv x1)] w (Res W G H (λ_ Ho v=>Ho=[]∧v=(.bool y))):=by
 refine Ap (args:=[v0,(iv x1)]) (N:=40) [.tmp 4] func63 Z Z (lb Z) Z λa f=> ?_
 unfold D.P at hd
 refine Ae ?_
 refine Ac f Z λa f=>Aa (Ag (Ae ?_))
 refine Ab f Z λa f=>AZ underlying33 f Z Z h0 λa f=>Ab f Z λa f=>Aj f Z Z Cu λa f=>Aa ?_
 rcases Af hd with⟨aa,hd⟩|⟨aa,hd⟩
 ·refine Al f Z aa ?_
  refine Ae ?_
  refine Ac f Z λa f=>Aa ?_
  refine Ao ?_
  obtain rfl:=sj hd
  exact⟨[(.bool false)],f.g Z,f.d,_,[],gr,m,Z,Z⟩
 ·refine Ai f Z aa ?_
  refine An ?_
  refine Ag (Ae ?_)
  refine Ac f Z λa f=>Aa ?_
  have⟨ab,ac,hd⟩:=bind_some hd
  refine AM (λa w=>∃q_150':Unit,ab= .inl q_150'∧∃(ad:GH),GLe G ad∧Fr a 40 []∧Mem W ad w (H)) ?_ ?_
  ·refine Ak ?_
   refine AI (λae a w=>∃af:Int,af=ae∧∃(ag:GH),GLe G ag∧Fr a 40 [(0,v0),(1,(iv x1)),(5,(iv af))]∧Mem W ag w (H)) ac ⟨_,Z,_,gr,f.k Z,m⟩ ?_
   clear ac f m
   rintro ae ah ai aj a w ⟨af,rfl,ag,ak,f,m⟩
   have h0:=rd1 ak h0
   refine Ag (Ae ?_)
   refine Ab f Z λa f=>Ab f Z λa f=>AZ underlying33 f Z Z h0 λa f=>Aj f Z Z AP λa f=>Aa ?_
   rcases Af ai with⟨al,ai⟩|⟨al,ai⟩
   ·refine Al f Z al ?_
    refine An ?_
    refine Ag (Ak (Ag ?_))
    refine Bp 24 A7 (by kernel_rfl) m ?_
    refine AJ 0 24 Z f Z λa f=>AJ 1 24 Z f Z λa f=> ?_
    have⟨am,an,ai⟩:=bind_some ai
    refine B8 2 24 T33 h0 an Z f Z Z λao ap a aq ar f=> ?_
    subst ar
    refine B6 3 24 Pl2 aq Z f Z λa f=>AJ 4 24 Z f Z λa f=>q_p 5 24 Z f (λ_=>Bm (f.e Z) (f.e Z) Ct) λa f=> ?_
    have⟨au,av,ai⟩:=bind_some ai
    refine B7 (i:=6) 24 Z (by kernel_rfl) Z f Z Z Z call62 (λ_ _ w aw m=>Wk.d m av) λa f=>q_p 7 24 Z f (λ_=>Bc (f.e Z)) λa f=>AJ 8 24 Z f Z λa f=> ?_
    have⟨ax,ay,ai⟩:=bind_some ai
    refine q_cut (fuel':=0) (listed':= #[true,true,true,true,true,true,true,true,true,true,true,true,true,true,true,true,true,true,true,true,true,true,true,true]) (λa=>Fr a 40 [(0,v0),(1,(iv x1)),(5,(iv af)),(13,(.bool (decide (af<(x0.length:Int))))),(16,v0),(17,(iv af)),(18,ao),(19,(iv am)),(20,(iv x1)),(21,(iv (i64.wrap (x1-1)))),(22,(.bool au)),(23,(.bool (!au))),(24,(.bool (!au))),(39,(.bool ax))]) ?_ ?_
    ·intro a f
     refine Bd λaz w aA m=>Aa ?_
     rcases Af ai with⟨aB,ai⟩|⟨aB,ai⟩
     ·refine Al f Z aB ?_
      refine Ae ?_
      refine Ac f Z λa f=>Aa ?_
      refine Ao ?_
      obtain rfl:=sj ai
      obtain rfl:=aj _ rfl
      obtain rfl:=sj hd
      exact⟨[(.bool false)],f.g Z,f.d,_,[],(gt ak aA),m,Z,Z⟩
     ·refine Ai f Z aB ?_
      refine An ?_
      refine Ah ?_
      refine Ab f Z λa f=>Aj f Z Z Ay λa f=>Ac f Z λa f=>Aa ?_
      obtain rfl:=sj ai
      exact⟨_,Z,_,Z,_,(gt ak aA),f.k Z,m⟩
    ·intro aC
     rcases Af ay with⟨aD,ay⟩|⟨aD,ay⟩
     ·refine Bb 9 24 Z f aD λa f=> ?_
      refine Bb 10 24 Z f aD λa f=>Bb 11 24 Z f aD λa f=>q_nu 12 24 Z f λa f=>q_nu 13 24 Z f λa f=>q_nu 14 24 Z f λa f=>q_nu 15 24 Z f λa f=>q_nu 16 24 Z f λa f=>q_nu 17 24 Z f λa f=>q_nu 18 24 Z f λa f=>q_nu 19 24 Z f λa f=>q_nu 20 24 Z f λa f=>q_nu 21 24 Z f λa f=>Bb 22 24 Z f aD λa f=>q_p 23 24 Z f (λ_=>AW (f.e Z) aD (f.e Z)) λa f=> ?_
      obtain rfl:=sj ay
      exact aC _ (f.k Z)
     ·refine AJ (hw:=wo f aD) 9 24 Z f Z λa f=> ?_
      refine q_p (hw:=wo f aD) 10 24 Z f (λ_=>Bm (f.e Z) (f.e Z) Cu) λa f=>AJ (hw:=wo f aD) 11 24 Z f Z λa f=> ?_
      have⟨aE,aF,ay⟩:=bind_some ay
      refine q_cut (fuel':=1) (listed':= #[true,true,true,true,true,true,true,true,true,true,true,true,true,true,true,true,true,true,true,true,true,true,true,false]) (λa=>Fr a 40 [(0,v0),(1,(iv x1)),(5,(iv af)),(13,(.bool (decide (af<(x0.length:Int))))),(16,v0),(17,(iv af)),(18,ao),(19,(iv am)),(20,(iv x1)),(21,(iv (i64.wrap (x1-1)))),(22,(.bool au)),(23,(.bool (!au))),(24,(.bool (!au))),(25,(iv af)),(26,(.bool (decide ((0:Int)<af)))),(27,(.bool (decide ((0:Int)<af)))),(38,(.bool aE))]) ?_ ?_
      ·intro a f
       refine q_p 23 24 Z f (λ_=>AX (f.e Z) aD (f.e Z)) λa f=> ?_
       obtain rfl:=sj ay
       exact aC _ (f.k Z)
      ·intro aG
       rcases Af aF with⟨aH,aF⟩|⟨aH,aF⟩
       ·refine AJ (hw:=wo f aH) 12 24 Z f Z λa f=> ?_
        refine AJ (hw:=wo f aH) 13 24 Z f Z λa f=> ?_
        have⟨aI,aJ,aF⟩:=bind_some aF
        refine B8 (hw:=wo f aH) 14 24 T33 h0 aJ Z f Z Z λaK aL a aM aN f=> ?_
        subst aN
        refine B6 (hw:=wo f aH) 15 24 Pl2 aM Z f Z λa f=>AJ (hw:=wo f aH) 16 24 Z f Z λa f=>AJ (hw:=wo f aH) 17 24 Z f Z λa f=>q_p (hw:=wo f aH) 18 24 Z f (λ_=>Bm (f.e Z) (f.e Z) Ct) λa f=> ?_
        have⟨aO,aP,aF⟩:=bind_some aF
        refine B8 (hw:=wo f aH) 19 24 T33 h0 aP Z f Z Z λaQ aR a aS aT f=> ?_
        subst aT
        refine B6 (hw:=wo f aH) 20 24 Pl2 aS Z f Z λa f=>q_p (hw:=wo f aH) 21 24 Z f (λ_=>Bm (f.e Z) (f.e Z) CN) λa f=>q_p (hw:=wo f aD) 22 24 Z f (λ_=>AW (f.e Z) aH (f.e Z)) λa f=> ?_
        obtain rfl:=sj aF
        exact aG _ (f.k Z)
       ·refine Bb 12 24 Z f aH λa f=> ?_
        refine Bb 13 24 Z f aH λa f=>Bb 14 24 Z f aH λa f=>Bb 15 24 Z f aH λa f=>Bb 16 24 Z f aH λa f=>Bb 17 24 Z f aH λa f=>Bb 18 24 Z f aH λa f=>Bb 19 24 Z f aH λa f=>Bb 20 24 Z f aH λa f=>Bb 21 24 Z f aH λa f=>q_p (hw:=wo f aD) 22 24 Z f (λ_=>AX (f.e Z) aH (f.e Z)) λa f=> ?_
        obtain rfl:=sj aF
        exact aG _ (f.k Z)
   ·refine Ai f Z al ?_
    refine AG Z ?_
    obtain rfl:=sj ai
    obtain rfl:=aj _ rfl
    exact⟨_,Z,_,ak,f.weak trivial,m⟩
  ·rintro a w ⟨_,rfl,ad,aU,f,m⟩
   refine Ae ?_
   refine Ac f Z λa f=>Aa ?_
   refine Ao ?_
   obtain rfl:=sj hd
   exact⟨[(.bool true)],f.g Z,f.d,_,[],aU,m,Z,Z⟩
theorem Wk.e {v0:Value}{x0:LI}{x1:Int}(m:Mem W G w (H))(h0:R1 G v0 x0){y:Bool}(hd:D.e x0 x1=some y):
  Calls prog 64 #[v0,(iv x1)] w (Res W G H (λ_ Ho v=>Ho=[]∧v=(.bool y))):=by
 refine Ap (args:=[v0,(iv x1)]) (N:=18) [.tmp 4] func64 Z Z (lb Z) Z λa f=> ?_
 unfold D.e at hd
 refine Ae ?_
 refine Ac f Z λa f=>Aa (Ag (Ae ?_))
 refine Ac f Z λa f=>Aa ?_
 have⟨aa,ab,hd⟩:=bind_some hd
 refine AM (λa w=>∃q_19':Unit,aa= .inl q_19'∧∃(ac:GH),GLe G ac∧Fr a 18 []∧Mem W ac w (H)) ?_ ?_
 ·refine Ak ?_
  refine AI (λad a w=>∃ae:Int,ae=ad∧∃(af:GH),GLe G af∧Fr a 18 [(0,v0),(1,(iv x1)),(5,(iv ae))]∧Mem W af w (H)) ab ⟨_,Z,_,gr,f.k Z,m⟩ ?_
  clear ab f m
  rintro ad ag ah ai a w ⟨ae,rfl,af,aj,f,m⟩
  have h0:=rd1 aj h0
  refine Ag (Ae ?_)
  refine Ab f Z λa f=>Ab f Z λa f=>AZ underlying33 f Z Z h0 λa f=>Aj f Z Z AP λa f=>Aa ?_
  rcases Af ah with⟨ak,ah⟩|⟨ak,ah⟩
  ·refine Al f Z ak ?_
   refine An ?_
   refine Ag (Ak (Ae ?_))
   refine Ab f Z λa f=>Ab f Z λa f=> ?_
   have⟨al,am,ah⟩:=bind_some ah
   refine Be T33 f Z Z Z h0 am λan ao a ap aq f=> ?_
   subst aq
   refine AK m Pl2 f Z Z ap λa f=>Ab f Z λa f=>Aj f Z Z BW λa f=>Aa ?_
   rcases Af ah with⟨ar,ah⟩|⟨ar,ah⟩
   ·refine Al f Z ar ?_
    refine Ae ?_
    refine Ac f Z λa f=>Aa ?_
    refine Ao ?_
    obtain rfl:=sj ah
    obtain rfl:=ai _ rfl
    obtain rfl:=sj hd
    exact⟨[(.bool true)],f.g Z,f.d,_,[],aj,m,Z,Z⟩
   ·refine Ai f Z ar ?_
    refine An ?_
    refine Ah ?_
    refine Ab f Z λa f=>Aj f Z Z Ay λa f=>Ac f Z λa f=>Aa ?_
    obtain rfl:=sj ah
    exact⟨_,Z,_,Z,_,aj,f.k Z,m⟩
  ·refine Ai f Z ak ?_
   refine AG Z ?_
   obtain rfl:=sj ah
   obtain rfl:=ai _ rfl
   exact⟨_,Z,_,aj,f.weak trivial,m⟩
 ·rintro a w ⟨_,rfl,ac,au,f,m⟩
  refine Ae ?_
  refine Ac f Z λa f=>Aa ?_
  refine Ao ?_
  obtain rfl:=sj hd
  exact⟨[(.bool false)],f.g Z,f.d,_,[],au,m,Z,Z⟩
end Go.Proofs.YtgadoeifdbijcaaGreatDoor
