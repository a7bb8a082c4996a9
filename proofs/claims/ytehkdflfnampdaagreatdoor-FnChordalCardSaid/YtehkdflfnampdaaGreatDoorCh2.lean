/- Parts. -/
import Derived.Test.YtehkdflfnampdaaGreatDoorCh1
import Derived.Maps.AppendAt
import Derived.ArgAppend
import Derived.Shelf.Small.Bits
import Derived.Test.YtehkdflfnampdaaGreatDoorProg
import Derived.RangeFuncBox
import Derived.RangeFuncLeaves
import Derived.Shelf.Abstract
import Derived.WalkKit
import Derived.OwnWalkIn
import Derived.TacticsInMore
import Derived.LoopNIn
import Derived.LoopIn
import Derived.KernelRfl
set_option linter.unusedVariables false
set_option linter.unusedSimpArgs false
namespace Go.Sx
structure Rec (α:Type) where
 m:Nat
 enc:α→List Value
 len:∀x,(enc x).length=m
 pos:0<m
 one:∀x c,c∈enc x→c.oneCell'=true
section
variable {α : Type} (E : Rec α)
theorem Rec.size (xs:List α):(xs.flatMap E.enc).length=xs.length*E.m:=by
 induction xs with
 |nil=>simp
 |cons x xs ih=>rw[List.flatMap_cons,List.length_append,ih,E.len,List.length_cons,Nat.succ_mul];omega
theorem Rec.get :∀(xs:List α) (i:Nat) (x:α) (j:Nat) (c:Value),xs[i]? =some x→(E.enc x)[j]? =some c→(xs.flatMap E.enc)[i*E.m+j]? =some c
 |[],i,x,j,c,hx,_=>by simp at hx
 |y::xs,0,x,j,c,hx,hc=>by
  simp at hx;subst hx
  have hj:=(List.getElem?_eq_some_iff.1 hc).1
  rw[List.flatMap_cons,Nat.zero_mul,Nat.zero_add,List.getElem?_append_left hj];exact hc
 |y::xs,i+1,x,j,c,hx,hc=>by
  simp at hx
  have ih:=Rec.get xs i x j c hx hc
  rw[List.flatMap_cons,List.getElem?_append_right (by rw[E.len,Nat.succ_mul];omega),E.len,Nat.succ_mul]
  rwa [show i*E.m+E.m+j-E.m=i*E.m+j by omega]
theorem Rec.put :∀(xs:List α) (i:Nat) (x y:α) (f:Nat) (ds:List Value),xs[i]? =some x→f+ds.length≤E.m→E.enc y=(E.enc x).take f++ds++(E.enc x).drop (f+ds.length)→
  (xs.flatMap E.enc).take (i*E.m+f)++ds++(xs.flatMap E.enc).drop (i*E.m+f+ds.length)=(xs.set i y).flatMap E.enc
 |[],i,x,y,f,ds,hx,_,_=>by simp at hx
 |z::xs,0,x,y,f,ds,hx,hf,hE=>by
  simp at hx;subst hx
  have hl:=E.len z
  rw[List.flatMap_cons,Nat.zero_mul,Nat.zero_add,List.set_cons_zero,List.flatMap_cons,hE,List.take_append_of_le_length (by omega),List.drop_append_of_le_length (by omega)]
  simp
 |z::xs,i+1,x,y,f,ds,hx,hf,hE=>by
  simp at hx
  have ih:=Rec.put xs i x y f ds hx hf hE
  have hl:=E.len z
  rw[List.flatMap_cons,List.set_cons_succ,List.flatMap_cons,←ih,Nat.succ_mul]
  have e1:i*E.m+E.m+f=(E.enc z).length+(i*E.m+f):=by omega
  have e2:i*E.m+E.m+f+ds.length=(E.enc z).length+(i*E.m+f+ds.length):=by omega
  rw[e1,List.take_length_add_append,←e1,e2,List.drop_length_add_append]
  simp
end
def RSr {α:Type}(E:Rec α):Rep (List α):=λG v xs=>
 (v= .slice none 0 0∧xs=[])∨∃a cap,v= .slice (some a) xs.length cap∧xs.length≤cap∧cap≤maxLen∧
  ∀(k:Nat) (c:Value),(xs.flatMap E.enc)[k]? =some c→a.spot=Option.none∧Cell G a.block (a.off+k) c
section
variable {α : Type} {E : Rec α}
theorem RSr.mono (_:True):CB (RSr E):=by
 rintro G G' v xs hG (h|⟨a,cap,h1,h2,h3,h4⟩)
 ·exact .inl h
 ·exact .inr ⟨a,cap,h1,h2,h3,λk c hc=>⟨(h4 k c hc).1,(h4 k c hc).2.mono hG⟩⟩
theorem RSr.nil (E:Rec α)(G:GH):RSr E G (.slice none 0 0) []:= .inl ⟨rfl,rfl⟩
theorem RSr.len {G:GH}{v:Value}{xs:List α}(h:RSr E G v xs):∃a c,v= .slice a xs.length c∧xs.length≤c∧c≤maxLen:=by
 rcases h with⟨rfl,rfl⟩|⟨a,cap,rfl,h1,h2,_⟩
 ·exact⟨none,0,rfl,by simp,by simp[maxLen]⟩
 ·exact⟨_,cap,rfl,h1,h2⟩
theorem RSr.cells {G:GH}{v:Value}{xs:List α}(h:RSr E G v xs):v.cells= #[v]:=by obtain⟨a,c,rfl,_⟩:=h.len;rfl
theorem RSr.one1 {G:GH}{v:Value}{xs:List α}(h:RSr E G v xs):v.oneCell'=true:=by obtain⟨a,c,rfl,_⟩:=h.len;rfl
def AtR (E:Rec α)(G:GH)(p:Value)(x:α):Prop:=∃b o,p= .pointer (some ⟨b,o,none⟩)∧∀(j:Nat) (c:Value),(E.enc x)[j]? =some c→Cell G b (o+j) c
theorem AtR.mono {G G':GH}(h:GLe G G'){p:Value}{x:α}(k:AtR E G p x):AtR E G' p x:=by
 obtain⟨b,o,e,hc⟩:=k
 exact⟨b,o,e,λj c hj=>(hc j c hj).mono h⟩
theorem RSr.at {G:GH}{v:Value}{xs:List α}(h:RSr E G v xs){i:Int}{x:α}(he:idx xs i=some x):
  ∃b off n c,v= .slice (some ⟨b,off,none⟩) n c∧0≤i∧i<n∧∀(j:Nat) (c:Value),(E.enc x)[j]? =some c→Cell G b (off+i.toNat*E.m+j) c:=by
 obtain⟨h0,h1,h2⟩:=CA he
 rcases h with⟨_,rfl⟩|⟨⟨b,off,sp⟩,cap,rfl,_,_,h4⟩
 ·simp at h2
 ·have hl0:0<(E.enc x).length:=by rw[E.len];exact E.pos
  have hs:=(h4 _ _ (E.get xs _ x 0 (E.enc x)[0] h2 (by simp[hl0]))).1
  dsimp only at hs h4
  subst hs
  refine⟨b,off,_,cap,rfl,h0,h1,λj c hc=> ?_⟩
  rw[Nat.add_assoc]
  exact(h4 _ c (E.get xs _ x j c h2 hc)).2
def OwR (E:Rec α)(t:TypeId)(_:GH)(it:Itm)(v:Value)(xs:List α):Prop:=it= .row v t E.m xs.length (xs.flatMap E.enc)
theorem OwR.mono (_:True){t:TypeId}{G G':GH}{it:Itm}{v:Value}{xs:List α}(_:GLe G G')(h:OwR E t G it v xs):OwR E t G' it v xs:=h
theorem OwR.free (_:True){t:TypeId}{G:GH}(G':GH){it:Itm}{v:Value}{xs:List α}(h:OwR E t G it v xs):OwR E t G' it v xs:=h
theorem OwR.has {t:TypeId}{W w:World}{G G':GH}{it:Itm}{H:List Itm}{v:Value}{xs:List α}(h:OwR E t G it v xs)(m:Mem W G' w H){j:Nat}(hj:H[j]? =some it):w.ownsRow 0 t E.m v xs.length (xs.flatMap E.enc):=by
 subst h;exact m.items j _ hj
theorem OwR.len {t:TypeId}{W w:World}{G G':GH}{it:Itm}{H:List Itm}{v:Value}{xs:List α}(h:OwR E t G it v xs)(m:Mem W G' w H){j:Nat}(hj:H[j]? =some it):
  ∃a c,v= .slice a xs.length c∧xs.length≤c∧c≤maxLen:=by
 rcases(h.has m hj).2 with⟨h1,h2⟩|⟨g,cap,cur,h1,_,_,h2,h3,_⟩
 ·exact⟨none,0,by rw[h1,h2],by omega,by simp[maxLen]⟩
 ·exact⟨_,cap,h1,h2,h3⟩
theorem OwR.cells {t:TypeId}{W w:World}{G:GH}{it:Itm}{H:List Itm}{v:Value}{xs:List α}(j:Nat)(m:Mem W G w H)(h:OwR E t G it v xs)(hj:H[j]? =some it):v.cells= #[v]:=by
 obtain⟨a,c,rfl,_⟩:=h.len m hj;rfl
theorem OwR.one1 {t:TypeId}{W w:World}{G:GH}{it:Itm}{H:List Itm}{v:Value}{xs:List α}(j:Nat)(m:Mem W G w H)(h:OwR E t G it v xs)(hj:H[j]? =some it):v.oneCell'=true:=by
 obtain⟨a,c,rfl,_⟩:=h.len m hj;rfl
theorem OwR.nil (E:Rec α)(t:TypeId){W w:World}{G:GH}{H:List Itm}(m:Mem W G w H):∃it,Mem W G w (it::H)∧OwR E t G it (.slice none 0 0) []:=
 ⟨_,m.nilrow t E.m,by simp[OwR]⟩
theorem OwR.reads {t:TypeId}{w:World}{G':GH}{it:Itm}{v:Value}{xs:List α}(h:it= .row v t E.m xs.length (xs.flatMap E.enc))(hok:it.ok w)(hG:∀x∈it.foot,G' x=w.heap[x]?):RSr E G' v xs:=by
 subst h
 have this:w.ownsRow 0 t E.m v xs.length (xs.flatMap E.enc):=hok
 rcases this.2 with⟨e1,e2⟩|⟨g,cap,cur,e1,_,eh,e2,e3,e4,e5⟩
 ·exact .inl ⟨e1,List.eq_nil_of_length_eq_zero e2⟩
 ·refine .inr ⟨⟨g,0,none⟩,cap,e1,e2,e3,λk c hc=>⟨rfl,cur,t,(0,0),?_,?_⟩⟩
  ·rw[hG g (by rw[e1];simp[Itm.foot,Value.ownBlock]),eh]
  ·rw[←e5,List.getElem?_take] at hc
   split at hc
   ·simpa using hc
   ·cases hc
theorem OwR.stamp (_:True){t:TypeId}{W w:World}{G:GH}{it:Itm}{H:List Itm}{v:Value}{xs:List α}(h:OwR E t G it v xs)(m:Mem W G w (it::H)):
  ∃G',GLe G G'∧Mem W G' w H∧RSr E G' v xs:=by
 obtain⟨G',h1,h2,h3,_⟩:=m.stamp
 exact⟨G',h1,h2,OwR.reads h (m.items 0 it (by simp)) h3⟩
theorem OwR.lend {t:TypeId}{W w:World}{G:GH}{it:Itm}{H:List Itm}{v:Value}{xs:List α}(h:OwR E t G it v xs)(m:Mem W G w (it::H)):
  ∃G',GLe G G'∧Mem W G' w H∧RSr E G' v xs∧
   ∀G'' w' H',GLe G' G''→Mem W G'' w' H'→∃G₃,GLe G G₃∧Mem W G₃ w' (it::H')∧OwR E t G₃ it v xs:=by
 obtain⟨G',h1,h2,h3,h4⟩:=m.stamp
 have hok:it.ok w:=m.items 0 it (by simp)
 have hap:∀x∈it.foot,G x=none:=m.apart 0 it (by simp)
 have hlt:=Itm.lt hok
 refine⟨G',h1,h2,OwR.reads h hok h3,λG'' w' H' hle m'=> ?_⟩
 have hx:∀x∈it.foot,G'' x=w.heap[x]? :=λx hx=>by
  have hl:=hlt x hx
  have:G' x=some w.heap[x]:=by rw[h3 x hx];simp[hl]
  rw[hle x _ this];simp[hl]
 refine⟨_,λb o k=> ?_,m'.unstamp hx hok (λi z hz x hxz hxi=> ?_) (λx hxi=> ?_),h⟩
 ·have:b∉it.foot:=λhx=>by rw[hap b hx] at k;cases k
  simp[this,hle b o (h1 b o k)]
 ·have h5:=m'.apart i z hz x hxz
  have hl:=hlt x hxi
  rw[hx x hxi] at h5
  simp[hl] at h5
 ·cases hg:W.heap[x]? with
  |none=>rfl
  |some o=>have h5:=m.base x o hg;rw[hap x hxi] at h5;cases h5
theorem OwR.lendCall {P:Program}{g:FuncId}{args:Array Value}(_:True){t:TypeId}{W w:World}{G:GH}{it:Itm}{H:List Itm}{v:Value}{xs:List α}{Q:GH→List Itm→Value→Prop}(j:Nat)
  (h:OwR E t G it v xs) (m:Mem W G w H) (hj:H[j]? =some it)
  (hc:∀G₁,GLe G G₁→Mem W G₁ w (H.eraseIdx j)→RSr E G₁ v xs→Calls P g args w (Res W G₁ (H.eraseIdx j) Q)) (hQ:∀G G' Ho v,Q G Ho v→Q G' Ho v):Calls P g args w (Res W G H Q):=by
 obtain⟨G₁,h1,m1,h2,back⟩:=h.lend (m.front j hj)
 refine(hc G₁ h1 m1 h2).mono λe w' ⟨r,he,G₂,Ho,h3,m2,hq⟩=> ?_
 obtain⟨G₃,h4,m3,_⟩:=back G₂ w' _ h3 m2
 refine⟨r,he,G₃,Ho,h4,?_,hQ _ _ _ _ hq⟩
 have hl:j<H.length:=(List.getElem?_eq_some_iff.1 hj).1
 have m4:=m3.back (Ho.length+j) (by simp[List.length_eraseIdx,hl];omega)
 have e:(Ho++H.eraseIdx j).take (Ho.length+j)++it::(Ho++H.eraseIdx j).drop (Ho.length+j)=Ho++H:=by
  rw[List.take_length_add_append,List.drop_length_add_append,List.append_assoc]
  congr 1
  rw[CV H j it hl]
  apply List.ext_getElem?
  intro k
  rw[List.getElem?_set]
  split
  ·rename_i e;subst e;simp[hl] at hj ⊢;exact hj.symm
  ·rfl
 rwa [e] at m4
end
section
variable {P : Program} {ops : Array Oper} {rest : List Oper} {n r : A7} {x : List (Nat × A7)} {a : Act} {w : World} {N : Nat} {L : Bf}
variable {d : Nat} {t : TypeId} {pos : String} {af : Array Edge} {W : World} {G : GH} {H : List Itm} {α : Type} {E : Rec α}
theorem AtR.cell {p:Value}{y:α}(h:AtR E G p y){fo:Nat}{c:Value}(hc:(E.enc y)[fo]? =some c):∃b o,p= .pointer (some ⟨b,o,none⟩)∧Cell G b (o+fo) c:=by
 obtain⟨b,o,e,hh⟩:=h
 exact⟨b,o,e,hh fo c hc⟩
end
section
variable {P : Program} {ops : Array Oper} {nn r : A7} {x : List (Nat × A7)} {T : Act → World → Prop} {W : World} {G : GH} {E H : List Itm} {N : Nat} {L : Bf} {a : Act} {fuel : Nat} {listed listed' : Array Bool}
variable {t : TypeId} {pos : String} {af : Array Edge} {gd : Option (Nat × Bool)} {d i : Nat} {α : Type} {C : Rec α}
end
end Go.Sx

namespace Go.Sx
def RTg {α:Type}(R:Rep α):Rep (Value×List α):=λG v x=>v=x.1∧RSl R G v x.2
theorem RTg.mono {α:Type}{R:Rep α}(hR:CB R):CB (RTg R):=λ_ _ _ _ hG h=>⟨h.1,RSl.mono hR _ _ _ _ hG h.2⟩
theorem RTg.one {α:Type}(R:Rep α):One (RTg R):=λ_ _ _ h=>RSl.one R _ _ _ h.2
theorem RTg.cells {α:Type}{R:Rep α}{G:GH}{v:Value}{x:Value×List α}(h:RTg R G v x):v.cells= #[v]:=h.2.cells
theorem RTg.one1 {α:Type}{R:Rep α}{G:GH}{v:Value}{x:Value×List α}(h:RTg R G v x):v.oneCell'=true:=h.2.one1
section
variable {W w : World} {G : GH} {H : List Itm}
theorem Mem.flip {A:List Itm}{x y:Itm}(m:Mem W G w (A++x::y::H)):Mem W G w (A++y::x::H):=by
 refine m.inj (λk=>if k=A.length then A.length+1 else if k=A.length+1 then A.length else k) (by intro a b;split<;>split<;>(repeat' split)<;>omega) ?_
 intro k z hz
 by_cases h1:k=A.length
 ·subst h1;simp at hz ⊢;exact hz
 ·by_cases h2:k=A.length+1
  ·subst h2
   simp only[Nat.succ_ne_self,if_false,if_true]
   rw[List.getElem?_append_right (by omega)] at hz
   simp at hz ⊢;exact hz
  ·simp only[h1,h2,if_false]
   by_cases h3:k<A.length
   ·rw[List.getElem?_append_left h3] at hz ⊢;exact hz
   ·rw[List.getElem?_append_right (by omega)] at hz ⊢
    obtain⟨q,hq⟩:∃q,k-A.length=q+2:=⟨k-A.length-2,by omega⟩
    rw[hq] at hz ⊢;exact hz
theorem Mem.perm {L L':List Itm}(p:L.Perm L'):∀(A H:List Itm),Mem W G w (A++L++H)→Mem W G w (A++L'++H):=by
 induction p with
 |nil=>exact λ_ _ m=>m
 |cons x _ ih=>intro A H m;have:=ih (A++[x]) H (by simpa using m);simpa using this
 |swap x y l=>intro A H m;have:=Mem.flip (A:=A) (H:=l++H) (x:=y) (y:=x) (by simpa using m);simpa using this
 |trans _ _ i1 i2=>exact λA H m=>i2 A H (i1 A H m)
end
section
variable {P : Program} {g : FuncId} {args : Array Value} {α : Type} {R : Rep α} {t1 t2 : TypeId} {W w : World} {G : GH} {it : Itm} {H : List Itm} {v : Value} {xs ys : List (List α)}
end
end Go.Sx

namespace Go.Sx
end Go.Sx

namespace Go.Sx
def isNil :Value→Bool
 | .slice none _ _=>true
 |_=>false
section
variable {P : Program} {ρ : Operand → Value} {w : World} {d : Option Tmp} {t : TypeId} {pos : String} {af : Array Edge} {gd : Option (Nat × Bool)}
theorem run_eq_nil_aux (dd:Nat){u e:TypeId}{v:Value}(hu:P.underlying u=some (.slice e))(hv:∃a l c,v= .slice a l c):(Op.equalIn (dd+1) u v (.slice none 0 0)).run P w= .ok (isNil v) w:=by
 obtain⟨a,l,c,rfl⟩:=hv
 cases a<;>simp[Op.equalIn,run_underlying hu,isNil]
theorem run_eq_nil {u e:TypeId}{v:Value}(hu:P.underlying u=some (.slice e))(hv:∃a l c,v= .slice a l c):(Op.equal u v (.slice none 0 0)).run P w= .ok (isNil v) w:=run_eq_nil_aux 9999 hu hv
theorem r_nil_neq {u u' e:TypeId}{x y:Operand}{v:Value}{b:Bool}(hx:ρ x=v)(hy:ρ y= .slice none 0 0)(hv:∃a l c,v= .slice a l c)(hu:P.underlying u=some (.slice e))(hb:isNil v=b):
  (execOp ρ ⟨d,.binOp .neq u x y u',t,pos,af,gd⟩).run P w= .ok (.value (.bool (!b))) w:=by
 have hg:(eqGuard .neq u x y v (.slice none 0 0)).run P w= .ok () w:=by
  obtain⟨a,l,c,rfl⟩:=hv
  unfold eqGuard;rfl
 have e1:(binOp .neq u v (.slice none 0 0)).run P w= .ok (.bool (!b)) w:=by
  rw[←hb]
  have:=run_eq_nil (w:=w) hu hv
  obtain⟨a,l,c,rfl⟩:=hv
  simp[binOp,this]
 simp[execOp,hx,hy,hg,e1]
end
theorem RSl.hdr {α:Type}{R:Rep α}{G:GH}{v:Value}{xs:List α}(h:RSl R G v xs):∃a l c,v= .slice a l c:=by
 obtain⟨a,c,rfl,_⟩:=h.len;exact⟨_,_,_,rfl⟩
theorem Ow.hdr {α:Type}{R:Rep α}{t:TypeId}{W w:World}{G:GH}{it:Itm}{H:List Itm}{v:Value}{xs:List α}(j:Nat)(m:Mem W G w H)(h:Ow R t G it v xs)(hj:H[j]? =some it):∃a l c,v= .slice a l c:=by
 obtain⟨a,c,rfl,_⟩:=h.len (m.front j hj);exact⟨_,_,_,rfl⟩
def nonE {α:Type}:List α→Option Unit
 |[]=>none
 |_=>some ()
theorem Ow.notNil {α:Type}{R:Rep α}{t:TypeId}{W w:World}{G:GH}{it:Itm}{H:List Itm}{v:Value}{xs:List α}{u:Unit}(j:Nat)(m:Mem W G w H)(h:Ow R t G it v xs)(hj:H[j]? =some it)(hx:nonE xs=some u):isNil v=xs.isEmpty:=by
 obtain⟨vs,rfl,hA⟩:=h
 have ok:=m.items j _ hj
 have:xs≠[]:=by rintro rfl;simp[nonE] at hx
 rcases ok.2 with⟨rfl,e⟩|⟨g,cap,cur,rfl,_⟩
 ·exact absurd (List.eq_nil_of_length_eq_zero e) this
 ·cases xs with
  |nil=>exact absurd rfl this
  |cons x t=>rfl
section
variable {P : Program} {ops : Array Oper} {rest : List Oper} {n r : A7} {x : List (Nat × A7)} {a : Act} {w : World} {N : Nat} {L : Bf} {d : Nat} {t : TypeId} {pos : String} {af : Array Edge}
theorem l_makeFunc {fn:Fn}{fs cs:List Operand}{vs us:List Value}(f:Fr a N L)(hN:Nat.blt d N=true)(hf:evalAll L fs=some vs)(hc:evalAll L cs=some us)
  (k:∀a',Fr a' N ((d,.func fn vs.toArray us.toArray)::L)→wpList P ops (Qk n x r) rest a' w):
  wpList P ops (Qk n x r) (⟨some d,.makeFunc fn fs.toArray cs.toArray,t,pos,af,none⟩::rest) a w:=by
 refine Cj f rfl rfl hN (r_makeFunc (v:= .func fn vs.toArray us.toArray) ?_) k
 rw[List.map_toArray,List.map_toArray,f.evalAll hf,f.evalAll hc]
 rfl
end
end Go.Sx

namespace Go.Sx
section
variable {P : Program} {ops : Array Oper} {rest : List Oper} {n r : A7} {x : List (Nat × A7)} {a : Act} {w w' W : World} {G : GH} {H : List Itm} {N : Nat} {L : Bf}
variable {d : Nat} {t : TypeId} {pos : String} {af : Array Edge}
theorem Ow.block {α:Type}{R:Rep α}{tt:TypeId}{it:Itm}{v:Value}{xs:List α}(m:Mem W G w (it::H))(o:Ow R tt G it v xs)(hx:0<xs.length):∃b c,v= .slice (some ⟨b,0,none⟩) xs.length c∧xs.length≤c:=by
 obtain⟨vs,rfl,hA⟩:=o
 have ok:=m.items 0 _ rfl
 rcases ok.2 with⟨rfl,e⟩|⟨g,cap,cur,rfl,_,_,e2,_⟩
 ·omega
 ·exact⟨g,cap,rfl,e2⟩
end
end Go.Sx

namespace Go.Sx
open IntKind
noncomputable section
def D.e0 (b:LI):Option LI:=
 (D.u b).bind λi=>(Ay (σ:=LI×Int) (ρ:=LI ⊕ LI) (fun(e,a)=>cond (a !=0) ((D.h a).bind λf=>(Ay (σ:=Int) (ρ:=(Int)) (fun(c:Int)=>cond (decide (c<(f.length:Int))) ((idx f c).bind λg=>(idx b g).bind λk=>(D.A b (iand .u32 k a)).bind λl=>cond (l==0) (some (.inr g)) (some (.inl (i64.wrap (c+1))))) (some (.inr (-1)))) 0).bind λd=>cond (decide (d<0)) (some (.inr (.inr ([]:LI)))) ((D.a d).bind λm=>(AY e ([d]:LI)).bind λn=>some (.inl (n,(iandNot .u32 a m))))) (some (.inr (.inl e)))) (([]:LI),i)).bind λzz=>match zz with| .inl h=>((nonE h).bind λ_=>some h)| .inr z=>(some z)
def D.s (a:LL):Option (Bool):=
 (D.l a).bind λb=>(cond b ((D.j a).bind λc=>(D.e0 c).bind λd=>some (!d.isEmpty)) (some false)).bind λe=>some e
end
end Go.Sx

namespace Go.Sx
end Go.Sx

namespace Go.Sx
end Go.Sx

namespace Go.Sx
section
variable {P : Program} {ops : Array Oper} {rest : List Oper} {n r : A7} {x : List (Nat × A7)} {a : Act} {w : World} {N : Nat} {L : Bf}
variable {d : Nat} {t : TypeId} {pos : String} {af : Array Edge} {W : World} {G : GH} {H : List Itm} {α : Type} {E : Rec α}
end
end Go.Sx

namespace Go.Sx
end Go.Sx

namespace Go.Sx
end Go.Sx

namespace Go.Sx
end Go.Sx

namespace Go.Sx
section
variable {P : Program} {ops : Array Oper} {nn r : A7} {x : List (Nat × A7)} {a : Act} {W : World} {T : Act → World → Prop} {H E : List Itm} {G : GH} {N fuel : Nat} {L : Bf} {listed listed' : Array Bool}
variable {t : TypeId} {pos : String} {af : Array Edge} {gd : Option (Nat × Bool)} {d i : Nat}
end
end Go.Sx

namespace Go.Sx
end Go.Sx

namespace Go.Sx
noncomputable def D.u1 (h:LI)(i j:Int):Option (LL×LI×Int×Int):=
 (D.k0 h i j).bind λa=>(D.o a.2.1 a.2.2.1 a.2.2.2 2).bind λb=>cond b.1 ((((D.Q b.2.1 b.2.2.1 b.2.2.2 a.1).bind λc=>(D.y a.1 c.1).bind λd=>some (d.1,d.2,a.1,c.2.1,c.2.2.1,c.2.2.2):Option (LL×Bool×LL×LI×Int×Int))).bind fun(k,l,m,e,f,g)=>cond l (some (k,e,f,g)) (some (m,e,f,g))) (some (a.1,b.2.1,b.2.2.1,b.2.2.2))
end Go.Sx

namespace Go.Sx
theorem RSr.sub {α:Type}{E:Rec α}{G:GH}{av:Option Addr}{c:Nat}{xs ys:List α}{lo hi:Int}(h:RSr E G (.slice av xs.length c) xs)(hs:BD xs lo hi=some ys):
  RSr E G (.slice (if c=lo.toNat then av else av.map (·.add (lo.toNat*E.m))) (hi.toNat-lo.toNat) (c-lo.toNat)) ys∧hi≤c:=by
 obtain⟨h0,h1,h2,hys,hl⟩:=Dh hs
 rcases h with⟨e,rfl⟩|⟨⟨b,off,sp⟩,cap,e,h4,h5,h6⟩
 ·cases e
  simp only[List.length_nil] at h2
  have e1:lo=0:=by omega
  have e2:hi=0:=by omega
  subst e1;subst e2
  exact⟨.inl ⟨by simp,by simpa using hys⟩,by omega⟩
 ·cases e
  refine⟨.inr ?_,by omega⟩
  by_cases hc:c=lo.toNat
  ·refine⟨⟨b,off,sp⟩,c-lo.toNat,?_,by omega,by omega,λk u hu=> ?_⟩
   ·rw[if_pos hc,hl]
   ·exfalso
    have:ys=[]:=List.eq_nil_of_length_eq_zero (by omega)
    subst this
    simp at hu
  ·refine⟨(⟨b,off,sp⟩:Addr).add (lo.toNat*E.m),c-lo.toNat,?_,by omega,by omega,λk u hu=> ?_⟩
   ·rw[if_neg hc,hl];rfl
   ·have hsplit:xs.flatMap E.enc=(xs.take lo.toNat).flatMap E.enc++(ys.flatMap E.enc++(xs.drop hi.toNat).flatMap E.enc):=by
     have e1:xs.take hi.toNat=xs.take lo.toNat++ys:=by
      have:=List.take_append_drop lo.toNat (xs.take hi.toNat)
      rw[List.take_take,Nat.min_eq_left (by omega)] at this
      rw[←this,hys]
     have e2:=List.take_append_drop hi.toNat xs
     rw[e1] at e2
     rw[←List.flatMap_append,←List.flatMap_append,←List.append_assoc,e2]
    have hlen:((xs.take lo.toNat).flatMap E.enc).length=lo.toNat*E.m:=by rw[Rec.size,List.length_take,Nat.min_eq_left (by omega)]
    have hk:=(List.getElem?_eq_some_iff.1 hu).1
    have hg:(xs.flatMap E.enc)[lo.toNat*E.m+k]? =some u:=by
     rw[hsplit,List.getElem?_append_right (by omega),List.getElem?_append_left (by omega),show lo.toNat*E.m+k-((xs.take lo.toNat).flatMap E.enc).length=k by omega]
     exact hu
    obtain⟨h7,h8⟩:=h6 _ _ hg
    subst h7
    rw[BQ]
    refine⟨rfl,?_⟩
    rwa [Nat.add_assoc]
section
variable {P : Program} {ops : Array Oper} {rest : List Oper} {n r : A7} {x : List (Nat × A7)} {a : Act} {w W : World} {N : Nat} {L : Bf} {d : Nat} {t : TypeId} {pos : String} {af : Array Edge} {G : GH} {H : List Itm} {α : Type} {E : Rec α}
end
end Go.Sx

namespace Go.Sx
def OwT {α:Type}(R:Rep α)(t:TypeId)(G:GH)(it:Itm)(v:Value)(xs:List α):Prop:=
 ∃(b k c:Nat) (pre vs post:List Value),it= .obj b (.cells (pre++(vs++post)).toArray t (0,0))∧v= .slice (some ⟨b,k,none⟩) xs.length c∧pre.length=k∧xs.length≤c∧c≤vs.length+post.length∧c≤maxLen∧All2 (R G) vs xs
theorem OwT.mono {α:Type}{R:Rep α}(hR:CB R){t:TypeId}{G G':GH}{it:Itm}{v:Value}{xs:List α}(hG:GLe G G')(h:OwT R t G it v xs):OwT R t G' it v xs:=by
 obtain⟨b,k,c,pre,vs,post,h1,h2,h3,h4,h5,h7,h6⟩:=h
 exact⟨b,k,c,pre,vs,post,h1,h2,h3,h4,h5,h7,h6.mono (λv x=>hR G G' v x hG)⟩
section
variable {P : Program} {ops : Array Oper} {rest : List Oper} {n r : A7} {x : List (Nat × A7)} {a : Act} {w W : World} {N : Nat} {L : Bf} {d : Nat} {t : TypeId} {pos : String} {af : Array Edge} {G : GH} {H : List Itm}
variable {α : Type} {R : Rep α}
theorem OwT.of {tt:TypeId}{it:Itm}{v:Value}{xs:List α}(m:Mem W G w (it::H))(h:Ow R tt G it v xs)(hx:xs≠[]):∃it',Mem W G w (it'::H)∧OwT R tt G it' v xs:=by
 obtain⟨vs,rfl,hA⟩:=h
 have ok:w.ownsRow 0 tt 1 v xs.length vs:=m.items 0 _ rfl
 rcases ok.2 with⟨rfl,e⟩|⟨g,cap,cur,rfl,_,eh,e2,e3,e4,e5⟩
 ·exact absurd (List.eq_nil_of_length_eq_zero e) hx
 ·have hl:=hA.1
  simp only[Nat.mul_one] at e4 e5
  have hcur:cur=([]++(vs++cur.toList.drop xs.length)).toArray:=by
   rw[List.nil_append,←e5,List.take_append_drop]
  refine⟨.obj g (.cells cur tt (0,0)),?_,g,0,cap,[],vs,cur.toList.drop xs.length,by rw[←hcur],rfl,rfl,by omega,by simp;omega,e3,hA⟩
  have:=m.changeAt (h':= .obj g (.cells cur tt (0,0))) (w':=w) 0 rfl rfl rfl rfl (λq _ _=>rfl) eh (λq hq=> .inl (by simpa [Itm.foot,Value.ownBlock] using hq))
  simpa using this
theorem OwT.hdr {tt:TypeId}{it:Itm}{v:Value}{xs:List α}(h:OwT R tt G it v xs):∃a l c,v= .slice a l c:=by
 obtain⟨b,k,c,_,_,_,_,rfl,_⟩:=h;exact⟨_,_,_,rfl⟩
end
end Go.Sx

namespace Go.Sx
end Go.Sx

namespace Go.Sx
open IntKind
noncomputable section
def D.c1 (b:LI):Option LL:=
 (D.I0 b).bind λa=>(D.u1 a.1 a.2.1 a.2.2).bind λc=>some c.1
def D.J (a:LL):Option (LI×Bool):=
 (D.s a).bind λb=>cond (!b) (some (([]:LI),false)) ((D.j a).bind λc=>(D.e0 c).bind λd=>(D.z d).bind λe=>some (e,true))
def D.m0 (d:LI)(a e:Int):Option LI:=
 (C6 (0:Int) (d.length:Int) (d.length:Int)).bind λk=>(Ay (σ:=LI×Int) (ρ:=LI) (fun(f,b)=>cond (decide (b<(k.length:Int))) ((idx f b).bind λad=>some (.inl ((f.set (Int.toNat b) (-1)),(i64.wrap (b+1))))) (some (.inr f))) (k,0)).bind λl=>(idx l a).bind λae=>(D.a a).bind λu=>(D.a a).bind λv=>(Ay (σ:=LI×Int×Int×Int) (ρ:=LI) (fun(m,n,o,c)=>cond (o !=0) ((D.h o).bind λp=>(Ay (σ:=Int×Int) (ρ:=(Int)) (fun(q,g)=>cond (decide (g<(p.length:Int))) ((idx p g).bind λy=>(idx d y).bind λz=>some (.inl ((ior .u32 q z),(i64.wrap (g+1))))) (some (.inr q))) (0,0)).bind λh=>(D.h (iandNot .u32 (iand .u32 h e) c)).bind λr=>(Ay (σ:=LI×Int) (ρ:=LI) (fun(i,j)=>cond (decide (j<(r.length:Int))) ((idx r j).bind λs=>(idx i s).bind λaf=>some (.inl ((i.set (Int.toNat s) n),(i64.wrap (j+1))))) (some (.inr i))) (m,0)).bind λab=>some (.inl (ab,(i64.wrap (n+1)),(iandNot .u32 (iand .u32 h e) c),(ior .u32 c (iandNot .u32 (iand .u32 h e) c))))) (some (.inr m))) ((l.set (Int.toNat a) 0),1,u,v)).bind λac=>some ac
def D.B (a:LL)(b:LI):Option (Bool):=
 (D.P a).bind λc=>(D.t0 b c.1).bind λd=>some d
def D.t1 (a:LL)(b:LI):Option (Int):=
 (D.i0 a b).bind λc=>cond (!c) (some (-1)) ((D.x a b).bind λd=>(D.b0 d).bind λe=>(D.b0 a).bind λf=>some (i64.wrap (e-f)))
def D.Z0 (a:LL)(b:LI):Option (Bool):=
 (D.t1 a b).bind λc=>some (c==0)
def D.Y0 (d:LL):Option LI:=
 (D.l d).bind λe=>cond (!e) (some ([]:LI)) ((D.j d).bind λb=>(Ay (σ:=Int×Int) (ρ:=(Int)) (fun(c,a)=>cond (decide (a<(b.length:Int))) ((idx b a).bind λg=>(D.A b g).bind λh=>cond (h==0) ((D.a a).bind λi=>some (.inl ((ior .u32 c i),(i64.wrap (a+1))))) (some (.inl (c,(i64.wrap (a+1)))))) (some (.inr c))) (0,0)).bind λj=>(D.g0 j).bind λk=>some k)
def D.P0 (d:LL)(c:LI):Option (Bool):=
 (Ay (σ:=Int×Int) (ρ:=(Unit) ⊕ (Bool)) (fun(e,a)=>cond (decide (a<(c.length:Int))) ((idx c a).bind λb=>(D.c0 b 0 (i64.wrap ((d.length:Int)-1))).bind λg=>(cond (!g) (some true) ((D.m e b).bind λh=>some h)).bind λi=>(cond i (some true) ((cond (decide ((0:Int)<a)) ((idx d b).bind λj=>(idx c (i64.wrap (a-1))).bind λk=>(D.t j k).bind λl=>some (!l)) (some false)).bind λm=>some m)).bind λn=>cond n (some (.inr (.inr false))) ((D.a b).bind λo=>some (.inl ((ior .u32 e o),(i64.wrap (a+1)))))) (some (.inr (.inl ())))) (0,0)).bind λzz=>match zz with| .inl _=>(some true)| .inr z=>(some z)
def D.f1 (b:LL)(a:LI):Option (Bool):=
 (D.l b).bind λc=>(cond (c&&(decide ((3:Int)≤(a.length:Int)))) ((D.P0 b a).bind λd=>some d) (some false)).bind λe=>(cond e ((idx a 0).bind λf=>(idx b f).bind λg=>(idx a (i64.wrap ((a.length:Int)-1))).bind λh=>(D.t g h).bind λi=>some i) (some false)).bind λj=>some j
def D.O0 (c:LL)(a:LI):Option (Bool):=
 (D.f1 c a).bind λd=>cond ((!d)||(decide ((a.length:Int)<4))) (some false) ((D.j c).bind λe=>(D.d0 a).bind λf=>(Ay (σ:=Int) (ρ:=(Unit) ⊕ (Bool)) (fun(b:Int)=>cond (decide (b<(a.length:Int))) ((idx a b).bind λg=>(idx e g).bind λh=>(D.h0 (iand .u32 h f)).bind λi=>cond (i !=2) (some (.inr (.inr false))) (some (.inl (i64.wrap (b+1))))) (some (.inr (.inl ())))) 0).bind λzz=>match zz with| .inl _=>(some true)| .inr z=>(some z))
def D.p0 (c:LL)(b:LI):Option (Bool):=
 (Ay (σ:=Int) (ρ:=(Unit) ⊕ (Bool)) (fun(a:Int)=>cond (decide (a<(b.length:Int))) ((idx b a).bind λd=>(D.O c d).bind λe=>(cond (!e) (some true) ((BD b 0 a).bind λf=>(idx b a).bind λg=>(D.q f g).bind λh=>some h)).bind λi=>(cond i (some true) ((cond (decide ((0:Int)<a)) ((idx b (i64.wrap (a-1))).bind λj=>(idx b a).bind λk=>(D.f c j k).bind λl=>some (!l)) (some false)).bind λm=>some m)).bind λn=>cond n (some (.inr (.inr false))) (some (.inl (i64.wrap (a+1))))) (some (.inr (.inl ())))) 0).bind λzz=>match zz with| .inl _=>(some true)| .inr z=>(some z)
def D.K0 (b:LL)(a:LI):Option (Bool):=
 (D.p b).bind λc=>(cond ((!c)||(decide ((a.length:Int)<3))) (some true) ((D.b b).bind λd=>some (decide (d<(a.length:Int))))).bind λe=>(cond e (some true) ((D.p0 b a).bind λf=>some (!f))).bind λg=>cond g (some false) ((idx a 0).bind λh=>(idx a (i64.wrap ((a.length:Int)-1))).bind λi=>(D.f b h i).bind λj=>some j)
def D.J0 (d:LL)(b:LI):Option (Bool):=
 (Ay (σ:=Int) (ρ:=(Unit) ⊕ (Bool)) (fun(a:Int)=>cond (decide (a<(b.length:Int))) ((Ay (σ:=Int) (ρ:=(Unit) ⊕ (Bool)) (fun(c:Int)=>cond (decide ((i64.wrap (c+1))<a)) ((cond (!((c==0)&&(a==(i64.wrap ((b.length:Int)-1))))) ((idx b c).bind λe=>(idx b a).bind λf=>(D.f d e f).bind λg=>some g) (some false)).bind λh=>cond h (some (.inr (.inr false))) (some (.inl (i64.wrap (c+1))))) (some (.inr (.inl ())))) 0).bind λzz=>match zz with| .inl _=>(some (.inl (i64.wrap (a+1))))| .inr z=>(some (.inr (.inr z)))) (some (.inr (.inl ())))) 0).bind λzz=>match zz with| .inl _=>(some true)| .inr z=>(some z)
def D.g1 (b:LL)(a:LI):Option (Bool):=
 (D.K0 b a).bind λc=>(cond (c&&(decide ((4:Int)≤(a.length:Int)))) ((D.J0 b a).bind λd=>some d) (some false)).bind λe=>some e
end
end Go.Sx

namespace Go.Sx
open IntKind
noncomputable section
def D.z0 (F path:LI)(v:Int):Option Bool:=
 (BD path 0 (i64.wrap ((path.length:Int)-1))).bind λpre=>Ay (σ:=Int) (ρ:=Bool) (λi=>cond (decide (i<(pre.length:Int))) ((idx pre i).bind λu=>(cond (decide ((0:Int)<i)) ((idx F v).bind λr=>D.m r u) (some false)).bind λb=>cond b (some (.inr false)) (some (.inl (i64.wrap (i+1))))) (some (.inr true))) 0
def D.A0 (F:LI)(long:Int)(path:LI)(u:Int):Option Bool:=
 (cond (decide ((1:Int)<(path.length:Int))) ((idx F u).bind λr=>(idx path 0).bind λp=>D.m r p) (some false)).bind λt=>(D.z0 F path u).bind λf=>cond f (some (t==(decide ((1:Int)<(path.length:Int))&&((path.length:Int)==i64.wrap (long-1))))) (some false)
def D.z1 (F far:LI)(long:Int)(path:LI)(v:Int):Option Bool:=
 (idx far v).bind λfv=>cond (decide (fv<0)) (some true) (cond (decide (i64.wrap (long-(path.length:Int))<fv)) (some true) ((D.A0 F long path v).bind λb=>some (!b)))
def D.w1 (rec:LI→Int→Option (Bool×LI×Int))(F far us:LI)(long:Int)(s:LI×Int×Int):Option ((LI×Int×Int) ⊕ (Bool×LI×Int)):=
 cond (decide (s.2.2<(us.length:Int))) ((idx us s.2.2).bind λv=>(D.z1 F far long s.1 v).bind λskip=>cond skip (some (.inl (s.1,s.2.1,i64.wrap (s.2.2+1)))) ((AY s.1 [v]).bind λp1=>(D.a v).bind λo=>(rec p1 (ior .u32 s.2.1 o)).bind λr=>cond r.1 (some (.inr (true,r.2))) ((BD r.2.1 0 (i64.wrap ((r.2.1.length:Int)-1))).bind λp2=>some (.inl (p2,iandNot .u32 r.2.2 o,i64.wrap (s.2.2+1)))))) (some (.inr (false,s.1,s.2.1)))
def D.L :Nat→LI→LI→Int→LI→Int→Option (Bool×LI×Int)
 |0,_,_,_,_,_=>none
 |fuel+1,F,far,long,path,used=>(idx path (i64.wrap ((path.length:Int)-1))).bind λlast=>(idx F last).bind λr=>cond ((path.length:Int)==long) ((idx path 0).bind λp=>(D.m r p).bind λb=>some (b,path,used)) ((D.h (iandNot .u32 r used)).bind λus=>Ay (D.w1 (D.L fuel F far long) F far us long) (path,used,0))
def D.A1 (F:LI)(long v:Int):Option (Int ⊕ Option LI):=
 cond (decide (v<(F.length:Int))) ((D.u F).bind λall=>(D.m0 F v all).bind λfar=>(D.a v).bind λo=>(D.L CS F far long [v] o).bind λr=>cond r.1 ((D.z r.2.1).bind λw=>some (.inr (some w))) (some (.inl (i64.wrap (v+1))))) (some (.inr none))
def D.x1 (F:LI)(long:Int):Option (Int ⊕ (LI×Bool)):=
 cond (decide (long≤(F.length:Int))) ((Ay (D.A1 F long) 0).bind λq=>match q with|none=>some (.inl (i64.wrap (long+1)))|some w=>some (.inr (w,true))) (some (.inr ([],false)))
def D.I (x:LL):Option (LI×Bool):=
 (D.l x).bind λok=>(cond (!ok) (some true) (D.s x)).bind λstop=>cond stop (some ([],false)) ((D.j x).bind λF=>Ay (D.x1 F) 4)
end
end Go.Sx

namespace Go.Sx
noncomputable def D.l1 (d:LI):Option (Bool):=
 (D.r1 d).bind λe=>cond e (some true) ((D.c1 d).bind λa=>(D.J a).bind λb=>(D.I a).bind λc=>(D.B a b.1).bind λf=>(cond (!f) (some true) ((D.s a).bind λg=>some (g !=b.2))).bind λh=>cond h (some false) ((D.p a).bind λi=>cond (!i) (some ((!b.2)&&(!c.2))) (cond (b.2==c.2) (some false) (cond b.2 ((D.Z0 a b.1).bind λj=>(cond j ((D.x0 a b.1).bind λk=>some k) (some false)).bind λl=>(cond l ((D.Y0 a).bind λm=>some (decide ((0:Int)<(m.length:Int)))) (some false)).bind λn=>some n) ((D.O0 a c.1).bind λo=>(cond o ((D.g1 a c.1).bind λp=>some p) (some false)).bind λq=>some q)))))
end Go.Sx

namespace Go.Sx
end Go.Sx

namespace Go.Sx
end Go.Sx

namespace Go.Sx
end Go.Sx

namespace Go.Sx
end Go.Sx

namespace Go.Sx
end Go.Sx

namespace Go.Sx
end Go.Sx

namespace Go.Proofs
open Go.Shelf
def Tryz.lays125_ren :Go.Shelf.Ren:=⟨fun|125=>102|128=>112|129=>113|n=>n,fun|46=>88|3=>3|51=>43|53=>116|4=>4|5=>5|9=>9|n=>n,fun|n=>n⟩
theorem Tryz.lays125 :Go.Proofs.Lays.n125 Tryz.prog Tryz.lays125_ren:={
 mixed:=by kernel_rfl
 f125:=Tryz.func102.trans (congrArg some (by kernel_rfl))
 f128:=Tryz.func112.trans (congrArg some (by kernel_rfl))
 f129:=Tryz.func113.trans (congrArg some (by kernel_rfl))
 t3:=Tryz.underlying3
 a3:=Tryz.isAgg3
 z3:=Tryz.sizeOf3
 v3:=Tryz.zeroValue3
 t4:=Tryz.underlying4
 a4:=Tryz.isAgg4
 z4:=Tryz.sizeOf4
 v4:=Tryz.zeroValue4
 t5:=Tryz.underlying5
 a5:=Tryz.isAgg5
 z5:=Tryz.sizeOf5
 v5:=Tryz.zeroValue5
 t9:=Tryz.underlying9
 a9:=Tryz.isAgg9
 z9:=Tryz.sizeOf9
 v9:=Tryz.zeroValue9
 t46:=Tryz.underlying88
 a46:=Tryz.isAgg88
 z46:=Tryz.sizeOf88
 v46:=Tryz.zeroValue88
 t51:=Tryz.underlying43
 a51:=Tryz.isAgg43
 z51:=Tryz.sizeOf43
 v51:=Tryz.zeroValue43
 t53:=Tryz.underlying116
 a53:=Tryz.isAgg116
 z53:=Tryz.sizeOf116
 v53:=Tryz.zeroValue116}
theorem Tryz.bits_Len (x:Int)(w:World)(h0:0≤x)(h1:x≤18446744073709551615):
  Calls Tryz.prog 102 #[.int .u64 x] w λe w'=>e= .returned (.int .i64 (Lib.bitLen x.toNat))∧w'=w:=Any.bits_Len Tryz.lays125 x w h0 h1
end Go.Proofs
namespace Go.Proofs.YtehkdflfnampdaaGreatDoor
open Go Go.Sx
theorem Wk.V {W w:World}{G:GH}{H:List Itm}{x0:Int}(m:Mem W G w H){y:Int}(hd:D.V x0=some y):
  Calls Tryz.prog 102 #[(.int .u64 x0)] w (Res W G H (λ_ Ho v=>Ho=[]∧v=(.int .i64 y))):=by
 unfold D.V at hd
 split at hd
 ·rename_i h
  obtain rfl:=Option.some.inj hd
  exact(Tryz.bits_Len x0 w h.1 h.2).mono (λe w' ⟨he,hw⟩=>by subst hw;exact⟨_,he,G,[],GLe.refl G,m,rfl,rfl⟩)
 ·cases hd
end Go.Proofs.YtehkdflfnampdaaGreatDoor

namespace Go.Proofs
open Go.RowKit Go.Shelf
attribute [local go_sem] Oper.semAt_some
namespace YtehkdflfnampdaaGreatDoor
def Da {α:Type}(f:Nat→α)(k:Nat):List α:=(List.range k).map f
theorem upto_succ {α:Type}(f:Nat→α)(k:Nat):Da f (k+1)=Da f k++[f k]:=by simp[Da,List.range_succ]
theorem upto_length {α:Type}(f:Nat→α)(k:Nat):(Da f k).length=k:=by simp[Da]
theorem upto_all (zs:List Int):Da (λj=>zs[j]?.getD 0) zs.length=zs:=by
 apply List.ext_getElem
 ·simp[Da]
 ·intro i h1 h2
  simp[Da,h2]
theorem upto_take (zs:List Int){k:Nat}(hk:k≤zs.length):Da (λj=>zs[j]?.getD 0) k=zs.take k:=by
 apply List.ext_getElem
 ·simp[Da,hk]
 ·intro i h1 h2
  have:i<zs.length:=by simp[Da] at h1;omega
  simp[Da,this]
set_option maxRecDepth 100000 in
set_option maxHeartbeats 2000000 in
theorem values1_in (F:Fence)(n:Nat)(h7:F.fn 99)(hro:F.round=none)(hn:1≤n)(l Bs n₀ b off len cap:Nat)(zs:List Int)(hreach:len*8≤140737488351232)(hb:len=0∨b<n₀)(J Jx:List Int→World→Prop)
  (hY:∀pre x W,J pre W→pre.length<len→YieldAt F (n-1) Tryz.prog l #[.int .i64 x] W λe W'=>
   (e= .returned (.bool true)∧J (pre++[x]) W'∧Below n₀ W W')∨(e= .returned (.bool false)∧Jx (pre++[x]) W'))
  (W:World) (hBs:W.cell? ⟨Bs,0,none⟩=some (.slice (some ⟨b,off,none⟩) len cap)) (hc:∀j,j<len→W.cell? ⟨b,off+j,none⟩=some (.int .i64 (zs[j]?.getD 0))) (h0:J [] W):
  CallsIn F n Tryz.prog 99 #[.func (.yield l) #[] #[],.pointer (some ⟨Bs,0,none⟩)] W λe W'=>(∃v,e= .returned v)∧
   ((∃ys,ys=Da (λj=>zs[j]?.getD 0) len∧J ys W')∨(∃pre,(∃k,k≤len∧pre=Da (λj=>zs[j]?.getD 0) k)∧Jx pre W')):=by
 refine callsIn_of_wp Tryz.func99 rfl h7 ?_ hro
 simp only[Tryz.ntmps99,List.size_toArray,List.length_cons,List.length_nil,Nat.reduceAdd,Nat.reduceSub,Array.replicate_succ,Array.replicate_zero,List.push_toArray,List.append_toArray,List.nil_append,List.cons_append]
 gi_wp2
 gi_loopw [7] (λi wr=>∃k:Nat,k≤len∧i= .int .i64 k∧J (Da (λj=>zs[j]?.getD 0) k) wr∧Below n₀ W wr)
  (λi _=>len-(intOf i).toNat)
 case atStart=>exact⟨0,Nat.zero_le _,rfl,h0,Below.refl _ _⟩
 case round=>
  obtain⟨k,hk,rfl,hJs,hnx⟩:=hrel
  have hcx:k<len→wr.cell? ⟨b,off+k,none⟩=some (.int .i64 (zs[k]?.getD 0)):=λh=>(hnx.cell (p:=⟨b,off+k,none⟩) (hb.resolve_left (by omega))).trans (hc k h)
  by_cases hlt:k<len
  ·obtain⟨fn,tmps,assign,body,hy,hR⟩:=hY _ (zs[k]?.getD 0) wr hJs (by rw[upto_length];exact hlt)
   have hcx':=hcx hlt
   gi_wp2
   refine hR.mono ?_
   rintro e W3 (⟨rfl,hJ3,hk3⟩|⟨rfl,hJx3⟩)
   ·gi_wp2
    go_roundw
    case rel=>exact⟨k+1,by omega,by simp,by rw[upto_succ];exact hJ3,hnx.trans hk3⟩
    case measure=>simp[intOf];omega
   ·gi_wp2
    refine bodyPost_ret (results_none rfl _ _ _) rfl ?_
    exact⟨⟨_,rfl⟩,.inr ⟨_,⟨k+1,by omega,(upto_succ _ _).symm⟩,hJx3⟩⟩
  ·obtain rfl:k=len:=by omega
   gi_wp2
   go_end0
   exact⟨⟨_,rfl⟩,.inl ⟨_,rfl,hJs⟩⟩
def Ints (n₀:Nat)(W:World)(sv:Value)(zs:List Int):Prop:=
 ((∃a c,sv= .slice a 0 c)∧zs=[])∨∃b off cap,sv= .slice (some ⟨b,off,none⟩) zs.length cap∧(zs.length=0∨b<n₀)∧∀j,j<zs.length→W.cell? ⟨b,off+j,none⟩=some (.int .i64 (zs[j]?.getD 0))
theorem Ints.below {n₀:Nat}{A B:World}(h:Below n₀ A B){sv:Value}{zs:List Int}:Ints n₀ A sv zs→Ints n₀ B sv zs
 | .inl e=> .inl e
 | .inr ⟨b,off,cap,e,hb,hc⟩=> .inr ⟨b,off,cap,e,hb,λj hj=>(h.cell (p:=⟨b,off+j,none⟩) (hb.resolve_left (by omega))).trans (hc j hj)⟩
set_option maxRecDepth 100000 in
set_option maxHeartbeats 1000000 in
theorem values1_nil_in (F:Fence)(n:Nat)(h7:F.fn 99)(hro:F.round=none)(l Bs:Nat)(J:List Int→World→Prop)(W:World)(a:Option Addr)(c:Nat)(hBs:W.cell? ⟨Bs,0,none⟩=some (.slice a 0 c))(h0:J [] W):
  CallsIn F n Tryz.prog 99 #[.func (.yield l) #[] #[],.pointer (some ⟨Bs,0,none⟩)] W λe W'=>(∃v,e= .returned v)∧J [] W':=by
 refine callsIn_of_wp Tryz.func99 rfl h7 ?_ hro
 simp only[Tryz.ntmps99,List.size_toArray,List.length_cons,List.length_nil,Nat.reduceAdd,Nat.reduceSub,Array.replicate_succ,Array.replicate_zero,List.push_toArray,List.append_toArray,List.nil_append,List.cons_append]
 gi_wp2
 gi_loopw [7] (λi wr=>i= .int .i64 0∧J [] wr) (λ_ _=>0)
 case atStart=>exact⟨rfl,h0⟩
 case round=>
  obtain⟨rfl,hJs⟩:=hrel
  gi_wp2
  go_end0
  exact⟨⟨_,rfl⟩,hJs⟩
theorem values_stops (F:Fence)(n:Nat)(h7:F.fn 99)(hro:F.round=none)(hn:1≤n)(Bs n₀:Nat)(sv:Value)(zs:List Int)(hreach:zs.length*8≤140737488351232)(w:World)(hBs:Bs<w.heap.size)(hn₀:n₀≤w.heap.size)
  (hc:w.cell? ⟨Bs,0,none⟩=some sv) (hI:Ints n₀ w sv zs):
  SeqStopsK F n Tryz.prog 99 #[.pointer (some ⟨Bs,0,none⟩)] (λx:Int=> #[Value.int .i64 x]) (Below n₀) (λys=>ys=zs) (λpre=>pre<+:zs) zs.length w:=λl J Jx W hW _ _ hY h0=>by
 have hc':=(hW.cell (p:=⟨Bs,0,none⟩) hBs).trans hc
 rcases hI.below (hW.mono hn₀) with⟨⟨a,c,rfl⟩,rfl⟩|⟨b,off,cap,rfl,hb,hcs⟩
 ·exact(values1_nil_in F n h7 hro l Bs J W a c hc' h0).mono λe W' ⟨he,hj⟩=>⟨he,.inl ⟨_,rfl,hj⟩⟩
 ·refine(values1_in F n h7 hro hn l Bs n₀ b off zs.length cap zs hreach hb J Jx hY W hc' hcs h0).mono ?_
  rintro e W' ⟨he,⟨ys,rfl,hj⟩|⟨pre,⟨k,hk,rfl⟩,hj⟩⟩
  ·exact⟨he,.inl ⟨_,upto_all zs,hj⟩⟩
  ·exact⟨he,.inr ⟨_,by rw[upto_take zs hk];exact List.take_prefix _ _,hj⟩⟩
theorem info2 :(Tryz.prog.info? 2).map (λi=>(i.zero,i.size,i.bytes))=some (some (.int .i64 0),1,8):=by kernel_rfl
set_option maxRecDepth 100000 in
set_option maxHeartbeats 4000000 in
theorem AppendSeq_in (F:Fence)(n:Nat)(h3:F.fn 100)(h5:F.fn 99)(hro:F.round=none)(hn:3≤n)(Bs:Nat)(sv:Value)(xs:List Int)(hlen:xs.length≤maxLen)(hbytes:xs.length*8≤140737488351232)(w:World)(hBs:Bs<w.heap.size)(hc:w.cell? ⟨Bs,0,none⟩=some sv)(hL:Ints w.heap.size w sv xs):
  CallsIn F n Tryz.prog 100 #[.slice none 0 0,.func (.func 99) #[] #[.pointer (some ⟨Bs,0,none⟩)]] w λe W'=>∃v,e= .returned v∧W'.ownsRow w.heap.size 2 1 v xs.length (xs.map (Value.int .i64))∧Below w.heap.size w W':=by
 have h1:1≤n:=by omega
 obtain⟨i0,hi,hz0,hz1,hz2⟩:=info_parts info2
 refine callsIn_of_wp_marks Tryz.func100 rfl h3 ?_ hro
 simp only[Tryz.ntmps100,List.size_toArray,List.length_cons,List.length_nil,Nat.reduceAdd,Nat.reduceSub,Array.replicate_succ,Array.replicate_zero,List.push_toArray,List.append_toArray,List.nil_append,List.cons_append]
 gi_wp2
 have bO:=Boxed.new w 28 (.slice none 0 0)
 have hB0:Below w.heap.size w (w.alloc (.cells #[.slice none 0 0] 28)):=(Below.refl _ w).alloc (Nat.le_refl _) _
 refine wpIn_rangeFunc_ownG hro h1 (gf:=99) (lb:= #[.pointer (some ⟨Bs,0,none⟩)]) rfl h5 (enters_of Tryz.func99 (by kernel_rfl) rfl)
  (values_stops F (n-1) h5 hro (by omega) Bs w.heap.size sv xs hbytes _ (by simp;omega) (by simp) ((hB0.cell (p:=⟨Bs,0,none⟩) hBs).trans hc) (hL.below hB0)) belowK_t (belowK_b (by simp)) (Below.refl _ _) (λ_=>rfl)
  (λpre W=>(∃v,Boxed W w.heap.size 28 v∧W.ownsRow w.heap.size 2 1 v pre.length (pre.map (Value.int .i64))∧(v= .slice none 0 0↔pre=[]))∧Below w.heap.size w W)
  (λ_ _ _=>False)
  (OwnFrom.and (Own.from (holdsRow_own w.heap.size w.heap.size 28 2 1 (λpre=>pre.length) (λpre=>pre.map (Value.int .i64)) (λpre v=>v= .slice none 0 0↔pre=[])) _) (ownFrom_below (Nat.le_refl _) (by simp)))
  (λ_ _ _ _ _ hs _ _=>hs)
  ⟨⟨_,bO,World.ownsRow_nil _ _ _ _,by simp⟩,hB0⟩
  (λx=>{tmps:= #[.slice none 0 0,.func (.func 99) #[] #[.pointer (some ⟨Bs,0,none⟩)],.pointer (some ⟨w.heap.size,0,none⟩),undef,.slice none 0 0,.int .i64 x,.func (.func 99) #[] #[.pointer (some ⟨Bs,0,none⟩)],.int .i64 x,undef,undef,undef,undef,undef],defers:=[]}) ?assign ?body ?done ?stop
 case assign=>
  intro l x W K hK
  gi_wp2
  exact hK
 case body=>
  rintro l pre x W ⟨⟨v,hv,hrow,hnil⟩,hB⟩ hlt
  have hc:=hv.cell
  gi_wp2_with (gi_at_builtin;refine wpListIn_append_own _ rfl _ _ 28 rfl w.heap.size 2 i0 (.int .i64 0) 1 8 Tryz.underlying28 hi hz0 hz1 hz2 rfl (by decide) _ _ _ rfl (hrow.alloc _) ⟨W.heap.size,0,none⟩ 1 1 [.int .i64 x] rfl rfl (cell_one_new _ _ _) (by simp[Value.oneCell']) (by omega) (by omega) (by have:=hB.size;simp;omega) ?_;intro v' w1 hown' hgrow _;obtain⟨g',cap',rfl⟩:=ownsRow_succ hown';obtain⟨hv1,hv2,hr2,hk2,hb2⟩:=hv.appended (by decide) hrow hB.size (Nat.le_refl _) hown' hgrow;have hc1:=hv1.cell;have hf1:=hv1.frozen)
  exact⟨hk2.from _,hb2,⟨_,hv2,by simpa using hr2,by simp⟩,hB.trans hb2⟩
 case done=>
  rintro D ys W hD rfl ⟨⟨v,hv,hrow,hnil⟩,hB⟩ hK
  have hc:=hv.cell
  gi_wp2
  refine⟨by simp,.inl ⟨_,_,rfl,run_takeDeferred hK,?_⟩⟩
  exact⟨_,results_tmp rfl _ _ _,v,rfl,ownsRow_putObj hrow _ hK rfl,hB.trans (belowK_b (w:=w) (Nat.le_refl _) W D _ _ (by simp at hD;omega) hK rfl rfl)⟩
 case stop=>
  rintro D c pre W _ _ h _
  exact h.elim
set_option maxHeartbeats 1000000 in
theorem values_in (F:Fence)(n:Nat)(h5:F.fn 93)(hro:F.round=none)(a:Option Addr)(len cap:Nat)(w:World):
  CallsIn F n Tryz.prog 93 #[.slice a len cap] w λe w'=>e= .returned (.func (.func 99) #[] #[.pointer (some ⟨w.heap.size,0,none⟩)])∧w'=w.alloc (.cells #[.slice a len cap] 28):=by
 refine callsIn_of_wp Tryz.func93 rfl h5 ?_ hro
 simp only[Tryz.ntmps93,List.size_toArray,List.length_cons,List.length_nil,Nat.reduceAdd,Nat.reduceSub,Array.replicate_succ,Array.replicate_zero,List.push_toArray,List.append_toArray,List.nil_append,List.cons_append]
 gi_wp2
 go_ret
 exact⟨rfl,rfl⟩
open Go.Sx in
theorem Wk.B1 {W w:World}{G:GH}{H:List Itm}{v:Value}{x:List Int}(m:Mem W G w H)(h:RSl (RI .i64) G v x):
  Calls Tryz.prog 93 #[v] w (Res W G H (λ_ Ho r=>∃b,Ho=[Itm.box b 28 [v]]∧ .func (.func 99) #[] #[.pointer (some ⟨b,0,none⟩)]=r)):=by
 obtain⟨a,c,rfl,_,_⟩:=h.len
 refine(callsIn_wide (n:=3)).1 ((values_in Fence.wide 3 trivial rfl a x.length c w).mono ?_)
 rintro e w' ⟨rfl,rfl⟩
 exact⟨_,rfl,G,[.box w.heap.size 28 [.slice a x.length c]],GLe.refl G,m.alloc 28 [.slice a x.length c],_,rfl,rfl⟩
open Go.Sx in
theorem Wk.o1 {W w:World}{G:GH}{H:List Itm}{b0:Nat}{v:Value}{x y:List Int}(m:Mem W G w (Itm.box b0 28 [v]::H))(h:RSl (RI .i64) G v x)(hy:D.o1 x=some y):
  Calls Tryz.prog 100 #[.slice none 0 0,.func (.func 99) #[] #[.pointer (some ⟨b0,0,none⟩)]] w (Res W G H (λG' Ho r=>∃r' it,Ho=[it]∧r'=r∧Go.Sx.Ow (RI .i64) 2 G' it r' y)):=by
 unfold D.o1 at hy
 split at hy
 ·rename_i hx
  obtain rfl:=Option.some.inj hy
  have hb0:w.heap[b0]? =some (.cells #[v] 28 (0,0)):=m.items 0 (.box b0 28 [v]) rfl
  have hc:w.cell? ⟨b0,0,none⟩=some v:=by simp[World.cell?,hb0]
  have hl:b0<w.heap.size:=(Array.getElem?_eq_some_iff.1 hb0).1
  have hI:Ints w.heap.size w v x:=by
   obtain⟨vs,hA,h⟩:=h
   rcases h with⟨rfl,rfl⟩|⟨⟨b,off,sp⟩,cap,rfl,h1,h2,h3⟩
   ·exact .inl ⟨⟨_,_,rfl⟩,rfl⟩
   ·rcases Nat.eq_zero_or_pos x.length with h0|h0
    ·refine .inl ⟨⟨_,_,by rw[h0]⟩,List.eq_nil_of_length_eq_zero h0⟩
    ·obtain⟨c,hc,_⟩:=hA.get (i:=0) (x:=x[0]) (by simp[h0])
     obtain⟨rfl,cs,t,f,k1,_⟩:=h3 0 c hc
     refine .inr ⟨b,off,cap,rfl,.inr (m.glt k1),λj hj=> ?_⟩
     obtain⟨c,hc,hR⟩:=hA.get (i:=j) (x:=x[j]) (by simp[hj])
     have:=(h3 j c hc).2.get m
     rw[this,show c= .int .i64 x[j] from hR]
     simp[hj]
  refine(callsIn_wide (n:=3)).1 ((AppendSeq_in Fence.wide 3 trivial trivial rfl (by omega) b0 v x (by unfold maxLen;omega) (by omega) w hl hc hI).mono ?_)
  rintro e w' ⟨r,rfl,hrow,hB⟩
  refine⟨_,rfl,G,[.row r 2 1 x.length (x.map (Value.int .i64))],GLe.refl G,?_,r,_,rfl,rfl,x.map (Value.int .i64),rfl,by simp,λi c z h1 h2=> ?_⟩
  ·refine m.tail.add hB.os hB.tape hB.output (λz hz=>hB.block z hz) ?_ ?_
   ·refine⟨hrow.1,?_⟩
    rcases hrow.2 with hn|⟨g,cap,cur,e1,_,e3⟩
    ·exact .inl hn
    ·exact .inr ⟨g,cap,cur,e1,Nat.zero_le _,e3⟩
   ·intro z hz
    rcases hrow.2 with⟨rfl,_⟩|⟨g,cap,cur,rfl,e2,e3⟩
    ·simp[Itm.foot,Value.ownBlock] at hz
    ·simp[Itm.foot,Value.ownBlock] at hz;omega
  ·rw[List.getElem?_map,h2] at h1
   exact(Option.some.inj h1).symm
 ·cases hy
end YtehkdflfnampdaaGreatDoor
end Go.Proofs

namespace Go.Sx
theorem w64 {x:Int}(h1: -9223372036854775808≤x)(h2:x<9223372036854775808):IntKind.i64.wrap x=x:=by
 simp only[IntKind.wrap,IntKind.bits,IntKind.signed]
 have e:(2:Int)^64=18446744073709551616:=by decide
 have e':(2:Int)^(64-1)=9223372036854775808:=by decide
 simp
 omega
theorem dlt {i n:Nat}(h:i<n):decide ((i:Int)<(n:Int))=true:=by simp;omega
theorem Bn {n:Nat}:decide ((n:Int)<(n:Int))=false:=by simp
theorem AN {α:Type}{xs:List α}{i:Nat}(h:i<xs.length):idx xs (i:Int)=some xs[i]:=by
 unfold idx;rw[if_pos (by omega)];simp[h]
theorem Ea {α:Type}{xs:List α}{i:Int}(h0:0≤i)(h:i<xs.length):idx xs i=some (xs[i.toNat]'(by omega)):=by
 unfold idx;rw[if_pos h0];simp
theorem wi {i:Nat}(h:i<4611686018427387904):IntKind.i64.wrap ((i:Int)+1)=((i+1:Nat):Int):=by
 rw[w64 (by omega) (by omega)];rfl
theorem wi' {i n:Nat}(h:i<n)(hn:n≤4611686018427387904):IntKind.i64.wrap ((i:Int)+1)=((i+1:Nat):Int):=wi (by omega)
theorem AX {α:Type}{xs:List α}{i:Nat}(h:i<xs.length)(d:α):xs.getD i d=xs[i]:=by simp[h]
theorem Br {α:Type}{xs ys:List α}(h:xs.length+ys.length≤4294967296):AY xs ys=some (xs++ys):=by
 unfold AY;rw[if_pos h]
theorem CX {α:Type}{xs:List α}{i:Nat}(h:i≤xs.length):BD xs 0 (i:Int)=some (xs.take i):=by
 unfold BD;rw[if_pos ⟨by omega,by omega,by omega⟩];simp
theorem E9 {α:Type}{xs:List α}{i:Nat}(h:i≤xs.length):BD xs (i:Int) (xs.length:Int)=some (xs.drop i):=by
 unfold BD;rw[if_pos ⟨by omega,by omega,by omega⟩];simp
theorem C9 {α:Type}{z:α}{n:Nat}{c:Int}(h:(n:Int)≤c)(h2:c≤4294967296):C6 z (n:Int) c=some (List.replicate n z):=by
 unfold C6;rw[if_pos ⟨by omega,h,h2⟩];simp
theorem makeD_zero {α:Type}{z:α}{c:Int}(h:0≤c)(h2:c≤4294967296):C6 z 0 c=some []:=by
 unfold C6;rw[if_pos ⟨by omega,h,h2⟩];simp
def Stp {σ ρ:Type}(I:σ→Prop)(μ:σ→Nat)(Post:ρ→Prop)(s:σ):σ ⊕ ρ→Prop
 | .inl s'=>I s'∧μ s'<μ s
 | .inr r=>Post r
theorem A3 {σ ρ β:Type}{step:σ→Option (σ ⊕ ρ)}{s:σ}{k:ρ→Option β}{Q:β→Prop}(I:σ→Prop)(μ:σ→Nat)(Post:ρ→Prop)
  (hstep:∀s,I s→∃y,step s=some y∧Stp I μ Post s y) (h0:I s) (hk:∀r,Post r→∃y,k r=some y∧Q y):∃y,(Ay step s).bind k=some y∧Q y:=by
 obtain⟨r,hr,hp⟩:=loopF_inv (step:=step) I μ Post (λs hs=>by
  obtain⟨y,hy,hq⟩:=hstep s hs
  cases y with
  |inl s'=>exact .inl ⟨s',hy,hq.1,hq.2⟩
  |inr r=>exact .inr ⟨r,hy,hq⟩) s h0
 rw[hr]
 exact hk r hp
theorem CD {α β:Type}{e:Option α}{k:α→Option β}{Q:β→Prop}(R:α→Prop)(h:∃x,e=some x∧R x)(hk:∀x,R x→∃y,k x=some y∧Q y):∃y,e.bind k=some y∧Q y:=by
 obtain⟨x,rfl,hx⟩:=h
 exact hk x hx
theorem bind_eq {α β:Type}{e:Option α}{k:α→Option β}{Q:β→Prop}{x:α}(h:e=some x)(hk:∃y,k x=some y∧Q y):∃y,e.bind k=some y∧Q y:=by
 subst h;exact hk
theorem loop_steps {S ρ:Type}{step:S→Option (S ⊕ ρ)}(st:Nat→S)(n:Nat)(h:∀i,i<n→step (st i)=some (.inl (st (i+1)))):Ay step (st 0)=Ay step (st n):=by
 have key:∀k,k≤n→Ay step (st 0)=Ay step (st k):=by
  intro k
  induction k with
  |zero=>intro _;rfl
  |succ k ih=>intro hk;rw[ih (by omega),Cc (h k (by omega))]
 exact key n (Nat.le_refl n)
theorem B7 {S ρ β:Type}{step:S→Option (S ⊕ ρ)}{k:ρ→Option β}{s0:S}(st:Nat→S)(n:Nat)(r:ρ)(h0:st 0=s0)(h:∀i,i<n→step (st i)=some (.inl (st (i+1))))(he:step (st n)=some (.inr r)):
  (Ay step s0).bind k=k r:=by
 rw[←h0,loop_steps st n h,BJ he];rfl
theorem EG {α σ S ρ:Type}{step:S→Option (S ⊕ ρ)}(xs:List α)(enc:σ→Int→S)(f:σ→α→σ)(fin:σ→ρ)(I:σ→Prop)(s0:σ)
  (h0:I s0) (hstep:∀s (i:Nat) (h:i<xs.length),I s→step (enc s i)=some (.inl (enc (f s xs[i]) ((i+1:Nat):Int)))∧I (f s xs[i]))
  (hend:∀s,I s→step (enc s xs.length)=some (.inr (fin s))):Ay step (enc s0 0)=some (fin (xs.foldl f s0))∧I (xs.foldl f s0):=by
 have key:∀(k i:Nat) (s:σ),i+k=xs.length→I s→Ay step (enc s i)=some (fin ((xs.drop i).foldl f s))∧I ((xs.drop i).foldl f s):=by
  intro k
  induction k with
  |zero=>
   intro i s hk hs
   obtain rfl:i=xs.length:=by omega
   simp only[List.drop_length,List.foldl_nil]
   exact⟨BJ (hend s hs),hs⟩
  |succ k ih=>
   intro i s hk hs
   have hi:i<xs.length:=by omega
   obtain⟨h1,h2⟩:=hstep s i hi hs
   rw[Cc h1,List.drop_eq_getElem_cons hi,List.foldl_cons]
   exact ih (i+1) _ (by omega) h2
 have:=key xs.length 0 s0 (by omega) h0
 simpa using this
theorem loop_listb {α σ S ρ β:Type}{step:S→Option (S ⊕ ρ)}{k:ρ→Option β}(xs:List α)(enc:σ→Int→S)(f:σ→α→σ)(fin:σ→ρ)(I:σ→Prop)(s0:σ)
  (h0:I s0) (hstep:∀s (i:Nat) (h:i<xs.length),I s→step (enc s i)=some (.inl (enc (f s xs[i]) ((i+1:Nat):Int)))∧I (f s xs[i]))
  (hend:∀s,I s→step (enc s xs.length)=some (.inr (fin s))):(Ay step (enc s0 0)).bind k=k (fin (xs.foldl f s0)):=by
 rw[(EG xs enc f fin I s0 h0 hstep hend).1];rfl
theorem DL {α β γ S:Type}{step:S→Option (S ⊕ List β)}{k:List β→Option γ}(xs:List α)(enc:List β→Int→S)(f:α→β)(hx:xs.length≤4294967296)
  (hstep:∀s (i:Nat) (h:i<xs.length),s.length=i→step (enc s i)=(AY s [f xs[i]]).bind λl=>some (.inl (enc l ((i+1:Nat):Int))))
  (hend:∀s,step (enc s xs.length)=some (.inr s)):(Ay step (enc [] 0)).bind k=k (xs.map f):=by
 have key:∀i,i≤xs.length→Ay step (enc [] 0)=Ay step (enc ((xs.take i).map f) i):=by
  intro i
  induction i with
  |zero=>intro _;simp
  |succ i ih=>
   intro hi
   rw[ih (by omega)]
   have h1:=hstep ((xs.take i).map f) i (by omega) (by simp;omega)
   have h2:AY ((xs.take i).map f) [f xs[i]]=some ((xs.take (i+1)).map f):=by
    unfold AY
    rw[if_pos (by simp;omega)]
    rw[List.take_succ_eq_append_getElem (show i<xs.length by omega),List.map_append];rfl
   rw[h2] at h1
   rw[Cc h1]
 rw[key xs.length (Nat.le_refl _),List.take_length,BJ (hend _)];rfl
theorem loop_nat {σ S ρ:Type}{step:S→Option (S ⊕ ρ)}(n:Nat)(enc:σ→Int→S)(f:σ→Nat→σ)(fin:σ→ρ)(I:Nat→σ→Prop)(s0:σ)
  (h0:I 0 s0) (hstep:∀s (i:Nat),i<n→I i s→step (enc s i)=some (.inl (enc (f s i) ((i+1:Nat):Int)))∧I (i+1) (f s i))
  (hend:∀s,I n s→step (enc s n)=some (.inr (fin s))):Ay step (enc s0 0)=some (fin ((List.range n).foldl f s0))∧I n ((List.range n).foldl f s0):=by
 have key:∀k,k≤n→Ay step (enc s0 0)=Ay step (enc ((List.range k).foldl f s0) k)∧I k ((List.range k).foldl f s0):=by
  intro k
  induction k with
  |zero=>intro _;exact⟨rfl,h0⟩
  |succ k ih=>
   intro hk
   obtain⟨h1,h2⟩:=ih (by omega)
   obtain⟨h3,h4⟩:=hstep _ k (by omega) h2
   rw[List.range_succ,List.foldl_append,List.foldl_cons,List.foldl_nil]
   exact⟨by rw[h1,Cc h3],h4⟩
 obtain⟨h1,h2⟩:=key n (Nat.le_refl n)
 exact⟨by rw[h1,BJ (hend _ h2)],h2⟩
theorem D5 {ρ : Type} {step : Int → Option (Int ⊕ ρ)} (n : Nat) (c : Nat → Option ρ) (fin : ρ)
    (hstep : ∀ i, i < n → step (i : Int) = match c i with | some r => some (.inr r) | none => some (.inl ((i + 1 : Nat) : Int)))
    (hend : step (n : Int) = some (.inr fin)) : Ay step 0 = some (((List.range n).findSome? c).getD fin) := by
  have key : ∀ (k i : Nat), i + k = n → Ay step (i : Int) = some (((List.range' i k).findSome? c).getD fin) := by
    intro k
    induction k with
    | zero => intro i h; obtain rfl : i = n := by omega
              simpa using BJ hend
    | succ k ih =>
      intro i h
      have h1 := hstep i (by omega)
      rw [List.range'_succ, List.findSome?_cons]
      cases hc : c i with
      | some r => rw [hc] at h1; simpa using BJ h1
      | none => rw [hc] at h1; rw [Cc h1]; exact ih (i + 1) (by omega)
  have := key n 0 (by omega)
  simpa [List.range_eq_range'] using this
theorem Dx {β:Type}{step:Int→Option (Int ⊕ (Unit ⊕ β))}{k:Unit ⊕ β→Option Bool}(n:Nat)(c:Nat→Bool)(bad:β)
  (hstep:∀i,i<n→step (i:Int)=if c i then some (.inl ((i+1:Nat):Int)) else some (.inr (.inr bad)))
  (hend:step (n:Int)=some (.inr (.inl ()))) (hk1:k (.inl ())=some true) (hk2:k (.inr bad)=some false):
  (Ay step 0).bind k=some ((List.range n).all c):=by
 rw[D5 n (λi=>if c i then none else some (.inr bad)) (.inl ()) (λi hi=>by rw[hstep i hi];cases c i<;>rfl) hend]
 simp only[bs]
 cases h:(List.range n).all c with
 |true=>
  rw[List.findSome?_eq_none_iff.2 (λx hx=>by rw[if_pos (List.all_eq_true.1 h x hx)])]
  exact hk1
 |false=>
  cases h2:(List.range n).findSome? (λi=>if c i then none else some (Sum.inr bad)) with
  |none=>
   rw[List.findSome?_eq_none_iff] at h2
   have:(List.range n).all c=true:=List.all_eq_true.2 λx hx=>by
    have:=h2 x hx
    cases hc:c x
    ·rw[hc] at this;cases this
    ·rfl
   rw[this] at h;cases h
  |some r=>
   obtain⟨x,_,hx⟩:=List.exists_of_findSome?_eq_some h2
   cases hc:c x
   ·rw[hc] at hx;simp at hx;subst hx;exact hk2
   ·rw[hc] at hx;simp at hx
theorem EU {ρ β:Type}{step:Int→Option (Int ⊕ ρ)}{k:ρ→Option β}(n:Nat)(c:Nat→Bool)(fine bad:ρ)
  (hstep:∀i,i<n→step (i:Int)=if c i then some (.inl ((i+1:Nat):Int)) else some (.inr bad))
  (hend:step (n:Int)=some (.inr fine)):(Ay step 0).bind k=cond ((List.range n).all c) (k fine) (k bad):=by
 rw[D5 n (λi=>if c i then none else some bad) fine (λi hi=>by rw[hstep i hi];cases c i<;>rfl) hend]
 simp only[bs]
 cases h:(List.range n).all c with
 |true=>
  rw[List.findSome?_eq_none_iff.2 (λx hx=>by rw[if_pos (List.all_eq_true.1 h x hx)])]
  rfl
 |false=>
  cases h2:(List.range n).findSome? (λi=>if c i then none else some bad) with
  |none=>
   rw[List.findSome?_eq_none_iff] at h2
   have:(List.range n).all c=true:=List.all_eq_true.2 λx hx=>by
    have:=h2 x hx
    cases hc:c x
    ·rw[hc] at this;cases this
    ·rfl
   rw[this] at h;cases h
  |some r=>
   obtain⟨x,_,hx⟩:=List.exists_of_findSome?_eq_some h2
   cases hc:c x
   ·rw[hc] at hx;simp at hx;subst hx;rfl
   ·rw[hc] at hx;simp at hx
theorem loop_anyb {β:Type}{step:Int→Option (Int ⊕ (Unit ⊕ β))}{k:Unit ⊕ β→Option Bool}(n:Nat)(c:Nat→Bool)(good:β)
  (hstep:∀i,i<n→step (i:Int)=if c i then some (.inr (.inr good)) else some (.inl ((i+1:Nat):Int)))
  (hend:step (n:Int)=some (.inr (.inl ()))) (hk1:k (.inl ())=some false) (hk2:k (.inr good)=some true):
  (Ay step 0).bind k=some ((List.range n).any c):=by
 rw[D5 n (λi=>if c i then some (.inr good) else none) (.inl ()) (λi hi=>by rw[hstep i hi];cases c i<;>rfl) hend]
 simp only[bs]
 cases h:(List.range n).any c with
 |false=>
  rw[List.findSome?_eq_none_iff.2 (λx hx=>by
   have:c x=false:=by
    cases hc:c x
    ·rfl
    ·rw[List.any_eq_true.2 ⟨x,hx,hc⟩] at h;cases h
   rw[this];rfl)]
  exact hk1
 |true=>
  obtain⟨x,hx,hc⟩:=List.any_eq_true.1 h
  cases h2:(List.range n).findSome? (λi=>if c i then some (Sum.inr good) else none) with
  |none=>
   rw[List.findSome?_eq_none_iff] at h2
   have:=h2 x hx
   rw[hc] at this;cases this
  |some r=>
   obtain⟨y,_,hy⟩:=List.exists_of_findSome?_eq_some h2
   cases hc:c y
   ·rw[hc] at hy;simp at hy
   ·rw[hc] at hy;simp at hy;subst hy;exact hk2
theorem Em {α:Type}(xs:List α)(p:α→Bool)(c:Nat→Bool)(h:∀i (hi:i<xs.length),c i=p xs[i]):(List.range xs.length).all c=xs.all p:=by
 rw[Bool.eq_iff_iff,List.all_eq_true,List.all_eq_true]
 constructor
 ·intro hh x hx
  obtain⟨i,hi,rfl⟩:=List.getElem_of_mem hx
  rw[←h i hi];exact hh i (List.mem_range.2 hi)
 ·intro hh i hi
  have hi':=List.mem_range.1 hi
  rw[h i hi'];exact hh _ (List.getElem_mem _)
theorem range_any_list {α:Type}(xs:List α)(p:α→Bool)(c:Nat→Bool)(h:∀i (hi:i<xs.length),c i=p xs[i]):(List.range xs.length).any c=xs.any p:=by
 rw[Bool.eq_iff_iff,List.any_eq_true,List.any_eq_true]
 constructor
 ·rintro⟨i,hi,hc⟩
  have hi':=List.mem_range.1 hi
  exact⟨_,List.getElem_mem hi',by rw[←h i hi'];exact hc⟩
 ·rintro⟨x,hx,hc⟩
  obtain⟨i,hi,rfl⟩:=List.getElem_of_mem hx
  exact⟨i,List.mem_range.2 hi,by rw[h i hi];exact hc⟩
theorem DE (n:Nat)(c:Nat→Bool):(List.range n).all c=true↔∀i,i<n→c i=true:=by
 rw[List.all_eq_true]
 exact⟨λh i hi=>h i (List.mem_range.2 hi),λh i hi=>h i (List.mem_range.1 hi)⟩
end Go.Sx



namespace Go.Sx
end Go.Sx

namespace Go.Sx.Gs
class Srtd (α:Type) where
 dflt:α
 key:α→Int
 good:α→Prop
 cmp:α→α→Option Int
 law:∀x y,good x→good y→∃v,cmp x y=some v∧decide (v<0)=decide (key x<key y)
variable {α : Type} [Srtd α]
def el (l:List α)(i:Int):α:=l.getD i.toNat Srtd.dflt
def at' (l:List α)(i:Int):Int:=Srtd.key (el l i)
theorem el_set {l:List α}{i k:Int}{x:α}(h0:0≤i)(h1:i<l.length)(hk:0≤k):el (l.set i.toNat x) k=if k=i then x else el l k:=by
 unfold el
 by_cases h:k=i
 ·subst h
  have:k.toNat<l.length:=by omega
  simp[this]
 ·rw[if_neg h]
  have:i.toNat≠k.toNat:=by omega
  simp[List.getD_eq_getElem?_getD,List.getElem?_set_ne this]
def sw (l:List α)(i j:Int):List α:=(l.set i.toNat (el l j)).set j.toNat (el l i)
theorem sw_len (l:List α)(i j:Int):(sw l i j).length=l.length:=by simp[sw]
theorem BR {l:List α}{i j k:Int}(hi:0≤i)(hi':i<l.length)(hj:0≤j)(hj':j<l.length)(hk:0≤k):
  at' (sw l i j) k=if k=j then at' l i else if k=i then at' l j else at' l k:=by
 unfold sw at'
 rw[el_set hj (by simpa using hj') hk]
 split
 ·rfl
 ·rw[el_set hi hi' hk]
  split<;>rfl
omit [Srtd α] in
theorem BO (z:α):∀(l:List α) (j:Nat),j<l.length→List.Perm (l.set j z) (z::l.eraseIdx j)
 |[],j,h=>by simp at h
 |x::l,0,_=>by simp
 |x::l,j+1,h=>by
  simp only[List.set_cons_succ,List.eraseIdx_cons_succ]
  exact((BO z l j (by simpa using h)).cons x).trans (List.Perm.swap _ _ _)
omit [Srtd α] in
theorem Di (l:List α)(j:Nat)(h:j<l.length):List.Perm l (l[j]::l.eraseIdx j):=by
 have:=BO l[j] l j h
 rwa [List.set_getElem_self] at this
omit [Srtd α] in
theorem DT :∀(l:List α) (i j:Nat) (x y:α),l[i]? =some x→l[j]? =some y→List.Perm ((l.set i y).set j x) l
 |[],i,j,x,y,h,_=>by simp at h
 |z::l,0,0,x,y,h,h'=>by simp at h h';subst h;simp
 |z::l,0,j+1,x,y,h,h'=>by
  simp at h h'
  subst h
  simp only[List.set_cons_zero,List.set_cons_succ]
  obtain⟨hj,rfl⟩:=List.getElem?_eq_some_iff.1 h'
  have h1:=BO z l j hj
  have h2:=Di l j hj
  exact((h1.cons _).trans (List.Perm.swap _ _ _)).trans (h2.symm.cons z)
 |z::l,i+1,0,x,y,h,h'=>by
  simp at h h'
  subst h'
  simp only[List.set_cons_zero,List.set_cons_succ]
  obtain⟨hj,rfl⟩:=List.getElem?_eq_some_iff.1 h
  have h1:=BO z l i hj
  have h2:=Di l i hj
  exact((h1.cons _).trans (List.Perm.swap _ _ _)).trans (h2.symm.cons z)
 |z::l,i+1,j+1,x,y,h,h'=>by
  simp at h h'
  simp only[List.set_cons_succ]
  exact(DT l i j x y h h').cons z
theorem sw_perm {l:List α}{i j:Int}(hi:0≤i)(hi':i<l.length)(hj:0≤j)(hj':j<l.length):List.Perm (sw l i j) l:=by
 have h1:i.toNat<l.length:=by omega
 have h2:j.toNat<l.length:=by omega
 exact DT l i.toNat j.toNat _ _ (by simp[el,h1]) (by simp[el,h2])
structure Rg (a b:Int)(l l':List α):Prop where
 len:l'.length=l.length
 perm:List.Perm l' l
 out:∀k,0≤k→(k<a∨b≤k)→at' l' k=at' l k
 all:∀Q:Int→Prop,(∀k,a≤k→k<b→Q (at' l k))→∀k,a≤k→k<b→Q (at' l' k)
theorem Rg.refl (a b:Int)(l:List α):Rg a b l l:=⟨rfl,List.Perm.refl _,λ_ _ _=>rfl,λ_ h=>h⟩
theorem Rg.trans {a b:Int}{l l' l'':List α}(h:Rg a b l l')(h':Rg a b l' l''):Rg a b l l'':=
 ⟨h'.len.trans h.len,h'.perm.trans h.perm,λk h0 hk=>(h'.out k h0 hk).trans (h.out k h0 hk),λQ hQ=>h'.all Q (h.all Q hQ)⟩
theorem Rg.swap {a b i j:Int}{l:List α}(ha:0≤a)(hb:b≤l.length)(hi:a≤i)(hi':i<b)(hj:a≤j)(hj':j<b):Rg a b l (sw l i j):=by
 refine⟨sw_len _ _ _,sw_perm (by omega) (by omega) (by omega) (by omega),λk h0 hk=> ?_,λQ hQ k h1 h2=> ?_⟩
 ·rw[BR (by omega) (by omega) (by omega) (by omega) h0,if_neg (by omega),if_neg (by omega)]
 ·rw[BR (by omega) (by omega) (by omega) (by omega) (by omega)]
  split
  ·exact hQ i hi hi'
  ·split
   ·exact hQ j hj hj'
   ·exact hQ k h1 h2
end Go.Sx.Gs

namespace Go.Sx.Gs
variable {α : Type} [Srtd α]
end Go.Sx.Gs

namespace Go.Sx.Gs
variable {α : Type} [Srtd α]
structure Parted (l0 l':List α)(a b mid:Int):Prop where
 rg:Rg a b l0 l'
 lo:a≤mid
 hi:mid<b
 left:∀k,a≤k→k<mid→at' l' k≤at' l' mid
 right:∀k,mid<k→k<b→at' l' mid≤at' l' k
end Go.Sx.Gs

namespace Go.Sx.Gs
variable {α : Type} [Srtd α]
end Go.Sx.Gs

namespace Go.Sx
def at' (l:LI)(i:Int):Int:=l.getD i.toNat 0
theorem Bm {l:LI}{i:Int}(h0:0≤i)(h1:i<l.length):idx l i=some (at' l i):=by
 unfold idx at'
 rw[if_pos h0]
 have:i.toNat<l.length:=by omega
 simp[this]
theorem at_set {l:LI}{i k x:Int}(h0:0≤i)(h1:i<l.length)(hk:0≤k):at' (l.set i.toNat x) k=if k=i then x else at' l k:=by
 unfold at'
 by_cases h:k=i
 ·subst h
  have:k.toNat<l.length:=by omega
  simp[this]
 ·rw[if_neg h]
  have:i.toNat≠k.toNat:=by omega
  simp[List.getD_eq_getElem?_getD,List.getElem?_set_ne this]
def sw (l:LI)(i j:Int):LI:=(l.set i.toNat (at' l j)).set j.toNat (at' l i)
theorem sw_len (l:LI)(i j:Int):(sw l i j).length=l.length:=by simp[sw]
theorem BR {l:LI}{i j k:Int}(hi:0≤i)(hi':i<l.length)(hj:0≤j)(hj':j<l.length)(hk:0≤k):
  at' (sw l i j) k=if k=j then at' l i else if k=i then at' l j else at' l k:=by
 unfold sw
 rw[at_set hj (by simpa using hj') hk]
 split
 ·rfl
 ·rw[at_set hi hi' hk]
theorem BO (z:Int):∀(l:LI) (j:Nat),j<l.length→List.Perm (l.set j z) (z::l.eraseIdx j)
 |[],j,h=>by simp at h
 |x::l,0,_=>by simp
 |x::l,j+1,h=>by
  simp only[List.set_cons_succ,List.eraseIdx_cons_succ]
  exact((BO z l j (by simpa using h)).cons x).trans (List.Perm.swap _ _ _)
theorem Di (l:LI)(j:Nat)(h:j<l.length):List.Perm l (l[j]::l.eraseIdx j):=by
 have:=BO l[j] l j h
 rwa [List.set_getElem_self] at this
theorem DT :∀(l:LI) (i j:Nat) (x y:Int),l[i]? =some x→l[j]? =some y→List.Perm ((l.set i y).set j x) l
 |[],i,j,x,y,h,_=>by simp at h
 |z::l,0,0,x,y,h,h'=>by simp at h h';subst h;simp
 |z::l,0,j+1,x,y,h,h'=>by
  simp at h h'
  subst h
  simp only[List.set_cons_zero,List.set_cons_succ]
  obtain⟨hj,rfl⟩:=List.getElem?_eq_some_iff.1 h'
  have h1:=BO z l j hj
  have h2:=Di l j hj
  exact((h1.cons _).trans (List.Perm.swap _ _ _)).trans (h2.symm.cons z)
 |z::l,i+1,0,x,y,h,h'=>by
  simp at h h'
  subst h'
  simp only[List.set_cons_zero,List.set_cons_succ]
  obtain⟨hj,rfl⟩:=List.getElem?_eq_some_iff.1 h
  have h1:=BO z l i hj
  have h2:=Di l i hj
  exact((h1.cons _).trans (List.Perm.swap _ _ _)).trans (h2.symm.cons z)
 |z::l,i+1,j+1,x,y,h,h'=>by
  simp at h h'
  simp only[List.set_cons_succ]
  exact(DT l i j x y h h').cons z
theorem sw_perm {l:LI}{i j:Int}(hi:0≤i)(hi':i<l.length)(hj:0≤j)(hj':j<l.length):List.Perm (sw l i j) l:=by
 have h1:i.toNat<l.length:=by omega
 have h2:j.toNat<l.length:=by omega
 exact DT l i.toNat j.toNat _ _ (by simp[at',h1]) (by simp[at',h2])
structure Rg (a b:Int)(l l':LI):Prop where
 len:l'.length=l.length
 perm:List.Perm l' l
 out:∀k,0≤k→(k<a∨b≤k)→at' l' k=at' l k
 all:∀Q:Int→Prop,(∀k,a≤k→k<b→Q (at' l k))→∀k,a≤k→k<b→Q (at' l' k)
theorem Rg.refl (a b:Int)(l:LI):Rg a b l l:=⟨rfl,List.Perm.refl _,λ_ _ _=>rfl,λ_ h=>h⟩
theorem Rg.trans {a b:Int}{l l' l'':LI}(h:Rg a b l l')(h':Rg a b l' l''):Rg a b l l'':=
 ⟨h'.len.trans h.len,h'.perm.trans h.perm,λk h0 hk=>(h'.out k h0 hk).trans (h.out k h0 hk),λQ hQ=>h'.all Q (h.all Q hQ)⟩
theorem Rg.swap {a b i j:Int}{l:LI}(ha:0≤a)(hb:b≤l.length)(hi:a≤i)(hi':i<b)(hj:a≤j)(hj':j<b):Rg a b l (sw l i j):=by
 refine⟨sw_len _ _ _,sw_perm (by omega) (by omega) (by omega) (by omega),λk h0 hk=> ?_,λQ hQ k h1 h2=> ?_⟩
 ·rw[BR (by omega) (by omega) (by omega) (by omega) h0,if_neg (by omega),if_neg (by omega)]
 ·rw[BR (by omega) (by omega) (by omega) (by omega) (by omega)]
  split
  ·exact hQ i hi hi'
  ·split
   ·exact hQ j hj hj'
   ·exact hQ k h1 h2
theorem Rg.widen {a b a' b':Int}{l l':LI}(h:Rg a b l l')(ha:a'≤a)(hb:b≤b')(h0:0≤a'):Rg a' b' l l':=by
 refine⟨h.len,h.perm,λk h0 hk=>h.out k h0 (by omega),λQ hQ k h1 h2=> ?_⟩
 by_cases hk:a≤k∧k<b
 ·exact h.all Q (λk h3 h4=>hQ k (by omega) (by omega)) k hk.1 hk.2
 ·rw[h.out k (by omega) (by omega)];exact hQ k h1 h2
def Srt (l:LI)(a b:Int):Prop:=∀i j,a≤i→i<j→j<b→at' l i≤at' l j
theorem Cr (x y:Int):D.d x y=some (decide (x<y)):=by
 simp[D.d,D.l0]
theorem Cd {l:LI}{i j x:Int}(h0:0≤i)(h1:i<l.length):idx (l.set j.toNat x) i=some (at' (l.set j.toNat x) i):=Bm h0 (by simpa using h1)
theorem EH (l0:LI)(a b:Int)(ha:0≤a)(hab:a≤b)(hb:b≤l0.length)(hlen:l0.length≤1000000):
  ∃l',D.q0 l0 a b=some l'∧Rg a b l0 l'∧Srt l' a b:=by
 unfold D.q0
 rw[w64 (show-9223372036854775808≤a+1 by omega) (by omega)]
 refine A3 (λs=>Rg a b l0 s.1∧Srt s.1 a s.2∧a+1≤s.2∧s.2≤b+1) (λs=>(b-s.2).toNat) (λr=>Rg a b l0 r∧Srt r a b) ?_ ?_ ?_
 ·rintro⟨l,i⟩ ⟨hR,hS,h1,h2⟩
  dsimp only at hR hS h1 h2 ⊢
  have hll:=hR.len
  by_cases hi:i<b
  ·simp only[hi,decide_true,cond_true]
   rw[w64 (show-9223372036854775808≤i+1 by omega) (by omega)]
   refine A3 (λs=>Rg a b l0 s.1∧a≤s.2∧s.2≤i∧∀p q,a≤p→p<q→q≤i→q≠s.2→at' s.1 p≤at' s.1 q) (λs=>(s.2-a).toNat) (λr=>Rg a b l0 r∧Srt r a (i+1)) ?_ ?_ ?_
   ·rintro⟨m,j⟩ ⟨hR',g1,g2,hS'⟩
    dsimp only at hR' g1 g2 hS' ⊢
    have hml:=hR'.len
    rw[w64 (show-9223372036854775808≤j-1 by omega) (by omega)]
    by_cases hj:a<j
    ·have r1:idx m j=some (at' m j):=Bm (by omega) (by omega)
     have r2:idx m (j-1)=some (at' m (j-1)):=Bm (by omega) (by omega)
     have r3:∀x,idx (m.set j.toNat x) (j-1)=some (at' (m.set j.toNat x) (j-1)):=λx=>Cd (by omega) (by omega)
     by_cases hlt:at' m j<at' m (j-1)
     ·refine⟨.inl (sw m j (j-1),j-1),?_,⟨hR'.trans (Rg.swap ha (by omega) (by omega) (by omega) (by omega) (by omega)),by dsimp only;omega,by dsimp only;omega,?_⟩,by dsimp only;omega⟩
      ·simp only[r1,r2,r3,hj,Cr,hlt,decide_true,cond_true,bs]
       rfl
      ·intro p q k1 k2 k3 k4
       dsimp only at k4 ⊢
       rw[BR (by omega) (by omega) (by omega) (by omega) (by omega),BR (by omega) (by omega) (by omega) (by omega) (by omega)]
       by_cases c1:q=j
       ·subst c1
        rw[if_neg (show¬q=q-1 by omega),if_pos rfl]
        by_cases c2:p=q-1
        ·rw[if_pos c2];omega
        ·rw[if_neg c2,if_neg (by omega)]
         exact hS' p (q-1) k1 (by omega) (by omega) (by omega)
       ·rw[if_neg (show¬q=j-1 by omega),if_neg c1]
        by_cases c2:p=j-1
        ·rw[if_pos c2]
         exact hS' j q (by omega) (by omega) k3 c1
        ·rw[if_neg c2]
         by_cases c3:p=j
         ·rw[if_pos c3]
          exact hS' (j-1) q (by omega) (by omega) k3 c1
         ·rw[if_neg c3]
          exact hS' p q k1 k2 k3 c1
     ·refine⟨.inr m,?_,hR',?_⟩
      ·simp only[r1,r2,hj,Cr,hlt,decide_true,decide_false,cond_true,cond_false,bs]
      ·intro p q k1 k2 k3
       by_cases c1:q=j
       ·subst c1
        by_cases c2:p=q-1
        ·subst c2;omega
        ·have:=hS' p (q-1) k1 (by omega) (by omega) (by omega)
         omega
       ·exact hS' p q k1 k2 (by omega) c1
    ·refine⟨.inr m,?_,hR',?_⟩
     ·simp only[hj,decide_false,cond_false,bs]
     ·intro p q k1 k2 k3
      exact hS' p q k1 k2 (by omega) (by omega)
   ·exact⟨hR,by dsimp only;omega,Int.le_refl _,λp q k1 k2 k3 k4=>hS p q k1 k2 (by dsimp only at k4 ⊢;omega)⟩
   ·rintro r ⟨hR',hS'⟩
    exact⟨.inl (r,i+1),rfl,⟨hR',hS',by dsimp only;omega,by dsimp only;omega⟩,by dsimp only;omega⟩
  ·refine⟨.inr l,by simp only[hi,decide_false,cond_false],hR,?_⟩
   intro p q k1 k2 k3
   exact hS p q k1 k2 (by omega)
 ·exact⟨Rg.refl _ _ _,λp q k1 k2 k3=>by dsimp only at k3;omega,by dsimp only;omega,by dsimp only;omega⟩
 ·rintro r hr
  exact⟨r,rfl,hr⟩
theorem E1 (l0:LI)(a b:Int)(ha:0≤a)(hab:a≤b)(hb:b≤l0.length)(hlen:l0.length≤1000000):
  ∃l',D.B0 l0 a b=some l'∧Rg a b l0 l':=by
 unfold D.B0
 rw[w64 (show-9223372036854775808≤b-1 by omega) (by omega)]
 refine A3 (λs=>Rg a b l0 s.1∧a≤s.2.1∧s.2.1≤b∧s.2.2<b∧a-1≤s.2.2) (λs=>(s.2.2-s.2.1).toNat) (λr=>Rg a b l0 r) ?_ ?_ ?_
 ·rintro⟨l,i,j⟩ ⟨hR,h1,h2,h3,h4⟩
  dsimp only at hR h1 h2 h3 h4 ⊢
  have hll:=hR.len
  by_cases hi:i<j
  ·have r1:idx l i=some (at' l i):=Bm (by omega) (by omega)
   have r2:idx l j=some (at' l j):=Bm (by omega) (by omega)
   have r3:∀x,idx (l.set i.toNat x) j=some (at' (l.set i.toNat x) j):=λx=>Cd (by omega) (by omega)
   rw[w64 (show-9223372036854775808≤i+1 by omega) (by omega),w64 (show-9223372036854775808≤j-1 by omega) (by omega)]
   refine⟨.inl (sw l i j,i+1,j-1),?_,⟨hR.trans (Rg.swap ha (by omega) (by omega) (by omega) (by omega) (by omega)),by dsimp only;omega,by dsimp only;omega,by dsimp only;omega,by dsimp only;omega⟩,by dsimp only;omega⟩
   simp only[r1,r2,r3,hi,decide_true,cond_true,bs]
   rfl
  ·exact⟨.inr l,by simp only[hi,decide_false,cond_false],hR⟩
 ·exact⟨Rg.refl _ _ _,by dsimp only;omega,by dsimp only;omega,by dsimp only;omega,by dsimp only;omega⟩
 ·rintro r hr
  exact⟨r,rfl,hr⟩
theorem scanUp {β:Type}{k:Int→Option β}{Q:β→Prop}(l:LI)(a hi i0:Int)(ha:0≤a)(ha':a<l.length)(h0:0≤i0)(h1:i0≤hi+1)(h2:hi<l.length)(hlen:l.length≤1000000)
  (hk:∀i,i0≤i→i≤hi+1→(∀q,i0≤q→q<i→at' l q<at' l a)→(i≤hi→¬at' l i<at' l a)→∃y,k i=some y∧Q y):
  ∃y,(Ay (σ:=Int) (ρ:=(Int)) (fun(x:Int)=>(cond (decide (x≤hi)) ((idx l x).bind λe=>(idx l a).bind λe'=>(D.d e e').bind λy=>some y) (some false)).bind λb=>cond b (some (.inl (IntKind.i64.wrap (x+1)))) (some (.inr x))) i0).bind k=some y∧Q y:=by
 refine A3 (λi=>i0≤i∧i≤hi+1∧∀q,i0≤q→q<i→at' l q<at' l a) (λi=>(hi+1-i).toNat) (λi=>i0≤i∧i≤hi+1∧(∀q,i0≤q→q<i→at' l q<at' l a)∧(i≤hi→¬at' l i<at' l a)) ?_ ?_ ?_
 ·rintro i ⟨g1,g2,g3⟩
  by_cases hi':i≤hi
  ·have r1:idx l i=some (at' l i):=Bm (by omega) (by omega)
   have r2:idx l a=some (at' l a):=Bm (by omega) (by omega)
   by_cases hlt:at' l i<at' l a
   ·refine⟨.inl (i+1),?_,⟨by omega,by omega,λq q1 q2=> ?_⟩,by dsimp only;omega⟩
    ·simp only[r1,r2,hi',Cr,hlt,decide_true,cond_true,bs]
     rw[w64 (by omega) (by omega)]
    ·by_cases e:q=i
     ·rw[e];exact hlt
     ·exact g3 q q1 (by omega)
   ·exact⟨.inr i,by simp only[r1,r2,hi',Cr,hlt,decide_true,decide_false,cond_true,cond_false,bs],g1,g2,g3,λ_=>hlt⟩
  ·exact⟨.inr i,by simp only[hi',decide_false,cond_false,bs],g1,g2,g3,λh=>absurd h hi'⟩
 ·exact⟨Int.le_refl _,h1,λq q1 q2=>by omega⟩
 ·rintro i ⟨g1,g2,g3,g4⟩
  exact hk i g1 g2 g3 g4
theorem scanDown {β:Type}{k:Int→Option β}{Q:β→Prop}(l:LI)(a lo j0:Int)(ha:0≤a)(ha':a<l.length)(h0:0≤lo)(h1:lo≤j0+1)(h2:j0<l.length)(hlen:l.length≤1000000)
  (hk:∀j,lo≤j+1→j≤j0→(∀q,j<q→q≤j0→¬at' l q<at' l a)→(lo≤j→at' l j<at' l a)→∃y,k j=some y∧Q y):
  ∃y,(Ay (σ:=Int) (ρ:=(Int)) (fun(x:Int)=>(cond (decide (lo≤x)) ((idx l x).bind λe=>(idx l a).bind λe'=>(D.d e e').bind λy=>some (!y)) (some false)).bind λb=>cond b (some (.inl (IntKind.i64.wrap (x-1)))) (some (.inr x))) j0).bind k=some y∧Q y:=by
 refine A3 (λj=>lo≤j+1∧j≤j0∧∀q,j<q→q≤j0→¬at' l q<at' l a) (λj=>(j+1-lo).toNat) (λj=>lo≤j+1∧j≤j0∧(∀q,j<q→q≤j0→¬at' l q<at' l a)∧(lo≤j→at' l j<at' l a)) ?_ ?_ ?_
 ·rintro j ⟨g1,g2,g3⟩
  by_cases hi':lo≤j
  ·have r1:idx l j=some (at' l j):=Bm (by omega) (by omega)
   have r2:idx l a=some (at' l a):=Bm (by omega) (by omega)
   by_cases hlt:at' l j<at' l a
   ·exact⟨.inr j,by simp only[r1,r2,hi',Cr,hlt,decide_true,Bool.not_true,cond_true,cond_false,bs],g1,g2,g3,λ_=>hlt⟩
   ·refine⟨.inl (j-1),?_,⟨by omega,by omega,λq q1 q2=> ?_⟩,by dsimp only;omega⟩
    ·simp only[r1,r2,hi',Cr,hlt,decide_true,decide_false,Bool.not_false,cond_true,bs]
     rw[w64 (by omega) (by omega)]
    ·by_cases e:q=j
     ·rw[e];exact hlt
     ·exact g3 q (by omega) q2
  ·exact⟨.inr j,by simp only[hi',decide_false,cond_false,bs],g1,g2,g3,λh=>absurd h hi'⟩
 ·exact⟨h1,Int.le_refl _,λq q1 q2=>by omega⟩
 ·rintro j ⟨g1,g2,g3,g4⟩
  exact hk j g1 g2 g3 g4
structure Parted (l0 l':LI)(a b mid:Int):Prop where
 rg:Rg a b l0 l'
 lo:a≤mid
 hi:mid<b
 left:∀k,a≤k→k<mid→at' l' k≤at' l' mid
 right:∀k,mid<k→k<b→at' l' mid≤at' l' k
theorem partition_spec (l0:LI)(a b p:Int)(ha:0≤a)(hb:b≤l0.length)(hlen:l0.length≤1000000)(hp:a≤p)(hp':p<b):
  ∃y,D.e1 l0 a b p=some y∧Parted l0 y.2.2 a b y.1:=by
 unfold D.e1
 have r1:idx l0 p=some (at' l0 p):=Bm (by omega) (by omega)
 have r2:idx l0 a=some (at' l0 a):=Bm (by omega) (by omega)
 have r3:∀x,idx (l0.set a.toNat x) p=some (at' (l0.set a.toNat x) p):=λx=>Cd (by omega) (by omega)
 simp only[r1,r2,r3,bs]
 rw[show (l0.set a.toNat (at' l0 p)).set p.toNat (at' l0 a)=sw l0 a p from rfl]
 have hR0:Rg a b l0 (sw l0 a p):=Rg.swap ha hb (by omega) (by omega) hp hp'
 generalize sw l0 a p=m0 at hR0 ⊢
 have hm0:=hR0.len
 rw[w64 (show-9223372036854775808≤b-1 by omega) (by omega),w64 (show-9223372036854775808≤a+1 by omega) (by omega)]
 refine scanUp m0 a (b-1) (a+1) ha (by omega) (by omega) (by omega) (by omega) (by omega) (λi i1 i2 i3 i4=> ?_)
 refine scanDown m0 a i (b-1) ha (by omega) (by omega) (by omega) (by omega) (by omega) (λj j1 j2 j3 j4=> ?_)
 have q1:idx m0 a=some (at' m0 a):=Bm (by omega) (by omega)
 have q2:idx m0 j=some (at' m0 j):=Bm (by omega) (by omega)
 by_cases hij:j<i
 ·have q3:∀x,idx (m0.set j.toNat x) a=some (at' (m0.set j.toNat x) a):=λx=>Cd (by omega) (by omega)
  refine⟨(j,true,sw m0 j a),?_,⟨hR0.trans (Rg.swap ha (by omega) (by omega) (by omega) (by omega) (by omega)),by dsimp only;omega,by dsimp only;omega,λk k1 k2=> ?_,λk k1 k2=> ?_⟩⟩
  ·simp only[q1,q2,q3,hij,decide_true,cond_true,bs]
   rfl
  ·dsimp only at k1 k2 ⊢
   rw[BR (by omega) (by omega) (by omega) (by omega) (by omega),BR (by omega) (by omega) (by omega) (by omega) (by omega)]
   rw[if_neg (show¬j=a by omega),if_pos rfl]
   by_cases e:k=a
   ·rw[if_pos e]
    have:=i3 j (by omega) (by omega);omega
   ·rw[if_neg e,if_neg (by omega)]
    have:=i3 k (by omega) (by omega);omega
  ·dsimp only at k1 k2 ⊢
   rw[BR (by omega) (by omega) (by omega) (by omega) (by omega),BR (by omega) (by omega) (by omega) (by omega) (by omega)]
   rw[if_neg (show¬k=a by omega),if_neg (show¬k=j by omega)]
   have hk:=j3 k (by omega) (by omega)
   by_cases e:j=a
   ·rw[if_pos e];subst e;omega
   ·rw[if_neg e,if_pos rfl];omega
 ·have q4:idx m0 i=some (at' m0 i):=Bm (by omega) (by omega)
  have q5:∀x,idx (m0.set i.toNat x) j=some (at' (m0.set i.toNat x) j):=λx=>Cd (by omega) (by omega)
  simp only[q1,q2,q4,q5,hij,decide_false,cond_false,bs]
  rw[show (m0.set i.toNat (at' m0 j)).set j.toNat (at' m0 i)=sw m0 i j from rfl]
  have hia:=i4 (by omega)
  have hja:=j4 (by omega)
  have hne:i<j:=by
   rcases Int.lt_or_eq_of_le (show i≤j by omega) with h|h
   ·exact h
   ·subst h;exact absurd hja hia
  have hR1:Rg a b l0 (sw m0 i j):=hR0.trans (Rg.swap ha (by omega) (by omega) (by omega) (by omega) (by omega))
  have ea:at' (sw m0 i j) a=at' m0 a:=by rw[BR (by omega) (by omega) (by omega) (by omega) (by omega),if_neg (by omega),if_neg (by omega)]
  have hlo:∀q,a+1≤q→q<i+1→at' (sw m0 i j) q<at' (sw m0 i j) a:=λq h1 h2=>by
   rw[ea,BR (by omega) (by omega) (by omega) (by omega) (by omega),if_neg (by omega)]
   by_cases e:q=i
   ·rw[if_pos e];exact hja
   ·rw[if_neg e];exact i3 q h1 (by omega)
  have hhi:∀q,j-1<q→q<b→¬at' (sw m0 i j) q<at' (sw m0 i j) a:=λq h1 h2=>by
   rw[ea,BR (by omega) (by omega) (by omega) (by omega) (by omega)]
   by_cases e:q=j
   ·rw[if_pos e];exact hia
   ·rw[if_neg e,if_neg (by omega)];exact j3 q (by omega) (by omega)
  rw[w64 (show-9223372036854775808≤i+1 by omega) (by omega),w64 (show-9223372036854775808≤j-1 by omega) (by omega)]
  generalize sw m0 i j=m1 at hR1 hlo hhi ⊢
  refine A3 (λs=>Rg a b l0 s.1∧a+1≤s.2.1∧s.2.1≤s.2.2+1∧s.2.2<b∧(∀q,a+1≤q→q<s.2.1→at' s.1 q<at' s.1 a)∧(∀q,s.2.2<q→q<b→¬at' s.1 q<at' s.1 a)) (λs=>(s.2.2+1-s.2.1).toNat)
   (λs=>Rg a b l0 s.1∧a≤s.2∧s.2<b∧(∀q,a+1≤q→q≤s.2→at' s.1 q<at' s.1 a)∧(∀q,s.2<q→q<b→¬at' s.1 q<at' s.1 a)) ?_ ?_ ?_
  ·rintro⟨m,u,v⟩ ⟨hR,g1,g2,g3,g4,g5⟩
   dsimp only at hR g1 g2 g3 g4 g5 ⊢
   have hml:=hR.len
   refine scanUp m a v u ha (by omega) (by omega) (by omega) (by omega) (by omega) (λi i1 i2 i3 i4=> ?_)
   refine scanDown m a i v ha (by omega) (by omega) (by omega) (by omega) (by omega) (λj j1 j2 j3 j4=> ?_)
   have f1:∀q,a+1≤q→q<i→at' m q<at' m a:=λq h1 h2=>by
    by_cases h:q<u
    ·exact g4 q h1 h
    ·exact i3 q (by omega) h2
   have f2:∀q,j<q→q<b→¬at' m q<at' m a:=λq h1 h2=>by
    by_cases h:q≤v
    ·exact j3 q h1 h
    ·exact g5 q (by omega) h2
   by_cases hij:j<i
   ·exact⟨.inr (m,j),by simp only[hij,decide_true,cond_true],hR,by dsimp only;omega,by dsimp only;omega,λq h1 h2=>f1 q h1 (by dsimp only at h2;omega),f2⟩
   ·have t1:idx m i=some (at' m i):=Bm (by omega) (by omega)
    have t2:idx m j=some (at' m j):=Bm (by omega) (by omega)
    have t3:∀x,idx (m.set i.toNat x) j=some (at' (m.set i.toNat x) j):=λx=>Cd (by omega) (by omega)
    have hia:=i4 (by omega)
    have hja:=j4 (by omega)
    have hne:i<j:=by
     rcases Int.lt_or_eq_of_le (show i≤j by omega) with h|h
     ·exact h
     ·subst h;exact absurd hja hia
    have ea:at' (sw m i j) a=at' m a:=by rw[BR (by omega) (by omega) (by omega) (by omega) (by omega),if_neg (by omega),if_neg (by omega)]
    rw[w64 (show-9223372036854775808≤i+1 by omega) (by omega),w64 (show-9223372036854775808≤j-1 by omega) (by omega)]
    refine⟨.inl (sw m i j,i+1,j-1),?_,⟨hR.trans (Rg.swap ha (by omega) (by omega) (by omega) (by omega) (by omega)),by dsimp only;omega,by dsimp only;omega,by dsimp only;omega,λq h1 h2=> ?_,λq h1 h2=> ?_⟩,by dsimp only;omega⟩
    ·simp only[t1,t2,t3,hij,decide_false,cond_false,bs]
     rfl
    ·dsimp only at h2 ⊢
     rw[ea,BR (by omega) (by omega) (by omega) (by omega) (by omega),if_neg (by omega)]
     by_cases e:q=i
     ·rw[if_pos e];exact hja
     ·rw[if_neg e];exact f1 q h1 (by omega)
    ·dsimp only at h1 ⊢
     rw[ea,BR (by omega) (by omega) (by omega) (by omega) (by omega)]
     by_cases e:q=j
     ·rw[if_pos e];exact hia
     ·rw[if_neg e,if_neg (by omega)];exact f2 q (by omega) h2
  ·exact⟨hR1,by dsimp only;omega,by dsimp only;omega,by dsimp only;omega,hlo,hhi⟩
  ·rintro⟨m,v⟩ ⟨hR,g1,g2,g3,g4⟩
   dsimp only at hR g1 g2 g3 g4 ⊢
   have hml:=hR.len
   have t1:idx m a=some (at' m a):=Bm (by omega) (by omega)
   have t2:idx m v=some (at' m v):=Bm (by omega) (by omega)
   have t3:∀x,idx (m.set v.toNat x) a=some (at' (m.set v.toNat x) a):=λx=>Cd (by omega) (by omega)
   refine⟨(v,false,sw m v a),?_,⟨hR.trans (Rg.swap ha (by omega) (by omega) (by omega) (by omega) (by omega)),g1,g2,λk k1 k2=> ?_,λk k1 k2=> ?_⟩⟩
   ·simp only[t1,t2,t3,bs]
    rfl
   ·dsimp only at k1 k2 ⊢
    rw[BR (by omega) (by omega) (by omega) (by omega) (by omega),BR (by omega) (by omega) (by omega) (by omega) (by omega)]
    rw[if_neg (show¬v=a by omega),if_pos rfl]
    by_cases e:k=a
    ·rw[if_pos e]
     have:=g3 v (by omega) (by omega);omega
    ·rw[if_neg e,if_neg (by omega)]
     have:=g3 k (by omega) (by omega);omega
   ·dsimp only at k1 k2 ⊢
    rw[BR (by omega) (by omega) (by omega) (by omega) (by omega),BR (by omega) (by omega) (by omega) (by omega) (by omega)]
    rw[if_neg (show¬k=a by omega),if_neg (show¬k=v by omega)]
    have hk:=g4 k (by omega) (by omega)
    by_cases e:v=a
    ·rw[if_pos e];subst e;omega
    ·rw[if_neg e,if_pos rfl];omega
theorem scanUp2 {β:Type}{k:Int→Option β}{Q:β→Prop}(l:LI)(a hi i0:Int)(ha:0≤a)(ha':a<l.length)(h0:0≤i0)(h1:i0≤hi+1)(h2:hi<l.length)(hlen:l.length≤1000000)
  (hk:∀i,i0≤i→i≤hi+1→(∀q,i0≤q→q<i→¬at' l a<at' l q)→(i≤hi→at' l a<at' l i)→∃y,k i=some y∧Q y):
  ∃y,(Ay (σ:=Int) (ρ:=(Int)) (fun(x:Int)=>(cond (decide (x≤hi)) ((idx l a).bind λe=>(idx l x).bind λe'=>(D.d e e').bind λy=>some (!y)) (some false)).bind λb=>cond b (some (.inl (IntKind.i64.wrap (x+1)))) (some (.inr x))) i0).bind k=some y∧Q y:=by
 refine A3 (λi=>i0≤i∧i≤hi+1∧∀q,i0≤q→q<i→¬at' l a<at' l q) (λi=>(hi+1-i).toNat) (λi=>i0≤i∧i≤hi+1∧(∀q,i0≤q→q<i→¬at' l a<at' l q)∧(i≤hi→at' l a<at' l i)) ?_ ?_ ?_
 ·rintro i ⟨g1,g2,g3⟩
  by_cases hi':i≤hi
  ·have r1:idx l i=some (at' l i):=Bm (by omega) (by omega)
   have r2:idx l a=some (at' l a):=Bm (by omega) (by omega)
   by_cases hlt:at' l a<at' l i
   ·exact⟨.inr i,by simp only[r1,r2,hi',Cr,hlt,decide_true,Bool.not_true,cond_true,cond_false,bs],g1,g2,g3,λ_=>hlt⟩
   ·refine⟨.inl (i+1),?_,⟨by omega,by omega,λq q1 q2=> ?_⟩,by dsimp only;omega⟩
    ·simp only[r1,r2,hi',Cr,hlt,decide_true,decide_false,Bool.not_false,cond_true,bs]
     rw[w64 (by omega) (by omega)]
    ·by_cases e:q=i
     ·rw[e];exact hlt
     ·exact g3 q q1 (by omega)
  ·exact⟨.inr i,by simp only[hi',decide_false,cond_false,bs],g1,g2,g3,λh=>absurd h hi'⟩
 ·exact⟨Int.le_refl _,h1,λq q1 q2=>by omega⟩
 ·rintro i ⟨g1,g2,g3,g4⟩
  exact hk i g1 g2 g3 g4
theorem scanDown2 {β:Type}{k:Int→Option β}{Q:β→Prop}(l:LI)(a lo j0:Int)(ha:0≤a)(ha':a<l.length)(h0:0≤lo)(h1:lo≤j0+1)(h2:j0<l.length)(hlen:l.length≤1000000)
  (hk:∀j,lo≤j+1→j≤j0→(∀q,j<q→q≤j0→at' l a<at' l q)→(lo≤j→¬at' l a<at' l j)→∃y,k j=some y∧Q y):
  ∃y,(Ay (σ:=Int) (ρ:=(Int)) (fun(x:Int)=>(cond (decide (lo≤x)) ((idx l a).bind λe=>(idx l x).bind λe'=>(D.d e e').bind λy=>some y) (some false)).bind λb=>cond b (some (.inl (IntKind.i64.wrap (x-1)))) (some (.inr x))) j0).bind k=some y∧Q y:=by
 refine A3 (λj=>lo≤j+1∧j≤j0∧∀q,j<q→q≤j0→at' l a<at' l q) (λj=>(j+1-lo).toNat) (λj=>lo≤j+1∧j≤j0∧(∀q,j<q→q≤j0→at' l a<at' l q)∧(lo≤j→¬at' l a<at' l j)) ?_ ?_ ?_
 ·rintro j ⟨g1,g2,g3⟩
  by_cases hi':lo≤j
  ·have r1:idx l j=some (at' l j):=Bm (by omega) (by omega)
   have r2:idx l a=some (at' l a):=Bm (by omega) (by omega)
   by_cases hlt:at' l a<at' l j
   ·refine⟨.inl (j-1),?_,⟨by omega,by omega,λq q1 q2=> ?_⟩,by dsimp only;omega⟩
    ·simp only[r1,r2,hi',Cr,hlt,decide_true,cond_true,bs]
     rw[w64 (by omega) (by omega)]
    ·by_cases e:q=j
     ·rw[e];exact hlt
     ·exact g3 q (by omega) q2
   ·exact⟨.inr j,by simp only[r1,r2,hi',Cr,hlt,decide_true,decide_false,cond_true,cond_false,bs],g1,g2,g3,λ_=>hlt⟩
  ·exact⟨.inr j,by simp only[hi',decide_false,cond_false,bs],g1,g2,g3,λh=>absurd h hi'⟩
 ·exact⟨h1,Int.le_refl _,λq q1 q2=>by omega⟩
 ·rintro j ⟨g1,g2,g3,g4⟩
  exact hk j g1 g2 g3 g4
theorem EE (l0:LI)(a b p:Int)(ha:0≤a)(hb:b≤l0.length)(hlen:l0.length≤1000000)(hp:a≤p)(hp':p<b):
  ∃y,D.T0 l0 a b p=some y∧Rg a b l0 y.2∧a<y.1∧y.1≤b∧(∀k,a≤k→k<y.1→at' y.2 k≤at' l0 p)∧(∀k,y.1≤k→k<b→at' l0 p<at' y.2 k):=by
 unfold D.T0
 have r1:idx l0 p=some (at' l0 p):=Bm (by omega) (by omega)
 have r2:idx l0 a=some (at' l0 a):=Bm (by omega) (by omega)
 have r3:∀x,idx (l0.set a.toNat x) p=some (at' (l0.set a.toNat x) p):=λx=>Cd (by omega) (by omega)
 simp only[r1,r2,r3,bs]
 rw[show (l0.set a.toNat (at' l0 p)).set p.toNat (at' l0 a)=sw l0 a p from rfl]
 have hR0:Rg a b l0 (sw l0 a p):=Rg.swap ha hb (by omega) (by omega) hp hp'
 have ep:at' (sw l0 a p) a=at' l0 p:=by
  rw[BR (by omega) (by omega) (by omega) (by omega) (by omega)]
  by_cases e:a=p
  ·rw[if_pos e,e]
  ·rw[if_neg e,if_pos rfl]
 generalize sw l0 a p=m0 at hR0 ep ⊢
 rw[w64 (show-9223372036854775808≤b-1 by omega) (by omega),w64 (show-9223372036854775808≤a+1 by omega) (by omega)]
 refine A3 (λs=>Rg a b l0 s.1∧a+1≤s.2.1∧s.2.1≤s.2.2+1∧s.2.2<b∧at' s.1 a=at' l0 p∧(∀q,a+1≤q→q<s.2.1→¬at' s.1 a<at' s.1 q)∧(∀q,s.2.2<q→q<b→at' s.1 a<at' s.1 q)) (λs=>(s.2.2+1-s.2.1).toNat)
  (λs=>Rg a b l0 s.1∧a+1≤s.2∧s.2≤b∧at' s.1 a=at' l0 p∧(∀q,a+1≤q→q<s.2→¬at' s.1 a<at' s.1 q)∧(∀q,s.2≤q→q<b→at' s.1 a<at' s.1 q)) ?_ ?_ ?_
 ·rintro⟨m,u,v⟩ ⟨hR,g1,g2,g3,g6,g4,g5⟩
  dsimp only at hR g1 g2 g3 g4 g5 g6 ⊢
  have hml:=hR.len
  refine scanUp2 m a v u ha (by omega) (by omega) (by omega) (by omega) (by omega) (λi i1 i2 i3 i4=> ?_)
  refine scanDown2 m a i v ha (by omega) (by omega) (by omega) (by omega) (by omega) (λj j1 j2 j3 j4=> ?_)
  have f1:∀q,a+1≤q→q<i→¬at' m a<at' m q:=λq h1 h2=>by
   by_cases h:q<u
   ·exact g4 q h1 h
   ·exact i3 q (by omega) h2
  have f2:∀q,j<q→q<b→at' m a<at' m q:=λq h1 h2=>by
   by_cases h:q≤v
   ·exact j3 q h1 h
   ·exact g5 q (by omega) h2
  by_cases hij:j<i
  ·exact⟨.inr (m,i),by simp only[hij,decide_true,cond_true],hR,by dsimp only;omega,by dsimp only;omega,g6,f1,λq h1 h2=>f2 q (by dsimp only at h1;omega) h2⟩
  ·have t1:idx m i=some (at' m i):=Bm (by omega) (by omega)
   have t2:idx m j=some (at' m j):=Bm (by omega) (by omega)
   have t3:∀x,idx (m.set i.toNat x) j=some (at' (m.set i.toNat x) j):=λx=>Cd (by omega) (by omega)
   have hia:=i4 (by omega)
   have hja:=j4 (by omega)
   have hne:i<j:=by
    rcases Int.lt_or_eq_of_le (show i≤j by omega) with h|h
    ·exact h
    ·subst h;exact absurd hia hja
   have ea:at' (sw m i j) a=at' m a:=by rw[BR (by omega) (by omega) (by omega) (by omega) (by omega),if_neg (by omega),if_neg (by omega)]
   rw[w64 (show-9223372036854775808≤i+1 by omega) (by omega),w64 (show-9223372036854775808≤j-1 by omega) (by omega)]
   refine⟨.inl (sw m i j,i+1,j-1),?_,⟨hR.trans (Rg.swap ha (by omega) (by omega) (by omega) (by omega) (by omega)),by dsimp only;omega,by dsimp only;omega,by dsimp only;omega,by dsimp only;rw[ea];exact g6,λq h1 h2=> ?_,λq h1 h2=> ?_⟩,by dsimp only;omega⟩
   ·simp only[t1,t2,t3,hij,decide_false,cond_false,bs]
    rfl
   ·dsimp only at h2 ⊢
    rw[ea,BR (by omega) (by omega) (by omega) (by omega) (by omega),if_neg (by omega)]
    by_cases e:q=i
    ·rw[if_pos e];exact hja
    ·rw[if_neg e];exact f1 q h1 (by omega)
   ·dsimp only at h1 ⊢
    rw[ea,BR (by omega) (by omega) (by omega) (by omega) (by omega)]
    by_cases e:q=j
    ·rw[if_pos e];exact hia
    ·rw[if_neg e,if_neg (by omega)];exact f2 q (by omega) h2
 ·exact⟨hR0,by dsimp only;omega,by dsimp only;omega,by dsimp only;omega,ep,λq h1 h2=>by dsimp only at h2;omega,λq h1 h2=>by dsimp only at h1;omega⟩
 ·rintro⟨m,v⟩ ⟨hR,g1,g2,g3,g4,g5⟩
  refine⟨(v,m),rfl,hR,by dsimp only at*;omega,g2,λk k1 k2=> ?_,λk k1 k2=> ?_⟩
  ·dsimp only at*
   by_cases e:k=a
   ·rw[e,g3];exact Int.le_refl _
   ·have:=g4 k (by omega) k2;omega
  ·dsimp only at*
   have:=g5 k k1 k2;omega
theorem D6 (l:LI)(a b s:Int)(ha:0≤a)(ha':a<l.length)(hb:0≤b)(hb':b<l.length):
  ∃y,D.C l a b s=some y∧y.2.2.1=l∧((y.1=a∧y.2.1=b)∨(y.1=b∧y.2.1=a)):=by
 have r1:idx l a=some (at' l a):=Bm ha ha'
 have r2:idx l b=some (at' l b):=Bm hb hb'
 unfold D.C
 simp only[r1,r2,Cr,bs]
 by_cases h:at' l b<at' l a
 ·simp only[h,decide_true,cond_true];exact⟨_,rfl,rfl,.inr ⟨rfl,rfl⟩⟩
 ·simp only[h,decide_false,cond_false];exact⟨_,rfl,rfl,.inl ⟨rfl,rfl⟩⟩
theorem median_spec (l:LI)(a b c s:Int)(ha:0≤a)(ha':a<l.length)(hb:0≤b)(hb':b<l.length)(hc:0≤c)(hc':c<l.length):
  ∃y,D.S l a b c s=some y∧y.2.1=l∧(y.1=a∨y.1=b∨y.1=c):=by
 unfold D.S
 obtain⟨y1,h1,e1,c1⟩:=D6 l a b s ha ha' hb hb'
 rw[h1,bs,e1]
 have b1:0≤y1.2.1∧y1.2.1<l.length∧0≤y1.1∧y1.1<l.length:=by rcases c1 with⟨c,d⟩|⟨c,d⟩<;>rw[c,d]<;>exact⟨by assumption,by assumption,by assumption,by assumption⟩
 obtain⟨y2,h2,e2,c2⟩:=D6 l y1.2.1 c y1.2.2.2 b1.1 b1.2.1 hc hc'
 rw[h2,bs,e2]
 have b2:0≤y2.1∧y2.1<l.length:=by rcases c2 with⟨c,d⟩|⟨c,d⟩<;>rw[c]<;>exact⟨by omega,by omega⟩
 obtain⟨y3,h3,e3,c3⟩:=D6 l y1.1 y2.1 y2.2.2.2 b1.2.2.1 b1.2.2.2 b2.1 b2.2
 rw[h3,bs]
 refine⟨_,rfl,e3,?_⟩
 dsimp only
 omega
theorem Fa (l:LI)(a b:Int)(ha:0≤a)(hb:b≤l.length)(h8:8≤b-a)(h50:b-a<50)(hlen:l.length≤1000000):
  ∃y,D.L0 l a b=some y∧y.2.2=l∧a≤y.1∧y.1<b:=by
 unfold D.L0
 rw[w64 (show-9223372036854775808≤b-a by omega) (by omega)]
 have e4:(b-a).tdiv 4=(b-a)/4:=Int.tdiv_eq_ediv_of_nonneg (by omega)
 rw[e4,w64 (show-9223372036854775808≤(b-a)/4 by omega) (by omega)]
 rw[w64 (show-9223372036854775808≤(b-a)/4*1 by omega) (by omega),w64 (show-9223372036854775808≤(b-a)/4*2 by omega) (by omega),w64 (show-9223372036854775808≤(b-a)/4*3 by omega) (by omega)]
 rw[w64 (show-9223372036854775808≤a+(b-a)/4*1 by omega) (by omega),w64 (show-9223372036854775808≤a+(b-a)/4*2 by omega) (by omega),w64 (show-9223372036854775808≤a+(b-a)/4*3 by omega) (by omega)]
 simp only[h8,show¬(50≤b-a) by omega,decide_true,decide_false,cond_true,cond_false,bs]
 obtain⟨y,h1,e1,c1⟩:=median_spec l (a+(b-a)/4*1) (a+(b-a)/4*2) (a+(b-a)/4*3) 0 (by omega) (by omega) (by omega) (by omega) (by omega) (by omega)
 rw[h1,bs,e1]
 have hy:a≤y.1∧y.1<b:=by omega
 cases (y.2.2==0)
 ·cases (y.2.2==12)
  ·exact⟨_,rfl,rfl,hy⟩
  ·exact⟨_,rfl,rfl,hy⟩
 ·exact⟨_,rfl,rfl,hy⟩
theorem Ek (l:LI)(a b:Int)(ha:0≤a)(hab:a<b)(hb:b≤l.length)(h50:b-a<50)(hlen:l.length≤1000000):
  ∃y,D.s0 l a b=some y∧y.2=l∧(y.1=true→Srt l a b):=by
 unfold D.s0
 rw[w64 (show-9223372036854775808≤a+1 by omega) (by omega)]
 refine A3 (λs=>s=(l,a+1,0)) (λ_=>0) (λr=>∃y:Bool×LI,r= .inr y∧y.2=l∧(y.1=true→Srt l a b)) ?_ rfl ?_
 ·rintro s rfl
  dsimp only
  simp only[show ((0:Int)<5) from by decide,decide_true,cond_true]
  refine A3 (λi=>a+1≤i∧i≤b∧Srt l a i) (λi=>(b-i).toNat) (λi=>a+1≤i∧i≤b∧Srt l a i) ?_ ?_ ?_
  ·rintro i ⟨g1,g2,g3⟩
   by_cases hi:i<b
   ·have r1:idx l i=some (at' l i):=Bm (by omega) (by omega)
    have r2:idx l (i-1)=some (at' l (i-1)):=Bm (by omega) (by omega)
    have e1:IntKind.i64.wrap (i-1)=i-1:=w64 (by omega) (by omega)
    by_cases hlt:at' l i<at' l (i-1)
    ·exact⟨.inr i,by simp only[r1,r2,e1,hi,Cr,hlt,decide_true,Bool.not_true,cond_true,cond_false,bs],g1,g2,g3⟩
    ·refine⟨.inl (i+1),?_,⟨by omega,by omega,λp q k1 k2 k3=> ?_⟩,by dsimp only;omega⟩
     ·simp only[r1,r2,e1,hi,Cr,hlt,decide_true,decide_false,Bool.not_false,cond_true,bs]
      rw[w64 (by omega) (by omega)]
     ·by_cases e:q=i
      ·subst e
       by_cases e2:p=q-1
       ·subst e2;omega
       ·have:=g3 p (q-1) k1 (by omega) (by omega);omega
      ·exact g3 p q k1 k2 (by omega)
   ·exact⟨.inr i,by simp only[hi,decide_false,cond_false,bs],g1,g2,g3⟩
  ·exact⟨Int.le_refl _,by omega,λp q k1 k2 k3=>by omega⟩
  ·rintro i ⟨g1,g2,g3⟩
   rw[w64 (show-9223372036854775808≤b-a by omega) (by omega)]
   by_cases he:i=b
   ·refine⟨.inr (.inr (true,l)),?_,_,rfl,rfl,λ_=>by rw[←he];exact g3⟩
    have:(i==b)=true:=by simp[he]
    simp only[this,cond_true]
   ·refine⟨.inr (.inr (false,l)),?_,_,rfl,rfl,λh=>by cases h⟩
    have:(i==b)=false:=by simp[he]
    simp only[this,h50,decide_true,cond_true,cond_false]
 ·rintro r ⟨y,rfl,h1,h2⟩
  exact⟨y,rfl,h1,h2⟩
theorem iand_small (y m:Int)(h0:0≤m)(h1:m<4294967296):0≤iand .u64 y m∧iand .u64 y m≤m:=by
 unfold iand
 have e:(BitVec.ofInt IntKind.u64.bits y&&&BitVec.ofInt IntKind.u64.bits m).toNat≤(BitVec.ofInt IntKind.u64.bits m).toNat:=by
  rw[BitVec.toNat_and];exact Nat.and_le_right
 have e2:(BitVec.ofInt IntKind.u64.bits m).toNat=m.toNat:=by
  rw[BitVec.toNat_ofInt]
  show (m%(2^64:Nat)).toNat=m.toNat
  congr 1
  omega
 rw[e2] at e
 generalize (BitVec.ofInt IntKind.u64.bits y&&&BitVec.ofInt IntKind.u64.bits m).toNat=t at e
 have:IntKind.u64.wrap (t:Int)=t:=by
  simp only[IntKind.wrap,IntKind.bits,IntKind.signed]
  simp
  omega
 rw[this]
 omega
theorem wu64 {x:Int}(h1:0≤x)(h2:x<18446744073709551616):IntKind.u64.wrap x=x:=by
 simp only[IntKind.wrap,IntKind.bits,IntKind.signed]
 simp
 omega
theorem pow2_spec (n:Int)(h1:8≤n)(h2:n≤16):∃y,D.U0 n=some y∧n<y∧y≤2*n:=by
 unfold D.U0
 rw[wu64 (by omega) (by omega)]
 have key:∀k:Int,k=8∨k=9∨k=10∨k=11∨k=12∨k=13∨k=14∨k=15∨k=16→k<ishl .u64 1 (Lib.bitLen k.toNat:Nat)∧ishl .u64 1 (Lib.bitLen k.toNat:Nat)≤2*k:=by
  rintro k (rfl|rfl|rfl|rfl|rfl|rfl|rfl|rfl|rfl)<;>decide
 obtain⟨k1,k2⟩:=key n (by omega)
 refine⟨_,?_,k1,k2⟩
 unfold D.V
 rw[if_pos (by omega),bs]
 have:decide (((Lib.bitLen n.toNat:Nat):Int)<0)=false:=by simp
 rw[this]
 rfl
theorem EP (l0:LI)(a b:Int)(ha:0≤a)(hb:b≤l0.length)(h8:8≤b-a)(h16:b-a≤16)(hlen:l0.length≤1000000):
  ∃l',D.b1 l0 a b=some l'∧Rg a b l0 l':=by
 unfold D.b1
 rw[w64 (show-9223372036854775808≤b-a by omega) (by omega)]
 have e4:(b-a).tdiv 4=(b-a)/4:=Int.tdiv_eq_ediv_of_nonneg (by omega)
 rw[e4,w64 (show-9223372036854775808≤(b-a)/4 by omega) (by omega)]
 rw[w64 (show-9223372036854775808≤(b-a)/4*2 by omega) (by omega)]
 rw[w64 (show-9223372036854775808≤a+(b-a)/4*2 by omega) (by omega)]
 rw[w64 (show-9223372036854775808≤a+(b-a)/4*2+1 by omega) (by omega),w64 (show-9223372036854775808≤a+(b-a)/4*2-1 by omega) (by omega)]
 simp only[h8,decide_true,cond_true]
 obtain⟨y,hy,g1,g2⟩:=pow2_spec (b-a) h8 h16
 rw[hy,bs,wu64 (show 0≤y-1 by omega) (by omega)]
 refine A3 (λs=>Rg a b l0 s.1∧a+(b-a)/4*2-1≤s.2.1∧s.2.1≤a+(b-a)/4*2+2) (λs=>(a+(b-a)/4*2+2-s.2.1).toNat) (λr=>Rg a b l0 r) ?_ ?_ ?_
 ·rintro⟨l,i,z⟩ ⟨hR,k1,k2⟩
  dsimp only at hR k1 k2 ⊢
  have hll:=hR.len
  by_cases hi:i≤a+(b-a)/4*2+1
  ·simp only[hi,decide_true,cond_true,D.n1,bs]
   obtain⟨t1,t2⟩:=iand_small (Bb .u64 (Bb .u64 (Bb .u64 z (ishl .u64 z 13)) (BC .u64 (Bb .u64 z (ishl .u64 z 13)) 7)) (ishl .u64 (Bb .u64 (Bb .u64 z (ishl .u64 z 13)) (BC .u64 (Bb .u64 z (ishl .u64 z 13)) 7)) 17)) (y-1) (by omega) (by omega)
   revert t1 t2
   generalize iand .u64 (Bb .u64 (Bb .u64 (Bb .u64 z (ishl .u64 z 13)) (BC .u64 (Bb .u64 z (ishl .u64 z 13)) 7)) (ishl .u64 (Bb .u64 (Bb .u64 z (ishl .u64 z 13)) (BC .u64 (Bb .u64 z (ishl .u64 z 13)) 7)) 17)) (y-1)=t
   generalize (Bb .u64 (Bb .u64 (Bb .u64 z (ishl .u64 z 13)) (BC .u64 (Bb .u64 z (ishl .u64 z 13)) 7)) (ishl .u64 (Bb .u64 (Bb .u64 z (ishl .u64 z 13)) (BC .u64 (Bb .u64 z (ishl .u64 z 13)) 7)) 17))=z'
   intro t1 t2
   rw[w64 (show-9223372036854775808≤t by omega) (by omega),w64 (show-9223372036854775808≤t-(b-a) by omega) (by omega)]
   have hc:∃o,(bif decide (b-a≤t) then some (t-(b-a)) else some t)=some o∧0≤o∧o<b-a:=by
    by_cases h:b-a≤t
    ·exact⟨t-(b-a),by simp[h],by omega,by omega⟩
    ·exact⟨t,by simp[h],by omega,by omega⟩
   obtain⟨o,ho,o1,o2⟩:=hc
   rw[ho,bs,w64 (show-9223372036854775808≤a+o by omega) (by omega),w64 (show-9223372036854775808≤i+1 by omega) (by omega)]
   have r1:idx l i=some (at' l i):=Bm (by omega) (by omega)
   have r2:idx l (a+o)=some (at' l (a+o)):=Bm (by omega) (by omega)
   have r3:∀x,idx (l.set i.toNat x) (a+o)=some (at' (l.set i.toNat x) (a+o)):=λx=>Cd (by omega) (by omega)
   refine⟨.inl (sw l i (a+o),i+1,z'),?_,⟨hR.trans (Rg.swap ha (by omega) (by omega) (by omega) (by omega) (by omega)),by dsimp only;omega,by dsimp only;omega⟩,by dsimp only;omega⟩
   simp only[r1,r2,r3,bs]
   rfl
  ·exact⟨.inr l,by simp only[hi,decide_false,cond_false],hR⟩
 ·exact⟨Rg.refl _ _ _,by dsimp only;omega,by dsimp only;omega⟩
 ·rintro r hr
  exact⟨r,rfl,hr⟩
end Go.Sx

namespace Go.Sx.Gs
variable {α : Type} [Srtd α]
end Go.Sx.Gs

namespace Go.Sx.Gs
variable {α : Type} [Srtd α]
end Go.Sx.Gs

namespace Go.Sx.Gs
variable {α : Type} [Srtd α]
def Out (l:List α)(a0 b0 a b:Int):Prop:=∀i j,a0≤i→i<j→j<b0→¬(a≤i∧j<b)→at' l i≤at' l j
theorem Out.keep {a0 a b b0:Int}{l l':List α}(h:Rg a b l l')(h0:0≤a0)(ha:a0≤a)(hb:b≤b0)(c:Out l a0 b0 a b):Out l' a0 b0 a b:=by
 intro i j h1 h2 h3 h4
 by_cases hi:a≤i∧i<b
 ·rw[h.out j (by omega) (by omega)]
  exact h.all (λx=>x≤at' l j) (λk k1 k2=>c k j (by omega) (by omega) h3 (by omega)) i hi.1 hi.2
 ·rw[h.out i (by omega) (by omega)]
  by_cases hj:a≤j∧j<b
  ·exact h.all (λx=>at' l i≤x) (λk k1 k2=>c i k (by omega) (by omega) (by omega) (by omega)) j hj.1 hj.2
  ·rw[h.out j (by omega) (by omega)];exact c i j h1 h2 h3 h4
end Go.Sx.Gs

namespace Go.Sx
end Go.Sx

set_option maxRecDepth 100000
namespace Go.Proofs.YtehkdflfnampdaaGreatDoor
open Go Go.Sx
open Go.Proofs.Tryz Go.Proofs.YtehkdflfnampdaaGreatDoor.Tryz IntKind
variable {W w : World} {G : GH} {H : List Itm}
theorem AG :prog.follows .mixedOrders=true:=by kernel_rfl
theorem Pl2 :BS prog 2:=isAgg2
theorem T28 :SlT prog 28 2 1 8 (iv 0):=⟨underlying28,Tryz.t2,by kernel_rfl,by kernel_rfl,by kernel_rfl,by kernel_rfl⟩
theorem Pl5 :BS prog 5:=isAgg5
theorem Pl117 :BS prog 117:=isAgg117
theorem Pl3 :BS prog 3:=isAgg3
theorem Wk.s1 {v0:Value}{x0:LI}{x1:Int}(m:Mem W G w (H))(h0:R1 G v0 x0){y:Int}(hd:D.s1 x0 x1=some y):
  Calls prog 72 #[v0,(iv x1)] w (Res W G H (λ_ Ho v=>Ho=[]∧v=(iv y))):=by
 refine Au (args:=[v0,(iv x1)]) (N:=19) [.tmp 4] func72 Z Z (lb Z) Z λa f=> ?_
 unfold D.s1 at hd
 refine Af ?_
 refine Ac f Z λa f=>Aa (Ag (Af ?_))
 refine Ab f Z λa f=>A8 underlying28 f Z Z h0 λa f=>Ab f Z λa f=>Aa ?_
 have⟨aa,ab,hd⟩:=bind_some hd
 refine AM (λa w=>∃q_19':Unit,aa= .inl q_19'∧∃(ac:GH),GLe G ac∧Fr a 19 []∧Mem W ac w (H)) ?_ ?_
 ·refine Ak ?_
  refine AL (λad a w=>∃ae:Int,ae=ad∧∃(af:GH),GLe G af∧Fr a 19 [(0,v0),(1,(iv x1)),(7,(iv (x0.length:Int))),(8,(iv ae))]∧Mem W af w (H)) ab ⟨_,Z,_,gr,f.k Z,m⟩ ?_
  clear ab f m
  rintro ad ag ah ai a w ⟨ae,rfl,af,aj,f,m⟩
  have h0:=rd1 aj h0
  refine Af ?_
  refine Ai f Z Z AR λa f=>Aa (Ag ?_)
  rcases Ae ah with⟨ak,ah⟩|⟨ak,ah⟩
  ·refine Al f Z ak ?_
   refine Ap ?_
   refine Ag (Ak (Af ?_))
   refine Ab f Z λa f=>Ac f Z λa f=>AB ?_
   refine Ab f Z λa f=>Ab f Z λa f=>Ab f Z λa f=> ?_
   have⟨al,am,ah⟩:=bind_some ah
   refine Bu T28 f Z Z Z h0 am λan ao a ap aq f=> ?_
   subst aq
   refine AT m Pl2 f Z Z ap λa f=>Ai f Z Z By λa f=>Aa ?_
   rcases Ae ah with⟨ar,ah⟩|⟨ar,ah⟩
   ·refine Al f Z ar ?_
    refine Af ?_
    refine Ab f Z λa f=>Ac f Z λa f=>Aa ?_
    refine Aq ?_
    obtain rfl:=sj ah
    obtain rfl:=ai _ rfl
    obtain rfl:=sj hd
    exact⟨[(iv ae)],f.g Z,f.d,_,[],aj,m,Z,Z⟩
   ·refine Aj f Z ar ?_
    refine Ap ?_
    refine Ao ?_
    refine Ai f Z Z Ax λa f=>Ab f Z λa f=>Aa ?_
    obtain rfl:=sj ah
    exact⟨_,Z,_,Z,_,aj,f.k Z,m⟩
  ·refine Aj f Z ak ?_
   refine AH Z ?_
   obtain rfl:=sj ah
   obtain rfl:=ai _ rfl
   exact⟨_,Z,_,aj,f.weak trivial,m⟩
 ·rintro a w ⟨_,rfl,ac,au,f,m⟩
  refine Af ?_
  refine Ac f Z λa f=>Aa ?_
  refine Aq ?_
  obtain rfl:=sj hd
  exact⟨[(iv (-1))],f.g Z,f.d,_,[],au,m,Z,Z⟩
theorem Wk.t {v0:Value}{x0:LI}{x1:Int}(m:Mem W G w (H))(h0:R1 G v0 x0){y:Bool}(hd:D.t x0 x1=some y):
  Calls prog 50 #[v0,(iv x1)] w (Res W G H (λ_ Ho v=>Ho=[]∧v=(.bool y))):=by
 refine Au (args:=[v0,(iv x1)]) (N:=9) [.tmp 4] func50 Z Z (lb Z) Z λa f=> ?_
 unfold D.t at hd
 refine Af ?_
 refine Ac f Z λa f=>AB ?_
 refine Ab f Z λa f=>Ab f Z λa f=> ?_
 have⟨aa,ab,hd⟩:=bind_some hd
 refine Bc f Z call72 (Wk.s1 m h0 ab) λac w ad m a f=>Ai f Z Z CE λa f=>Ac f Z λa f=>Aa ?_
 refine Aq ?_
 obtain rfl:=sj hd
 exact⟨[(.bool (decide ((0:Int)≤aa)))],f.g Z,f.d,_,[],ad,m,Z,Z⟩
theorem Wk.k1 {x0:Int}(hW:CF W)(m:Mem W G w (H)){y:Int}(hd:D.k1 x0=some y):
  Calls prog 90 #[(.int .u32 x0)] w (Res W G H (λ_ Ho v=>Ho=[]∧v=(iv y))):=by
 refine Au (args:=[(.int .u32 x0)]) (N:=14) [.tmp 2] func90 Z Z (lb Z) Z λa f=> ?_
 unfold D.k1 at hd
 refine Af ?_
 refine Ac f Z λa f=>Aa (Ag (Af ?_))
 refine Ab f Z λa f=>Ai f Z Z By λa f=>Aa ?_
 rcases Ae hd with⟨aa,hd⟩|⟨aa,hd⟩
 ·refine Al f Z aa ?_
  refine Af ?_
  refine Ac f Z λa f=>Aa ?_
  refine Aq ?_
  obtain rfl:=sj hd
  exact⟨[(iv 32)],f.g Z,f.d,_,[],gr,m,Z,Z⟩
 ·refine Aj f Z aa ?_
  refine Ap ?_
  refine Af ?_
  refine Ab f Z λa f=>Ab f Z λa f=>l_o f (r_neg (f.e Z)) λa f=>Ai f Z Z CT λa f=>Ai f Z Z C3 λa f=>l_o f (DZ (f.e Z) (f.e Z) (by decide)) λa f=> ?_
  have⟨ab,ac,hd⟩:=bind_some hd
  refine l_tab hW m underlying99 sizeOf5 f Z Z ac λad a ae f=>AT m Pl5 f Z Z ae λa f=>l_o f (Dy (f.e Z) ⟨_,underlying5⟩ underlying3) λa f=>Ac f Z λa f=>Aa ?_
  refine Aq ?_
  obtain rfl:=sj hd
  exact⟨[(iv (i64.wrap ab))],f.g Z,f.d,_,[],gr,m,Z,Z⟩
theorem Wk.d1 {x0:Int}(m:Mem W G w (H)){y:Int}(hd:D.d1 x0=some y):
  Calls prog 60 #[(.int .u32 x0)] w (Res W G H (λ_ Ho v=>Ho=[]∧v=(iv y))):=by
 refine Au (args:=[(.int .u32 x0)]) (N:=21) [.tmp 2] func60 Z Z (lb Z) Z λa f=> ?_
 unfold D.d1 at hd
 refine Af ?_
 refine Ac f Z λa f=>Aa (Ag ?_)
 refine A2 19 AG (by kernel_rfl) m ?_
 refine Ah 0 19 Z f Z λa f=>q_p 1 19 Z f (λ_=>DZ (f.e Z) (f.e Z) (by decide)) λa f=> ?_
 have⟨aa,ab,hd⟩:=bind_some hd
 refine q_p 2 19 Z f (λ_=>EV (f.e Z) (f.e Z) underlying9 ab) λa f=>Ah 3 19 Z f Z λa f=>q_p 4 19 Z f (λ_=>DZ (f.e Z) (f.e Z) (by decide)) λa f=>q_p 5 19 Z f (λ_=>AF (f.e Z) (f.e Z) CT) λa f=> ?_
 have⟨ac,ad,hd⟩:=bind_some hd
 refine q_p 6 19 Z f (λ_=>EV (f.e Z) (f.e Z) underlying9 ad) λa f=>q_p 7 19 Z f (λ_=>AF (f.e Z) (f.e Z) Ax) λa f=>Ah 8 19 Z f Z λa f=>q_p 9 19 Z f (λ_=>DZ (f.e Z) (f.e Z) (by decide)) λa f=>q_p 10 19 Z f (λ_=>AF (f.e Z) (f.e Z) CT) λa f=> ?_
 have⟨ae,af,hd⟩:=bind_some hd
 refine q_p 11 19 Z f (λ_=>EV (f.e Z) (f.e Z) underlying9 af) λa f=>q_p 12 19 Z f (λ_=>AF (f.e Z) (f.e Z) Ax) λa f=>Ah 13 19 Z f Z λa f=>q_p 14 19 Z f (λ_=>AF (f.e Z) (f.e Z) CT) λa f=> ?_
 have⟨ag,ah,hd⟩:=bind_some hd
 refine q_p 15 19 Z f (λ_=>EV (f.e Z) (f.e Z) underlying9 ah) λa f=>q_p 16 19 Z f (λ_=>AF (f.e Z) (f.e Z) Ax) λa f=>q_p 17 19 Z f (λ_=>Dy (f.e Z) ⟨_,underlying5⟩ underlying3) λa f=>q_p 18 19 Z f (λ_=>Ct (f.e Z)) λa f=>AJ λai w aj m=>Aa ?_
 refine Aq ?_
 obtain rfl:=sj hd
 exact⟨[(iv (i64.wrap (IntKind.u8.wrap ((IntKind.u8.wrap ((IntKind.u8.wrap (aa+ac))+ae))+ag))))],f.g Z,f.d,_,[],aj,m,Z,Z⟩
theorem Wk.q1 {v0:Value}{b0:Nat}{x0:LI}(m:Mem W G w (ib b0 28 [v0]::H))(h0:R1 G v0 x0){y:(LI)}(hd:D.q1 x0=some y):
  Calls prog 97 #[(.func (.func 99) #[] #[(pb b0)])] w (Res W G H (λG' Ho v=>∃r0:Value,∃i0:Itm,Ho=[i0]∧r0=v∧Ow R0 2 G' i0 r0 y)):=by
 refine Au (args:=[(.func (.func 99) #[] #[(pb b0)])]) (N:=5) [.tmp 2] func97 Z Z (lb Z) Z λa f=> ?_
 unfold D.q1 at hd
 refine Af ?_
 refine Ac f Z λa f=>AB ?_
 refine Ab f Z λa f=> ?_
 have⟨aa,ab,hd⟩:=bind_some hd
 refine AD f Z call100 (Wk.o1 m h0 ab) λac ad ae w af m ag a f=> ?_
 obtain⟨ah,ai,rfl,rfl,aj⟩:=ag
 refine Ac f Z λa f=>Aa ?_
 refine Aq ?_
 obtain rfl:=sj hd
 exact⟨[ah],f.g Z,f.d,_,[ai],af,m,_,_,Z,Z,aj⟩
theorem Wk.l0 {x0:Int}(m:Mem W G w (H)){y:Bool}(hd:D.l0 x0=some y):
  Calls prog 119 #[(iv x0)] w (Res W G H (λ_ Ho v=>Ho=[]∧v=(.bool y))):=by
 refine Au (args:=[(iv x0)]) (N:=6) [.tmp 2] func119 Z Z (lb Z) Z λa f=> ?_
 unfold D.l0 at hd
 refine Af ?_
 refine Ac f Z λa f=>AB ?_
 refine Ab f Z λa f=>Ab f Z λa f=>Ai f Z Z DG λa f=>Ac f Z λa f=>Aa ?_
 refine Aq ?_
 obtain rfl:=sj hd
 exact⟨[(.bool (x0 !=x0))],f.g Z,f.d,_,[],gr,m,Z,Z⟩
theorem Wk.d {x0 x1:Int}(m:Mem W G w (H)){y:Bool}(hd:D.d x0 x1=some y):
  Calls prog 109 #[(iv x0),(iv x1)] w (Res W G H (λ_ Ho v=>Ho=[]∧v=(.bool y))):=by
 refine Au (args:=[(iv x0),(iv x1)]) (N:=17) [.tmp 4] func109 Z Z (lb Z) Z λa f=> ?_
 unfold D.d at hd
 refine Af ?_
 refine Ac f Z λa f=>AB ?_
 refine Ab f Z λa f=> ?_
 have⟨aa,ab,hd⟩:=bind_some hd
 refine Bc f Z call119 (Wk.l0 m ab) λac w ad m a f=>Ab f Z λa f=> ?_
 have⟨ae,af,hd⟩:=bind_some hd
 refine Bz 4 (λa w=>∃ag,GLe ac ag∧Mem W ag w (H)∧Fr a 17 [(0,(iv x0)),(1,(iv x1)),(5,(iv x0)),(6,(.bool aa)),(7,(.bool aa)),(11,(.bool ae))]) ?_ ?_
 ·rcases Ae af with⟨ah,af⟩|⟨ah,af⟩
  ·refine AC f ah ?_
   refine Ab f Z λa f=>AC f ah ?_
   have⟨ai,aj,af⟩:=bind_some af
   refine Bc f Z call119 (Wk.l0 m aj) λak w al m a f=>AC f ah ?_
   refine l_o f (Bh (f.e Z)) λa f=>l_o f (AK (f.e Z) ah (f.e Z)) λa f=> ?_
   obtain rfl:=sj af
   exact⟨_,al,m,f.k Z⟩
  ·refine AE f ah λa f=> ?_
   refine AE f ah λa f=>AE f ah λa f=>l_o f (AP (f.e Z) ah (f.e Z)) λa f=> ?_
   obtain rfl:=sj af
   exact⟨_,gr,m,f.k Z⟩
 ·rintro a w ⟨ag,am,m,f⟩
  refine Ab f Z λa f=> ?_
  refine Bz 4 (λa w=>∃an,GLe ag an∧Mem W an w (H)∧Fr a 17 [(0,(iv x0)),(1,(iv x1)),(5,(iv x0)),(6,(.bool aa)),(7,(.bool aa)),(11,(.bool ae)),(12,(.bool ae)),(16,(.bool (ae||(decide (x0<x1)))))]) ?_ ?_
  ·rcases Bool.eq_false_or_eq_true ae with ao|ao
   ·refine AE f ao λa f=> ?_
    refine AE f ao λa f=>AE f ao λa f=>l_o f (AK (f.e Z) ao (f.e Z)) λa f=> ?_
    exact⟨_,gr,m,f.weak ⟨Z,Z,Z,Z,Z,Z,Z,by rw[ao];rfl,trivial⟩⟩
   ·refine AC f ao ?_
    refine Ab f Z λa f=>AC f ao ?_
    refine Ab f Z λa f=>AC f ao ?_
    refine Ai f Z Z AR λa f=>l_o f (AP (f.e Z) ao (f.e Z)) λa f=> ?_
    exact⟨_,gr,m,f.weak ⟨Z,Z,Z,Z,Z,Z,Z,by rw[ao];rfl,trivial⟩⟩
  ·rintro a w ⟨an,ap,m,f⟩
   refine Ac f Z λa f=>Aa ?_
   refine Aq ?_
   obtain rfl:=sj hd
   exact⟨[(.bool (ae||(decide (x0<x1))))],f.g Z,f.d,_,[],(gt ad (gt am ap)),m,Z,Z⟩
theorem Wk.q0 {v0:Value}{it0:Itm}{x0:LI}{x1 x2:Int}(m:Mem W G w (it0::H))(o0:Ow R0 2 G it0 v0 x0){y:(LI)}(hd:D.q0 x0 x1 x2=some y):
  Calls prog 103 #[v0,(iv x1),(iv x2)] w (Res W G H (λG' Ho _=>∃i0:Itm,Ho=[i0]∧Ow R0 2 G' i0 v0 y)):=by
 refine Au (args:=[v0,(iv x1),(iv x2)]) (N:=49) [] func103 Z Z (lb Z) Z λa f=> ?_
 unfold D.q0 at hd
 refine Af ?_
 refine Ab f Z λa f=>Ai f Z Z Ax λa f=>Ac f Z λa f=>Aa ?_
 have⟨aa,ab,hd⟩:=bind_some hd
 refine AM (λa w=>∃ac:LI,ac=aa∧∃(ad:GH) (ae:Itm),GLe G ad∧Fr a 49 []∧Mem W ad w (ae::H)∧Ow R0 2 ad ae v0 ac) ?_ ?_
 ·refine Ak ?_
  refine AL (λaf a w=>∃ag:LI,∃ah:Int,(ag,ah)=af∧∃(ai:GH) (aj:Itm),GLe G ai∧Fr a 49 [(0,v0),(1,(iv x1)),(2,(iv x2)),(6,(iv ah))]∧Mem W ai w (aj::H)∧Ow R0 2 ai aj v0 ag) ab ⟨_,_,Z,_,it0,gr,f.k Z,m,o0⟩ ?_
  clear ab f m
  rintro af ak al am a w ⟨ag,ah,rfl,ai,aj,an,f,m,ao⟩
  refine Ag (Af ?_)
  refine Ab f Z λa f=>Ab f Z λa f=>Ai f Z Z AR λa f=>Aa ?_
  rcases Ae al with⟨ap,al⟩|⟨ap,al⟩
  ·refine Al f Z ap ?_
   refine Ap ?_
   refine Ag (Ak (Af ?_))
   refine Ab f Z λa f=>Ac f Z λa f=>Aa ?_
   have⟨aq,ar,al⟩:=bind_some al
   refine AM (λa w=>∃au:LI,au=aq∧∃(av:GH) (aw:Itm),GLe ai av∧Fr a 49 [(0,v0),(1,(iv x1)),(2,(iv x2)),(6,(iv ah))]∧Mem W av w (aw::H)∧Ow R0 2 av aw v0 au) ?_ ?_
   ·refine Ak ?_
    refine AL (λax a w=>∃ay:LI,∃az:Int,(ay,az)=ax∧∃(aA:GH) (aB:Itm),GLe ai aA∧Fr a 49 [(0,v0),(1,(iv x1)),(2,(iv x2)),(6,(iv ah)),(7,(iv az))]∧Mem W aA w (aB::H)∧Ow R0 2 aA aB v0 ay) ar ⟨_,_,Z,_,aj,gr,f.k Z,m,ao⟩ ?_
    clear ar f m
    rintro ax aC aD aE a w ⟨ay,az,rfl,aA,aB,aF,f,m,aG⟩
    refine Ag (Ag ?_)
    refine A2 15 AG (by kernel_rfl) m ?_
    refine Ah 0 15 Z f Z λa f=>Ah 1 15 Z f Z λa f=>q_p 2 15 Z f (λ_=>AF (f.e Z) (f.e Z) Ce) λa f=>Ah 3 15 Z f Z λa f=> ?_
    have⟨aH,aI,aD⟩:=bind_some aD
    refine BU (fuel':=0) (listed':= #[true,true,true,true,true,true,true,true,true,true,true,true,true,true,true]) (λa=>Fr a 49 [(0,v0),(1,(iv x1)),(2,(iv x2)),(6,(iv ah)),(7,(iv az)),(16,(iv az)),(17,(iv x1)),(18,(.bool (decide (x1<az)))),(19,(.bool (decide (x1<az)))),(30,(.bool aH))]) ?_ ?_
    ·intro a f
     refine AJ λaJ w aK m=> ?_
     have aG:=od1 aK aG
     refine Aa ?_
     rcases Ae aD with⟨aL,aD⟩|⟨aL,aD⟩
     ·refine Al f Z aL ?_
      refine Ap ?_
      refine Ag (Ak ?_)
      refine Cb AG m ?_
      refine p_p 2 Z f (λ_=>Bl (f.e Z)) λa f=>p_p 3 Z f (λ_=>Bl (f.e Z)) λa f=>p_p 4 Z f (λ_=>AF (f.e Z) (f.e Z) AS) λa f=>B9 28015 12 (by kernel_rfl) Z ?_
      refine Ah 0 28015 Z f Z λa f=>Ah 1 28015 Z f Z λa f=>Ah 5 28015 Z f Z λa f=>Ah 6 28015 Z f Z λa f=>q_p 7 28015 Z f (λ_=>AF (f.e Z) (f.e Z) AS) λa f=> ?_
      have⟨aM,aN,aD⟩:=bind_some aD
      refine AV 8 28015 0 m aG T28 aN Z f Z Z λaO a aP f=>Bd 9 28015 0 aG Pl2 aP aN Z f Z λaQ a aR f=> ?_
      subst aR
      refine Ah 10 28015 Z f Z λa f=>Ah 11 28015 Z f Z λa f=> ?_
      have⟨aS,aT,aD⟩:=bind_some aD
      refine AV 12 28015 0 m aG T28 aT Z f Z Z λaU a aV f=>Bd 13 28015 0 aG Pl2 aV aT Z f Z λaW a aX f=> ?_
      subst aX
      have⟨aY,aZ,aD⟩:=bind_some aD
      refine AV 14 28015 0 m aG T28 aZ Z f Z Z λa0 a a1 f=>AJ λa2 w a3 m=> ?_
      have aG:=od1 a3 aG
      refine AO 0 m aG Z sizeOf2 f Z Z a1 aZ Z Z Z λa4 w m a5=> ?_
      have⟨a6,a7,aD⟩:=bind_some aD
      refine A5 0 m a5 Z T28 f Z Z Z a7 λa8 a a9 f=>AO 0 m a5 Z sizeOf2 f Z Z a9 a7 Z Z Z λba w m bb=>Aa (Ao ?_)
      refine Ab f Z λa f=>Ai f Z Z AS λa f=>Ac f Z λa f=>Aa ?_
      obtain rfl:=sj aD
      exact⟨_,Z,_,_,Z,_,ba,(gt aF (gt aK a3)),f.k Z,m,bb⟩
     ·refine Aj f Z aL ?_
      refine AH Z ?_
      obtain rfl:=sj aD
      obtain rfl:=aE _ rfl
      exact⟨_,Z,_,aB,(gt aF aK),f.k Z,m,aG⟩
    ·intro bc
     rcases Ae aI with⟨bd,aI⟩|⟨bd,aI⟩
     ·refine Ah (hw:=wo f bd) 4 15 Z f Z λa f=> ?_
      refine Ah (hw:=wo f bd) 5 15 Z f Z λa f=> ?_
      have⟨be,bf,aI⟩:=bind_some aI
      refine AV (hw:=wo f bd) 6 15 0 m aG T28 bf Z f Z Z λbg a bh f=>Bd (hw:=wo f bd) 7 15 0 aG Pl2 bh bf Z f Z λbi a bj f=> ?_
      subst bj
      refine Ah (hw:=wo f bd) 8 15 Z f Z λa f=>Ah (hw:=wo f bd) 9 15 Z f Z λa f=>q_p (hw:=wo f bd) 10 15 Z f (λ_=>AF (f.e Z) (f.e Z) AS) λa f=> ?_
      have⟨bk,bl,aI⟩:=bind_some aI
      refine AV (hw:=wo f bd) 11 15 0 m aG T28 bl Z f Z Z λbm a bn f=>Bd (hw:=wo f bd) 12 15 0 aG Pl2 bn bl Z f Z λbo a bp f=> ?_
      subst bp
      have⟨bq,br,aI⟩:=bind_some aI
      refine AW (i:=13) 15 Z (by kernel_rfl) Z f (Ba f Z Z Z bd) Z Z call109 (λ_ _ w bs m=>Wk.d m br) λa f=>q_p 14 15 Z f (λ_=>AK (f.e Z) bd (f.e Z)) λa f=> ?_
      obtain rfl:=sj aI
      exact bc _ (f.k Z)
     ·refine Am 4 15 Z f bd λa f=> ?_
      refine Am 5 15 Z f bd λa f=>Am 6 15 Z f bd λa f=>Am 7 15 Z f bd λa f=>Am 8 15 Z f bd λa f=>Am 9 15 Z f bd λa f=>Am 10 15 Z f bd λa f=>Am 11 15 Z f bd λa f=>Am 12 15 Z f bd λa f=>Am 13 15 Z f bd λa f=>q_p 14 15 Z f (λ_=>AP (f.e Z) bd (f.e Z)) λa f=> ?_
      obtain rfl:=sj aI
      exact bc _ (f.k Z)
   ·rintro a w ⟨au,rfl,av,aw,bt,f,m,bu⟩
    refine Ao ?_
    refine Ab f Z λa f=>Ai f Z Z Ax λa f=>Ac f Z λa f=>Aa ?_
    obtain rfl:=sj al
    exact⟨_,Z,_,_,Z,_,aw,(gt an bt),f.k Z,m,bu⟩
  ·refine Aj f Z ap ?_
   refine AH Z ?_
   obtain rfl:=sj al
   obtain rfl:=am _ rfl
   exact⟨_,Z,_,aj,an,f.weak trivial,m,ao⟩
 ·rintro a w ⟨ac,rfl,ad,ae,bv,f,m,bw⟩
  obtain rfl:=sj hd
  exact⟨[],trivial,f.d,_,[ae],bv,m,_,Z,bw⟩
theorem Wk.h1 {v0:Value}{it0:Itm}{x0:LI}{x1 x2 x3:Int}(m:Mem W G w (it0::H))(o0:Ow R0 2 G it0 v0 x0){y:(LI)}(hd:D.h1 x0 x1 x2 x3=some y):
  Calls prog 114 #[v0,(iv x1),(iv x2),(iv x3)] w (Res W G H (λG' Ho _=>∃i0:Itm,Ho=[i0]∧Ow R0 2 G' i0 v0 y)):=by
 refine Au (args:=[v0,(iv x1),(iv x2),(iv x3)]) (N:=76) [] func114 Z Z (lb Z) Z λa f=> ?_
 unfold D.h1 at hd
 refine Af ?_
 refine Ab f Z λa f=>Ac f Z λa f=>Aa ?_
 have⟨aa,ab,hd⟩:=bind_some hd
 refine AM (λa w=>∃q_182':LI,aa= .inl q_182'∧∃ac:LI,ac=q_182'∧∃(ad:GH) (ae:Itm),GLe G ad∧Fr a 76 []∧Mem W ad w (ae::H)∧Ow R0 2 ad ae v0 ac) ?_ ?_
 ·refine Ak ?_
  refine AL (λaf a w=>∃ag:LI,∃ah:Int,(ag,ah)=af∧∃(ai:GH) (aj:Itm),GLe G ai∧Fr a 76 [(0,v0),(2,(iv x2)),(3,(iv x3)),(8,(iv ah))]∧Mem W ai w (aj::H)∧Ow R0 2 ai aj v0 ag) ab ⟨_,_,Z,_,it0,gr,f.k Z,m,o0⟩ ?_
  clear ab f m
  rintro af ak al am a w ⟨ag,ah,rfl,ai,aj,an,f,m,ao⟩
  refine Ak (Af ?_)
  refine Ab f Z λa f=>Ai f Z Z C3 λa f=>Ai f Z Z Ax λa f=>Ac f Z λa f=>Aa (Ag (Af ?_))
  refine Ab f Z λa f=>Ab f Z λa f=>Ai f Z Z CE λa f=>Aa ?_
  rcases Ae al with⟨ap,al⟩|⟨ap,al⟩
  ·refine Al f Z ap ?_
   refine AH Z ?_
   obtain rfl:=sj al
   obtain rfl:=am _ rfl
   exact⟨_,Z,_,Z,_,aj,an,f.weak trivial,m,ao⟩
  ·refine Aj f Z ap ?_
   refine Ap ?_
   refine Ag (Ag ?_)
   refine A2 20 AG (by kernel_rfl) m ?_
   refine Ah 0 20 Z f Z λa f=>q_p 1 20 Z f (λ_=>AF (f.e Z) (f.e Z) Ax) λa f=>Ah 2 20 Z f Z λa f=>q_p 3 20 Z f (λ_=>AF (f.e Z) (f.e Z) AR) λa f=>Ah 4 20 Z f Z λa f=> ?_
   have⟨aq,ar,al⟩:=bind_some al
   refine BU (fuel':=0) (listed':= #[true,true,true,true,true,true,true,true,true,true,true,true,true,true,true,true,true,true,true,true]) (λa=>Fr a 76 [(0,v0),(2,(iv x2)),(3,(iv x3)),(8,(iv ah)),(9,(iv (i64.wrap ((i64.wrap (2*ah))+1)))),(16,(.bool (decide (x2≤(i64.wrap ((i64.wrap (2*ah))+1)))))),(17,(iv (i64.wrap ((i64.wrap (2*ah))+1)))),(18,(iv (i64.wrap ((i64.wrap ((i64.wrap (2*ah))+1))+1)))),(19,(iv x2)),(20,(.bool (decide ((i64.wrap ((i64.wrap ((i64.wrap (2*ah))+1))+1))<x2)))),(21,(.bool (decide ((i64.wrap ((i64.wrap ((i64.wrap (2*ah))+1))+1))<x2)))),(36,(.bool aq))]) ?_ ?_
   ·intro a f
    refine AJ λau w av m=> ?_
    have ao:=od1 av ao
    refine Aa ?_
    have⟨aw,ax,al⟩:=bind_some al
    refine AM (λa w=>∃ay:Int,ay=aw∧∃(az:GH),GLe au az∧Fr a 76 [(0,v0),(2,(iv x2)),(3,(iv x3)),(8,(iv ah)),(9,(iv ay))]∧Mem W az w (aj::H)) ?_ ?_
    ·rcases Ae ax with⟨aA,ax⟩|⟨aA,ax⟩
     ·refine Al f Z aA ?_
      refine Ao ?_
      refine Ab f Z λa f=>Ai f Z Z Ax λa f=>Ac f Z λa f=>Aa ?_
      obtain rfl:=sj ax
      exact⟨_,Z,_,gr,f.k Z,m⟩
     ·refine Aj f Z aA ?_
      refine Ap ?_
      obtain rfl:=sj ax
      exact⟨_,Z,_,gr,f.k Z,m⟩
    ·rintro a w ⟨ay,rfl,az,aB,f,m⟩
     have ao:=od1 aB ao
     refine Ag (Ag ?_)
     refine A2 14 AG (by kernel_rfl) m ?_
     refine Ah 0 14 Z f Z λa f=>Ah 1 14 Z f Z λa f=>Ah 2 14 Z f Z λa f=>q_p 3 14 Z f (λ_=>AF (f.e Z) (f.e Z) Ax) λa f=> ?_
     have⟨aC,aD,al⟩:=bind_some al
     refine AV 4 14 0 m ao T28 aD Z f Z Z λaE a aF f=>Bd 5 14 0 ao Pl2 aF aD Z f Z λaG a aH f=> ?_
     subst aH
     refine Ah 6 14 Z f Z λa f=>Ah 7 14 Z f Z λa f=>Ah 8 14 Z f Z λa f=>q_p 9 14 Z f (λ_=>AF (f.e Z) (f.e Z) Ax) λa f=> ?_
     have⟨aI,aJ,al⟩:=bind_some al
     refine AV 10 14 0 m ao T28 aJ Z f Z Z λaK a aL f=>Bd 11 14 0 ao Pl2 aL aJ Z f Z λaM a aN f=> ?_
     subst aN
     have⟨aO,aP,al⟩:=bind_some al
     refine AW (i:=12) 14 Z (by kernel_rfl) Z f Z Z Z call109 (λ_ _ w aQ m=>Wk.d m aP) λa f=>q_p 13 14 Z f (λ_=>Bh (f.e Z)) λa f=>AJ λaR w aS m=> ?_
     have ao:=od1 aS ao
     refine Aa ?_
     rcases Ae al with⟨aT,al⟩|⟨aT,al⟩
     ·refine Al f Z aT ?_
      refine Aq ?_
      obtain rfl:=sj al
      obtain rfl:=am _ rfl
      obtain rfl:=sj hd
      exact⟨[],trivial,f.d,_,[aj],(gt an (gt av (gt aB aS))),m,_,Z,ao⟩
     ·refine Aj f Z aT ?_
      refine Ap ?_
      refine Ag ?_
      refine Cb AG m ?_
      refine p_p 4 Z f (λ_=>Bl (f.e Z)) λa f=>p_p 5 Z f (λ_=>Bl (f.e Z)) λa f=>p_p 6 Z f (λ_=>Bl (f.e Z)) λa f=>p_p 7 Z f (λ_=>AF (f.e Z) (f.e Z) Ax) λa f=>B9 240021 17 (by kernel_rfl) Z ?_
      refine Ah 0 240021 Z f Z λa f=>Ah 1 240021 Z f Z λa f=>Ah 2 240021 Z f Z λa f=>q_p 3 240021 Z f (λ_=>AF (f.e Z) (f.e Z) Ax) λa f=>Ah 8 240021 Z f Z λa f=>Ah 9 240021 Z f Z λa f=>Ah 10 240021 Z f Z λa f=>q_p 11 240021 Z f (λ_=>AF (f.e Z) (f.e Z) Ax) λa f=> ?_
      have⟨aU,aV,al⟩:=bind_some al
      refine AV 12 240021 0 m ao T28 aV Z f Z Z λaW a aX f=>Bd 13 240021 0 ao Pl2 aX aV Z f Z λaY a aZ f=> ?_
      subst aZ
      refine Ah 14 240021 Z f Z λa f=>Ah 15 240021 Z f Z λa f=>Ah 16 240021 Z f Z λa f=>q_p 17 240021 Z f (λ_=>AF (f.e Z) (f.e Z) Ax) λa f=> ?_
      have⟨a0,a1,al⟩:=bind_some al
      refine AV 18 240021 0 m ao T28 a1 Z f Z Z λa2 a a3 f=>Bd 19 240021 0 ao Pl2 a3 a1 Z f Z λa4 a a5 f=> ?_
      subst a5
      have⟨a6,a7,al⟩:=bind_some al
      refine AV 20 240021 0 m ao T28 a7 Z f Z Z λa8 a a9 f=>AJ λba w bb m=> ?_
      have ao:=od1 bb ao
      refine AO 0 m ao Z sizeOf2 f Z Z a9 a7 Z Z Z λbc w m bd=> ?_
      have⟨be,bf,al⟩:=bind_some al
      refine A5 0 m bd Z T28 f Z Z Z bf λbg a bh f=>AO 0 m bd Z sizeOf2 f Z Z bh bf Z Z Z λbi w m bj=>Aa (Ao ?_)
      refine Ab f Z λa f=>Ac f Z λa f=>Aa ?_
      obtain rfl:=sj al
      exact⟨_,Z,_,_,Z,_,bi,(gt an (gt av (gt aB (gt aS bb)))),f.k Z,m,bj⟩
   ·intro bk
    rcases Ae ar with⟨bl,ar⟩|⟨bl,ar⟩
    ·refine Ah (hw:=wo f bl) 5 20 Z f Z λa f=> ?_
     refine Ah (hw:=wo f bl) 6 20 Z f Z λa f=>Ah (hw:=wo f bl) 7 20 Z f Z λa f=>q_p (hw:=wo f bl) 8 20 Z f (λ_=>AF (f.e Z) (f.e Z) Ax) λa f=> ?_
     have⟨bm,bn,ar⟩:=bind_some ar
     refine AV (hw:=wo f bl) 9 20 0 m ao T28 bn Z f Z Z λbo a bp f=>Bd (hw:=wo f bl) 10 20 0 ao Pl2 bp bn Z f Z λbq a br f=> ?_
     subst br
     refine Ah (hw:=wo f bl) 11 20 Z f Z λa f=>Ah (hw:=wo f bl) 12 20 Z f Z λa f=>Ah (hw:=wo f bl) 13 20 Z f Z λa f=>q_p (hw:=wo f bl) 14 20 Z f (λ_=>AF (f.e Z) (f.e Z) Ax) λa f=>q_p (hw:=wo f bl) 15 20 Z f (λ_=>AF (f.e Z) (f.e Z) Ax) λa f=> ?_
     have⟨bs,bt,ar⟩:=bind_some ar
     refine AV (hw:=wo f bl) 16 20 0 m ao T28 bt Z f Z Z λbu a bv f=>Bd (hw:=wo f bl) 17 20 0 ao Pl2 bv bt Z f Z λbw a bx f=> ?_
     subst bx
     have⟨bz,bA,ar⟩:=bind_some ar
     refine AW (i:=18) 20 Z (by kernel_rfl) Z f (Ba f Z Z Z bl) Z Z call109 (λ_ _ w bB m=>Wk.d m bA) λa f=>q_p 19 20 Z f (λ_=>AK (f.e Z) bl (f.e Z)) λa f=> ?_
     obtain rfl:=sj ar
     exact bk _ (f.k Z)
    ·refine Am 5 20 Z f bl λa f=> ?_
     refine Am 6 20 Z f bl λa f=>Am 7 20 Z f bl λa f=>Am 8 20 Z f bl λa f=>Am 9 20 Z f bl λa f=>Am 10 20 Z f bl λa f=>Am 11 20 Z f bl λa f=>Am 12 20 Z f bl λa f=>Am 13 20 Z f bl λa f=>Am 14 20 Z f bl λa f=>Am 15 20 Z f bl λa f=>Am 16 20 Z f bl λa f=>Am 17 20 Z f bl λa f=>Am 18 20 Z f bl λa f=>q_p 19 20 Z f (λ_=>AP (f.e Z) bl (f.e Z)) λa f=> ?_
     obtain rfl:=sj ar
     exact bk _ (f.k Z)
 ·rintro a w ⟨_,rfl,ac,rfl,ad,ae,bC,f,m,bD⟩
  obtain rfl:=sj hd
  exact⟨[],trivial,f.d,_,[ae],bC,m,_,Z,bD⟩
theorem Wk.v1 {v0:Value}{it0:Itm}{x0:LI}{x1 x2:Int}(m:Mem W G w (it0::H))(o0:Ow R0 2 G it0 v0 x0){y:(LI)}(hd:D.v1 x0 x1 x2=some y):
  Calls prog 104 #[v0,(iv x1),(iv x2)] w (Res W G H (λG' Ho _=>∃i0:Itm,Ho=[i0]∧Ow R0 2 G' i0 v0 y)):=by
 refine Au (args:=[v0,(iv x1),(iv x2)]) (N:=56) [] func104 Z Z (lb Z) Z λa f=> ?_
 unfold D.v1 at hd
 refine Af ?_
 refine Ab f Z λa f=>Ac f Z λa f=>AB ?_
 refine Ac f Z λa f=>AB ?_
 refine Ab f Z λa f=>Ab f Z λa f=>Ai f Z Z AS λa f=>Ac f Z λa f=>Aa (Ag (Af ?_))
 refine Ab f Z λa f=>Ai f Z Z AS λa f=>Ai f Z Z (D4 Z) λa f=>Ac f Z λa f=>Aa ?_
 have⟨aa,ab,hd⟩:=bind_some hd
 refine AM (λa w=>∃ac:LI,ac=aa∧∃(ad:GH) (ae:Itm),GLe G ad∧Fr a 56 [(0,v0),(6,(iv x1)),(7,(iv 0)),(8,(iv (i64.wrap (x2-x1))))]∧Mem W ad w (ae::H)∧Ow R0 2 ad ae v0 ac) ?_ ?_
 ·refine Ak ?_
  refine AL (λaf a w=>∃ag:LI,∃ah:Int,(ag,ah)=af∧∃(ai:GH) (aj:Itm),GLe G ai∧Fr a 56 [(0,v0),(6,(iv x1)),(7,(iv 0)),(8,(iv (i64.wrap (x2-x1)))),(9,(iv ah))]∧Mem W ai w (aj::H)∧Ow R0 2 ai aj v0 ag) ab ⟨_,_,Z,_,it0,gr,f.k Z,m,o0⟩ ?_
  clear ab f m
  rintro af ak al am a w ⟨ag,ah,rfl,ai,aj,an,f,m,ao⟩
  refine Ag (Af ?_)
  refine Ab f Z λa f=>Ai f Z Z CE λa f=>Aa ?_
  rcases Ae al with⟨ap,al⟩|⟨ap,al⟩
  ·refine Al f Z ap ?_
   refine Ap ?_
   refine Ag (Ak (Ao ?_))
   refine Ab f Z λa f=>Ab f Z λa f=>Ab f Z λa f=>Ab f Z λa f=> ?_
   have⟨aq,ar,al⟩:=bind_some al
   refine AD f Z call114 (Wk.h1 m ao ar) λau av aw w ax m ay a f=> ?_
   obtain⟨az,rfl,aA⟩:=ay
   refine Aa (Ao ?_)
   refine Ab f Z λa f=>Ai f Z Z AS λa f=>Ac f Z λa f=>Aa ?_
   obtain rfl:=sj al
   exact⟨_,Z,_,_,Z,_,az,(gt an ax),f.k Z,m,aA⟩
  ·refine Aj f Z ap ?_
   refine AH Z ?_
   obtain rfl:=sj al
   obtain rfl:=am _ rfl
   exact⟨_,Z,_,aj,an,f.k Z,m,ao⟩
 ·rintro a w ⟨ac,rfl,ad,ae,aB,f,m,aC⟩
  refine Af ?_
  refine Ab f Z λa f=>Ai f Z Z AS λa f=>Ac f Z λa f=>Aa ?_
  have⟨aD,aE,hd⟩:=bind_some hd
  refine AM (λa w=>∃aF:LI,aF=aD∧∃(aG:GH) (aH:Itm),GLe ad aG∧Fr a 56 []∧Mem W aG w (aH::H)∧Ow R0 2 aG aH v0 aF) ?_ ?_
  ·refine Ak ?_
   refine AL (λaI a w=>∃aJ:LI,∃aK:Int,(aJ,aK)=aI∧∃(aL:GH) (aM:Itm),GLe ad aL∧Fr a 56 [(0,v0),(6,(iv x1)),(7,(iv 0)),(10,(iv aK))]∧Mem W aL w (aM::H)∧Ow R0 2 aL aM v0 aJ) aE ⟨_,_,Z,_,ae,gr,f.k Z,m,aC⟩ ?_
   clear aE f m
   rintro aI aN aO aP a w ⟨aJ,aK,rfl,aL,aM,aQ,f,m,aR⟩
   refine Ag (Af ?_)
   refine Ab f Z λa f=>Ai f Z Z CE λa f=>Aa ?_
   rcases Ae aO with⟨aS,aO⟩|⟨aS,aO⟩
   ·refine Al f Z aS ?_
    refine Ap ?_
    refine Ag (Ak (Ag ?_))
    refine Cb AG m ?_
    refine p_p 2 Z f (λ_=>Bl (f.e Z)) λa f=>p_p 3 Z f (λ_=>Bl (f.e Z)) λa f=>p_p 4 Z f (λ_=>Bl (f.e Z)) λa f=>p_p 5 Z f (λ_=>AF (f.e Z) (f.e Z) Ax) λa f=>B9 60017 13 (by kernel_rfl) Z ?_
    refine Ah 0 60017 Z f Z λa f=>Ah 1 60017 Z f Z λa f=>Ah 6 60017 Z f Z λa f=>Ah 7 60017 Z f Z λa f=>Ah 8 60017 Z f Z λa f=>q_p 9 60017 Z f (λ_=>AF (f.e Z) (f.e Z) Ax) λa f=> ?_
    have⟨aT,aU,aO⟩:=bind_some aO
    refine AV 10 60017 0 m aR T28 aU Z f Z Z λaV a aW f=>Bd 11 60017 0 aR Pl2 aW aU Z f Z λaX a aY f=> ?_
    subst aY
    refine Ah 12 60017 Z f Z λa f=>Ah 13 60017 Z f Z λa f=> ?_
    have⟨aZ,a0,aO⟩:=bind_some aO
    refine AV 14 60017 0 m aR T28 a0 Z f Z Z λa1 a a2 f=>Bd 15 60017 0 aR Pl2 a2 a0 Z f Z λa3 a a4 f=> ?_
    subst a4
    have⟨a5,a6,aO⟩:=bind_some aO
    refine AV 16 60017 0 m aR T28 a6 Z f Z Z λa7 a a8 f=>AJ λa9 w ba m=> ?_
    have aR:=od1 ba aR
    refine AO 0 m aR Z sizeOf2 f Z Z a8 a6 Z Z Z λbb w m bc=> ?_
    have⟨bd,be,aO⟩:=bind_some aO
    refine A5 0 m bc Z T28 f Z Z Z be λbf a bg f=>AO 0 m bc Z sizeOf2 f Z Z bg be Z Z Z λbh w m bi=>Aa (Ao ?_)
    refine Ab f Z λa f=>Ab f Z λa f=>Ab f Z λa f=>Ab f Z λa f=> ?_
    have⟨bj,bk,aO⟩:=bind_some aO
    refine AD f Z call114 (Wk.h1 m bi bk) λbl bm bn w bo m bp a f=> ?_
    obtain⟨bq,rfl,br⟩:=bp
    refine Aa (Ao ?_)
    refine Ab f Z λa f=>Ai f Z Z AS λa f=>Ac f Z λa f=>Aa ?_
    obtain rfl:=sj aO
    exact⟨_,Z,_,_,Z,_,bq,(gt aQ (gt ba bo)),f.k Z,m,br⟩
   ·refine Aj f Z aS ?_
    refine AH Z ?_
    obtain rfl:=sj aO
    obtain rfl:=aP _ rfl
    exact⟨_,Z,_,aM,aQ,f.weak trivial,m,aR⟩
  ·rintro a w ⟨aF,rfl,aG,aH,bs,f,m,bt⟩
   obtain rfl:=sj hd
   exact⟨[],trivial,f.d,_,[aH],(gt aB bs),m,_,Z,bt⟩
theorem Wk.U0 {x0:Int}(m:Mem W G w (H)){y:Int}(hd:D.U0 x0=some y):
  Calls prog 115 #[(iv x0)] w (Res W G H (λ_ Ho v=>Ho=[]∧v=(.int .u64 y))):=by
 refine Au (args:=[(iv x0)]) (N:=7) [.tmp 2] func115 Z Z (lb Z) Z λa f=> ?_
 unfold D.U0 at hd
 refine Af ?_
 refine Ac f Z λa f=>AB ?_
 refine Ab f Z λa f=>l_o f (Dy (f.e Z) ⟨_,underlying3⟩ underlying88) λa f=> ?_
 have⟨aa,ab,hd⟩:=bind_some hd
 refine AD f Z call102 (Wk.V m ab) λac ad ae w af m ag a f=> ?_
 obtain⟨rfl,rfl⟩:=ag
 obtain⟨ah,hd⟩:=Dc hd
 refine l_o f (r_shl (f.e Z) (f.e Z) ah) λa f=>Ac f Z λa f=>Aa ?_
 refine Aq ?_
 obtain rfl:=sj hd
 exact⟨[(.int .u64 (ishl .u64 1 aa))],f.g Z,f.d,_,[],af,m,Z,Z⟩
theorem Wk.n1 {b0:Nat}{aa:Int}(m:Mem W G w (ib b0 117 [(.int .u64 aa)]::H)){y:Int×Int}(hd:D.n1 aa=some y):
  Calls prog 116 #[(pb b0)] w (Res W G H (λ_ Ho v=>Ho=[ib b0 117 [(.int .u64 y.2)]]∧v=(.int .u64 y.1))):=by
 refine Au (args:=[(pb b0)]) (N:=33) [.tmp 2] func116 Z Z (lb Z) Z λa f=> ?_
 unfold D.n1 at hd
 refine Af ?_
 refine Ac f Z λa f=>Aa (Ag ?_)
 refine A2 9 AG (by kernel_rfl) m ?_
 refine Ah 0 9 Z f Z λa f=>q_p 1 9 Z f (λ_=>Av (f.e Z)) λa f=>Bp 2 9 0 Pl117 Z Z Z f Z λa f=>Ah 3 9 Z f Z λa f=>q_p 4 9 Z f (λ_=>Av (f.e Z)) λa f=>Bp 5 9 0 Pl117 Z Z Z f Z λa f=>q_p 6 9 Z f (λ_=>r_shl (f.e Z) (f.e Z) (by decide)) λa f=>q_p 7 9 Z f (λ_=>AF (f.e Z) (f.e Z) b_xor) λa f=>q_p 8 9 Z f (λ_=>Av (f.e Z)) λa f=>AJ λab w ac m=>An 0 0 (ds:=[(.int .u64 (Bb .u64 aa (ishl .u64 aa 13)))]) m sizeOf117 f Z Z Z (Ar Z As) Z (lb Z) Z λw m=>Aa (Ag ?_)
 refine A2 9 AG (by kernel_rfl) m ?_
 refine Ah 0 9 Z f Z λa f=>q_p 1 9 Z f (λ_=>Av (f.e Z)) λa f=>Bp 2 9 0 Pl117 Z Z Z f Z λa f=>Ah 3 9 Z f Z λa f=>q_p 4 9 Z f (λ_=>Av (f.e Z)) λa f=>Bp 5 9 0 Pl117 Z Z Z f Z λa f=>q_p 6 9 Z f (λ_=>DZ (f.e Z) (f.e Z) (by decide)) λa f=>q_p 7 9 Z f (λ_=>AF (f.e Z) (f.e Z) b_xor) λa f=>q_p 8 9 Z f (λ_=>Av (f.e Z)) λa f=>AJ λad w ae m=>An 0 0 (ds:=[(.int .u64 (Bb .u64 (Bb .u64 aa (ishl .u64 aa 13)) (BC .u64 (Bb .u64 aa (ishl .u64 aa 13)) 7)))]) m sizeOf117 f Z Z Z (Ar Z As) Z (lb Z) Z λw m=>Aa (Ag ?_)
 refine A2 9 AG (by kernel_rfl) m ?_
 refine Ah 0 9 Z f Z λa f=>q_p 1 9 Z f (λ_=>Av (f.e Z)) λa f=>Bp 2 9 0 Pl117 Z Z Z f Z λa f=>Ah 3 9 Z f Z λa f=>q_p 4 9 Z f (λ_=>Av (f.e Z)) λa f=>Bp 5 9 0 Pl117 Z Z Z f Z λa f=>q_p 6 9 Z f (λ_=>r_shl (f.e Z) (f.e Z) (by decide)) λa f=>q_p 7 9 Z f (λ_=>AF (f.e Z) (f.e Z) b_xor) λa f=>q_p 8 9 Z f (λ_=>Av (f.e Z)) λa f=>AJ λaf w ag m=>An 0 0 (ds:=[(.int .u64 (Bb .u64 (Bb .u64 (Bb .u64 aa (ishl .u64 aa 13)) (BC .u64 (Bb .u64 aa (ishl .u64 aa 13)) 7)) (ishl .u64 (Bb .u64 (Bb .u64 aa (ishl .u64 aa 13)) (BC .u64 (Bb .u64 aa (ishl .u64 aa 13)) 7)) 17)))]) m sizeOf117 f Z Z Z (Ar Z As) Z (lb Z) Z λw m=>AB ?_
 refine Ab f Z λa f=>l_o f (Av (f.e Z)) λa f=>AA 0 0 m Pl117 f Z Z Z Z λa f=>Ac f Z λa f=>Aa ?_
 refine Aq ?_
 obtain rfl:=sj hd
 exact⟨[(.int .u64 (Bb .u64 (Bb .u64 (Bb .u64 aa (ishl .u64 aa 13)) (BC .u64 (Bb .u64 aa (ishl .u64 aa 13)) 7)) (ishl .u64 (Bb .u64 (Bb .u64 aa (ishl .u64 aa 13)) (BC .u64 (Bb .u64 aa (ishl .u64 aa 13)) 7)) 17)))],f.g Z,f.d,_,[ib b0 117 [(.int .u64 (Bb .u64 (Bb .u64 (Bb .u64 aa (ishl .u64 aa 13)) (BC .u64 (Bb .u64 aa (ishl .u64 aa 13)) 7)) (ishl .u64 (Bb .u64 (Bb .u64 aa (ishl .u64 aa 13)) (BC .u64 (Bb .u64 aa (ishl .u64 aa 13)) 7)) 17)))]],(gt ac (gt ae ag)),m,Z,Z⟩
theorem Wk.b1 {v0:Value}{it0:Itm}{x0:LI}{x1 x2:Int}(m:Mem W G w (it0::H))(o0:Ow R0 2 G it0 v0 x0){y:(LI)}(hd:D.b1 x0 x1 x2=some y):
  Calls prog 105 #[v0,(iv x1),(iv x2)] w (Res W G H (λG' Ho _=>∃i0:Itm,Ho=[i0]∧Ow R0 2 G' i0 v0 y)):=by
 refine Au (args:=[v0,(iv x1),(iv x2)]) (N:=65) [] func105 Z Z (lb Z) Z λa f=> ?_
 unfold D.b1 at hd
 refine Af ?_
 refine Ab f Z λa f=>Ab f Z λa f=>Ai f Z Z AS λa f=>Ac f Z λa f=>AB ?_
 refine Ab f Z λa f=>Ai f Z Z CE λa f=>Aa ?_
 rcases Ae hd with⟨aa,hd⟩|⟨aa,hd⟩
 ·refine Al f Z aa ?_
  refine Af ?_
  refine Ab f Z λa f=>l_o f (Dy (f.e Z) ⟨_,underlying3⟩ underlying117) λa f=>A9 (cs:=[(.int .u64 0)]) zeroValue117 m f Z Z λab w a m f=>An 0 0 (ds:=[(.int .u64 (IntKind.u64.wrap (i64.wrap (x2-x1))))]) m sizeOf117 f Z Z Z (Ar Z As) Z (lb Z) Z λw m=>AB ?_
  refine Ab f Z λa f=> ?_
  have⟨ac,ad,hd⟩:=bind_some hd
  refine Bc f Z call115 (Wk.U0 m ad) λae w af m a f=> ?_
  have o0:=od1 af o0
  refine Ac f Z λa f=>AB ?_
  refine Ab f Z λa f=>Ab f Z λa f=>Ai f Z Z (D4 Z) λa f=>Ai f Z Z C3 λa f=>Ai f Z Z Ax λa f=>Ai f Z Z AS λa f=>Ac f Z λa f=>Aa ?_
  have⟨ag,ah,hd⟩:=bind_some hd
  refine AM (λa w=>∃ai:LI,ai=ag∧∃(aj:GH) (ak:Itm),GLe ae aj∧Fr a 65 []∧Mem W aj w (ak::H)∧Ow R0 2 aj ak v0 ai) ?_ ?_
  ·refine Ak ?_
   refine AL (λal a w=>∃am:LI,∃an:Int,∃ao:Int,(am,an,ao)=al∧∃(ap:GH) (aq:Itm),GLe ae ap∧Fr a 65 [(0,v0),(1,(iv x1)),(6,(iv (i64.wrap (x2-x1)))),(7,(pb ab)),(8,(.int .u64 ac)),(9,(iv an))]∧Mem W ap w (ib ab 117 [(.int .u64 ao)]::aq::H)∧Ow R0 2 ap aq v0 am) ah ⟨_,_,_,Z,_,it0,gr,f.k Z,m,o0⟩ ?_
   clear ah f m
   rintro al ar au av a w ⟨am,an,ao,rfl,ap,aq,aw,f,m,ax⟩
   refine Ag (Af ?_)
   refine Ab f Z λa f=>Ab f Z λa f=>Ab f Z λa f=>Ai f Z Z (D4 Z) λa f=>Ai f Z Z C3 λa f=>Ai f Z Z Ax λa f=>Ai f Z Z Ax λa f=>Ai f Z Z CN λa f=>Aa ?_
   rcases Ae au with⟨ay,au⟩|⟨ay,au⟩
   ·refine Al f Z ay ?_
    refine Ap ?_
    refine Ag (Ak (Af ?_))
    have⟨az,aA,au⟩:=bind_some au
    refine AD f Z call116 (Wk.n1 m aA) λaB aC aD w aE m aF a f=> ?_
    obtain⟨rfl,rfl⟩:=aF
    have ax:=od1 aE ax
    refine Ab f Z λa f=>Ai f Z Z AS λa f=>Ai f Z Z CT λa f=>l_o f (Dy (f.e Z) ⟨_,underlying88⟩ underlying3) λa f=>Ac f Z λa f=>Aa (Ag (Af ?_))
    refine Ab f Z λa f=>Ab f Z λa f=>Ai f Z Z CE λa f=>Aa ?_
    have⟨aG,aH,au⟩:=bind_some au
    refine AM (λa w=>∃aI:Int,aI=aG∧∃(aJ:GH),GLe aC aJ∧Fr a 65 [(0,v0),(1,(iv x1)),(6,(iv (i64.wrap (x2-x1)))),(7,(pb ab)),(8,(.int .u64 ac)),(9,(iv an)),(10,(iv aI))]∧Mem W aJ w (ib ab 117 [(.int .u64 az.2)]::aq::H)) ?_ ?_
    ·rcases Ae aH with⟨aK,aH⟩|⟨aK,aH⟩
     ·refine Al f Z aK ?_
      refine Ao ?_
      refine Ab f Z λa f=>Ab f Z λa f=>Ai f Z Z AS λa f=>Ac f Z λa f=>Aa ?_
      obtain rfl:=sj aH
      exact⟨_,Z,_,gr,f.k Z,m⟩
     ·refine Aj f Z aK ?_
      refine Ap ?_
      obtain rfl:=sj aH
      exact⟨_,Z,_,gr,f.k Z,m⟩
    ·rintro a w ⟨aI,rfl,aJ,aL,f,m⟩
     have ax:=od1 aL ax
     refine Cb AG m ?_
     refine p_p 2 Z f (λ_=>Bl (f.e Z)) λa f=>p_p 3 Z f (λ_=>Bl (f.e Z)) λa f=>p_p 4 Z f (λ_=>Bl (f.e Z)) λa f=>p_p 5 Z f (λ_=>AF (f.e Z) (f.e Z) Ax) λa f=>B9 60017 13 (by kernel_rfl) Z ?_
     refine Ah 0 60017 Z f Z λa f=>Ah 1 60017 Z f Z λa f=>Ah 6 60017 Z f Z λa f=>Ah 7 60017 Z f Z λa f=>Ah 8 60017 Z f Z λa f=>q_p 9 60017 Z f (λ_=>AF (f.e Z) (f.e Z) Ax) λa f=> ?_
     have⟨aM,aN,au⟩:=bind_some au
     refine AV 10 60017 1 m ax T28 aN Z f Z Z λaO a aP f=>Bd 11 60017 1 ax Pl2 aP aN Z f Z λaQ a aR f=> ?_
     subst aR
     refine Ah 12 60017 Z f Z λa f=>Ah 13 60017 Z f Z λa f=> ?_
     have⟨aS,aT,au⟩:=bind_some au
     refine AV 14 60017 1 m ax T28 aT Z f Z Z λaU a aV f=>Bd 15 60017 1 ax Pl2 aV aT Z f Z λaW a aX f=> ?_
     subst aX
     have⟨aY,aZ,au⟩:=bind_some au
     refine AV 16 60017 1 m ax T28 aZ Z f Z Z λa0 a a1 f=>AJ λa2 w a3 m=> ?_
     have ax:=od1 a3 ax
     refine AO 1 m ax Z sizeOf2 f Z Z a1 aZ Z Z Z λa4 w m a5=> ?_
     have⟨a6,a7,au⟩:=bind_some au
     refine A5 1 m a5 Z T28 f Z Z Z a7 λa8 a a9 f=>AO 1 m a5 Z sizeOf2 f Z Z a9 a7 Z Z Z λba w m bb=>Aa (Ao ?_)
     refine Ab f Z λa f=>Ai f Z Z Ax λa f=>Ac f Z λa f=>Aa ?_
     obtain rfl:=sj au
     exact⟨_,Z,_,_,_,Z,_,ba,(gt aw (gt aE (gt aL a3))),f.k Z,m,bb⟩
   ·refine Aj f Z ay ?_
    refine AH Z ?_
    have m:=m.fr 1
    have m:=m.eraseAt 1
    obtain rfl:=sj au
    obtain rfl:=av _ rfl
    exact⟨_,Z,_,aq,aw,f.weak trivial,m,ax⟩
  ·rintro a w ⟨ai,rfl,aj,ak,bc,f,m,bd⟩
   obtain rfl:=sj hd
   exact⟨[],trivial,f.d,_,[ak],(gt af bc),m,_,Z,bd⟩
 ·refine Aj f Z aa ?_
  refine Ap ?_
  obtain rfl:=sj hd
  exact⟨[],trivial,f.d,_,[it0],gr,m,_,Z,o0⟩
theorem Wk.C {v0:Value}{it0:Itm}{b3:Nat}{x0:LI}{x1 x2 aa:Int}(m:Mem W G w (it0::ib b3 3 [(iv aa)]::H))(o0:Ow R0 2 G it0 v0 x0){y:Int×Int×(LI)×Int}(hd:D.C x0 x1 x2 aa=some y):
  Calls prog 120 #[v0,(iv x1),(iv x2),(pb b3)] w (Res W G H (λG' Ho v=>∃i0:Itm,Ho=[i0,ib b3 3 [(iv y.2.2.2)]]∧v= .tuple #[(iv y.1),(iv y.2.1)]∧Ow R0 2 G' i0 v0 y.2.2.1)):=by
 refine Au (args:=[v0,(iv x1),(iv x2),(pb b3)]) (N:=28) [.tmp 8,.tmp 9] func120 Z Z (lb Z) Z λa f=> ?_
 unfold D.C at hd
 refine Af ?_
 refine Ac f Z λa f=>Ac f Z λa f=>Aa (Ag (Ag ?_))
 refine A2 9 AG (by kernel_rfl) m ?_
 refine Ah 0 9 Z f Z λa f=>Ah 1 9 Z f Z λa f=> ?_
 have⟨ab,ac,hd⟩:=bind_some hd
 refine AV 2 9 0 m o0 T28 ac Z f Z Z λad a ae f=>Bd 3 9 0 o0 Pl2 ae ac Z f Z λaf a ag f=> ?_
 subst ag
 refine Ah 4 9 Z f Z λa f=>Ah 5 9 Z f Z λa f=> ?_
 have⟨ah,ai,hd⟩:=bind_some hd
 refine AV 6 9 0 m o0 T28 ai Z f Z Z λaj a ak f=>Bd 7 9 0 o0 Pl2 ak ai Z f Z λal a am f=> ?_
 subst am
 have⟨an,ao,hd⟩:=bind_some hd
 refine AW (i:=8) 9 Z (by kernel_rfl) Z f Z Z Z call109 (λ_ _ w ap m=>Wk.d m ao) λa f=>AJ λaq w ar m=> ?_
 have o0:=od1 ar o0
 refine Aa ?_
 rcases Ae hd with⟨au,hd⟩|⟨au,hd⟩
 ·refine Al f Z au ?_
  refine Af ?_
  refine Ab f Z λa f=>l_o f (Av (f.e Z)) λa f=>AA 1 0 m Pl3 f Z Z Z Z λa f=>Ai f Z Z Ax λa f=>l_o f (Av (f.e Z)) λa f=>An 1 0 (ds:=[(iv (i64.wrap (aa+1)))]) m sizeOf3 f Z Z Z (Ar Z As) Z (lb Z) Z λw m=>AB ?_
  refine Ab f Z λa f=>Ab f Z λa f=>Ac f Z λa f=>Ac f Z λa f=>Aa ?_
  refine Aq ?_
  obtain rfl:=sj hd
  exact⟨[(iv x2),(iv x1)],⟨f.get _ _ Z,f.get _ _ Z,trivial⟩,f.d,_,[it0,ib b3 3 [(iv (i64.wrap (aa+1)))]],ar,m,_,Z,Z,o0⟩
 ·refine Aj f Z au ?_
  refine Ap ?_
  refine Af ?_
  refine Ab f Z λa f=>Ab f Z λa f=>Ac f Z λa f=>Ac f Z λa f=>Aa ?_
  refine Aq ?_
  obtain rfl:=sj hd
  exact⟨[(iv x1),(iv x2)],⟨f.get _ _ Z,f.get _ _ Z,trivial⟩,f.d,_,[it0,ib b3 3 [(iv aa)]],ar,m,_,Z,Z,o0⟩
theorem Wk.S {v0:Value}{it0:Itm}{b4:Nat}{x0:LI}{x1 x2 x3 aa:Int}(m:Mem W G w (it0::ib b4 3 [(iv aa)]::H))(o0:Ow R0 2 G it0 v0 x0){y:Int×(LI)×Int}(hd:D.S x0 x1 x2 x3 aa=some y):
  Calls prog 118 #[v0,(iv x1),(iv x2),(iv x3),(pb b4)] w (Res W G H (λG' Ho v=>∃i0:Itm,Ho=[i0,ib b4 3 [(iv y.2.2)]]∧v=(iv y.1)∧Ow R0 2 G' i0 v0 y.2.1)):=by
 refine Au (args:=[v0,(iv x1),(iv x2),(iv x3),(pb b4)]) (N:=36) [.tmp 10] func118 Z Z (lb Z) Z λa f=> ?_
 unfold D.S at hd
 refine Af ?_
 refine Ac f Z λa f=>AB ?_
 refine Ab f Z λa f=>Ab f Z λa f=>Ab f Z λa f=>Ab f Z λa f=> ?_
 have⟨ab,ac,hd⟩:=bind_some hd
 refine AD f Z call120 (Wk.C m o0 ac) λad ae af w ag m ah a f=> ?_
 obtain⟨ai,rfl,rfl,aj⟩:=ah
 refine Ab f Z λa f=>l_o f (AZ (f.e Z) Z) λa f=>l_o f (AZ (f.e Z) Z) λa f=>Ac f Z λa f=>Ac f Z λa f=>AB ?_
 refine Ab f Z λa f=>Ab f Z λa f=>Ab f Z λa f=>Ab f Z λa f=> ?_
 have⟨ak,al,hd⟩:=bind_some hd
 refine AD f Z call120 (Wk.C m aj al) λam an ao w ap m aq a f=> ?_
 obtain⟨ar,rfl,rfl,au⟩:=aq
 refine Ab f Z λa f=>l_o f (AZ (f.e Z) Z) λa f=>l_o f (AZ (f.e Z) Z) λa f=>Ac f Z λa f=>Ac f Z λa f=>AB ?_
 refine Ab f Z λa f=>Ab f Z λa f=>Ab f Z λa f=>Ab f Z λa f=> ?_
 have⟨av,aw,hd⟩:=bind_some hd
 refine AD f Z call120 (Wk.C m au aw) λax ay az w aA m aB a f=> ?_
 obtain⟨aC,rfl,rfl,aD⟩:=aB
 refine Ab f Z λa f=>l_o f (AZ (f.e Z) Z) λa f=>l_o f (AZ (f.e Z) Z) λa f=>Ac f Z λa f=>Ac f Z λa f=>AB ?_
 refine Ab f Z λa f=>Ac f Z λa f=>Aa ?_
 refine Aq ?_
 obtain rfl:=sj hd
 exact⟨[(iv av.2.1)],f.g Z,f.d,_,[aC,ib b4 3 [(iv av.2.2.2)]],(gt ag (gt ap aA)),m,_,Z,Z,aD⟩
theorem Wk.U {v0:Value}{it0:Itm}{b2:Nat}{x0:LI}{x1 aa:Int}(m:Mem W G w (it0::ib b2 3 [(iv aa)]::H))(o0:Ow R0 2 G it0 v0 x0){y:Int×(LI)×Int}(hd:D.U x0 x1 aa=some y):
  Calls prog 117 #[v0,(iv x1),(pb b2)] w (Res W G H (λG' Ho v=>∃i0:Itm,Ho=[i0,ib b2 3 [(iv y.2.2)]]∧v=(iv y.1)∧Ow R0 2 G' i0 v0 y.2.1)):=by
 refine Au (args:=[v0,(iv x1),(pb b2)]) (N:=15) [.tmp 6] func117 Z Z (lb Z) Z λa f=> ?_
 unfold D.U at hd
 refine Af ?_
 refine Ac f Z λa f=>AB ?_
 refine Ab f Z λa f=>Ab f Z λa f=>Ai f Z Z AS λa f=>Ab f Z λa f=>Ab f Z λa f=>Ai f Z Z Ax λa f=>Ab f Z λa f=> ?_
 have⟨ab,ac,hd⟩:=bind_some hd
 refine AD f Z call118 (Wk.S m o0 ac) λad ae af w ag m ah a f=> ?_
 obtain⟨ai,rfl,rfl,aj⟩:=ah
 refine Ac f Z λa f=>Aa ?_
 refine Aq ?_
 obtain rfl:=sj hd
 exact⟨[(iv ab.1)],f.g Z,f.d,_,[ai,ib b2 3 [(iv ab.2.2)]],ag,m,_,Z,Z,aj⟩
theorem Wk.L0 {v0:Value}{it0:Itm}{x0:LI}{x1 x2:Int}(m:Mem W G w (it0::H))(o0:Ow R0 2 G it0 v0 x0){y:Int×Int×(LI)}(hd:D.L0 x0 x1 x2=some y):
  Calls prog 106 #[v0,(iv x1),(iv x2)] w (Res W G H (λG' Ho v=>∃i0:Itm,Ho=[i0]∧v= .tuple #[(iv y.1),(iv y.2.1)]∧Ow R0 2 G' i0 v0 y.2.2)):=by
 refine Au (args:=[v0,(iv x1),(iv x2)]) (N:=57) [.tmp 6,.tmp 7] func106 Z Z (lb Z) Z λa f=> ?_
 unfold D.L0 at hd
 refine Af ?_
 refine Ac f Z λa f=>Ac f Z λa f=>AB ?_
 refine Ab f Z λa f=>Ab f Z λa f=>Ai f Z Z AS λa f=>Ac f Z λa f=>AB ?_
 refine A9 (cs:=[(iv 0)]) zeroValue3 m f Z Z λaa w a m f=>AB ?_
 refine Ab f Z λa f=>Ab f Z λa f=>Ai f Z Z (D4 Z) λa f=>Ai f Z Z C3 λa f=>Ai f Z Z Ax λa f=>Ac f Z λa f=>AB ?_
 refine Ab f Z λa f=>Ab f Z λa f=>Ai f Z Z (D4 Z) λa f=>Ai f Z Z C3 λa f=>Ai f Z Z Ax λa f=>Ac f Z λa f=>AB ?_
 refine Ab f Z λa f=>Ab f Z λa f=>Ai f Z Z (D4 Z) λa f=>Ai f Z Z C3 λa f=>Ai f Z Z Ax λa f=>Ac f Z λa f=>Aa (Ag (Af ?_))
 refine Ab f Z λa f=>Ai f Z Z CE λa f=>Aa ?_
 rcases Ae hd with⟨ab,hd⟩|⟨ab,hd⟩
 ·refine Al f Z ab ?_
  refine Ag (Af ?_)
  refine Ab f Z λa f=>Ai f Z Z CE λa f=>Aa ?_
  have⟨ac,ad,hd⟩:=bind_some hd
  refine AM (λa w=>∃ae:LI,∃af:Int,∃ag:Int,∃ah:Int,∃ai:Int,(ae,af,ag,ah,ai)=ac∧∃(aj:GH) (ak:Itm),GLe G aj∧Fr a 57 [(0,v0),(9,(pb aa)),(10,(iv af)),(11,(iv ag)),(12,(iv ah))]∧Mem W aj w (ib aa 3 [(iv ai)]::ak::H)∧Ow R0 2 aj ak v0 ae) ?_ ?_
  ·rcases Ae ad with⟨al,ad⟩|⟨al,ad⟩
   ·refine Al f Z al ?_
    refine Af ?_
    refine Ab f Z λa f=>Ab f Z λa f=> ?_
    have m:=m.fr 1
    have⟨am,an,ad⟩:=bind_some ad
    refine AD f Z call117 (Wk.U m o0 an) λao ap aq w ar m au a f=> ?_
    obtain⟨av,rfl,rfl,aw⟩:=au
    refine Ac f Z λa f=>AB ?_
    refine Ab f Z λa f=>Ab f Z λa f=> ?_
    have⟨ax,ay,ad⟩:=bind_some ad
    refine AD f Z call117 (Wk.U m aw ay) λaz aA aB w aC m aD a f=> ?_
    obtain⟨aE,rfl,rfl,aF⟩:=aD
    refine Ac f Z λa f=>Aa (Ao ?_)
    refine Ab f Z λa f=>Ab f Z λa f=> ?_
    have⟨aG,aH,ad⟩:=bind_some ad
    refine AD f Z call117 (Wk.U m aF aH) λaI aJ aK w aL m aM a f=> ?_
    obtain⟨aN,rfl,rfl,aO⟩:=aM
    refine Ac f Z λa f=>Aa ?_
    have m:=m.fr 1
    obtain rfl:=sj ad
    exact⟨_,_,_,_,_,Z,_,aN,(gt ar (gt aC aL)),f.k Z,m,aO⟩
   ·refine Aj f Z al ?_
    refine Ap ?_
    obtain rfl:=sj ad
    exact⟨_,_,_,_,_,Z,_,it0,gr,f.k Z,m,o0⟩
  ·rintro a w ⟨ae,af,ag,ah,ai,rfl,aj,ak,aP,f,m,aQ⟩
   refine Ao ?_
   refine Ab f Z λa f=>Ab f Z λa f=>Ab f Z λa f=>Ab f Z λa f=> ?_
   have m:=m.fr 1
   have⟨aR,aS,hd⟩:=bind_some hd
   refine AD f Z call118 (Wk.S m aQ aS) λaT aU aV w aW m aX a f=> ?_
   obtain⟨aY,rfl,rfl,aZ⟩:=aX
   refine Ac f Z λa f=>AB ?_
   refine AA 1 0 m Pl3 f Z Z Z Z λa f=>Aa (Ak (Af ?_))
   refine Ai f Z Z By λa f=>Ac f Z λa f=>Aa ?_
   rcases Ae hd with⟨a0,hd⟩|⟨a0,hd⟩
   ·refine Al f Z a0 ?_
    refine Af ?_
    refine Ab f Z λa f=>Ac f Z λa f=>Ac f Z λa f=>Aa ?_
    refine Aq ?_
    have m:=m.eraseAt 1
    obtain rfl:=sj hd
    exact⟨[(iv aR.1),(iv 1)],⟨f.get _ _ Z,f.get _ _ Z,trivial⟩,f.d,_,[aY],(gt aP aW),m,_,Z,Z,aZ⟩
   ·refine Aj f Z a0 ?_
    refine Af ?_
    refine Ai f Z Z By λa f=>Ac f Z λa f=>Aa ?_
    rcases Ae hd with⟨a1,hd⟩|⟨a1,hd⟩
    ·refine Al f Z a1 ?_
     refine Af ?_
     refine Ab f Z λa f=>Ac f Z λa f=>Ac f Z λa f=>Aa ?_
     refine Aq ?_
     have m:=m.eraseAt 1
     obtain rfl:=sj hd
     exact⟨[(iv aR.1),(iv 2)],⟨f.get _ _ Z,f.get _ _ Z,trivial⟩,f.d,_,[aY],(gt aP aW),m,_,Z,Z,aZ⟩
    ·refine Aj f Z a1 ?_
     refine Af ?_
     refine Ab f Z λa f=>Ac f Z λa f=>Ac f Z λa f=>Aa ?_
     refine Aq ?_
     have m:=m.eraseAt 1
     obtain rfl:=sj hd
     exact⟨[(iv aR.1),(iv 0)],⟨f.get _ _ Z,f.get _ _ Z,trivial⟩,f.d,_,[aY],(gt aP aW),m,_,Z,Z,aZ⟩
 ·refine Aj f Z ab ?_
  refine Ap ?_
  refine Af ?_
  refine AA 0 0 m Pl3 f Z Z Z Z λa f=>Aa (Ak (Af ?_))
  refine Ai f Z Z By λa f=>Ac f Z λa f=>Aa ?_
  rcases Ae hd with⟨a2,hd⟩|⟨a2,hd⟩
  ·refine Al f Z a2 ?_
   refine Af ?_
   refine Ab f Z λa f=>Ac f Z λa f=>Ac f Z λa f=>Aa ?_
   refine Aq ?_
   have m:=m.fr 1
   have m:=m.eraseAt 1
   obtain rfl:=sj hd
   exact⟨[(iv (i64.wrap (x1+(i64.wrap ((i64.wrap (Int.tdiv (i64.wrap (x2-x1)) 4))*2))))),(iv 1)],⟨f.get _ _ Z,f.get _ _ Z,trivial⟩,f.d,_,[it0],gr,m,_,Z,Z,o0⟩
  ·refine Aj f Z a2 ?_
   refine Af ?_
   refine Ai f Z Z By λa f=>Ac f Z λa f=>Aa ?_
   rcases Ae hd with⟨a3,hd⟩|⟨a3,hd⟩
   ·refine Al f Z a3 ?_
    refine Af ?_
    refine Ab f Z λa f=>Ac f Z λa f=>Ac f Z λa f=>Aa ?_
    refine Aq ?_
    have m:=m.fr 1
    have m:=m.eraseAt 1
    obtain rfl:=sj hd
    exact⟨[(iv (i64.wrap (x1+(i64.wrap ((i64.wrap (Int.tdiv (i64.wrap (x2-x1)) 4))*2))))),(iv 2)],⟨f.get _ _ Z,f.get _ _ Z,trivial⟩,f.d,_,[it0],gr,m,_,Z,Z,o0⟩
   ·refine Aj f Z a3 ?_
    refine Af ?_
    refine Ab f Z λa f=>Ac f Z λa f=>Ac f Z λa f=>Aa ?_
    refine Aq ?_
    have m:=m.fr 1
    have m:=m.eraseAt 1
    obtain rfl:=sj hd
    exact⟨[(iv (i64.wrap (x1+(i64.wrap ((i64.wrap (Int.tdiv (i64.wrap (x2-x1)) 4))*2))))),(iv 0)],⟨f.get _ _ Z,f.get _ _ Z,trivial⟩,f.d,_,[it0],gr,m,_,Z,Z,o0⟩
theorem Wk.B0 {v0:Value}{it0:Itm}{x0:LI}{x1 x2:Int}(m:Mem W G w (it0::H))(o0:Ow R0 2 G it0 v0 x0){y:(LI)}(hd:D.B0 x0 x1 x2=some y):
  Calls prog 107 #[v0,(iv x1),(iv x2)] w (Res W G H (λG' Ho _=>∃i0:Itm,Ho=[i0]∧Ow R0 2 G' i0 v0 y)):=by
 refine Au (args:=[v0,(iv x1),(iv x2)]) (N:=32) [] func107 Z Z (lb Z) Z λa f=> ?_
 unfold D.B0 at hd
 refine Af ?_
 refine Ab f Z λa f=>Ac f Z λa f=>AB ?_
 refine Ab f Z λa f=>Ai f Z Z AS λa f=>Ac f Z λa f=>Aa ?_
 have⟨aa,ab,hd⟩:=bind_some hd
 refine AM (λa w=>∃ac:LI,ac=aa∧∃(ad:GH) (ae:Itm),GLe G ad∧Fr a 32 []∧Mem W ad w (ae::H)∧Ow R0 2 ad ae v0 ac) ?_ ?_
 ·refine Ak ?_
  refine AL (λaf a w=>∃ag:LI,∃ah:Int,∃ai:Int,(ag,ah,ai)=af∧∃(aj:GH) (ak:Itm),GLe G aj∧Fr a 32 [(0,v0),(6,(iv ah)),(7,(iv ai))]∧Mem W aj w (ak::H)∧Ow R0 2 aj ak v0 ag) ab ⟨_,_,_,Z,_,it0,gr,f.k Z,m,o0⟩ ?_
  clear ab f m
  rintro af al am an a w ⟨ag,ah,ai,rfl,aj,ak,ao,f,m,ap⟩
  refine Ag (Af ?_)
  refine Ab f Z λa f=>Ab f Z λa f=>Ai f Z Z AR λa f=>Aa ?_
  rcases Ae am with⟨aq,am⟩|⟨aq,am⟩
  ·refine Al f Z aq ?_
   refine Ap ?_
   refine Ak (Ag ?_)
   refine Cb AG m ?_
   refine p_p 2 Z f (λ_=>Bl (f.e Z)) λa f=>p_p 3 Z f (λ_=>Bl (f.e Z)) λa f=>B9 12013 11 (by kernel_rfl) Z ?_
   refine Ah 0 12013 Z f Z λa f=>Ah 1 12013 Z f Z λa f=>Ah 4 12013 Z f Z λa f=>Ah 5 12013 Z f Z λa f=> ?_
   have⟨ar,au,am⟩:=bind_some am
   refine AV 6 12013 0 m ap T28 au Z f Z Z λav a aw f=>Bd 7 12013 0 ap Pl2 aw au Z f Z λax a ay f=> ?_
   subst ay
   refine Ah 8 12013 Z f Z λa f=>Ah 9 12013 Z f Z λa f=> ?_
   have⟨az,aA,am⟩:=bind_some am
   refine AV 10 12013 0 m ap T28 aA Z f Z Z λaB a aC f=>Bd 11 12013 0 ap Pl2 aC aA Z f Z λaD a aE f=> ?_
   subst aE
   have⟨aF,aG,am⟩:=bind_some am
   refine AV 12 12013 0 m ap T28 aG Z f Z Z λaH a aI f=>AJ λaJ w aK m=> ?_
   have ap:=od1 aK ap
   refine AO 0 m ap Z sizeOf2 f Z Z aI aG Z Z Z λaL w m aM=> ?_
   have⟨aN,aO,am⟩:=bind_some am
   refine A5 0 m aM Z T28 f Z Z Z aO λaP a aQ f=>AO 0 m aM Z sizeOf2 f Z Z aQ aO Z Z Z λaR w m aS=>AB ?_
   refine Ab f Z λa f=>Ai f Z Z Ax λa f=>Ac f Z λa f=>Aa (Ao ?_)
   refine Ab f Z λa f=>Ai f Z Z AS λa f=>Ac f Z λa f=>Aa ?_
   obtain rfl:=sj am
   exact⟨_,Z,_,_,_,Z,_,aR,(gt ao aK),f.k Z,m,aS⟩
  ·refine Aj f Z aq ?_
   refine AH Z ?_
   obtain rfl:=sj am
   obtain rfl:=an _ rfl
   exact⟨_,Z,_,ak,ao,f.weak trivial,m,ap⟩
 ·rintro a w ⟨ac,rfl,ad,ae,aT,f,m,aU⟩
  obtain rfl:=sj hd
  exact⟨[],trivial,f.d,_,[ae],aT,m,_,Z,aU⟩
theorem Wk.s0 {v0:Value}{it0:Itm}{x0:LI}{x1 x2:Int}(m:Mem W G w (it0::H))(o0:Ow R0 2 G it0 v0 x0){y:Bool×(LI)}(hd:D.s0 x0 x1 x2=some y):
  Calls prog 108 #[v0,(iv x1),(iv x2)] w (Res W G H (λG' Ho v=>∃i0:Itm,Ho=[i0]∧v=(.bool y.1)∧Ow R0 2 G' i0 v0 y.2)):=by
 refine Au (args:=[v0,(iv x1),(iv x2)]) (N:=133) [.tmp 6] func108 Z Z (lb Z) Z λa f=> ?_
 unfold D.s0 at hd
 refine Af ?_
 refine Ac f Z λa f=>AB ?_
 refine Ab f Z λa f=>Ai f Z Z Ax λa f=>Ac f Z λa f=>Aa (Ag (Af ?_))
 refine Ac f Z λa f=>Aa ?_
 have⟨aa,ab,hd⟩:=bind_some hd
 refine AM (λa w=>∃q_1621':LI,aa= .inl q_1621'∧∃ac:LI,ac=q_1621'∧∃(ad:GH) (ae:Itm),GLe G ad∧Fr a 133 []∧Mem W ad w (ae::H)∧Ow R0 2 ad ae v0 ac) ?_ ?_
 ·refine Ak ?_
  refine AL (λaf a w=>∃ag:LI,∃ah:Int,∃ai:Int,(ag,ah,ai)=af∧∃(aj:GH) (ak:Itm),GLe G aj∧Fr a 133 [(0,v0),(1,(iv x1)),(2,(iv x2)),(7,(iv ah)),(8,(iv ai))]∧Mem W aj w (ak::H)∧Ow R0 2 aj ak v0 ag) ab ⟨_,_,_,Z,_,it0,gr,f.k Z,m,o0⟩ ?_
  clear ab f m
  rintro af al am an a w ⟨ag,ah,ai,rfl,aj,ak,ao,f,m,ap⟩
  refine Ag (Af ?_)
  refine Ab f Z λa f=>Ai f Z Z AR λa f=>Aa ?_
  rcases Ae am with⟨aq,am⟩|⟨aq,am⟩
  ·refine Al f Z aq ?_
   refine Ap ?_
   refine Ag (Ak (Ag ?_))
   have⟨ar,au,am⟩:=bind_some am
   refine AM (λa w=>∃av:Int,av=ar∧∃(aw:GH),GLe aj aw∧Fr a 133 [(0,v0),(1,(iv x1)),(2,(iv x2)),(7,(iv av)),(8,(iv ai))]∧Mem W aw w (ak::H)) ?_ ?_
   ·refine Ak ?_
    refine AL (λax a w=>∃ay:Int,ay=ax∧∃(az:GH),GLe aj az∧Fr a 133 [(0,v0),(1,(iv x1)),(2,(iv x2)),(7,(iv ay)),(8,(iv ai))]∧Mem W az w (ak::H)) au ⟨_,Z,_,gr,f.k Z,m⟩ ?_
    clear au f m
    rintro ax aA aB aC a w ⟨ay,rfl,az,aD,f,m⟩
    have ap:=od1 aD ap
    refine Ag (Ag ?_)
    refine A2 16 AG (by kernel_rfl) m ?_
    refine Ah 0 16 Z f Z λa f=>Ah 1 16 Z f Z λa f=>q_p 2 16 Z f (λ_=>AF (f.e Z) (f.e Z) AR) λa f=>Ah 3 16 Z f Z λa f=> ?_
    have⟨aE,aF,aB⟩:=bind_some aB
    refine BU (fuel':=0) (listed':= #[true,true,true,true,true,true,true,true,true,true,true,true,true,true,true,true]) (λa=>Fr a 133 [(0,v0),(1,(iv x1)),(2,(iv x2)),(7,(iv ay)),(8,(iv ai)),(17,(iv ay)),(18,(iv x2)),(19,(.bool (decide (ay<x2)))),(20,(.bool (decide (ay<x2)))),(32,(.bool aE))]) ?_ ?_
    ·intro a f
     refine AJ λaG w aH m=>Aa ?_
     rcases Ae aB with⟨aI,aB⟩|⟨aI,aB⟩
     ·refine Al f Z aI ?_
      refine Ap ?_
      refine Ak (Ao ?_)
      refine Ab f Z λa f=>Ai f Z Z Ax λa f=>Ac f Z λa f=>Aa ?_
      obtain rfl:=sj aB
      exact⟨_,Z,_,Z,_,(gt aD aH),f.k Z,m⟩
     ·refine Aj f Z aI ?_
      refine AH Z ?_
      obtain rfl:=sj aB
      obtain rfl:=aC _ rfl
      exact⟨_,Z,_,(gt aD aH),f.k Z,m⟩
    ·intro aJ
     rcases Ae aF with⟨aK,aF⟩|⟨aK,aF⟩
     ·refine Ah (hw:=wo f aK) 4 16 Z f Z λa f=> ?_
      refine Ah (hw:=wo f aK) 5 16 Z f Z λa f=> ?_
      have⟨aL,aM,aF⟩:=bind_some aF
      refine AV (hw:=wo f aK) 6 16 0 m ap T28 aM Z f Z Z λaN a aO f=>Bd (hw:=wo f aK) 7 16 0 ap Pl2 aO aM Z f Z λaP a aQ f=> ?_
      subst aQ
      refine Ah (hw:=wo f aK) 8 16 Z f Z λa f=>Ah (hw:=wo f aK) 9 16 Z f Z λa f=>q_p (hw:=wo f aK) 10 16 Z f (λ_=>AF (f.e Z) (f.e Z) AS) λa f=> ?_
      have⟨aR,aS,aF⟩:=bind_some aF
      refine AV (hw:=wo f aK) 11 16 0 m ap T28 aS Z f Z Z λaT a aU f=>Bd (hw:=wo f aK) 12 16 0 ap Pl2 aU aS Z f Z λaV a aW f=> ?_
      subst aW
      have⟨aX,aY,aF⟩:=bind_some aF
      refine AW (i:=13) 16 Z (by kernel_rfl) Z f (Ba f Z Z Z aK) Z Z call109 (λ_ _ w aZ m=>Wk.d m aY) λa f=>q_p (hw:=wo f aK) 14 16 Z f (λ_=>Bh (f.e Z)) λa f=>q_p 15 16 Z f (λ_=>AK (f.e Z) aK (f.e Z)) λa f=> ?_
      obtain rfl:=sj aF
      exact aJ _ (f.k Z)
     ·refine Am 4 16 Z f aK λa f=> ?_
      refine Am 5 16 Z f aK λa f=>Am 6 16 Z f aK λa f=>Am 7 16 Z f aK λa f=>Am 8 16 Z f aK λa f=>Am 9 16 Z f aK λa f=>Am 10 16 Z f aK λa f=>Am 11 16 Z f aK λa f=>Am 12 16 Z f aK λa f=>Am 13 16 Z f aK λa f=>Am 14 16 Z f aK λa f=>q_p 15 16 Z f (λ_=>AP (f.e Z) aK (f.e Z)) λa f=> ?_
      obtain rfl:=sj aF
      exact aJ _ (f.k Z)
   ·rintro a w ⟨av,rfl,aw,a0,f,m⟩
    have ap:=od1 a0 ap
    refine Ag (Af ?_)
    refine Ab f Z λa f=>Ab f Z λa f=>Ai f Z Z By λa f=>Aa ?_
    rcases Ae am with⟨a1,am⟩|⟨a1,am⟩
    ·refine Al f Z a1 ?_
     refine Af ?_
     refine Ac f Z λa f=>Aa ?_
     refine Aq ?_
     obtain rfl:=sj am
     obtain rfl:=an _ rfl
     obtain rfl:=sj hd
     exact⟨[(.bool true)],f.g Z,f.d,_,[ak],(gt ao a0),m,_,Z,Z,ap⟩
    ·refine Aj f Z a1 ?_
     refine Ap ?_
     refine Ag (Af ?_)
     refine Ab f Z λa f=>Ab f Z λa f=>Ai f Z Z AS λa f=>Ai f Z Z AR λa f=>Aa ?_
     rcases Ae am with⟨a2,am⟩|⟨a2,am⟩
     ·refine Al f Z a2 ?_
      refine Af ?_
      refine Ac f Z λa f=>Aa ?_
      refine Aq ?_
      obtain rfl:=sj am
      obtain rfl:=an _ rfl
      obtain rfl:=sj hd
      exact⟨[(.bool false)],f.g Z,f.d,_,[ak],(gt ao a0),m,_,Z,Z,ap⟩
     ·refine Aj f Z a2 ?_
      refine Ap ?_
      refine Ag ?_
      refine Cb AG m ?_
      refine p_p 2 Z f (λ_=>Bl (f.e Z)) λa f=>p_p 3 Z f (λ_=>Bl (f.e Z)) λa f=>p_p 4 Z f (λ_=>AF (f.e Z) (f.e Z) AS) λa f=>B9 28015 12 (by kernel_rfl) Z ?_
      refine Ah 0 28015 Z f Z λa f=>Ah 1 28015 Z f Z λa f=>Ah 5 28015 Z f Z λa f=>Ah 6 28015 Z f Z λa f=>q_p 7 28015 Z f (λ_=>AF (f.e Z) (f.e Z) AS) λa f=> ?_
      have⟨a3,a4,am⟩:=bind_some am
      refine AV 8 28015 0 m ap T28 a4 Z f Z Z λa5 a a6 f=>Bd 9 28015 0 ap Pl2 a6 a4 Z f Z λa7 a a8 f=> ?_
      subst a8
      refine Ah 10 28015 Z f Z λa f=>Ah 11 28015 Z f Z λa f=> ?_
      have⟨a9,ba,am⟩:=bind_some am
      refine AV 12 28015 0 m ap T28 ba Z f Z Z λbb a bc f=>Bd 13 28015 0 ap Pl2 bc ba Z f Z λbd a be f=> ?_
      subst be
      have⟨bf,bg,am⟩:=bind_some am
      refine AV 14 28015 0 m ap T28 bg Z f Z Z λbh a bi f=>AJ λbj w bk m=> ?_
      have ap:=od1 bk ap
      refine AO 0 m ap Z sizeOf2 f Z Z bi bg Z Z Z λbl w m bm=> ?_
      have⟨bn,bo,am⟩:=bind_some am
      refine A5 0 m bm Z T28 f Z Z Z bo λbp a bq f=>AO 0 m bm Z sizeOf2 f Z Z bq bo Z Z Z λbr w m bs=>Aa (Ag (Af ?_))
      refine Ab f Z λa f=>Ab f Z λa f=>Ai f Z Z AS λa f=>Ai f Z Z CE λa f=>Aa ?_
      have⟨bt,bu,am⟩:=bind_some am
      refine AM (λa w=>∃bv:LI,bv=bt∧∃(bw:GH) (bx:Itm),GLe bj bw∧Fr a 133 [(0,v0),(1,(iv x1)),(2,(iv x2)),(7,(iv av)),(8,(iv ai))]∧Mem W bw w (bx::H)∧Ow R0 2 bw bx v0 bv) ?_ ?_
      ·rcases Ae bu with⟨bz,bu⟩|⟨bz,bu⟩
       ·refine Al f Z bz ?_
        refine Af ?_
        refine Ab f Z λa f=>Ai f Z Z AS λa f=>Ac f Z λa f=>Aa ?_
        have⟨bA,bB,bu⟩:=bind_some bu
        refine AM (λa w=>∃bC:LI,bC=bA∧∃(bD:GH) (bE:Itm),GLe bj bD∧Fr a 133 [(0,v0),(1,(iv x1)),(2,(iv x2)),(7,(iv av)),(8,(iv ai))]∧Mem W bD w (bE::H)∧Ow R0 2 bD bE v0 bC) ?_ ?_
        ·refine Ak ?_
         refine AL (λbF a w=>∃bG:LI,∃bH:Int,(bG,bH)=bF∧∃(bI:GH) (bJ:Itm),GLe bj bI∧Fr a 133 [(0,v0),(1,(iv x1)),(2,(iv x2)),(7,(iv av)),(8,(iv ai)),(9,(iv bH))]∧Mem W bI w (bJ::H)∧Ow R0 2 bI bJ v0 bG) bB ⟨_,_,Z,_,br,gr,f.k Z,m,bs⟩ ?_
         clear bB f m
         rintro bF bK bL bM a w ⟨bG,bH,rfl,bI,bJ,bN,f,m,bO⟩
         refine Ag (Af ?_)
         refine Ab f Z λa f=>Ai f Z Z CE λa f=>Aa ?_
         rcases Ae bL with⟨bP,bL⟩|⟨bP,bL⟩
         ·refine Al f Z bP ?_
          refine Ap ?_
          refine Ag (Ak (Ag (Ag ?_)))
          refine A2 11 AG (by kernel_rfl) m ?_
          refine Ah 0 11 Z f Z λa f=>Ah 1 11 Z f Z λa f=> ?_
          have⟨bQ,bR,bL⟩:=bind_some bL
          refine AV 2 11 0 m bO T28 bR Z f Z Z λbS a bT f=>Bd 3 11 0 bO Pl2 bT bR Z f Z λbU a bV f=> ?_
          subst bV
          refine Ah 4 11 Z f Z λa f=>Ah 5 11 Z f Z λa f=>q_p 6 11 Z f (λ_=>AF (f.e Z) (f.e Z) AS) λa f=> ?_
          have⟨bW,bX,bL⟩:=bind_some bL
          refine AV 7 11 0 m bO T28 bX Z f Z Z λbY a bZ f=>Bd 8 11 0 bO Pl2 bZ bX Z f Z λb0 a b1 f=> ?_
          subst b1
          have⟨b2,b3,bL⟩:=bind_some bL
          refine AW (i:=9) 11 Z (by kernel_rfl) Z f Z Z Z call109 (λ_ _ w b4 m=>Wk.d m b3) λa f=>q_p 10 11 Z f (λ_=>Bh (f.e Z)) λa f=>AJ λb5 w b6 m=> ?_
          have bO:=od1 b6 bO
          refine Aa ?_
          rcases Ae bL with⟨b7,bL⟩|⟨b7,bL⟩
          ·refine Al f Z b7 ?_
           refine AH Z ?_
           obtain rfl:=sj bL
           obtain rfl:=bM _ rfl
           exact⟨_,Z,_,bJ,(gt bN b6),f.k Z,m,bO⟩
          ·refine Aj f Z b7 ?_
           refine Ap ?_
           refine Cb AG m ?_
           refine p_p 2 Z f (λ_=>Bl (f.e Z)) λa f=>p_p 3 Z f (λ_=>Bl (f.e Z)) λa f=>p_p 4 Z f (λ_=>AF (f.e Z) (f.e Z) AS) λa f=>B9 28015 12 (by kernel_rfl) Z ?_
           refine Ah 0 28015 Z f Z λa f=>Ah 1 28015 Z f Z λa f=>Ah 5 28015 Z f Z λa f=>Ah 6 28015 Z f Z λa f=>q_p 7 28015 Z f (λ_=>AF (f.e Z) (f.e Z) AS) λa f=> ?_
           have⟨b8,b9,bL⟩:=bind_some bL
           refine AV 8 28015 0 m bO T28 b9 Z f Z Z λca a cb f=>Bd 9 28015 0 bO Pl2 cb b9 Z f Z λcc a cd f=> ?_
           subst cd
           refine Ah 10 28015 Z f Z λa f=>Ah 11 28015 Z f Z λa f=> ?_
           have⟨ce,cf,bL⟩:=bind_some bL
           refine AV 12 28015 0 m bO T28 cf Z f Z Z λcg a ch f=>Bd 13 28015 0 bO Pl2 ch cf Z f Z λci a cj f=> ?_
           subst cj
           have⟨ck,cl,bL⟩:=bind_some bL
           refine AV 14 28015 0 m bO T28 cl Z f Z Z λcm a cn f=>AJ λco w cp m=> ?_
           have bO:=od1 cp bO
           refine AO 0 m bO Z sizeOf2 f Z Z cn cl Z Z Z λcq w m cr=> ?_
           have⟨cs,ct,bL⟩:=bind_some bL
           refine A5 0 m cr Z T28 f Z Z Z ct λcu a cv f=>AO 0 m cr Z sizeOf2 f Z Z cv ct Z Z Z λcw w m cx=>Aa (Ao ?_)
           refine Ab f Z λa f=>Ai f Z Z AS λa f=>Ac f Z λa f=>Aa ?_
           obtain rfl:=sj bL
           exact⟨_,Z,_,_,Z,_,cw,(gt bN (gt b6 cp)),f.k Z,m,cx⟩
         ·refine Aj f Z bP ?_
          refine AH Z ?_
          obtain rfl:=sj bL
          obtain rfl:=bM _ rfl
          exact⟨_,Z,_,bJ,bN,f.k Z,m,bO⟩
        ·rintro a w ⟨bC,rfl,bD,bE,cy,f,m,cz⟩
         obtain rfl:=sj bu
         exact⟨_,Z,_,bE,cy,f.k Z,m,cz⟩
       ·refine Aj f Z bz ?_
        refine Ap ?_
        obtain rfl:=sj bu
        exact⟨_,Z,_,br,gr,f.k Z,m,bs⟩
      ·rintro a w ⟨bv,rfl,bw,bx,cA,f,m,cB⟩
       refine Af ?_
       refine Ab f Z λa f=>Ab f Z λa f=>Ai f Z Z AS λa f=>Ai f Z Z CE λa f=>Aa ?_
       rcases Ae am with⟨cC,am⟩|⟨cC,am⟩
       ·refine Al f Z cC ?_
        refine Af ?_
        refine Ab f Z λa f=>Ai f Z Z Ax λa f=>Ac f Z λa f=>Aa ?_
        have⟨cD,cE,am⟩:=bind_some am
        refine AM (λa w=>∃cF:LI,cF=cD∧∃(cG:GH) (cH:Itm),GLe bw cG∧Fr a 133 [(0,v0),(1,(iv x1)),(2,(iv x2)),(7,(iv av)),(8,(iv ai))]∧Mem W cG w (cH::H)∧Ow R0 2 cG cH v0 cF) ?_ ?_
        ·refine Ak ?_
         refine AL (λcI a w=>∃cJ:LI,∃cK:Int,(cJ,cK)=cI∧∃(cL:GH) (cM:Itm),GLe bw cL∧Fr a 133 [(0,v0),(1,(iv x1)),(2,(iv x2)),(7,(iv av)),(8,(iv ai)),(10,(iv cK))]∧Mem W cL w (cM::H)∧Ow R0 2 cL cM v0 cJ) cE ⟨_,_,Z,_,bx,gr,f.k Z,m,cB⟩ ?_
         clear cE f m
         rintro cI cN cO cP a w ⟨cJ,cK,rfl,cL,cM,cQ,f,m,cR⟩
         refine Ag (Af ?_)
         refine Ab f Z λa f=>Ab f Z λa f=>Ai f Z Z AR λa f=>Aa ?_
         rcases Ae cO with⟨cS,cO⟩|⟨cS,cO⟩
         ·refine Al f Z cS ?_
          refine Ap ?_
          refine Ag (Ak (Ag (Ag ?_)))
          refine A2 11 AG (by kernel_rfl) m ?_
          refine Ah 0 11 Z f Z λa f=>Ah 1 11 Z f Z λa f=> ?_
          have⟨cT,cU,cO⟩:=bind_some cO
          refine AV 2 11 0 m cR T28 cU Z f Z Z λcV a cW f=>Bd 3 11 0 cR Pl2 cW cU Z f Z λcX a cY f=> ?_
          subst cY
          refine Ah 4 11 Z f Z λa f=>Ah 5 11 Z f Z λa f=>q_p 6 11 Z f (λ_=>AF (f.e Z) (f.e Z) AS) λa f=> ?_
          have⟨cZ,c0,cO⟩:=bind_some cO
          refine AV 7 11 0 m cR T28 c0 Z f Z Z λc1 a c2 f=>Bd 8 11 0 cR Pl2 c2 c0 Z f Z λc3 a c4 f=> ?_
          subst c4
          have⟨c5,c6,cO⟩:=bind_some cO
          refine AW (i:=9) 11 Z (by kernel_rfl) Z f Z Z Z call109 (λ_ _ w c7 m=>Wk.d m c6) λa f=>q_p 10 11 Z f (λ_=>Bh (f.e Z)) λa f=>AJ λc8 w c9 m=> ?_
          have cR:=od1 c9 cR
          refine Aa ?_
          rcases Ae cO with⟨da,cO⟩|⟨da,cO⟩
          ·refine Al f Z da ?_
           refine AH Z ?_
           obtain rfl:=sj cO
           obtain rfl:=cP _ rfl
           exact⟨_,Z,_,cM,(gt cQ c9),f.k Z,m,cR⟩
          ·refine Aj f Z da ?_
           refine Ap ?_
           refine Cb AG m ?_
           refine p_p 2 Z f (λ_=>Bl (f.e Z)) λa f=>p_p 3 Z f (λ_=>Bl (f.e Z)) λa f=>p_p 4 Z f (λ_=>AF (f.e Z) (f.e Z) AS) λa f=>B9 28015 12 (by kernel_rfl) Z ?_
           refine Ah 0 28015 Z f Z λa f=>Ah 1 28015 Z f Z λa f=>Ah 5 28015 Z f Z λa f=>Ah 6 28015 Z f Z λa f=>q_p 7 28015 Z f (λ_=>AF (f.e Z) (f.e Z) AS) λa f=> ?_
           have⟨db,dc,cO⟩:=bind_some cO
           refine AV 8 28015 0 m cR T28 dc Z f Z Z λdd a de f=>Bd 9 28015 0 cR Pl2 de dc Z f Z λdf a dg f=> ?_
           subst dg
           refine Ah 10 28015 Z f Z λa f=>Ah 11 28015 Z f Z λa f=> ?_
           have⟨dh,di,cO⟩:=bind_some cO
           refine AV 12 28015 0 m cR T28 di Z f Z Z λdj a dk f=>Bd 13 28015 0 cR Pl2 dk di Z f Z λdl a dm f=> ?_
           subst dm
           have⟨dn,dp,cO⟩:=bind_some cO
           refine AV 14 28015 0 m cR T28 dp Z f Z Z λdq a dr f=>AJ λds w dt m=> ?_
           have cR:=od1 dt cR
           refine AO 0 m cR Z sizeOf2 f Z Z dr dp Z Z Z λdu w m dv=> ?_
           have⟨dw,dx,cO⟩:=bind_some cO
           refine A5 0 m dv Z T28 f Z Z Z dx λdy a dz f=>AO 0 m dv Z sizeOf2 f Z Z dz dx Z Z Z λdA w m dB=>Aa (Ao ?_)
           refine Ab f Z λa f=>Ai f Z Z Ax λa f=>Ac f Z λa f=>Aa ?_
           obtain rfl:=sj cO
           exact⟨_,Z,_,_,Z,_,dA,(gt cQ (gt c9 dt)),f.k Z,m,dB⟩
         ·refine Aj f Z cS ?_
          refine AH Z ?_
          obtain rfl:=sj cO
          obtain rfl:=cP _ rfl
          exact⟨_,Z,_,cM,cQ,f.k Z,m,cR⟩
        ·rintro a w ⟨cF,rfl,cG,cH,dC,f,m,dD⟩
         refine Ao ?_
         refine Ab f Z λa f=>Ai f Z Z Ax λa f=>Ac f Z λa f=>Aa ?_
         obtain rfl:=sj am
         exact⟨_,Z,_,_,_,Z,_,cH,(gt ao (gt a0 (gt bk (gt cA dC)))),f.k Z,m,dD⟩
       ·refine Aj f Z cC ?_
        refine Ap ?_
        refine Ao ?_
        refine Ab f Z λa f=>Ai f Z Z Ax λa f=>Ac f Z λa f=>Aa ?_
        obtain rfl:=sj am
        exact⟨_,Z,_,_,_,Z,_,bx,(gt ao (gt a0 (gt bk cA))),f.k Z,m,cB⟩
  ·refine Aj f Z aq ?_
   refine AH Z ?_
   obtain rfl:=sj am
   obtain rfl:=an _ rfl
   exact⟨_,Z,_,Z,_,ak,ao,f.weak trivial,m,ap⟩
 ·rintro a w ⟨_,rfl,ac,rfl,ad,ae,dE,f,m,dF⟩
  refine Af ?_
  refine Ac f Z λa f=>Aa ?_
  refine Aq ?_
  obtain rfl:=sj hd
  exact⟨[(.bool false)],f.g Z,f.d,_,[ae],dE,m,_,Z,Z,dF⟩
theorem Wk.T0 {v0:Value}{it0:Itm}{x0:LI}{x1 x2 x3:Int}(m:Mem W G w (it0::H))(o0:Ow R0 2 G it0 v0 x0){y:Int×(LI)}(hd:D.T0 x0 x1 x2 x3=some y):
  Calls prog 110 #[v0,(iv x1),(iv x2),(iv x3)] w (Res W G H (λG' Ho v=>∃i0:Itm,Ho=[i0]∧v=(iv y.1)∧Ow R0 2 G' i0 v0 y.2)):=by
 refine Au (args:=[v0,(iv x1),(iv x2),(iv x3)]) (N:=84) [.tmp 8] func110 Z Z (lb Z) Z λa f=> ?_
 unfold D.T0 at hd
 refine Af ?_
 refine Ac f Z λa f=>Aa (Ag ?_)
 refine Cb AG m ?_
 refine p_p 2 Z f (λ_=>Bl (f.e Z)) λa f=>p_p 3 Z f (λ_=>Bl (f.e Z)) λa f=>B9 12013 11 (by kernel_rfl) Z ?_
 refine Ah 0 12013 Z f Z λa f=>Ah 1 12013 Z f Z λa f=>Ah 4 12013 Z f Z λa f=>Ah 5 12013 Z f Z λa f=> ?_
 have⟨aa,ab,hd⟩:=bind_some hd
 refine AV 6 12013 0 m o0 T28 ab Z f Z Z λac a ad f=>Bd 7 12013 0 o0 Pl2 ad ab Z f Z λae a af f=> ?_
 subst af
 refine Ah 8 12013 Z f Z λa f=>Ah 9 12013 Z f Z λa f=> ?_
 have⟨ag,ah,hd⟩:=bind_some hd
 refine AV 10 12013 0 m o0 T28 ah Z f Z Z λai a aj f=>Bd 11 12013 0 o0 Pl2 aj ah Z f Z λak a al f=> ?_
 subst al
 have⟨am,an,hd⟩:=bind_some hd
 refine AV 12 12013 0 m o0 T28 an Z f Z Z λao a ap f=>AJ λaq w ar m=> ?_
 have o0:=od1 ar o0
 refine AO 0 m o0 Z sizeOf2 f Z Z ap an Z Z Z λau w m av=> ?_
 have⟨aw,ax,hd⟩:=bind_some hd
 refine A5 0 m av Z T28 f Z Z Z ax λay a az f=>AO 0 m av Z sizeOf2 f Z Z az ax Z Z Z λaA w m aB=>AB ?_
 refine Ab f Z λa f=>Ai f Z Z Ax λa f=>Ab f Z λa f=>Ai f Z Z AS λa f=>Ac f Z λa f=>Ac f Z λa f=>Aa (Ag ?_)
 have⟨aC,aD,hd⟩:=bind_some hd
 refine AM (λa w=>∃aE:LI,∃aF:Int,(aE,aF)=aC∧∃(aG:GH) (aH:Itm),GLe aq aG∧Fr a 84 [(9,(iv aF))]∧Mem W aG w (aH::H)∧Ow R0 2 aG aH v0 aE) ?_ ?_
 ·refine Ak ?_
  refine AL (λaI a w=>∃aJ:LI,∃aK:Int,∃aL:Int,(aJ,aK,aL)=aI∧∃(aM:GH) (aN:Itm),GLe aq aM∧Fr a 84 [(0,v0),(1,(iv x1)),(9,(iv aK)),(10,(iv aL))]∧Mem W aM w (aN::H)∧Ow R0 2 aM aN v0 aJ) aD ⟨_,_,_,Z,_,aA,gr,f.k Z,m,aB⟩ ?_
  clear aD f m
  rintro aI aO aP aQ a w ⟨aJ,aK,aL,rfl,aM,aN,aR,f,m,aS⟩
  refine Ak (Ag ?_)
  have⟨aT,aU,aP⟩:=bind_some aP
  refine AM (λa w=>∃aV:Int,aV=aT∧∃(aW:GH),GLe aM aW∧Fr a 84 [(0,v0),(1,(iv x1)),(9,(iv aV)),(10,(iv aL))]∧Mem W aW w (aN::H)) ?_ ?_
  ·refine Ak ?_
   refine AL (λaX a w=>∃aY:Int,aY=aX∧∃(aZ:GH),GLe aM aZ∧Fr a 84 [(0,v0),(1,(iv x1)),(9,(iv aY)),(10,(iv aL))]∧Mem W aZ w (aN::H)) aU ⟨_,Z,_,gr,f.k Z,m⟩ ?_
   clear aU f m
   rintro aX a0 a1 a2 a w ⟨aY,rfl,aZ,a3,f,m⟩
   have aS:=od1 a3 aS
   refine Ag (Ag ?_)
   refine A2 15 AG (by kernel_rfl) m ?_
   refine Ah 0 15 Z f Z λa f=>Ah 1 15 Z f Z λa f=>q_p 2 15 Z f (λ_=>AF (f.e Z) (f.e Z) CN) λa f=>Ah 3 15 Z f Z λa f=> ?_
   have⟨a4,a5,a1⟩:=bind_some a1
   refine BU (fuel':=0) (listed':= #[true,true,true,true,true,true,true,true,true,true,true,true,true,true,true]) (λa=>Fr a 84 [(0,v0),(1,(iv x1)),(9,(iv aY)),(10,(iv aL)),(29,(iv aY)),(30,(iv aL)),(31,(.bool (decide (aY≤aL)))),(32,(.bool (decide (aY≤aL)))),(43,(.bool a4))]) ?_ ?_
   ·intro a f
    refine AJ λa6 w a7 m=>Aa ?_
    rcases Ae a1 with⟨a8,a1⟩|⟨a8,a1⟩
    ·refine Al f Z a8 ?_
     refine Ap ?_
     refine Ak (Ao ?_)
     refine Ab f Z λa f=>Ai f Z Z Ax λa f=>Ac f Z λa f=>Aa ?_
     obtain rfl:=sj a1
     exact⟨_,Z,_,Z,_,(gt a3 a7),f.k Z,m⟩
    ·refine Aj f Z a8 ?_
     refine AH Z ?_
     obtain rfl:=sj a1
     obtain rfl:=a2 _ rfl
     exact⟨_,Z,_,(gt a3 a7),f.k Z,m⟩
   ·intro a9
    rcases Ae a5 with⟨ba,a5⟩|⟨ba,a5⟩
    ·refine Ah (hw:=wo f ba) 4 15 Z f Z λa f=> ?_
     refine Ah (hw:=wo f ba) 5 15 Z f Z λa f=> ?_
     have⟨bb,bc,a5⟩:=bind_some a5
     refine AV (hw:=wo f ba) 6 15 0 m aS T28 bc Z f Z Z λbd a be f=>Bd (hw:=wo f ba) 7 15 0 aS Pl2 be bc Z f Z λbf a bg f=> ?_
     subst bg
     refine Ah (hw:=wo f ba) 8 15 Z f Z λa f=>Ah (hw:=wo f ba) 9 15 Z f Z λa f=> ?_
     have⟨bh,bi,a5⟩:=bind_some a5
     refine AV (hw:=wo f ba) 10 15 0 m aS T28 bi Z f Z Z λbj a bk f=>Bd (hw:=wo f ba) 11 15 0 aS Pl2 bk bi Z f Z λbl a bm f=> ?_
     subst bm
     have⟨bn,bo,a5⟩:=bind_some a5
     refine AW (i:=12) 15 Z (by kernel_rfl) Z f (Ba f Z Z Z ba) Z Z call109 (λ_ _ w bp m=>Wk.d m bo) λa f=>q_p (hw:=wo f ba) 13 15 Z f (λ_=>Bh (f.e Z)) λa f=>q_p 14 15 Z f (λ_=>AK (f.e Z) ba (f.e Z)) λa f=> ?_
     obtain rfl:=sj a5
     exact a9 _ (f.k Z)
    ·refine Am 4 15 Z f ba λa f=> ?_
     refine Am 5 15 Z f ba λa f=>Am 6 15 Z f ba λa f=>Am 7 15 Z f ba λa f=>Am 8 15 Z f ba λa f=>Am 9 15 Z f ba λa f=>Am 10 15 Z f ba λa f=>Am 11 15 Z f ba λa f=>Am 12 15 Z f ba λa f=>Am 13 15 Z f ba λa f=>q_p 14 15 Z f (λ_=>AP (f.e Z) ba (f.e Z)) λa f=> ?_
     obtain rfl:=sj a5
     exact a9 _ (f.k Z)
  ·rintro a w ⟨aV,rfl,aW,bq,f,m⟩
   have aS:=od1 bq aS
   refine Ag ?_
   have⟨br,bs,aP⟩:=bind_some aP
   refine AM (λa w=>∃bt:Int,bt=br∧∃(bu:GH),GLe aW bu∧Fr a 84 [(0,v0),(1,(iv x1)),(9,(iv aV)),(10,(iv bt))]∧Mem W bu w (aN::H)) ?_ ?_
   ·refine Ak ?_
    refine AL (λbv a w=>∃bw:Int,bw=bv∧∃(bx:GH),GLe aW bx∧Fr a 84 [(0,v0),(1,(iv x1)),(9,(iv aV)),(10,(iv bw))]∧Mem W bx w (aN::H)) bs ⟨_,Z,_,gr,f.k Z,m⟩ ?_
    clear bs f m
    rintro bv bz bA bB a w ⟨bw,rfl,bx,bC,f,m⟩
    have aS:=od1 bC aS
    refine Ag (Ag ?_)
    refine A2 14 AG (by kernel_rfl) m ?_
    refine Ah 0 14 Z f Z λa f=>Ah 1 14 Z f Z λa f=>q_p 2 14 Z f (λ_=>AF (f.e Z) (f.e Z) CN) λa f=>Ah 3 14 Z f Z λa f=> ?_
    have⟨bD,bE,bA⟩:=bind_some bA
    refine BU (fuel':=0) (listed':= #[true,true,true,true,true,true,true,true,true,true,true,true,true,true]) (λa=>Fr a 84 [(0,v0),(1,(iv x1)),(9,(iv aV)),(10,(iv bw)),(46,(iv aV)),(47,(iv bw)),(48,(.bool (decide (aV≤bw)))),(49,(.bool (decide (aV≤bw)))),(59,(.bool bD))]) ?_ ?_
    ·intro a f
     refine AJ λbF w bG m=>Aa ?_
     rcases Ae bA with⟨bH,bA⟩|⟨bH,bA⟩
     ·refine Al f Z bH ?_
      refine Ap ?_
      refine Ak (Ao ?_)
      refine Ab f Z λa f=>Ai f Z Z AS λa f=>Ac f Z λa f=>Aa ?_
      obtain rfl:=sj bA
      exact⟨_,Z,_,Z,_,(gt bC bG),f.k Z,m⟩
     ·refine Aj f Z bH ?_
      refine AH Z ?_
      obtain rfl:=sj bA
      obtain rfl:=bB _ rfl
      exact⟨_,Z,_,(gt bC bG),f.k Z,m⟩
    ·intro bI
     rcases Ae bE with⟨bJ,bE⟩|⟨bJ,bE⟩
     ·refine Ah (hw:=wo f bJ) 4 14 Z f Z λa f=> ?_
      refine Ah (hw:=wo f bJ) 5 14 Z f Z λa f=> ?_
      have⟨bK,bL,bE⟩:=bind_some bE
      refine AV (hw:=wo f bJ) 6 14 0 m aS T28 bL Z f Z Z λbM a bN f=>Bd (hw:=wo f bJ) 7 14 0 aS Pl2 bN bL Z f Z λbO a bP f=> ?_
      subst bP
      refine Ah (hw:=wo f bJ) 8 14 Z f Z λa f=>Ah (hw:=wo f bJ) 9 14 Z f Z λa f=> ?_
      have⟨bQ,bR,bE⟩:=bind_some bE
      refine AV (hw:=wo f bJ) 10 14 0 m aS T28 bR Z f Z Z λbS a bT f=>Bd (hw:=wo f bJ) 11 14 0 aS Pl2 bT bR Z f Z λbU a bV f=> ?_
      subst bV
      have⟨bW,bX,bE⟩:=bind_some bE
      refine AW (i:=12) 14 Z (by kernel_rfl) Z f (Ba f Z Z Z bJ) Z Z call109 (λ_ _ w bY m=>Wk.d m bX) λa f=>q_p 13 14 Z f (λ_=>AK (f.e Z) bJ (f.e Z)) λa f=> ?_
      obtain rfl:=sj bE
      exact bI _ (f.k Z)
     ·refine Am 4 14 Z f bJ λa f=> ?_
      refine Am 5 14 Z f bJ λa f=>Am 6 14 Z f bJ λa f=>Am 7 14 Z f bJ λa f=>Am 8 14 Z f bJ λa f=>Am 9 14 Z f bJ λa f=>Am 10 14 Z f bJ λa f=>Am 11 14 Z f bJ λa f=>Am 12 14 Z f bJ λa f=>q_p 13 14 Z f (λ_=>AP (f.e Z) bJ (f.e Z)) λa f=> ?_
      obtain rfl:=sj bE
      exact bI _ (f.k Z)
   ·rintro a w ⟨bt,rfl,bu,bZ,f,m⟩
    have aS:=od1 bZ aS
    refine Ag (Af ?_)
    refine Ab f Z λa f=>Ab f Z λa f=>Ai f Z Z Ce λa f=>Aa ?_
    rcases Ae aP with⟨b0,aP⟩|⟨b0,aP⟩
    ·refine Al f Z b0 ?_
     refine AH Z ?_
     obtain rfl:=sj aP
     obtain rfl:=aQ _ rfl
     exact⟨_,_,Z,_,aN,(gt aR (gt bq bZ)),f.k Z,m,aS⟩
    ·refine Aj f Z b0 ?_
     refine Ap ?_
     refine Ag ?_
     refine Cb AG m ?_
     refine p_p 2 Z f (λ_=>Bl (f.e Z)) λa f=>p_p 3 Z f (λ_=>Bl (f.e Z)) λa f=>B9 12013 11 (by kernel_rfl) Z ?_
     refine Ah 0 12013 Z f Z λa f=>Ah 1 12013 Z f Z λa f=>Ah 4 12013 Z f Z λa f=>Ah 5 12013 Z f Z λa f=> ?_
     have⟨b1,b2,aP⟩:=bind_some aP
     refine AV 6 12013 0 m aS T28 b2 Z f Z Z λb3 a b4 f=>Bd 7 12013 0 aS Pl2 b4 b2 Z f Z λb5 a b6 f=> ?_
     subst b6
     refine Ah 8 12013 Z f Z λa f=>Ah 9 12013 Z f Z λa f=> ?_
     have⟨b7,b8,aP⟩:=bind_some aP
     refine AV 10 12013 0 m aS T28 b8 Z f Z Z λb9 a ca f=>Bd 11 12013 0 aS Pl2 ca b8 Z f Z λcb a cc f=> ?_
     subst cc
     have⟨cd,ce,aP⟩:=bind_some aP
     refine AV 12 12013 0 m aS T28 ce Z f Z Z λcf a cg f=>AJ λch w ci m=> ?_
     have aS:=od1 ci aS
     refine AO 0 m aS Z sizeOf2 f Z Z cg ce Z Z Z λcj w m ck=> ?_
     have⟨cl,cm,aP⟩:=bind_some aP
     refine A5 0 m ck Z T28 f Z Z Z cm λcn a co f=>AO 0 m ck Z sizeOf2 f Z Z co cm Z Z Z λcp w m cq=>AB ?_
     refine Ab f Z λa f=>Ai f Z Z Ax λa f=>Ac f Z λa f=>Aa (Ao ?_)
     refine Ab f Z λa f=>Ai f Z Z AS λa f=>Ac f Z λa f=>Aa ?_
     obtain rfl:=sj aP
     exact⟨_,Z,_,_,_,Z,_,cp,(gt aR (gt bq (gt bZ ci))),f.k Z,m,cq⟩
 ·rintro a w ⟨aE,aF,rfl,aG,aH,cr,f,m,cs⟩
  refine Af ?_
  refine Ab f Z λa f=>Ac f Z λa f=>Aa ?_
  refine Aq ?_
  obtain rfl:=sj hd
  exact⟨[(iv aF)],f.g Z,f.d,_,[aH],(gt ar cr),m,_,Z,Z,cs⟩
theorem Wk.e1 {v0:Value}{it0:Itm}{x0:LI}{x1 x2 x3:Int}(m:Mem W G w (it0::H))(o0:Ow R0 2 G it0 v0 x0){y:Int×Bool×(LI)}(hd:D.e1 x0 x1 x2 x3=some y):
  Calls prog 111 #[v0,(iv x1),(iv x2),(iv x3)] w (Res W G H (λG' Ho v=>∃i0:Itm,Ho=[i0]∧v= .tuple #[(iv y.1),(.bool y.2.1)]∧Ow R0 2 G' i0 v0 y.2.2)):=by
 refine Au (args:=[v0,(iv x1),(iv x2),(iv x3)]) (N:=168) [.tmp 8,.tmp 9] func111 Z Z (lb Z) Z λa f=> ?_
 unfold D.e1 at hd
 refine Af ?_
 refine Ac f Z λa f=>Ac f Z λa f=>Aa (Ag ?_)
 refine Cb AG m ?_
 refine p_p 2 Z f (λ_=>Bl (f.e Z)) λa f=>p_p 3 Z f (λ_=>Bl (f.e Z)) λa f=>B9 12013 11 (by kernel_rfl) Z ?_
 refine Ah 0 12013 Z f Z λa f=>Ah 1 12013 Z f Z λa f=>Ah 4 12013 Z f Z λa f=>Ah 5 12013 Z f Z λa f=> ?_
 have⟨aa,ab,hd⟩:=bind_some hd
 refine AV 6 12013 0 m o0 T28 ab Z f Z Z λac a ad f=>Bd 7 12013 0 o0 Pl2 ad ab Z f Z λae a af f=> ?_
 subst af
 refine Ah 8 12013 Z f Z λa f=>Ah 9 12013 Z f Z λa f=> ?_
 have⟨ag,ah,hd⟩:=bind_some hd
 refine AV 10 12013 0 m o0 T28 ah Z f Z Z λai a aj f=>Bd 11 12013 0 o0 Pl2 aj ah Z f Z λak a al f=> ?_
 subst al
 have⟨am,an,hd⟩:=bind_some hd
 refine AV 12 12013 0 m o0 T28 an Z f Z Z λao a ap f=>AJ λaq w ar m=> ?_
 have o0:=od1 ar o0
 refine AO 0 m o0 Z sizeOf2 f Z Z ap an Z Z Z λau w m av=> ?_
 have⟨aw,ax,hd⟩:=bind_some hd
 refine A5 0 m av Z T28 f Z Z Z ax λay a az f=>AO 0 m av Z sizeOf2 f Z Z az ax Z Z Z λaA w m aB=>AB ?_
 refine Ab f Z λa f=>Ai f Z Z Ax λa f=>Ab f Z λa f=>Ai f Z Z AS λa f=>Ac f Z λa f=>Ac f Z λa f=>Aa (Ag ?_)
 have⟨aC,aD,hd⟩:=bind_some hd
 refine AM (λa w=>∃aE:Int,aE=aC∧∃(aF:GH),GLe aq aF∧Fr a 168 [(0,v0),(1,(iv x1)),(10,(iv aE)),(11,(iv (i64.wrap (x2-1))))]∧Mem W aF w (aA::H)) ?_ ?_
 ·refine Ak ?_
  refine AL (λaG a w=>∃aH:Int,aH=aG∧∃(aI:GH),GLe aq aI∧Fr a 168 [(0,v0),(1,(iv x1)),(10,(iv aH)),(11,(iv (i64.wrap (x2-1))))]∧Mem W aI w (aA::H)) aD ⟨_,Z,_,gr,f.k Z,m⟩ ?_
  clear aD f m
  rintro aG aJ aK aL a w ⟨aH,rfl,aI,aM,f,m⟩
  have aB:=od1 aM aB
  refine Ag (Ag ?_)
  refine A2 14 AG (by kernel_rfl) m ?_
  refine Ah 0 14 Z f Z λa f=>Ah 1 14 Z f Z λa f=>q_p 2 14 Z f (λ_=>AF (f.e Z) (f.e Z) CN) λa f=>Ah 3 14 Z f Z λa f=> ?_
  have⟨aN,aO,aK⟩:=bind_some aK
  refine BU (fuel':=0) (listed':= #[true,true,true,true,true,true,true,true,true,true,true,true,true,true]) (λa=>Fr a 168 [(0,v0),(1,(iv x1)),(10,(iv aH)),(11,(iv (i64.wrap (x2-1)))),(30,(iv aH)),(31,(iv (i64.wrap (x2-1)))),(32,(.bool (decide (aH≤(i64.wrap (x2-1)))))),(33,(.bool (decide (aH≤(i64.wrap (x2-1)))))),(43,(.bool aN))]) ?_ ?_
  ·intro a f
   refine AJ λaP w aQ m=>Aa ?_
   rcases Ae aK with⟨aR,aK⟩|⟨aR,aK⟩
   ·refine Al f Z aR ?_
    refine Ap ?_
    refine Ak (Ao ?_)
    refine Ab f Z λa f=>Ai f Z Z Ax λa f=>Ac f Z λa f=>Aa ?_
    obtain rfl:=sj aK
    exact⟨_,Z,_,Z,_,(gt aM aQ),f.k Z,m⟩
   ·refine Aj f Z aR ?_
    refine AH Z ?_
    obtain rfl:=sj aK
    obtain rfl:=aL _ rfl
    exact⟨_,Z,_,(gt aM aQ),f.k Z,m⟩
  ·intro aS
   rcases Ae aO with⟨aT,aO⟩|⟨aT,aO⟩
   ·refine Ah (hw:=wo f aT) 4 14 Z f Z λa f=> ?_
    refine Ah (hw:=wo f aT) 5 14 Z f Z λa f=> ?_
    have⟨aU,aV,aO⟩:=bind_some aO
    refine AV (hw:=wo f aT) 6 14 0 m aB T28 aV Z f Z Z λaW a aX f=>Bd (hw:=wo f aT) 7 14 0 aB Pl2 aX aV Z f Z λaY a aZ f=> ?_
    subst aZ
    refine Ah (hw:=wo f aT) 8 14 Z f Z λa f=>Ah (hw:=wo f aT) 9 14 Z f Z λa f=> ?_
    have⟨a0,a1,aO⟩:=bind_some aO
    refine AV (hw:=wo f aT) 10 14 0 m aB T28 a1 Z f Z Z λa2 a a3 f=>Bd (hw:=wo f aT) 11 14 0 aB Pl2 a3 a1 Z f Z λa4 a a5 f=> ?_
    subst a5
    have⟨a6,a7,aO⟩:=bind_some aO
    refine AW (i:=12) 14 Z (by kernel_rfl) Z f (Ba f Z Z Z aT) Z Z call109 (λ_ _ w a8 m=>Wk.d m a7) λa f=>q_p 13 14 Z f (λ_=>AK (f.e Z) aT (f.e Z)) λa f=> ?_
    obtain rfl:=sj aO
    exact aS _ (f.k Z)
   ·refine Am 4 14 Z f aT λa f=> ?_
    refine Am 5 14 Z f aT λa f=>Am 6 14 Z f aT λa f=>Am 7 14 Z f aT λa f=>Am 8 14 Z f aT λa f=>Am 9 14 Z f aT λa f=>Am 10 14 Z f aT λa f=>Am 11 14 Z f aT λa f=>Am 12 14 Z f aT λa f=>q_p 13 14 Z f (λ_=>AP (f.e Z) aT (f.e Z)) λa f=> ?_
    obtain rfl:=sj aO
    exact aS _ (f.k Z)
 ·rintro a w ⟨aE,rfl,aF,a9,f,m⟩
  have aB:=od1 a9 aB
  refine Ag ?_
  have⟨ba,bb,hd⟩:=bind_some hd
  refine AM (λa w=>∃bc:Int,bc=ba∧∃(bd:GH),GLe aF bd∧Fr a 168 [(0,v0),(1,(iv x1)),(10,(iv aE)),(11,(iv bc))]∧Mem W bd w (aA::H)) ?_ ?_
  ·refine Ak ?_
   refine AL (λbe a w=>∃bf:Int,bf=be∧∃(bg:GH),GLe aF bg∧Fr a 168 [(0,v0),(1,(iv x1)),(10,(iv aE)),(11,(iv bf))]∧Mem W bg w (aA::H)) bb ⟨_,Z,_,gr,f.k Z,m⟩ ?_
   clear bb f m
   rintro be bh bi bj a w ⟨bf,rfl,bg,bk,f,m⟩
   have aB:=od1 bk aB
   refine Ag (Ag ?_)
   refine A2 15 AG (by kernel_rfl) m ?_
   refine Ah 0 15 Z f Z λa f=>Ah 1 15 Z f Z λa f=>q_p 2 15 Z f (λ_=>AF (f.e Z) (f.e Z) CN) λa f=>Ah 3 15 Z f Z λa f=> ?_
   have⟨bl,bm,bi⟩:=bind_some bi
   refine BU (fuel':=0) (listed':= #[true,true,true,true,true,true,true,true,true,true,true,true,true,true,true]) (λa=>Fr a 168 [(0,v0),(1,(iv x1)),(10,(iv aE)),(11,(iv bf)),(46,(iv aE)),(47,(iv bf)),(48,(.bool (decide (aE≤bf)))),(49,(.bool (decide (aE≤bf)))),(60,(.bool bl))]) ?_ ?_
   ·intro a f
    refine AJ λbn w bo m=>Aa ?_
    rcases Ae bi with⟨bp,bi⟩|⟨bp,bi⟩
    ·refine Al f Z bp ?_
     refine Ap ?_
     refine Ak (Ao ?_)
     refine Ab f Z λa f=>Ai f Z Z AS λa f=>Ac f Z λa f=>Aa ?_
     obtain rfl:=sj bi
     exact⟨_,Z,_,Z,_,(gt bk bo),f.k Z,m⟩
    ·refine Aj f Z bp ?_
     refine AH Z ?_
     obtain rfl:=sj bi
     obtain rfl:=bj _ rfl
     exact⟨_,Z,_,(gt bk bo),f.k Z,m⟩
   ·intro bq
    rcases Ae bm with⟨br,bm⟩|⟨br,bm⟩
    ·refine Ah (hw:=wo f br) 4 15 Z f Z λa f=> ?_
     refine Ah (hw:=wo f br) 5 15 Z f Z λa f=> ?_
     have⟨bs,bt,bm⟩:=bind_some bm
     refine AV (hw:=wo f br) 6 15 0 m aB T28 bt Z f Z Z λbu a bv f=>Bd (hw:=wo f br) 7 15 0 aB Pl2 bv bt Z f Z λbw a bx f=> ?_
     subst bx
     refine Ah (hw:=wo f br) 8 15 Z f Z λa f=>Ah (hw:=wo f br) 9 15 Z f Z λa f=> ?_
     have⟨bz,bA,bm⟩:=bind_some bm
     refine AV (hw:=wo f br) 10 15 0 m aB T28 bA Z f Z Z λbB a bC f=>Bd (hw:=wo f br) 11 15 0 aB Pl2 bC bA Z f Z λbD a bE f=> ?_
     subst bE
     have⟨bF,bG,bm⟩:=bind_some bm
     refine AW (i:=12) 15 Z (by kernel_rfl) Z f (Ba f Z Z Z br) Z Z call109 (λ_ _ w bH m=>Wk.d m bG) λa f=>q_p (hw:=wo f br) 13 15 Z f (λ_=>Bh (f.e Z)) λa f=>q_p 14 15 Z f (λ_=>AK (f.e Z) br (f.e Z)) λa f=> ?_
     obtain rfl:=sj bm
     exact bq _ (f.k Z)
    ·refine Am 4 15 Z f br λa f=> ?_
     refine Am 5 15 Z f br λa f=>Am 6 15 Z f br λa f=>Am 7 15 Z f br λa f=>Am 8 15 Z f br λa f=>Am 9 15 Z f br λa f=>Am 10 15 Z f br λa f=>Am 11 15 Z f br λa f=>Am 12 15 Z f br λa f=>Am 13 15 Z f br λa f=>q_p 14 15 Z f (λ_=>AP (f.e Z) br (f.e Z)) λa f=> ?_
     obtain rfl:=sj bm
     exact bq _ (f.k Z)
  ·rintro a w ⟨bc,rfl,bd,bI,f,m⟩
   have aB:=od1 bI aB
   refine Ag (Af ?_)
   refine Ab f Z λa f=>Ab f Z λa f=>Ai f Z Z Ce λa f=>Aa ?_
   rcases Ae hd with⟨bJ,hd⟩|⟨bJ,hd⟩
   ·refine Al f Z bJ ?_
    refine Ag ?_
    refine Cb AG m ?_
    refine p_p 2 Z f (λ_=>Bl (f.e Z)) λa f=>p_p 3 Z f (λ_=>Bl (f.e Z)) λa f=>B9 12013 11 (by kernel_rfl) Z ?_
    refine Ah 0 12013 Z f Z λa f=>Ah 1 12013 Z f Z λa f=>Ah 4 12013 Z f Z λa f=>Ah 5 12013 Z f Z λa f=> ?_
    have⟨bK,bL,hd⟩:=bind_some hd
    refine AV 6 12013 0 m aB T28 bL Z f Z Z λbM a bN f=>Bd 7 12013 0 aB Pl2 bN bL Z f Z λbO a bP f=> ?_
    subst bP
    refine Ah 8 12013 Z f Z λa f=>Ah 9 12013 Z f Z λa f=> ?_
    have⟨bQ,bR,hd⟩:=bind_some hd
    refine AV 10 12013 0 m aB T28 bR Z f Z Z λbS a bT f=>Bd 11 12013 0 aB Pl2 bT bR Z f Z λbU a bV f=> ?_
    subst bV
    have⟨bW,bX,hd⟩:=bind_some hd
    refine AV 12 12013 0 m aB T28 bX Z f Z Z λbY a bZ f=>AJ λb0 w b1 m=> ?_
    have aB:=od1 b1 aB
    refine AO 0 m aB Z sizeOf2 f Z Z bZ bX Z Z Z λb2 w m b3=> ?_
    have⟨b4,b5,hd⟩:=bind_some hd
    refine A5 0 m b3 Z T28 f Z Z Z b5 λb6 a b7 f=>AO 0 m b3 Z sizeOf2 f Z Z b7 b5 Z Z Z λb8 w m b9=>AB ?_
    refine Ab f Z λa f=>Ac f Z λa f=>Ac f Z λa f=>Aa ?_
    refine Aq ?_
    obtain rfl:=sj hd
    exact⟨[(iv bc),(.bool true)],⟨f.get _ _ Z,f.get _ _ Z,trivial⟩,f.d,_,[b8],(gt ar (gt a9 (gt bI b1))),m,_,Z,Z,b9⟩
   ·refine Aj f Z bJ ?_
    refine Ap ?_
    refine Ag ?_
    refine Cb AG m ?_
    refine p_p 2 Z f (λ_=>Bl (f.e Z)) λa f=>p_p 3 Z f (λ_=>Bl (f.e Z)) λa f=>B9 12013 11 (by kernel_rfl) Z ?_
    refine Ah 0 12013 Z f Z λa f=>Ah 1 12013 Z f Z λa f=>Ah 4 12013 Z f Z λa f=>Ah 5 12013 Z f Z λa f=> ?_
    have⟨ca,cb,hd⟩:=bind_some hd
    refine AV 6 12013 0 m aB T28 cb Z f Z Z λcc a cd f=>Bd 7 12013 0 aB Pl2 cd cb Z f Z λce a cf f=> ?_
    subst cf
    refine Ah 8 12013 Z f Z λa f=>Ah 9 12013 Z f Z λa f=> ?_
    have⟨cg,ch,hd⟩:=bind_some hd
    refine AV 10 12013 0 m aB T28 ch Z f Z Z λci a cj f=>Bd 11 12013 0 aB Pl2 cj ch Z f Z λck a cl f=> ?_
    subst cl
    have⟨cm,cn,hd⟩:=bind_some hd
    refine AV 12 12013 0 m aB T28 cn Z f Z Z λco a cp f=>AJ λcq w cr m=> ?_
    have aB:=od1 cr aB
    refine AO 0 m aB Z sizeOf2 f Z Z cp cn Z Z Z λcs w m ct=> ?_
    have⟨cu,cv,hd⟩:=bind_some hd
    refine A5 0 m ct Z T28 f Z Z Z cv λcw a cx f=>AO 0 m ct Z sizeOf2 f Z Z cx cv Z Z Z λcy w m cz=>AB ?_
    refine Ab f Z λa f=>Ai f Z Z Ax λa f=>Ac f Z λa f=>AB ?_
    refine Ab f Z λa f=>Ai f Z Z AS λa f=>Ac f Z λa f=>Aa (Ag ?_)
    have⟨cA,cB,hd⟩:=bind_some hd
    refine AM (λa w=>∃cC:LI,∃cD:Int,(cC,cD)=cA∧∃(cE:GH) (cF:Itm),GLe cq cE∧Fr a 168 [(0,v0),(1,(iv x1)),(11,(iv cD))]∧Mem W cE w (cF::H)∧Ow R0 2 cE cF v0 cC) ?_ ?_
    ·refine Ak ?_
     refine AL (λcG a w=>∃cH:LI,∃cI:Int,∃cJ:Int,(cH,cI,cJ)=cG∧∃(cK:GH) (cL:Itm),GLe cq cK∧Fr a 168 [(0,v0),(1,(iv x1)),(10,(iv cI)),(11,(iv cJ))]∧Mem W cK w (cL::H)∧Ow R0 2 cK cL v0 cH) cB ⟨_,_,_,Z,_,cy,gr,f.k Z,m,cz⟩ ?_
     clear cB f m
     rintro cG cM cN cO a w ⟨cH,cI,cJ,rfl,cK,cL,cP,f,m,cQ⟩
     refine Ak (Ag ?_)
     have⟨cR,cS,cN⟩:=bind_some cN
     refine AM (λa w=>∃cT:Int,cT=cR∧∃(cU:GH),GLe cK cU∧Fr a 168 [(0,v0),(1,(iv x1)),(10,(iv cT)),(11,(iv cJ))]∧Mem W cU w (cL::H)) ?_ ?_
     ·refine Ak ?_
      refine AL (λcV a w=>∃cW:Int,cW=cV∧∃(cX:GH),GLe cK cX∧Fr a 168 [(0,v0),(1,(iv x1)),(10,(iv cW)),(11,(iv cJ))]∧Mem W cX w (cL::H)) cS ⟨_,Z,_,gr,f.k Z,m⟩ ?_
      clear cS f m
      rintro cV cY cZ c0 a w ⟨cW,rfl,cX,c1,f,m⟩
      have cQ:=od1 c1 cQ
      refine Ag (Ag ?_)
      refine A2 14 AG (by kernel_rfl) m ?_
      refine Ah 0 14 Z f Z λa f=>Ah 1 14 Z f Z λa f=>q_p 2 14 Z f (λ_=>AF (f.e Z) (f.e Z) CN) λa f=>Ah 3 14 Z f Z λa f=> ?_
      have⟨c2,c3,cZ⟩:=bind_some cZ
      refine BU (fuel':=0) (listed':= #[true,true,true,true,true,true,true,true,true,true,true,true,true,true]) (λa=>Fr a 168 [(0,v0),(1,(iv x1)),(10,(iv cW)),(11,(iv cJ)),(99,(iv cW)),(100,(iv cJ)),(101,(.bool (decide (cW≤cJ)))),(102,(.bool (decide (cW≤cJ)))),(112,(.bool c2))]) ?_ ?_
      ·intro a f
       refine AJ λc4 w c5 m=>Aa ?_
       rcases Ae cZ with⟨c6,cZ⟩|⟨c6,cZ⟩
       ·refine Al f Z c6 ?_
        refine Ap ?_
        refine Ak (Ao ?_)
        refine Ab f Z λa f=>Ai f Z Z Ax λa f=>Ac f Z λa f=>Aa ?_
        obtain rfl:=sj cZ
        exact⟨_,Z,_,Z,_,(gt c1 c5),f.k Z,m⟩
       ·refine Aj f Z c6 ?_
        refine AH Z ?_
        obtain rfl:=sj cZ
        obtain rfl:=c0 _ rfl
        exact⟨_,Z,_,(gt c1 c5),f.k Z,m⟩
      ·intro c7
       rcases Ae c3 with⟨c8,c3⟩|⟨c8,c3⟩
       ·refine Ah (hw:=wo f c8) 4 14 Z f Z λa f=> ?_
        refine Ah (hw:=wo f c8) 5 14 Z f Z λa f=> ?_
        have⟨c9,da,c3⟩:=bind_some c3
        refine AV (hw:=wo f c8) 6 14 0 m cQ T28 da Z f Z Z λdb a dc f=>Bd (hw:=wo f c8) 7 14 0 cQ Pl2 dc da Z f Z λdd a de f=> ?_
        subst de
        refine Ah (hw:=wo f c8) 8 14 Z f Z λa f=>Ah (hw:=wo f c8) 9 14 Z f Z λa f=> ?_
        have⟨df,dg,c3⟩:=bind_some c3
        refine AV (hw:=wo f c8) 10 14 0 m cQ T28 dg Z f Z Z λdh a di f=>Bd (hw:=wo f c8) 11 14 0 cQ Pl2 di dg Z f Z λdj a dk f=> ?_
        subst dk
        have⟨dl,dm,c3⟩:=bind_some c3
        refine AW (i:=12) 14 Z (by kernel_rfl) Z f (Ba f Z Z Z c8) Z Z call109 (λ_ _ w dn m=>Wk.d m dm) λa f=>q_p 13 14 Z f (λ_=>AK (f.e Z) c8 (f.e Z)) λa f=> ?_
        obtain rfl:=sj c3
        exact c7 _ (f.k Z)
       ·refine Am 4 14 Z f c8 λa f=> ?_
        refine Am 5 14 Z f c8 λa f=>Am 6 14 Z f c8 λa f=>Am 7 14 Z f c8 λa f=>Am 8 14 Z f c8 λa f=>Am 9 14 Z f c8 λa f=>Am 10 14 Z f c8 λa f=>Am 11 14 Z f c8 λa f=>Am 12 14 Z f c8 λa f=>q_p 13 14 Z f (λ_=>AP (f.e Z) c8 (f.e Z)) λa f=> ?_
        obtain rfl:=sj c3
        exact c7 _ (f.k Z)
     ·rintro a w ⟨cT,rfl,cU,dp,f,m⟩
      have cQ:=od1 dp cQ
      refine Ag ?_
      have⟨dq,dr,cN⟩:=bind_some cN
      refine AM (λa w=>∃ds:Int,ds=dq∧∃(dt:GH),GLe cU dt∧Fr a 168 [(0,v0),(1,(iv x1)),(10,(iv cT)),(11,(iv ds))]∧Mem W dt w (cL::H)) ?_ ?_
      ·refine Ak ?_
       refine AL (λdu a w=>∃dv:Int,dv=du∧∃(dw:GH),GLe cU dw∧Fr a 168 [(0,v0),(1,(iv x1)),(10,(iv cT)),(11,(iv dv))]∧Mem W dw w (cL::H)) dr ⟨_,Z,_,gr,f.k Z,m⟩ ?_
       clear dr f m
       rintro du dx dy dz a w ⟨dv,rfl,dw,dA,f,m⟩
       have cQ:=od1 dA cQ
       refine Ag (Ag ?_)
       refine A2 15 AG (by kernel_rfl) m ?_
       refine Ah 0 15 Z f Z λa f=>Ah 1 15 Z f Z λa f=>q_p 2 15 Z f (λ_=>AF (f.e Z) (f.e Z) CN) λa f=>Ah 3 15 Z f Z λa f=> ?_
       have⟨dB,dC,dy⟩:=bind_some dy
       refine BU (fuel':=0) (listed':= #[true,true,true,true,true,true,true,true,true,true,true,true,true,true,true]) (λa=>Fr a 168 [(0,v0),(1,(iv x1)),(10,(iv cT)),(11,(iv dv)),(115,(iv cT)),(116,(iv dv)),(117,(.bool (decide (cT≤dv)))),(118,(.bool (decide (cT≤dv)))),(129,(.bool dB))]) ?_ ?_
       ·intro a f
        refine AJ λdD w dE m=>Aa ?_
        rcases Ae dy with⟨dF,dy⟩|⟨dF,dy⟩
        ·refine Al f Z dF ?_
         refine Ap ?_
         refine Ak (Ao ?_)
         refine Ab f Z λa f=>Ai f Z Z AS λa f=>Ac f Z λa f=>Aa ?_
         obtain rfl:=sj dy
         exact⟨_,Z,_,Z,_,(gt dA dE),f.k Z,m⟩
        ·refine Aj f Z dF ?_
         refine AH Z ?_
         obtain rfl:=sj dy
         obtain rfl:=dz _ rfl
         exact⟨_,Z,_,(gt dA dE),f.k Z,m⟩
       ·intro dG
        rcases Ae dC with⟨dH,dC⟩|⟨dH,dC⟩
        ·refine Ah (hw:=wo f dH) 4 15 Z f Z λa f=> ?_
         refine Ah (hw:=wo f dH) 5 15 Z f Z λa f=> ?_
         have⟨dI,dJ,dC⟩:=bind_some dC
         refine AV (hw:=wo f dH) 6 15 0 m cQ T28 dJ Z f Z Z λdK a dL f=>Bd (hw:=wo f dH) 7 15 0 cQ Pl2 dL dJ Z f Z λdM a dN f=> ?_
         subst dN
         refine Ah (hw:=wo f dH) 8 15 Z f Z λa f=>Ah (hw:=wo f dH) 9 15 Z f Z λa f=> ?_
         have⟨dO,dP,dC⟩:=bind_some dC
         refine AV (hw:=wo f dH) 10 15 0 m cQ T28 dP Z f Z Z λdQ a dR f=>Bd (hw:=wo f dH) 11 15 0 cQ Pl2 dR dP Z f Z λdS a dT f=> ?_
         subst dT
         have⟨dU,dV,dC⟩:=bind_some dC
         refine AW (i:=12) 15 Z (by kernel_rfl) Z f (Ba f Z Z Z dH) Z Z call109 (λ_ _ w dW m=>Wk.d m dV) λa f=>q_p (hw:=wo f dH) 13 15 Z f (λ_=>Bh (f.e Z)) λa f=>q_p 14 15 Z f (λ_=>AK (f.e Z) dH (f.e Z)) λa f=> ?_
         obtain rfl:=sj dC
         exact dG _ (f.k Z)
        ·refine Am 4 15 Z f dH λa f=> ?_
         refine Am 5 15 Z f dH λa f=>Am 6 15 Z f dH λa f=>Am 7 15 Z f dH λa f=>Am 8 15 Z f dH λa f=>Am 9 15 Z f dH λa f=>Am 10 15 Z f dH λa f=>Am 11 15 Z f dH λa f=>Am 12 15 Z f dH λa f=>Am 13 15 Z f dH λa f=>q_p 14 15 Z f (λ_=>AP (f.e Z) dH (f.e Z)) λa f=> ?_
         obtain rfl:=sj dC
         exact dG _ (f.k Z)
      ·rintro a w ⟨ds,rfl,dt,dX,f,m⟩
       have cQ:=od1 dX cQ
       refine Ag (Af ?_)
       refine Ab f Z λa f=>Ab f Z λa f=>Ai f Z Z Ce λa f=>Aa ?_
       rcases Ae cN with⟨dY,cN⟩|⟨dY,cN⟩
       ·refine Al f Z dY ?_
        refine AH Z ?_
        obtain rfl:=sj cN
        obtain rfl:=cO _ rfl
        exact⟨_,_,Z,_,cL,(gt cP (gt dp dX)),f.k Z,m,cQ⟩
       ·refine Aj f Z dY ?_
        refine Ap ?_
        refine Ag ?_
        refine Cb AG m ?_
        refine p_p 2 Z f (λ_=>Bl (f.e Z)) λa f=>p_p 3 Z f (λ_=>Bl (f.e Z)) λa f=>B9 12013 11 (by kernel_rfl) Z ?_
        refine Ah 0 12013 Z f Z λa f=>Ah 1 12013 Z f Z λa f=>Ah 4 12013 Z f Z λa f=>Ah 5 12013 Z f Z λa f=> ?_
        have⟨dZ,d0,cN⟩:=bind_some cN
        refine AV 6 12013 0 m cQ T28 d0 Z f Z Z λd1 a d2 f=>Bd 7 12013 0 cQ Pl2 d2 d0 Z f Z λd3 a d4 f=> ?_
        subst d4
        refine Ah 8 12013 Z f Z λa f=>Ah 9 12013 Z f Z λa f=> ?_
        have⟨d5,d6,cN⟩:=bind_some cN
        refine AV 10 12013 0 m cQ T28 d6 Z f Z Z λd7 a d8 f=>Bd 11 12013 0 cQ Pl2 d8 d6 Z f Z λd9 a ea f=> ?_
        subst ea
        have⟨eb,ec,cN⟩:=bind_some cN
        refine AV 12 12013 0 m cQ T28 ec Z f Z Z λed a ee f=>AJ λef w eg m=> ?_
        have cQ:=od1 eg cQ
        refine AO 0 m cQ Z sizeOf2 f Z Z ee ec Z Z Z λeh w m ei=> ?_
        have⟨ej,ek,cN⟩:=bind_some cN
        refine A5 0 m ei Z T28 f Z Z Z ek λel a em f=>AO 0 m ei Z sizeOf2 f Z Z em ek Z Z Z λen w m eo=>AB ?_
        refine Ab f Z λa f=>Ai f Z Z Ax λa f=>Ac f Z λa f=>Aa (Ao ?_)
        refine Ab f Z λa f=>Ai f Z Z AS λa f=>Ac f Z λa f=>Aa ?_
        obtain rfl:=sj cN
        exact⟨_,Z,_,_,_,Z,_,en,(gt cP (gt dp (gt dX eg))),f.k Z,m,eo⟩
    ·rintro a w ⟨cC,cD,rfl,cE,cF,ep,f,m,eq⟩
     refine Ag ?_
     refine Cb AG m ?_
     refine p_p 2 Z f (λ_=>Bl (f.e Z)) λa f=>p_p 3 Z f (λ_=>Bl (f.e Z)) λa f=>B9 12013 11 (by kernel_rfl) Z ?_
     refine Ah 0 12013 Z f Z λa f=>Ah 1 12013 Z f Z λa f=>Ah 4 12013 Z f Z λa f=>Ah 5 12013 Z f Z λa f=> ?_
     have⟨er,es,hd⟩:=bind_some hd
     refine AV 6 12013 0 m eq T28 es Z f Z Z λet a eu f=>Bd 7 12013 0 eq Pl2 eu es Z f Z λev a ew f=> ?_
     subst ew
     refine Ah 8 12013 Z f Z λa f=>Ah 9 12013 Z f Z λa f=> ?_
     have⟨ex,ey,hd⟩:=bind_some hd
     refine AV 10 12013 0 m eq T28 ey Z f Z Z λez a eA f=>Bd 11 12013 0 eq Pl2 eA ey Z f Z λeB a eC f=> ?_
     subst eC
     have⟨eD,eE,hd⟩:=bind_some hd
     refine AV 12 12013 0 m eq T28 eE Z f Z Z λeF a eG f=>AJ λeH w eI m=> ?_
     have eq:=od1 eI eq
     refine AO 0 m eq Z sizeOf2 f Z Z eG eE Z Z Z λeJ w m eK=> ?_
     have⟨eL,eM,hd⟩:=bind_some hd
     refine A5 0 m eK Z T28 f Z Z Z eM λeN a eO f=>AO 0 m eK Z sizeOf2 f Z Z eO eM Z Z Z λeP w m eQ=>AB ?_
     refine Ab f Z λa f=>Ac f Z λa f=>Ac f Z λa f=>Aa ?_
     refine Aq ?_
     obtain rfl:=sj hd
     exact⟨[(iv cD),(.bool false)],⟨f.get _ _ Z,f.get _ _ Z,trivial⟩,f.d,_,[eP],(gt ar (gt a9 (gt bI (gt cr (gt ep eI))))),m,_,Z,Z,eQ⟩
theorem Wk.M {W:World}(n:Nat):∀{w:World} {G:GH} {H:List Itm} {v0:Value} {it0:Itm} {x0:LI} {x1 x2 x3:Int} (m:Mem W G w (it0::H)) (o0:Ow R0 2 G it0 v0 x0) {y:(LI)} (hd:D.M n x0 x1 x2 x3=some y),
  Calls prog 101 #[v0,(iv x1),(iv x2),(iv x3)] w (Res W G H (λG' Ho _=>∃i0:Itm,Ho=[i0]∧Ow R0 2 G' i0 v0 y)):=by
 induction n with
 |zero=>intros;rename_i hd;simp[D.M] at hd
 |succ fuel ih=>
  intro w G H v0 it0 x0 x1 x2 x3 m o0 y hd
  refine Au (args:=[v0,(iv x1),(iv x2),(iv x3)]) (N:=134) [] func101 Z Z (lb Z) Z λa f=> ?_
  unfold D.M at hd
  refine Af ?_
  refine Ac f Z λa f=>AB ?_
  refine Ac f Z λa f=>Aa ?_
  have⟨aa,ab,hd⟩:=bind_some hd
  refine Ak ?_
  refine AL (λac a w=>∃ad:LI,∃ae:Int,∃af:Int,∃ag:Int,∃ah:Bool,∃ai:Bool,(ad,ae,af,ag,ah,ai)=ac∧∃(aj:GH) (ak:Itm),GLe G aj∧Fr a 134 [(0,v0),(1,(iv ae)),(2,(iv af)),(3,(iv ag)),(8,(.bool ah)),(9,(.bool ai))]∧Mem W aj w (ak::H)∧Ow R0 2 aj ak v0 ad) ab ⟨_,_,_,_,_,_,Z,_,it0,gr,f.k Z,m,o0⟩ ?_
  clear ab f m
  rintro ac al am an a w ⟨ad,ae,af,ag,ah,ai,rfl,aj,ak,ao,f,m,ap⟩
  refine Ak (Af ?_)
  refine Ab f Z λa f=>Ab f Z λa f=>Ai f Z Z AS λa f=>Ac f Z λa f=>Aa (Ag (Af ?_))
  refine Ab f Z λa f=>Ai f Z Z CN λa f=>Aa ?_
  rcases Ae am with⟨aq,am⟩|⟨aq,am⟩
  ·refine Al f Z aq ?_
   refine Af ?_
   refine Ab f Z λa f=>Ab f Z λa f=>Ab f Z λa f=> ?_
   have⟨ar,au,am⟩:=bind_some am
   refine AD f Z call103 (Wk.q0 m ap au) λav aw ax w ay m az a f=> ?_
   obtain⟨aA,rfl,aB⟩:=az
   refine Aa ?_
   refine Aq ?_
   obtain rfl:=sj am
   obtain rfl:=an _ rfl
   obtain rfl:=sj hd
   exact⟨[],trivial,f.d,_,[aA],(gt ao ay),m,_,Z,aB⟩
  ·refine Aj f Z aq ?_
   refine Ap ?_
   refine Ag (Af ?_)
   refine Ab f Z λa f=>Ai f Z Z By λa f=>Aa ?_
   rcases Ae am with⟨aC,am⟩|⟨aC,am⟩
   ·refine Al f Z aC ?_
    refine Af ?_
    refine Ab f Z λa f=>Ab f Z λa f=>Ab f Z λa f=> ?_
    have⟨aD,aE,am⟩:=bind_some am
    refine AD f Z call104 (Wk.v1 m ap aE) λaF aG aH w aI m aJ a f=> ?_
    obtain⟨aK,rfl,aL⟩:=aJ
    refine Aa ?_
    refine Aq ?_
    obtain rfl:=sj am
    obtain rfl:=an _ rfl
    obtain rfl:=sj hd
    exact⟨[],trivial,f.d,_,[aK],(gt ao aI),m,_,Z,aL⟩
   ·refine Aj f Z aC ?_
    refine Ap ?_
    refine Ag (Af ?_)
    refine Ab f Z λa f=>l_o f (Bh (f.e Z)) λa f=>Aa ?_
    have⟨aM,aN,am⟩:=bind_some am
    refine AM (λa w=>∃aO:LI,∃aP:Int,(aO,aP)=aM∧∃(aQ:GH) (aR:Itm),GLe aj aQ∧Fr a 134 [(0,v0),(1,(iv ae)),(2,(iv af)),(3,(iv aP)),(8,(.bool ah)),(9,(.bool ai)),(10,(iv (i64.wrap (af-ae))))]∧Mem W aQ w (aR::H)∧Ow R0 2 aQ aR v0 aO) ?_ ?_
    ·rcases Ae aN with⟨aS,aN⟩|⟨aS,aN⟩
     ·refine Al f Z aS ?_
      refine Af ?_
      refine Ab f Z λa f=>Ab f Z λa f=>Ab f Z λa f=> ?_
      have⟨aT,aU,aN⟩:=bind_some aN
      refine AD f Z call105 (Wk.b1 m ap aU) λaV aW aX w aY m aZ a f=> ?_
      obtain⟨a0,rfl,a1⟩:=aZ
      refine Aa (Ao ?_)
      refine Ab f Z λa f=>Ai f Z Z AS λa f=>Ac f Z λa f=>Aa ?_
      obtain rfl:=sj aN
      exact⟨_,_,Z,_,a0,aY,f.k Z,m,a1⟩
     ·refine Aj f Z aS ?_
      refine Ap ?_
      obtain rfl:=sj aN
      exact⟨_,_,Z,_,ak,gr,f.k Z,m,ap⟩
    ·rintro a w ⟨aO,aP,rfl,aQ,aR,a2,f,m,a3⟩
     refine Af ?_
     refine Ab f Z λa f=>Ab f Z λa f=>Ab f Z λa f=> ?_
     have⟨a4,a5,am⟩:=bind_some am
     refine AD f Z call106 (Wk.L0 m a3 a5) λa6 a7 a8 w a9 m ba a f=> ?_
     obtain⟨bb,rfl,rfl,bc⟩:=ba
     refine Ab f Z λa f=>l_o f (AZ (f.e Z) Z) λa f=>l_o f (AZ (f.e Z) Z) λa f=>Ac f Z λa f=>Ac f Z λa f=>Aa (Ag (Af ?_))
     refine Ab f Z λa f=>Ai f Z Z By λa f=>Aa ?_
     have⟨bd,be,am⟩:=bind_some am
     refine AM (λa w=>∃bf:LI,∃bg:Int,∃bh:Int,(bf,bg,bh)=bd∧∃(bi:GH) (bj:Itm),GLe a7 bi∧Fr a 134 [(0,v0),(1,(iv ae)),(2,(iv af)),(3,(iv aP)),(8,(.bool ah)),(9,(.bool ai)),(10,(iv (i64.wrap (af-ae)))),(11,(iv bg)),(12,(iv bh))]∧Mem W bi w (bj::H)∧Ow R0 2 bi bj v0 bf) ?_ ?_
     ·rcases Ae be with⟨bk,be⟩|⟨bk,be⟩
      ·refine Al f Z bk ?_
       refine Af ?_
       refine Ab f Z λa f=>Ab f Z λa f=>Ab f Z λa f=> ?_
       have⟨bl,bm,be⟩:=bind_some be
       refine AD f Z call107 (Wk.B0 m bc bm) λbn bo bp w bq m br a f=> ?_
       obtain⟨bs,rfl,bt⟩:=br
       refine AB ?_
       refine Ab f Z λa f=>Ai f Z Z AS λa f=>Ab f Z λa f=>Ab f Z λa f=>Ai f Z Z AS λa f=>Ai f Z Z AS λa f=>Ac f Z λa f=>Aa (Ao ?_)
       refine Ac f Z λa f=>Aa ?_
       obtain rfl:=sj be
       exact⟨_,_,_,Z,_,bs,bq,f.k Z,m,bt⟩
      ·refine Aj f Z bk ?_
       refine Ap ?_
       obtain rfl:=sj be
       exact⟨_,_,_,Z,_,bb,gr,f.k Z,m,bc⟩
     ·rintro a w ⟨bf,bg,bh,rfl,bi,bj,bu,f,m,bv⟩
      refine Ag (Af ?_)
      refine Ab f Z λa f=>Ab f Z λa f=> ?_
      refine Bz 2 (λa w=>∃bw,GLe bi bw∧Mem W bw w (bj::H)∧Fr a 134 [(0,v0),(1,(iv ae)),(2,(iv af)),(3,(iv aP)),(8,(.bool ah)),(9,(.bool ai)),(10,(iv (i64.wrap (af-ae)))),(11,(iv bg)),(12,(iv bh)),(61,(.bool ah)),(62,(.bool ah)),(64,(.bool (ah&&ai)))]) ?_ ?_
      ·rcases Bool.eq_false_or_eq_true ah with bx|bx
       ·refine AC f bx ?_
        refine Ab f Z λa f=>l_o f (AK (f.e Z) bx (f.e Z)) λa f=> ?_
        exact⟨_,gr,m,f.weak ⟨Z,Z,Z,Z,Z,Z,Z,Z,Z,Z,Z,by rw[bx];rfl,trivial⟩⟩
       ·refine AE f bx λa f=> ?_
        refine l_o f (AP (f.e Z) bx (f.e Z)) λa f=> ?_
        exact⟨_,gr,m,f.weak ⟨Z,Z,Z,Z,Z,Z,Z,Z,Z,Z,Z,by rw[bx];rfl,trivial⟩⟩
      ·rintro a w ⟨bw,bz,m,f⟩
       have bv:=od1 bz bv
       refine Ab f Z λa f=> ?_
       refine Bz 3 (λa w=>∃bA,GLe bw bA∧Mem W bA w (bj::H)∧Fr a 134 [(0,v0),(1,(iv ae)),(2,(iv af)),(3,(iv aP)),(8,(.bool ah)),(9,(.bool ai)),(10,(iv (i64.wrap (af-ae)))),(11,(iv bg)),(12,(iv bh)),(61,(.bool ah)),(62,(.bool ah)),(64,(.bool (ah&&ai))),(65,(.bool (ah&&ai))),(68,(.bool ((ah&&ai)&&(bh==1))))]) ?_ ?_
       ·rcases Bool.eq_false_or_eq_true (ah&&ai) with bB|bB
        ·refine AC f bB ?_
         refine Ab f Z λa f=>AC f bB ?_
         refine Ai f Z Z By λa f=>l_o f (AK (f.e Z) bB (f.e Z)) λa f=> ?_
         exact⟨_,gr,m,f.weak ⟨Z,Z,Z,Z,Z,Z,Z,Z,Z,Z,Z,Z,Z,by rw[bB];rfl,trivial⟩⟩
        ·refine AE f bB λa f=> ?_
         refine AE f bB λa f=>l_o f (AP (f.e Z) bB (f.e Z)) λa f=> ?_
         exact⟨_,gr,m,f.weak ⟨Z,Z,Z,Z,Z,Z,Z,Z,Z,Z,Z,Z,Z,by rw[bB];rfl,trivial⟩⟩
       ·rintro a w ⟨bA,bC,m,f⟩
        have bv:=od1 bC bv
        refine Aa ?_
        have⟨bD,bE,am⟩:=bind_some am
        refine AM (λa w=>∃j_513':LI,bD= .inl j_513'∧∃bF:LI,bF=j_513'∧∃(bG:GH) (bH:Itm),GLe bA bG∧Fr a 134 [(0,v0),(1,(iv ae)),(2,(iv af)),(3,(iv aP)),(8,(.bool ah)),(9,(.bool ai)),(10,(iv (i64.wrap (af-ae)))),(11,(iv bg))]∧Mem W bG w (bH::H)∧Ow R0 2 bG bH v0 bF) ?_ ?_
        ·rcases Ae bE with⟨bI,bE⟩|⟨bI,bE⟩
         ·refine Al f Z bI ?_
          refine Af ?_
          refine Ab f Z λa f=>Ab f Z λa f=>Ab f Z λa f=> ?_
          have⟨bJ,bK,bE⟩:=bind_some bE
          refine AD f Z call108 (Wk.s0 m bv bK) λbL bM bN w bO m bP a f=> ?_
          obtain⟨bQ,rfl,rfl,bR⟩:=bP
          refine Aa ?_
          rcases Ae bE with⟨bS,bE⟩|⟨bS,bE⟩
          ·refine Al f Z bS ?_
           refine Aq ?_
           obtain rfl:=sj bE
           obtain rfl:=sj am
           obtain rfl:=an _ rfl
           obtain rfl:=sj hd
           exact⟨[],trivial,f.d,_,[bQ],(gt ao (gt a2 (gt a9 (gt bu (gt bz (gt bC bO)))))),m,_,Z,bR⟩
          ·refine Aj f Z bS ?_
           refine Ap ?_
           obtain rfl:=sj bE
           exact⟨_,Z,_,Z,_,bQ,bO,f.k Z,m,bR⟩
         ·refine Aj f Z bI ?_
          refine Ap ?_
          obtain rfl:=sj bE
          exact⟨_,Z,_,Z,_,bj,gr,f.k Z,m,bv⟩
        ·rintro a w ⟨_,rfl,bF,rfl,bG,bH,bT,f,m,bU⟩
         refine Ag (Ag ?_)
         refine A2 15 AG (by kernel_rfl) m ?_
         refine Ah 0 15 Z f Z λa f=>q_p 1 15 Z f (λ_=>AF (f.e Z) (f.e Z) Ce) λa f=>Ah 2 15 Z f Z λa f=> ?_
         have⟨bV,bW,am⟩:=bind_some am
         refine BU (fuel':=0) (listed':= #[true,true,true,true,true,true,true,true,true,true,true,true,true,true,true]) (λa=>Fr a 134 [(0,v0),(1,(iv ae)),(2,(iv af)),(3,(iv aP)),(8,(.bool ah)),(9,(.bool ai)),(10,(iv (i64.wrap (af-ae)))),(11,(iv bg)),(73,(iv ae)),(74,(.bool (decide ((0:Int)<ae)))),(75,(.bool (decide ((0:Int)<ae)))),(87,(.bool bV))]) ?_ ?_
         ·intro a f
          refine AJ λbX w bY m=> ?_
          have bU:=od1 bY bU
          refine Aa ?_
          rcases Ae am with⟨bZ,am⟩|⟨bZ,am⟩
          ·refine Al f Z bZ ?_
           refine Af ?_
           refine Ab f Z λa f=>Ab f Z λa f=>Ab f Z λa f=>Ab f Z λa f=> ?_
           have⟨b0,b1,am⟩:=bind_some am
           refine AD f Z call110 (Wk.T0 m bU b1) λb2 b3 b4 w b5 m b6 a f=> ?_
           obtain⟨b7,rfl,rfl,b8⟩:=b6
           refine Ac f Z λa f=>AB ?_
           refine Ab f Z λa f=>Ac f Z λa f=>Aa ?_
           refine AH Z ?_
           obtain rfl:=sj am
           exact⟨_,Z,_,_,_,_,_,_,Z,_,b7,(gt ao (gt a2 (gt a9 (gt bu (gt bz (gt bC (gt bT (gt bY b5)))))))),f.k Z,m,b8⟩
          ·refine Aj f Z bZ ?_
           refine Ap ?_
           refine Af ?_
           refine Ab f Z λa f=>Ab f Z λa f=>Ab f Z λa f=>Ab f Z λa f=> ?_
           have⟨b9,ca,am⟩:=bind_some am
           refine AD f Z call111 (Wk.e1 m bU ca) λcb cc cd w ce m cf a f=> ?_
           obtain⟨cg,rfl,rfl,ch⟩:=cf
           refine Ab f Z λa f=>l_o f (AZ (f.e Z) Z) λa f=>l_o f (AZ (f.e Z) Z) λa f=>Ac f Z λa f=>Ac f Z λa f=>AB ?_
           refine Ab f Z λa f=>Ac f Z λa f=>AB ?_
           refine Ab f Z λa f=>Ab f Z λa f=>Ai f Z Z AS λa f=>Ab f Z λa f=>Ab f Z λa f=>Ai f Z Z AS λa f=>Ac f Z λa f=>Ac f Z λa f=>AB ?_
           refine Ab f Z λa f=>Ai f Z Z (D4 Z) λa f=>Ac f Z λa f=>AB ?_
           refine Ab f Z λa f=>Ab f Z λa f=>Ai f Z Z AR λa f=>Aa ?_
           rcases Ae am with⟨ci,am⟩|⟨ci,am⟩
           ·refine Al f Z ci ?_
            refine Af ?_
            refine Ab f Z λa f=>Ab f Z λa f=>Ai f Z Z CE λa f=>Ac f Z λa f=>AB ?_
            refine Ab f Z λa f=>Ab f Z λa f=>Ab f Z λa f=>Ab f Z λa f=> ?_
            have⟨cj,ck,am⟩:=bind_some am
            refine AD f Z call101 (ih m ch ck) λcl cm cn w co m cp a f=> ?_
            obtain⟨cq,rfl,cr⟩:=cp
            refine Aa (Ao ?_)
            refine Ab f Z λa f=>Ai f Z Z Ax λa f=>Ac f Z λa f=>Aa ?_
            obtain rfl:=sj am
            exact⟨_,Z,_,_,_,_,_,_,Z,_,cq,(gt ao (gt a2 (gt a9 (gt bu (gt bz (gt bC (gt bT (gt bY (gt ce co))))))))),f.k Z,m,cr⟩
           ·refine Aj f Z ci ?_
            refine Af ?_
            refine Ab f Z λa f=>Ab f Z λa f=>Ai f Z Z CE λa f=>Ac f Z λa f=>AB ?_
            refine Ab f Z λa f=>Ab f Z λa f=>Ai f Z Z Ax λa f=>Ab f Z λa f=>Ab f Z λa f=> ?_
            have⟨cs,ct,am⟩:=bind_some am
            refine AD f Z call101 (ih m ch ct) λcu cv cw w cx m cy a f=> ?_
            obtain⟨cz,rfl,cA⟩:=cy
            refine Aa (Ao ?_)
            refine Ab f Z λa f=>Ac f Z λa f=>Aa ?_
            obtain rfl:=sj am
            exact⟨_,Z,_,_,_,_,_,_,Z,_,cz,(gt ao (gt a2 (gt a9 (gt bu (gt bz (gt bC (gt bT (gt bY (gt ce cx))))))))),f.k Z,m,cA⟩
         ·intro cB
          rcases Ae bW with⟨cC,bW⟩|⟨cC,bW⟩
          ·refine Ah (hw:=wo f cC) 3 15 Z f Z λa f=> ?_
           refine Ah (hw:=wo f cC) 4 15 Z f Z λa f=>q_p (hw:=wo f cC) 5 15 Z f (λ_=>AF (f.e Z) (f.e Z) AS) λa f=> ?_
           have⟨cD,cE,bW⟩:=bind_some bW
           refine AV (hw:=wo f cC) 6 15 0 m bU T28 cE Z f Z Z λcF a cG f=>Bd (hw:=wo f cC) 7 15 0 bU Pl2 cG cE Z f Z λcH a cI f=> ?_
           subst cI
           refine Ah (hw:=wo f cC) 8 15 Z f Z λa f=>Ah (hw:=wo f cC) 9 15 Z f Z λa f=> ?_
           have⟨cJ,cK,bW⟩:=bind_some bW
           refine AV (hw:=wo f cC) 10 15 0 m bU T28 cK Z f Z Z λcL a cM f=>Bd (hw:=wo f cC) 11 15 0 bU Pl2 cM cK Z f Z λcN a cO f=> ?_
           subst cO
           have⟨cP,cQ,bW⟩:=bind_some bW
           refine AW (i:=12) 15 Z (by kernel_rfl) Z f (Ba f Z Z Z cC) Z Z call109 (λ_ _ w cR m=>Wk.d m cQ) λa f=>q_p (hw:=wo f cC) 13 15 Z f (λ_=>Bh (f.e Z)) λa f=>q_p 14 15 Z f (λ_=>AK (f.e Z) cC (f.e Z)) λa f=> ?_
           obtain rfl:=sj bW
           exact cB _ (f.k Z)
          ·refine Am 3 15 Z f cC λa f=> ?_
           refine Am 4 15 Z f cC λa f=>Am 5 15 Z f cC λa f=>Am 6 15 Z f cC λa f=>Am 7 15 Z f cC λa f=>Am 8 15 Z f cC λa f=>Am 9 15 Z f cC λa f=>Am 10 15 Z f cC λa f=>Am 11 15 Z f cC λa f=>Am 12 15 Z f cC λa f=>Am 13 15 Z f cC λa f=>q_p 14 15 Z f (λ_=>AP (f.e Z) cC (f.e Z)) λa f=> ?_
           obtain rfl:=sj bW
           exact cB _ (f.k Z)
theorem Wk.n {v0:Value}{it0:Itm}{x0:LI}{x1 x2 x3:Int}(m:Mem W G w (it0::H))(o0:Ow R0 2 G it0 v0 x0){y:(LI)}(hd:D.n x0 x1 x2 x3=some y):
  Calls prog 101 #[v0,(iv x1),(iv x2),(iv x3)] w (Res W G H (λG' Ho _=>∃i0:Itm,Ho=[i0]∧Ow R0 2 G' i0 v0 y)):=by
 exact Wk.M CS m o0 hd
theorem Wk.m1 {v0:Value}{it0:Itm}{x0:LI}(m:Mem W G w (it0::H))(o0:Ow R0 2 G it0 v0 x0){y:(LI)}(hd:D.m1 x0=some y):
  Calls prog 98 #[v0] w (Res W G H (λG' Ho _=>∃i0:Itm,Ho=[i0]∧Ow R0 2 G' i0 v0 y)):=by
 refine Au (args:=[v0]) (N:=11) [] func98 Z Z (lb Z) Z λa f=> ?_
 unfold D.m1 at hd
 refine Af ?_
 refine Ab f Z λa f=>Bv 0 m o0 Z underlying28 f Z Z λa f=>Ac f Z λa f=>Aa (Ao ?_)
 refine Ab f Z λa f=>Ab f Z λa f=>Ab f Z λa f=>l_o f (Dy (f.e Z) ⟨_,underlying3⟩ underlying88) λa f=> ?_
 have⟨aa,ab,hd⟩:=bind_some hd
 refine AD f Z call102 (Wk.V m ab) λac ad ae w af m ag a f=> ?_
 obtain⟨rfl,rfl⟩:=ag
 have o0:=od1 af o0
 have⟨ah,ai,hd⟩:=bind_some hd
 refine AD f Z call101 (Wk.n m o0 ai) λaj ak al w am m an a f=> ?_
 obtain⟨ao,rfl,ap⟩:=an
 refine Aa ?_
 obtain rfl:=sj hd
 exact⟨[],trivial,f.d,_,[ao],(gt af am),m,_,Z,ap⟩
theorem Wk.F0 {v0:Value}{b0:Nat}{x0:LI}(m:Mem W G w (ib b0 28 [v0]::H))(h0:R1 G v0 x0){y:(LI)}(hd:D.F0 x0=some y):
  Calls prog 92 #[(.func (.func 99) #[] #[(pb b0)])] w (Res W G H (λG' Ho v=>∃r0:Value,∃i0:Itm,Ho=[i0]∧r0=v∧Ow R0 2 G' i0 r0 y)):=by
 refine Au (args:=[(.func (.func 99) #[] #[(pb b0)])]) (N:=9) [.tmp 2] func92 Z Z (lb Z) Z λa f=> ?_
 unfold D.F0 at hd
 refine Af ?_
 refine Ac f Z λa f=>AB ?_
 refine Ab f Z λa f=> ?_
 have⟨aa,ab,hd⟩:=bind_some hd
 refine AD f Z call97 (Wk.q1 m h0 ab) λac ad ae w af m ag a f=> ?_
 obtain⟨ah,ai,rfl,rfl,aj⟩:=ag
 refine Ac f Z λa f=>AB ?_
 refine Ab f Z λa f=> ?_
 have⟨ak,al,hd⟩:=bind_some hd
 refine AD f Z call98 (Wk.m1 m aj al) λam an ao w ap m aq a f=> ?_
 obtain⟨ar,rfl,au⟩:=aq
 refine AB ?_
 refine Ab f Z λa f=>Ac f Z λa f=>Aa ?_
 refine Aq ?_
 obtain rfl:=sj hd
 exact⟨[ah],f.g Z,f.d,_,[ar],(gt af ap),m,_,_,Z,Z,au⟩
end Go.Proofs.YtehkdflfnampdaaGreatDoor
