/- Parts of the proof: SxP, SxG, Sr, DF1, SxN, SxDel, DF2, DF3, Sll, DF4, DG1, Spr, SxPA, DG2, DH1, Swd, DH2, DH3, SxW, DJ1, BAD, BBD, BCD, BDD, BED, BHandA, BHandB, Qa, S1D, Ga, Gb, Gc, Gd, Ge, Pa, Pb, Pc, Pd, Pe, Gf, Gh, Gg, Xb. -/
import Derived.Test.YtebbefpdncgoiaaGreatDoorBa1
import Derived.Maps.AppendAt
import Derived.Shelf.Small.Bits
import Derived.Test.YtebbefpdncgoiaaGreatDoorProg
import Derived.RangeFuncBox
import Derived.RangeFuncLeaves
import Derived.Shelf.Abstract
import Derived.WalkKit
import Derived.OwnWalkIn
import Derived.TacticsInMore
import Derived.LoopNIn
import Derived.LoopIn
import Derived.KernelRfl
set_option linter.unusedVariables false
set_option linter.unusedSimpArgs false
set_option linter.unusedSectionVars false
namespace Go.Sx
structure Rec (α:Type) where
 m:Nat
 enc:α→List Value
 len:∀x,(enc x).length=m
 pos:0<m
 one:∀x c,c∈enc x→c.oneCell'=true
section
variable {α : Type} (E : Rec α)
theorem Rec.size (xs:List α):(xs.flatMap E.enc).length=xs.length*E.m:=by
 induction xs with
 |nil=>simp
 |cons x xs ih=>rw[List.flatMap_cons,List.length_append,ih,E.len,List.length_cons,Nat.succ_mul];omega
theorem Rec.get :∀(xs:List α) (i:Nat) (x:α) (j:Nat) (c:Value),xs[i]? =some x→(E.enc x)[j]? =some c→(xs.flatMap E.enc)[i*E.m+j]? =some c
 |[],i,x,j,c,hx,_=>by simp at hx
 |y::xs,0,x,j,c,hx,hc=>by
  simp at hx;subst hx
  have hj:=(List.getElem?_eq_some_iff.1 hc).1
  rw[List.flatMap_cons,Nat.zero_mul,Nat.zero_add,List.getElem?_append_left hj];exact hc
 |y::xs,i+1,x,j,c,hx,hc=>by
  simp at hx
  have ih:=Rec.get xs i x j c hx hc
  rw[List.flatMap_cons,List.getElem?_append_right (by rw[E.len,Nat.succ_mul];omega),E.len,Nat.succ_mul]
  rwa [show i*E.m+E.m+j-E.m=i*E.m+j by omega]
theorem Rec.put :∀(xs:List α) (i:Nat) (x y:α) (f:Nat) (ds:List Value),xs[i]? =some x→f+ds.length≤E.m→E.enc y=(E.enc x).take f++ds++(E.enc x).drop (f+ds.length)→
  (xs.flatMap E.enc).take (i*E.m+f)++ds++(xs.flatMap E.enc).drop (i*E.m+f+ds.length)=(xs.set i y).flatMap E.enc
 |[],i,x,y,f,ds,hx,_,_=>by simp at hx
 |z::xs,0,x,y,f,ds,hx,hf,hE=>by
  simp at hx;subst hx
  have hl:=E.len z
  rw[List.flatMap_cons,Nat.zero_mul,Nat.zero_add,List.set_cons_zero,List.flatMap_cons,hE,List.take_append_of_le_length (by omega),List.drop_append_of_le_length (by omega)]
  simp
 |z::xs,i+1,x,y,f,ds,hx,hf,hE=>by
  simp at hx
  have ih:=Rec.put xs i x y f ds hx hf hE
  have hl:=E.len z
  rw[List.flatMap_cons,List.set_cons_succ,List.flatMap_cons,←ih,Nat.succ_mul]
  have e1:i*E.m+E.m+f=(E.enc z).length+(i*E.m+f):=by omega
  have e2:i*E.m+E.m+f+ds.length=(E.enc z).length+(i*E.m+f+ds.length):=by omega
  rw[e1,List.take_length_add_append,←e1,e2,List.drop_length_add_append]
  simp
end
def RSr {α:Type}(E:Rec α):Rep (List α):=fun G v xs=>
 (v= .slice none 0 0∧xs=[])∨∃a cap,v= .slice (some a) xs.length cap∧xs.length≤cap∧cap≤maxLen∧
  ∀(k:Nat) (c:Value),(xs.flatMap E.enc)[k]? =some c→a.spot=Option.none∧Cell G a.block (a.off+k) c
section
variable {α : Type} {E : Rec α}
theorem RSr.mono (_:True):Cv (RSr E):=by
 rintro G G' v xs hG (h|⟨a,cap,h1,h2,h3,h4⟩)
 ·exact .inl h
 ·exact .inr ⟨a,cap,h1,h2,h3,fun k c hc=>⟨(h4 k c hc).1,(h4 k c hc).2.mono hG⟩⟩
theorem RSr.nil (E:Rec α)(G:GH):RSr E G (.slice none 0 0) []:= .inl ⟨rfl,rfl⟩
theorem RSr.len {G:GH}{v:Value}{xs:List α}(h:RSr E G v xs):∃a c,v= .slice a xs.length c∧xs.length≤c∧c≤maxLen:=by
 rcases h with⟨rfl,rfl⟩|⟨a,cap,rfl,h1,h2,_⟩
 ·exact⟨none,0,rfl,by simp,by simp[maxLen]⟩
 ·exact⟨_,cap,rfl,h1,h2⟩
theorem RSr.cells {G:GH}{v:Value}{xs:List α}(h:RSr E G v xs):v.cells= #[v]:=by obtain⟨a,c,rfl,_⟩:=h.len;rfl
theorem RSr.one1 {G:GH}{v:Value}{xs:List α}(h:RSr E G v xs):v.oneCell'=true:=by obtain⟨a,c,rfl,_⟩:=h.len;rfl
def AtR (E:Rec α)(G:GH)(p:Value)(x:α):Prop:=∃b o,p= .pointer (some ⟨b,o,none⟩)∧∀(j:Nat) (c:Value),(E.enc x)[j]? =some c→Cell G b (o+j) c
theorem AtR.mono {G G':GH}(h:GLe G G'){p:Value}{x:α}(k:AtR E G p x):AtR E G' p x:=by
 obtain⟨b,o,e,hc⟩:=k
 exact⟨b,o,e,fun j c hj=>(hc j c hj).mono h⟩
theorem RSr.at {G:GH}{v:Value}{xs:List α}(h:RSr E G v xs){i:Int}{x:α}(he:idx xs i=some x):
  ∃b off n c,v= .slice (some ⟨b,off,none⟩) n c∧0≤i∧i<n∧∀(j:Nat) (c:Value),(E.enc x)[j]? =some c→Cell G b (off+i.toNat*E.m+j) c:=by
 obtain⟨h0,h1,h2⟩:=Dn he
 rcases h with⟨_,rfl⟩|⟨⟨b,off,sp⟩,cap,rfl,_,_,h4⟩
 ·simp at h2
 ·have hl0:0<(E.enc x).length:=by rw[E.len];exact E.pos
  have hs:=(h4 _ _ (E.get xs _ x 0 (E.enc x)[0] h2 (by simp[hl0]))).1
  dsimp only at hs h4
  subst hs
  refine⟨b,off,_,cap,rfl,h0,h1,fun j c hc=> ?_⟩
  rw[Nat.add_assoc]
  exact(h4 _ c (E.get xs _ x j c h2 hc)).2
def OwR (E:Rec α)(t:TypeId)(_:GH)(it:Itm)(v:Value)(xs:List α):Prop:=it= .row v t E.m xs.length (xs.flatMap E.enc)
theorem OwR.mono (_:True){t:TypeId}{G G':GH}{it:Itm}{v:Value}{xs:List α}(_:GLe G G')(h:OwR E t G it v xs):OwR E t G' it v xs:=h
theorem OwR.free (_:True){t:TypeId}{G:GH}(G':GH){it:Itm}{v:Value}{xs:List α}(h:OwR E t G it v xs):OwR E t G' it v xs:=h
theorem OwR.has {t:TypeId}{W w:World}{G G':GH}{it:Itm}{H:List Itm}{v:Value}{xs:List α}(h:OwR E t G it v xs)(m:Mem W G' w H){j:Nat}(hj:H[j]? =some it):w.ownsRow 0 t E.m v xs.length (xs.flatMap E.enc):=by
 subst h;exact m.items j _ hj
theorem OwR.len {t:TypeId}{W w:World}{G G':GH}{it:Itm}{H:List Itm}{v:Value}{xs:List α}(h:OwR E t G it v xs)(m:Mem W G' w H){j:Nat}(hj:H[j]? =some it):
  ∃a c,v= .slice a xs.length c∧xs.length≤c∧c≤maxLen:=by
 rcases(h.has m hj).2 with⟨h1,h2⟩|⟨g,cap,cur,h1,_,_,h2,h3,_⟩
 ·exact⟨none,0,by rw[h1,h2],by omega,by simp[maxLen]⟩
 ·exact⟨_,cap,h1,h2,h3⟩
theorem OwR.cells {t:TypeId}{W w:World}{G:GH}{it:Itm}{H:List Itm}{v:Value}{xs:List α}(j:Nat)(m:Mem W G w H)(h:OwR E t G it v xs)(hj:H[j]? =some it):v.cells= #[v]:=by
 obtain⟨a,c,rfl,_⟩:=h.len m hj;rfl
theorem OwR.one1 {t:TypeId}{W w:World}{G:GH}{it:Itm}{H:List Itm}{v:Value}{xs:List α}(j:Nat)(m:Mem W G w H)(h:OwR E t G it v xs)(hj:H[j]? =some it):v.oneCell'=true:=by
 obtain⟨a,c,rfl,_⟩:=h.len m hj;rfl
theorem OwR.nil (E:Rec α)(t:TypeId){W w:World}{G:GH}{H:List Itm}(m:Mem W G w H):∃it,Mem W G w (it::H)∧OwR E t G it (.slice none 0 0) []:=
 ⟨_,m.nilrow t E.m,by simp[OwR]⟩
theorem OwR.reads {t:TypeId}{w:World}{G':GH}{it:Itm}{v:Value}{xs:List α}(h:it= .row v t E.m xs.length (xs.flatMap E.enc))(hok:it.ok w)(hG:∀x∈it.foot,G' x=w.heap[x]?):RSr E G' v xs:=by
 subst h
 have this:w.ownsRow 0 t E.m v xs.length (xs.flatMap E.enc):=hok
 rcases this.2 with⟨e1,e2⟩|⟨g,cap,cur,e1,_,eh,e2,e3,e4,e5⟩
 ·exact .inl ⟨e1,List.eq_nil_of_length_eq_zero e2⟩
 ·refine .inr ⟨⟨g,0,none⟩,cap,e1,e2,e3,fun k c hc=>⟨rfl,cur,t,(0,0),?_,?_⟩⟩
  ·rw[hG g (by rw[e1];simp[Itm.foot,Value.ownBlock]),eh]
  ·rw[←e5,List.getElem?_take] at hc
   split at hc
   ·simpa using hc
   ·cases hc
theorem OwR.stamp (_:True){t:TypeId}{W w:World}{G:GH}{it:Itm}{H:List Itm}{v:Value}{xs:List α}(h:OwR E t G it v xs)(m:Mem W G w (it::H)):
  ∃G',GLe G G'∧Mem W G' w H∧RSr E G' v xs:=by
 obtain⟨G',h1,h2,h3,_⟩:=m.stamp
 exact⟨G',h1,h2,OwR.reads h (m.items 0 it (by simp)) h3⟩
theorem OwR.lend {t:TypeId}{W w:World}{G:GH}{it:Itm}{H:List Itm}{v:Value}{xs:List α}(h:OwR E t G it v xs)(m:Mem W G w (it::H)):
  ∃G',GLe G G'∧Mem W G' w H∧RSr E G' v xs∧
   ∀G'' w' H',GLe G' G''→Mem W G'' w' H'→∃G₃,GLe G G₃∧Mem W G₃ w' (it::H')∧OwR E t G₃ it v xs:=by
 obtain⟨G',h1,h2,h3,h4⟩:=m.stamp
 have hok:it.ok w:=m.items 0 it (by simp)
 have hap:∀x∈it.foot,G x=none:=m.apart 0 it (by simp)
 have hlt:=Itm.lt hok
 refine⟨G',h1,h2,OwR.reads h hok h3,fun G'' w' H' hle m'=> ?_⟩
 have hx:∀x∈it.foot,G'' x=w.heap[x]? :=fun x hx=>by
  have hl:=hlt x hx
  have:G' x=some w.heap[x]:=by rw[h3 x hx];simp[hl]
  rw[hle x _ this];simp[hl]
 refine⟨_,fun b o k=> ?_,m'.unstamp hx hok (fun i z hz x hxz hxi=> ?_) (fun x hxi=> ?_),h⟩
 ·have:b∉it.foot:=fun hx=>by rw[hap b hx] at k;cases k
  simp[this,hle b o (h1 b o k)]
 ·have h5:=m'.apart i z hz x hxz
  have hl:=hlt x hxi
  rw[hx x hxi] at h5
  simp[hl] at h5
 ·cases hg:W.heap[x]? with
  |none=>rfl
  |some o=>have h5:=m.base x o hg;rw[hap x hxi] at h5;cases h5
theorem OwR.lendCall {P:Program}{g:FuncId}{args:Array Value}(_:True){t:TypeId}{W w:World}{G:GH}{it:Itm}{H:List Itm}{v:Value}{xs:List α}{Q:GH→List Itm→Value→Prop}(j:Nat)
  (h:OwR E t G it v xs) (m:Mem W G w H) (hj:H[j]? =some it)
  (hc:∀G₁,GLe G G₁→Mem W G₁ w (H.eraseIdx j)→RSr E G₁ v xs→Calls P g args w (Res W G₁ (H.eraseIdx j) Q)) (hQ:∀G G' Ho v,Q G Ho v→Q G' Ho v):Calls P g args w (Res W G H Q):=by
 obtain⟨G₁,h1,m1,h2,back⟩:=h.lend (m.front j hj)
 refine(hc G₁ h1 m1 h2).mono fun e w' ⟨r,he,G₂,Ho,h3,m2,hq⟩=> ?_
 obtain⟨G₃,h4,m3,_⟩:=back G₂ w' _ h3 m2
 refine⟨r,he,G₃,Ho,h4,?_,hQ _ _ _ _ hq⟩
 have hl:j<H.length:=(List.getElem?_eq_some_iff.1 hj).1
 have m4:=m3.back (Ho.length+j) (by simp[List.length_eraseIdx,hl];omega)
 have e:(Ho++H.eraseIdx j).take (Ho.length+j)++it::(Ho++H.eraseIdx j).drop (Ho.length+j)=Ho++H:=by
  rw[List.take_length_add_append,List.drop_length_add_append,List.append_assoc]
  congr 1
  rw[Ds H j it hl]
  apply List.ext_getElem?
  intro k
  rw[List.getElem?_set]
  split
  ·rename_i e;subst e;simp[hl] at hj ⊢;exact hj.symm
  ·rfl
 rwa [e] at m4
end
section
variable {P : Program} {ops : Array Oper} {rest : List Oper} {n r : Bk} {x : List (Nat × Bk)} {a : Act} {w : World} {N : Nat} {L : Br}
variable {d : Nat} {t : TypeId} {pos : String} {af : Array Edge} {W : World} {G : GH} {H : List Itm} {α : Type} {E : Rec α}
theorem AtR.cell {p:Value}{y:α}(h:AtR E G p y){fo:Nat}{c:Value}(hc:(E.enc y)[fo]? =some c):∃b o,p= .pointer (some ⟨b,o,none⟩)∧Cell G b (o+fo) c:=by
 obtain⟨b,o,e,hh⟩:=h
 exact⟨b,o,e,hh fo c hc⟩
end
section
variable {P : Program} {ops : Array Oper} {nn r : Bk} {x : List (Nat × Bk)} {T : Act → World → Prop} {W : World} {G : GH} {E H : List Itm} {N : Nat} {L : Br} {a : Act} {fuel : Nat} {listed listed' : Array Bool}
variable {t : TypeId} {pos : String} {af : Array Edge} {gd : Option (Nat × Bool)} {d i : Nat} {α : Type} {C : Rec α}
end
end Go.Sx

namespace Go.Sx
def RTg {α:Type}(R:Rep α):Rep (Value×List α):=fun G v x=>v=x.1∧RSl R G v x.2
theorem RTg.mono {α:Type}{R:Rep α}(hR:Cv R):Cv (RTg R):=fun _ _ _ _ hG h=>⟨h.1,RSl.mono hR _ _ _ _ hG h.2⟩
theorem RTg.one {α:Type}(R:Rep α):One (RTg R):=fun _ _ _ h=>RSl.one R _ _ _ h.2
theorem RTg.cells {α:Type}{R:Rep α}{G:GH}{v:Value}{x:Value×List α}(h:RTg R G v x):v.cells= #[v]:=h.2.cells
theorem RTg.one1 {α:Type}{R:Rep α}{G:GH}{v:Value}{x:Value×List α}(h:RTg R G v x):v.oneCell'=true:=h.2.one1
section
variable {W w : World} {G : GH} {H : List Itm}
theorem Mem.flip {A:List Itm}{x y:Itm}(m:Mem W G w (A++x::y::H)):Mem W G w (A++y::x::H):=by
 refine m.inj (fun k=>if k=A.length then A.length+1 else if k=A.length+1 then A.length else k) (by intro a b;split<;>split<;>(repeat' split)<;>omega) ?_
 intro k z hz
 by_cases h1:k=A.length
 ·subst h1;simp at hz ⊢;exact hz
 ·by_cases h2:k=A.length+1
  ·subst h2
   simp only[Nat.succ_ne_self,if_false,if_true]
   rw[List.getElem?_append_right (by omega)] at hz
   simp at hz ⊢;exact hz
  ·simp only[h1,h2,if_false]
   by_cases h3:k<A.length
   ·rw[List.getElem?_append_left h3] at hz ⊢;exact hz
   ·rw[List.getElem?_append_right (by omega)] at hz ⊢
    obtain⟨q,hq⟩:∃q,k-A.length=q+2:=⟨k-A.length-2,by omega⟩
    rw[hq] at hz ⊢;exact hz
theorem Mem.perm {L L':List Itm}(p:L.Perm L'):∀(A H:List Itm),Mem W G w (A++L++H)→Mem W G w (A++L'++H):=by
 induction p with
 |nil=>exact fun _ _ m=>m
 |cons x _ ih=>intro A H m;have:=ih (A++[x]) H (by simpa using m);simpa using this
 |swap x y l=>intro A H m;have:=Mem.flip (A:=A) (H:=l++H) (x:=y) (y:=x) (by simpa using m);simpa using this
 |trans _ _ i1 i2=>exact fun A H m=>i2 A H (i1 A H m)
theorem Mem.stamps :∀(L:List Itm) {G:GH},Mem W G w (L++H)→∃G',GLe G G'∧Mem W G' w H∧(∀it∈L,∀x∈it.foot,G' x=w.heap[x]?)∧∀x,(∀it∈L,x∉it.foot)→G' x=G x
 |[],G,m=>⟨G,GLe.refl G,m,by simp,fun _ _=>rfl⟩
 |it::L,G,m=>by
  obtain⟨G1,h1,m1,h2,h3⟩:=Mem.stamp (h:=it) m
  obtain⟨G2,k1,m2,k2,k3⟩:=Mem.stamps L m1
  refine⟨G2,h1.trans k1,m2,fun z hz x hx=> ?_,fun x hx=> ?_⟩
  ·rcases List.mem_cons.1 hz with rfl|hz
   ·have e1:=h2 x hx
    have hlt:=Itm.lt (m.items 0 _ rfl) x hx
    have e:w.heap[x]? =some w.heap[x]:=by simp[hlt]
    rw[e] at e1 ⊢;exact k1 x _ e1
   ·exact k2 z hz x hx
  ·rw[k3 x (fun z hz=>hx z (List.mem_cons_of_mem _ hz)),h3 x (hx it (by simp))]
theorem Mem.unstamps {w0:World}:∀(L:List Itm) {G:GH},Mem W G w H→(∀it∈L,∀x∈it.foot,G x=w0.heap[x]?)→(∀it∈L,it.ok w0)→(∀it∈L,∀x∈it.foot,W.heap[x]? =none)→
  L.Pairwise (fun a b=>∀x∈a.foot,x∉b.foot)→∃G',Mem W G' w (L++H)∧∀x,(∀it∈L,x∉it.foot)→G' x=G x
 |[],G,m,_,_,_,_=>⟨G,m,fun _ _=>rfl⟩
 |it::L,G,m,hx,hok,hW,hp=>by
  obtain⟨p1,p2⟩:=List.pairwise_cons.1 hp
  obtain⟨G1,m1,k⟩:=Mem.unstamps L m (fun z hz=>hx z (List.mem_cons_of_mem _ hz)) (fun z hz=>hok z (List.mem_cons_of_mem _ hz)) (fun z hz=>hW z (List.mem_cons_of_mem _ hz)) p2
  have hx1:∀x∈it.foot,G1 x=w0.heap[x]? :=fun x hxi=>by
   rw[k x (fun z hz hxz=>p1 z hz x hxi hxz),hx it (by simp) x hxi]
  refine⟨_,m1.unstamp hx1 (hok it (by simp)) (fun i z hz x hxz hxi=> ?_) (hW it (by simp)),fun x hxl=> ?_⟩
  ·have e1:=m1.apart i z hz x hxz
   rw[hx1 x hxi] at e1
   have hlt:=Itm.lt (hok it (by simp)) x hxi
   simp[hlt] at e1
  ·simp only[hxl it (by simp),if_false]
   exact k x (fun z hz=>hxl z (List.mem_cons_of_mem _ hz))
end
theorem perm_of_map {α β:Type}(f:α→β){zs ws:List β}(p:zs.Perm ws):∀l:List α,l.map f=ws→∃l':List α,l'.Perm l∧l'.map f=zs:=by
 induction p with
 |nil=>intro l h;exact⟨l,List.Perm.refl _,h⟩
 |cons x _ ih=>
  intro l h
  match l,h with
  |a::l,h=>
   simp at h
   obtain⟨l',p',e⟩:=ih l h.2
   exact⟨a::l',p'.cons a,by simp[e,h.1]⟩
 |swap x y s=>
  intro l h
  match l,h with
  |a::b::l,h=>
   simp at h
   exact⟨b::a::l,List.Perm.swap a b l,by simp[h.1,h.2.1,h.2.2]⟩
 |trans _ _ i1 i2=>
  intro l h
  obtain⟨l1,p1,e1⟩:=i2 l h
  obtain⟨l2,p2,e2⟩:=i1 l1 e1
  exact⟨l2,p2.trans p1,e2⟩
section
variable {P : Program} {g : FuncId} {args : Array Value} {α : Type} {R : Rep α} {t1 t2 : TypeId} {W w : World} {G : GH} {it : Itm} {H : List Itm} {v : Value} {xs ys : List (List α)}
theorem Ow2.sortCall (hF:Free R)(h:Ow2 R t1 t2 G it v xs)(m:Mem W G w (it::H))
  (k:∀Z:List (Value×List α),Z.map (·.2)=xs→∃zs:List (Value×List α),zs.Perm Z∧zs.map (·.2)=ys∧∀G₁ it₁,Mem W G₁ w (it₁::H)→Ow (RTg R) t1 G₁ it₁ v Z→
   Calls P g args w (Res W G₁ H (fun G' Ho _=>∃it',Ho=[it']∧Ow (RTg R) t1 G' it' v zs))):
  Calls P g args w (Res W G H (fun G' Ho _=>∃it',Ho=[it']∧Ow2 R t1 t2 G' it' v ys)):=by
 obtain⟨rows,rfl,hl,hA⟩:=h
 have m2:Mem W G w (Itm.row v t1 1 rows.length (rows.map (·.1))::(rows.map (Ch t2)++H)):=by simpa [parts] using Mem.deep.1 m
 have m3:Mem W G w (rows.map (Ch t2)++(Itm.row v t1 1 rows.length (rows.map (·.1))::H)):=by
  have:=m2.back (rows.map (Ch t2)).length (by simp)
  simpa using this
 obtain⟨G1,h1,m4,h2,h3⟩:=Mem.stamps _ m3
 let T:=rows.zip xs
 let f:(Value×List Value)×List α→Value×List α:=fun p=>(p.1.1,p.2)
 have hT1:T.map (·.1)=rows:=List.map_fst_zip (by omega)
 have hT2:T.map (·.2)=xs:=List.map_snd_zip (by omega)
 have hZ:(T.map f).map (·.2)=xs:=by rw[List.map_map];exact hT2
 obtain⟨zs,hp,he,kk⟩:=k (T.map f) hZ
 have hTl:T.length=rows.length:=by rw[←hT1];simp
 have hok:∀z∈rows.map (Ch t2),z.ok w:=fun z hz=>by
  obtain⟨i,hi,e⟩:=List.getElem_of_mem hz
  exact m3.items i z (by rw[List.getElem?_append_left hi,List.getElem?_eq_getElem hi,e])
 have o1:Ow (RTg R) t1 G1 (.row v t1 1 rows.length (rows.map (·.1))) v (T.map f):=by
  refine⟨rows.map (·.1),by simp[hTl],by simp[hTl],fun i c x hc hx=> ?_⟩
  rw[List.getElem?_map] at hc hx
  cases hr:rows[i]? with
  |none=>simp[hr] at hc
  |some r=>
   simp[hr] at hc;subst hc
   cases hx0:xs[i]? with
   |none=>
    have:=(List.getElem?_eq_some_iff.1 hr).1
    simp at hx0;omega
   |some x0=>
    have e:T[i]? =some (r,x0):=by simp[T,List.getElem?_zip_eq_some,hr,hx0]
    rw[e] at hx;simp at hx;subst hx
    have hA':=hA i r x0 hr hx0
    have hm:Ch t2 r∈rows.map (Ch t2):=List.mem_map.2 ⟨r,List.mem_of_getElem? hr,rfl⟩
    refine⟨rfl,EG hA'.1 (hok _ hm) (fun y hy=>h2 _ hm y hy) (hA'.mono fun v x=>hF G G1 v x)⟩
 refine(kk G1 _ m4 o1).mono fun e w' ⟨r,hr,G2,Ho,h5,m5,it',e1,o2⟩=> ?_
 subst e1
 have hap:∀z∈rows.map (Ch t2),∀x∈z.foot,G x=none:=fun z hz=>by
  obtain⟨i,hi,e⟩:=List.getElem_of_mem hz
  exact m3.apart i z (by rw[List.getElem?_append_left hi,List.getElem?_eq_getElem hi,e])
 obtain⟨G3,m6,h6⟩:=Mem.unstamps (w0:=w) (rows.map (Ch t2)) m5
  (fun z hz x hx=>by
   have e1:=h2 z hz x hx
   have hlt:=Itm.lt (hok z hz) x hx
   have e:w.heap[x]? =some w.heap[x]:=by simp[hlt]
   rw[e] at e1 ⊢;exact h5 x _ e1)
  hok
  (fun z hz x hx=>by
   cases hg:W.heap[x]? with
   |none=>rfl
   |some o=>have:=m3.base x o hg;rw[hap z hz x hx] at this;cases this)
  (by
   rw[List.pairwise_iff_getElem]
   intro i j hi hj hij x hx
   exact m3.disj i j _ _ (by omega) (by rw[List.getElem?_append_left hi,List.getElem?_eq_getElem hi]) (by rw[List.getElem?_append_left hj,List.getElem?_eq_getElem hj]) x hx)
 obtain⟨T',hT,rfl⟩:=perm_of_map f hp T rfl
 obtain⟨vs,rfl,hvs⟩:=o2
 have hv:vs=(T'.map (·.1)).map (·.1):=by
  apply List.ext_getElem
  ·rw[hvs.1];simp
  ·intro i h7 h8
   have:=(hvs.2 i vs[i] ((T'.map f)[i]'(by simpa using h8)) (by simp[h7]) (by simp at h8;simp[h8])).1
   rw[this];simp[f]
 subst hv
 have hperm:(rows.map (Ch t2)).Perm ((T'.map (·.1)).map (Ch t2)):=by
  have:=((hT.map (·.1)).map (Ch t2)).symm
  rwa [hT1] at this
 have m7:=Mem.perm hperm [] _ (by simpa using m6)
 have m8:=Mem.front m7 ((T'.map (·.1)).map (Ch t2)).length (by simp only[List.nil_append];rw[List.getElem?_append_right (by omega)];simp;rfl)
 refine⟨r,hr,G3,[.deep v t1 t2 (T'.map (·.1))],fun b o hb=> ?_,Mem.deep.2 ?_,_,rfl,T'.map (·.1),rfl,by rw[←he];simp,fun i r0 x0 hr0 hx0=> ?_⟩
 ·rw[h6 b (fun z hz hbz=>by rw[hap z hz b hbz] at hb;cases hb)]
  exact h5 b o (h1 b o hb)
 ·rw[List.nil_append,List.eraseIdx_append_of_length_le (by omega),Nat.sub_self] at m8
  simpa [parts] using m8
 ·rw[←he] at hx0
  rw[List.getElem?_map] at hr0
  cases ht:T'[i]? with
  |none=>simp[ht] at hr0
  |some p=>
   simp[ht] at hr0 hx0
   subst hr0
   have hm:p∈T:=hT.mem_iff.1 (List.mem_of_getElem? ht)
   obtain⟨q,hq,e⟩:=List.getElem_of_mem hm
   have e2:T[q]? =some p:=by simp[hq,e]
   have e3:=List.getElem?_zip_eq_some.1 e2
   have hx1:x0=p.2:=by simpa [f] using hx0.symm
   rw[hx1]
   exact(hA q p.1 p.2 e3.1 e3.2).mono fun v x=>hF G G3 v x
theorem Ow.sortCall (h:Ow (RSl R) t1 G it v xs)(m:Mem W G w (it::H))
  (k:∀Z:List (Value×List α),Z.map (·.2)=xs→∃zs:List (Value×List α),zs.Perm Z∧zs.map (·.2)=ys∧∀G₁ it₁,Mem W G₁ w (it₁::H)→Ow (RTg R) t1 G₁ it₁ v Z→
   Calls P g args w (Res W G₁ H (fun G' Ho _=>∃it',Ho=[it']∧Ow (RTg R) t1 G' it' v zs))):
  Calls P g args w (Res W G H (fun G' Ho _=>∃it',Ho=[it']∧Ow (RSl R) t1 G' it' v ys)):=by
 obtain⟨vs,rfl,hA⟩:=h
 have hl:=hA.1
 obtain⟨zs,hp,he,kk⟩:=k (vs.zip xs) (List.map_snd_zip (by omega))
 have o1:Ow (RTg R) t1 G (.row v t1 1 xs.length vs) v (vs.zip xs):=by
  refine⟨vs,by simp[hl],by simp[hl],fun i c x hc hx=> ?_⟩
  obtain⟨e1,e2⟩:=List.getElem?_zip_eq_some.1 hx
  rw[hc] at e1;cases e1
  exact⟨rfl,hA.2 i _ _ hc e2⟩
 refine(kk G _ m o1).mono fun e w' ⟨r,hr,G2,Ho,h5,m5,it',e1,o2⟩=> ?_
 obtain⟨us,rfl,hB⟩:=o2
 refine⟨r,hr,G2,Ho,h5,m5,_,e1,us,by rw[←he];simp,by rw[←he,hB.1];simp,fun i c x hc hx=> ?_⟩
 rw[←he,List.getElem?_map] at hx
 cases hz:zs[i]? with
 |none=>simp[hz] at hx
 |some z=>simp[hz] at hx;subst hx;exact(hB.2 i c z hc hz).2
end
end Go.Sx

namespace Go.Sx
def Bc (l:List Int):Int:=l.getD 0 0*1048576+l.getD 1 0
def Cb (l:List Int):Prop:=l.length=2∧0≤l.getD 0 0∧l.getD 0 0<1048576∧0≤l.getD 1 0∧l.getD 1 0<1048576
def BQ (a b:List Int):Bool:=decide (Bc a≤Bc b)
open Classical in
noncomputable def CF (xs:List (List Int)):Option (List (List Int)):=if xs.length≤1000000∧∀x∈xs,Cb x then some (xs.mergeSort BQ) else none
end Go.Sx

namespace Go.Sx
noncomputable def D.X0 (x0:Int)(x1:Int):Option (Int):=
 (D.s x0).bind fun y_1=>(D.s x1).bind fun y_8=>cond y_1 (cond y_8 (some 0) (some (-1))) (cond y_8 (some 1) (cond (decide (x0<x1)) (some (-1)) (cond (decide (x1<x0)) (some 1) (some 0))))
noncomputable def D.a (x0:(List Int))(x1:(List Int)):Option (Int):=
 (Ap (σ:=Int) (ρ:=(Unit) ⊕ (Int)) (fun(x_54:Int)=>cond (decide (x_54<(x0.length:Int))) ((idx x0 x_54).bind fun e_81=>cond (decide ((x1.length:Int)≤x_54)) (some (.inr (.inr 1))) ((idx x1 x_54).bind fun e_88=>(D.X0 e_81 e_88).bind fun y_94=>cond (y_94 !=0) (some (.inr (.inr y_94))) (some (.inl (IntKind.i64.wrap (x_54+1)))))) (some (.inr (.inl ())))) 0).bind fun zz=>match zz with| .inl _=>(cond (decide ((x0.length:Int)<(x1.length:Int))) (some (-1)) (some 0))| .inr z=>(some z)
noncomputable def D.P0 (x0_0:(List (List Int)))(x1:(List Int)):Option (((List (List Int)))):=
 (D.l0 x0_0 x1).bind fun y_3=>(D.d x0_0).bind fun y_16=>(CX (false:Bool) y_16 y_16).bind fun l_23=>(D.d x0_0).bind fun y_29=>(CX (([]:(List Int)):(List Int)) y_29 y_29).bind fun l_36=>(Ap (σ:=(List Bool)×(List (List Int))×Int) (ρ:=((List (List Int)))) (fun(s_166:(List Bool)×(List (List Int))×Int)=>match s_166 with|(l_169,l_172,x_175)=>cond (decide (x_175<(x1.length:Int))) ((idx x1 x_175).bind fun e_239=>(idx l_169 e_239).bind fun e_245=>(idx x1 x_175).bind fun e_251=>(idx x1 x_175).bind fun e_257=>(D.d0 y_3 e_257 (l_169.set (Int.toNat e_239) true)).bind fun y_266=>(idx l_172 e_251).bind fun e_283=>some (.inl ((l_169.set (Int.toNat e_239) true),(l_172.set (Int.toNat e_251) y_266),(IntKind.i64.wrap (x_175+1))))) (some (.inr l_172))) (l_23,l_36,0)).bind fun l_234=>some l_234
noncomputable def D.e1 (x0:(List Int))(x1:(List Int)):Option (Bool):=
 cond ((x0.length:Int) !=(x1.length:Int)) (some (decide ((x0.length:Int)<(x1.length:Int)))) ((Ap (σ:=Int) (ρ:=(Unit) ⊕ (Bool)) (fun(x_71:Int)=>cond (decide (x_71<(x0.length:Int))) ((idx x0 x_71).bind fun e_106=>(idx x1 x_71).bind fun e_112=>cond (e_106 !=e_112) ((idx x0 x_71).bind fun e_121=>(idx x1 x_71).bind fun e_127=>some (.inr (.inr (decide (e_121<e_127))))) (some (.inl (IntKind.i64.wrap (x_71+1))))) (some (.inr (.inl ())))) 0).bind fun zz=>match zz with| .inl _=>(some false)| .inr z=>(some z))
noncomputable def D.F1 (x0:(List (List Int)))(x1:Int)(x2:Int):Option (((List (List Int)))):=
 (D.I1 x1 x2).bind fun y_1=>(D.L x1 x2).bind fun y_8=>(Ap (σ:=(List Int)×(List (List Int))×Bool×Int) (ρ:=((List Int)×(List (List Int))×Bool)) (fun(s_226:(List Int)×(List (List Int))×Bool×Int)=>match s_226 with|(l_232,l_235,b_240,x_241)=>cond (decide (x_241<(x0.length:Int))) ((cond (!b_240) ((idx x0 x_241).bind fun e_374=>(D.e1 l_232 e_374).bind fun y_380=>some y_380) (some false)).bind fun b_372=>cond b_372 ((AV l_235 ([l_232]:List (List Int))).bind fun l_392=>(idx x0 x_241).bind fun e_398=>(AV l_392 ([e_398]:List (List Int))).bind fun l_408=>some (.inl (l_232,l_408,true,(IntKind.i64.wrap (x_241+1))))) ((idx x0 x_241).bind fun e_414=>(AV l_235 ([e_414]:List (List Int))).bind fun l_424=>some (.inl (l_232,l_424,b_240,(IntKind.i64.wrap (x_241+1)))))) (some (.inr (l_232,l_235,b_240)))) (([y_1,y_8]:List Int),([]:List (List Int)),false,0)).bind fun(l_332,l_335,b_340)=>cond (!b_340) ((AV l_335 ([l_332]:List (List Int))).bind fun l_435=>some l_435) (some l_335)
noncomputable def D.d1 (x0:(List (Value×List Int)))(x1:Int)(x2:Int):Option (((List (Value×List Int)))):=
 (Ap (σ:=(List (Value×List Int))×Int) (ρ:=((List (Value×List Int)))) (fun(s_560:(List (Value×List Int))×Int)=>match s_560 with|(l_563,x_566)=>cond (decide (x_566<x2)) ((Ap (σ:=(List (Value×List Int))×Int) (ρ:=((List (Value×List Int)))) (fun(s_984:(List (Value×List Int))×Int)=>match s_984 with|(l_987,x_990)=>(cond (decide (x1<x_990)) ((idx l_987 x_990).bind fun e_1079=>(idx l_987 (IntKind.i64.wrap (x_990-1))).bind fun e_1085=>(D.a e_1079.2 e_1085.2).bind fun y_1091=>some (decide (y_1091<0))) (some false)).bind fun b_1077=>cond b_1077 ((idx l_987 (IntKind.i64.wrap (x_990-1))).bind fun e_1097=>(idx l_987 x_990).bind fun e_1103=>(idx l_987 x_990).bind fun e_1109=>(idx (l_987.set (Int.toNat x_990) e_1097) (IntKind.i64.wrap (x_990-1))).bind fun e_1117=>some (.inl (((l_987.set (Int.toNat x_990) e_1097).set (Int.toNat (IntKind.i64.wrap (x_990-1))) e_1103),(IntKind.i64.wrap (x_990-1))))) (some (.inr l_987))) (l_563,x_566)).bind fun l_1056=>some (.inl (l_1056,(IntKind.i64.wrap (x_566+1))))) (some (.inr l_563))) (x0,(IntKind.i64.wrap (x1+1)))).bind fun l_844=>some l_844
noncomputable def D.r0 (x0:(List (Value×List Int)))(x1:Int)(x2:Int)(x3:Int):Option (((List (Value×List Int)))):=
 (Ap (σ:=(List (Value×List Int))×Int) (ρ:=((List (Value×List Int))) ⊕ (((List (Value×List Int))))) (fun(s_186:(List (Value×List Int))×Int)=>match s_186 with|(l_189,x_192)=>cond (decide (x2≤(IntKind.i64.wrap ((IntKind.i64.wrap (2*x_192))+1)))) (some (.inr (.inl l_189))) ((cond (decide ((IntKind.i64.wrap ((IntKind.i64.wrap ((IntKind.i64.wrap (2*x_192))+1))+1))<x2)) ((idx l_189 (IntKind.i64.wrap (x3+(IntKind.i64.wrap ((IntKind.i64.wrap (2*x_192))+1))))).bind fun e_307=>(idx l_189 (IntKind.i64.wrap ((IntKind.i64.wrap (x3+(IntKind.i64.wrap ((IntKind.i64.wrap (2*x_192))+1))))+1))).bind fun e_313=>(D.a e_307.2 e_313.2).bind fun y_319=>some (decide (y_319<0))) (some false)).bind fun b_305=>((cond b_305 (some (IntKind.i64.wrap ((IntKind.i64.wrap ((IntKind.i64.wrap (2*x_192))+1))+1))) (some (IntKind.i64.wrap ((IntKind.i64.wrap (2*x_192))+1))):Option (Int))).bind fun x_328=>(idx l_189 (IntKind.i64.wrap (x3+x_192))).bind fun e_331=>(idx l_189 (IntKind.i64.wrap (x3+x_328))).bind fun e_337=>(D.a e_331.2 e_337.2).bind fun y_343=>cond (!(decide (y_343<0))) (some (.inr (.inr l_189))) ((idx l_189 (IntKind.i64.wrap (x3+x_328))).bind fun e_349=>(idx l_189 (IntKind.i64.wrap (x3+x_192))).bind fun e_355=>(idx l_189 (IntKind.i64.wrap (x3+x_192))).bind fun e_361=>(idx (l_189.set (Int.toNat (IntKind.i64.wrap (x3+x_192))) e_349) (IntKind.i64.wrap (x3+x_328))).bind fun e_369=>some (.inl (((l_189.set (Int.toNat (IntKind.i64.wrap (x3+x_192))) e_349).set (Int.toNat (IntKind.i64.wrap (x3+x_328))) e_355),x_328))))) (x0,x1)).bind fun zz=>match zz with| .inl l_283=>(some l_283)| .inr z=>(some z)
noncomputable def D.h1 (x0:(List (Value×List Int)))(x1:Int)(x2:Int):Option (((List (Value×List Int)))):=
 (Ap (σ:=(List (Value×List Int))×Int) (ρ:=((List (Value×List Int)))) (fun(s_30:(List (Value×List Int))×Int)=>match s_30 with|(l_33,x_36)=>cond (decide ((0:Int)≤x_36)) ((D.r0 l_33 x_36 (IntKind.i64.wrap (x2-x1)) x1).bind fun y_54=>some (.inl (y_54,(IntKind.i64.wrap (x_36-1))))) (some (.inr l_33))) (x0,(IntKind.i64.wrap (Int.tdiv (IntKind.i64.wrap ((IntKind.i64.wrap (x2-x1))-1)) 2)))).bind fun l_49=>(Ap (σ:=(List (Value×List Int))×Int) (ρ:=((List (Value×List Int)))) (fun(s_144:(List (Value×List Int))×Int)=>match s_144 with|(l_147,x_150)=>cond (decide ((0:Int)≤x_150)) ((idx l_147 (IntKind.i64.wrap (x1+x_150))).bind fun e_194=>(idx l_147 x1).bind fun e_200=>(idx l_147 x1).bind fun e_206=>(idx (l_147.set (Int.toNat x1) e_194) (IntKind.i64.wrap (x1+x_150))).bind fun e_214=>(D.r0 ((l_147.set (Int.toNat x1) e_194).set (Int.toNat (IntKind.i64.wrap (x1+x_150))) e_200) 0 x_150 x1).bind fun y_220=>some (.inl (y_220,(IntKind.i64.wrap (x_150-1))))) (some (.inr l_147))) (l_49,(IntKind.i64.wrap ((IntKind.i64.wrap (x2-x1))-1)))).bind fun l_189=>some l_189
noncomputable def D.o1 (x0:(List (Value×List Int)))(x1:Int)(x2:Int):Option (((List (Value×List Int)))):=
 cond (decide ((8:Int)≤(IntKind.i64.wrap (x2-x1)))) ((D.z (IntKind.i64.wrap (x2-x1))).bind fun y_4=>(Ap (σ:=(List (Value×List Int))×Int×Int) (ρ:=((List (Value×List Int)))) (fun(s_103:(List (Value×List Int))×Int×Int)=>match s_103 with|(l_106,x_109,x_110)=>cond (decide (x_109≤(IntKind.i64.wrap ((IntKind.i64.wrap (x1+(IntKind.i64.wrap ((IntKind.i64.wrap (Int.tdiv (IntKind.i64.wrap (x2-x1)) 4))*2))))+1)))) ((D.K x_110).bind fun y_159=>((cond (decide ((IntKind.i64.wrap (x2-x1))≤(IntKind.i64.wrap (iand .u64 y_159.1 (IntKind.u64.wrap (y_4-1)))))) (some (IntKind.i64.wrap ((IntKind.i64.wrap (iand .u64 y_159.1 (IntKind.u64.wrap (y_4-1))))-(IntKind.i64.wrap (x2-x1))))) (some (IntKind.i64.wrap (iand .u64 y_159.1 (IntKind.u64.wrap (y_4-1))))):Option (Int))).bind fun x_170=>(idx l_106 (IntKind.i64.wrap (x1+x_170))).bind fun e_173=>(idx l_106 x_109).bind fun e_179=>(idx l_106 x_109).bind fun e_185=>(idx (l_106.set (Int.toNat x_109) e_173) (IntKind.i64.wrap (x1+x_170))).bind fun e_193=>some (.inl (((l_106.set (Int.toNat x_109) e_173).set (Int.toNat (IntKind.i64.wrap (x1+x_170))) e_179),(IntKind.i64.wrap (x_109+1)),y_159.2))) (some (.inr l_106))) (x0,(IntKind.i64.wrap ((IntKind.i64.wrap (x1+(IntKind.i64.wrap ((IntKind.i64.wrap (Int.tdiv (IntKind.i64.wrap (x2-x1)) 4))*2))))-1)),(IntKind.u64.wrap (IntKind.i64.wrap (x2-x1))))).bind fun l_154=>some l_154) (some x0)
noncomputable def D.O (x0:(List (Value×List Int)))(x1:Int)(x2:Int)(x3_0:Int):Option (Int×Int×((List (Value×List Int)))×Int):=
 (idx x0 x2).bind fun e_1=>(idx x0 x1).bind fun e_7=>(D.a e_1.2 e_7.2).bind fun y_13=>cond (decide (y_13<0)) (some (x2,x1,x0,(IntKind.i64.wrap (x3_0+1)))) (some (x1,x2,x0,x3_0))
noncomputable def D.M0 (x0:(List (Value×List Int)))(x1:Int)(x2:Int)(x3:Int)(x4_0:Int):Option (Int×((List (Value×List Int)))×Int):=
 (D.O x0 x1 x2 x4_0).bind fun y_1=>(D.O y_1.2.2.1 y_1.2.1 x3 y_1.2.2.2).bind fun y_10=>(D.O y_10.2.2.1 y_1.1 y_10.1 y_10.2.2.2).bind fun y_19=>some (y_19.2.1,y_19.2.2.1,y_19.2.2.2)
noncomputable def D.V (x0:(List (Value×List Int)))(x1:Int)(x2_0:Int):Option (Int×((List (Value×List Int)))×Int):=
 (D.M0 x0 (IntKind.i64.wrap (x1-1)) x1 (IntKind.i64.wrap (x1+1)) x2_0).bind fun y_1=>some (y_1.1,y_1.2.1,y_1.2.2)
noncomputable def D.a1 (x0:(List (Value×List Int)))(x1:Int)(x2:Int):Option (Int×Int×((List (Value×List Int)))):=
 cond (decide ((8:Int)≤(IntKind.i64.wrap (x2-x1)))) (((cond (decide ((50:Int)≤(IntKind.i64.wrap (x2-x1)))) ((D.V x0 (IntKind.i64.wrap (x1+(IntKind.i64.wrap ((IntKind.i64.wrap (Int.tdiv (IntKind.i64.wrap (x2-x1)) 4))*1)))) 0).bind fun y_44=>(D.V y_44.2.1 (IntKind.i64.wrap (x1+(IntKind.i64.wrap ((IntKind.i64.wrap (Int.tdiv (IntKind.i64.wrap (x2-x1)) 4))*2)))) y_44.2.2).bind fun y_53=>(D.V y_53.2.1 (IntKind.i64.wrap (x1+(IntKind.i64.wrap ((IntKind.i64.wrap (Int.tdiv (IntKind.i64.wrap (x2-x1)) 4))*3)))) y_53.2.2).bind fun y_62=>some (y_62.2.1,y_44.1,y_53.1,y_62.1,y_62.2.2)) (some (x0,(IntKind.i64.wrap (x1+(IntKind.i64.wrap ((IntKind.i64.wrap (Int.tdiv (IntKind.i64.wrap (x2-x1)) 4))*1)))),(IntKind.i64.wrap (x1+(IntKind.i64.wrap ((IntKind.i64.wrap (Int.tdiv (IntKind.i64.wrap (x2-x1)) 4))*2)))),(IntKind.i64.wrap (x1+(IntKind.i64.wrap ((IntKind.i64.wrap (Int.tdiv (IntKind.i64.wrap (x2-x1)) 4))*3)))),0)):Option ((List (Value×List Int))×Int×Int×Int×Int))).bind fun(l_35,x_38,x_39,x_40,x_41)=>(D.M0 l_35 x_38 x_39 x_40 x_41).bind fun y_71=>cond (y_71.2.2==0) (some (y_71.1,1,y_71.2.1)) (cond (y_71.2.2==12) (some (y_71.1,2,y_71.2.1)) (some (y_71.1,0,y_71.2.1)))) (cond ((0:Int)==0) (some ((IntKind.i64.wrap (x1+(IntKind.i64.wrap ((IntKind.i64.wrap (Int.tdiv (IntKind.i64.wrap (x2-x1)) 4))*2)))),1,x0)) (cond ((0:Int)==12) (some ((IntKind.i64.wrap (x1+(IntKind.i64.wrap ((IntKind.i64.wrap (Int.tdiv (IntKind.i64.wrap (x2-x1)) 4))*2)))),2,x0)) (some ((IntKind.i64.wrap (x1+(IntKind.i64.wrap ((IntKind.i64.wrap (Int.tdiv (IntKind.i64.wrap (x2-x1)) 4))*2)))),0,x0))))
noncomputable def D.m1 (x0:(List (Value×List Int)))(x1:Int)(x2:Int):Option (((List (Value×List Int)))):=
 (Ap (σ:=(List (Value×List Int))×Int×Int) (ρ:=((List (Value×List Int)))) (fun(s_65:(List (Value×List Int))×Int×Int)=>match s_65 with|(l_68,x_71,x_72)=>cond (decide (x_71<x_72)) ((idx l_68 x_72).bind fun e_107=>(idx l_68 x_71).bind fun e_113=>(idx l_68 x_71).bind fun e_119=>(idx (l_68.set (Int.toNat x_71) e_107) x_72).bind fun e_127=>some (.inl (((l_68.set (Int.toNat x_71) e_107).set (Int.toNat x_72) e_113),(IntKind.i64.wrap (x_71+1)),(IntKind.i64.wrap (x_72-1))))) (some (.inr l_68))) (x0,x1,(IntKind.i64.wrap (x2-1)))).bind fun l_102=>some l_102
noncomputable def D.j1 (x0:(List (Value×List Int)))(x1:Int)(x2:Int):Option (Bool×((List (Value×List Int)))):=
 (Ap (σ:=(List (Value×List Int))×Int×Int) (ρ:=((List (Value×List Int))) ⊕ (Bool×((List (Value×List Int))))) (fun(s_1625:(List (Value×List Int))×Int×Int)=>match s_1625 with|(l_1628,x_1631,x_1632)=>cond (decide (x_1632<5)) ((Ap (σ:=Int) (ρ:=(Int)) (fun(x_2530:Int)=>(cond (decide (x_2530<x2)) ((idx l_1628 x_2530).bind fun e_2591=>(idx l_1628 (IntKind.i64.wrap (x_2530-1))).bind fun e_2597=>(D.a e_2591.2 e_2597.2).bind fun y_2603=>some (!(decide (y_2603<0)))) (some false)).bind fun b_2589=>cond b_2589 (some (.inl (IntKind.i64.wrap (x_2530+1)))) (some (.inr x_2530))) x_1631).bind fun x_2570=>cond (x_2570==x2) (some (.inr (.inr (true,l_1628)))) (cond (decide ((IntKind.i64.wrap (x2-x1))<50)) (some (.inr (.inr (false,l_1628)))) ((idx l_1628 (IntKind.i64.wrap (x_2570-1))).bind fun e_2611=>(idx l_1628 x_2570).bind fun e_2617=>(idx l_1628 x_2570).bind fun e_2623=>(idx (l_1628.set (Int.toNat x_2570) e_2611) (IntKind.i64.wrap (x_2570-1))).bind fun e_2631=>((cond (decide ((2:Int)≤(IntKind.i64.wrap (x_2570-x1)))) ((Ap (σ:=(List (Value×List Int))×Int) (ρ:=((List (Value×List Int)))) (fun(s_2947:(List (Value×List Int))×Int)=>match s_2947 with|(l_2950,x_2953)=>cond (decide ((1:Int)≤x_2953)) ((idx l_2950 x_2953).bind fun e_3006=>(idx l_2950 (IntKind.i64.wrap (x_2953-1))).bind fun e_3012=>(D.a e_3006.2 e_3012.2).bind fun y_3018=>cond (!(decide (y_3018<0))) (some (.inr l_2950)) ((idx l_2950 (IntKind.i64.wrap (x_2953-1))).bind fun e_3024=>(idx l_2950 x_2953).bind fun e_3030=>(idx l_2950 x_2953).bind fun e_3036=>(idx (l_2950.set (Int.toNat x_2953) e_3024) (IntKind.i64.wrap (x_2953-1))).bind fun e_3044=>some (.inl (((l_2950.set (Int.toNat x_2953) e_3024).set (Int.toNat (IntKind.i64.wrap (x_2953-1))) e_3030),(IntKind.i64.wrap (x_2953-1)))))) (some (.inr l_2950))) (((l_1628.set (Int.toNat x_2570) e_2611).set (Int.toNat (IntKind.i64.wrap (x_2570-1))) e_2617),(IntKind.i64.wrap (x_2570-1)))).bind fun l_3001=>some l_3001) (some ((l_1628.set (Int.toNat x_2570) e_2611).set (Int.toNat (IntKind.i64.wrap (x_2570-1))) e_2617)):Option ((List (Value×List Int))))).bind fun l_2843=>cond (decide ((2:Int)≤(IntKind.i64.wrap (x2-x_2570)))) ((Ap (σ:=(List (Value×List Int))×Int) (ρ:=((List (Value×List Int)))) (fun(s_3150:(List (Value×List Int))×Int)=>match s_3150 with|(l_3153,x_3156)=>cond (decide (x_3156<x2)) ((idx l_3153 x_3156).bind fun e_3209=>(idx l_3153 (IntKind.i64.wrap (x_3156-1))).bind fun e_3215=>(D.a e_3209.2 e_3215.2).bind fun y_3221=>cond (!(decide (y_3221<0))) (some (.inr l_3153)) ((idx l_3153 (IntKind.i64.wrap (x_3156-1))).bind fun e_3227=>(idx l_3153 x_3156).bind fun e_3233=>(idx l_3153 x_3156).bind fun e_3239=>(idx (l_3153.set (Int.toNat x_3156) e_3227) (IntKind.i64.wrap (x_3156-1))).bind fun e_3247=>some (.inl (((l_3153.set (Int.toNat x_3156) e_3227).set (Int.toNat (IntKind.i64.wrap (x_3156-1))) e_3233),(IntKind.i64.wrap (x_3156+1)))))) (some (.inr l_3153))) (l_2843,(IntKind.i64.wrap (x_2570+1)))).bind fun l_3204=>some (.inl (l_3204,x_2570,(IntKind.i64.wrap (x_1632+1))))) (some (.inl (l_2843,x_2570,(IntKind.i64.wrap (x_1632+1)))))))) (some (.inr (.inl l_1628)))) (x0,(IntKind.i64.wrap (x1+1)),0)).bind fun zz=>match zz with| .inl l_2442=>(some (false,l_2442))| .inr z=>(some z)
noncomputable def D.k1 (x0:(List (Value×List Int)))(x1:Int)(x2:Int)(x3:Int):Option (Int×((List (Value×List Int)))):=
 (idx x0 x3).bind fun e_1=>(idx x0 x1).bind fun e_7=>(idx x0 x1).bind fun e_13=>(idx (x0.set (Int.toNat x1) e_1) x3).bind fun e_21=>(Ap (σ:=(List (Value×List Int))×Int×Int) (ρ:=((List (Value×List Int))×Int)) (fun(s_739:(List (Value×List Int))×Int×Int)=>match s_739 with|(l_742,x_745,x_746)=>(Ap (σ:=Int) (ρ:=(Int)) (fun(x_1188:Int)=>(cond (decide (x_1188≤x_746)) ((idx l_742 x1).bind fun e_1249=>(idx l_742 x_1188).bind fun e_1255=>(D.a e_1249.2 e_1255.2).bind fun y_1261=>some (!(decide (y_1261<0)))) (some false)).bind fun b_1247=>cond b_1247 (some (.inl (IntKind.i64.wrap (x_1188+1)))) (some (.inr x_1188))) x_745).bind fun x_1228=>(Ap (σ:=Int) (ρ:=(Int)) (fun(x_1350:Int)=>(cond (decide (x_1228≤x_1350)) ((idx l_742 x1).bind fun e_1411=>(idx l_742 x_1350).bind fun e_1417=>(D.a e_1411.2 e_1417.2).bind fun y_1423=>some (decide (y_1423<0))) (some false)).bind fun b_1409=>cond b_1409 (some (.inl (IntKind.i64.wrap (x_1350-1)))) (some (.inr x_1350))) x_746).bind fun x_1390=>cond (decide (x_1390<x_1228)) (some (.inr (l_742,x_1228))) ((idx l_742 x_1390).bind fun e_1430=>(idx l_742 x_1228).bind fun e_1436=>(idx l_742 x_1228).bind fun e_1442=>(idx (l_742.set (Int.toNat x_1228) e_1430) x_1390).bind fun e_1450=>some (.inl (((l_742.set (Int.toNat x_1228) e_1430).set (Int.toNat x_1390) e_1436),(IntKind.i64.wrap (x_1228+1)),(IntKind.i64.wrap (x_1390-1)))))) (((x0.set (Int.toNat x1) e_1).set (Int.toNat x3) e_7),(IntKind.i64.wrap (x1+1)),(IntKind.i64.wrap (x2-1)))).bind fun(l_1100,x_1103)=>some (x_1103,l_1100)
noncomputable def D.g1 (x0:(List (Value×List Int)))(x1:Int)(x2:Int)(x3:Int):Option (Int×Bool×((List (Value×List Int)))):=
 (idx x0 x3).bind fun e_1=>(idx x0 x1).bind fun e_7=>(idx x0 x1).bind fun e_13=>(idx (x0.set (Int.toNat x1) e_1) x3).bind fun e_21=>(Ap (σ:=Int) (ρ:=(Int)) (fun(x_110:Int)=>(cond (decide (x_110≤(IntKind.i64.wrap (x2-1)))) ((idx ((x0.set (Int.toNat x1) e_1).set (Int.toNat x3) e_7) x_110).bind fun e_171=>(idx ((x0.set (Int.toNat x1) e_1).set (Int.toNat x3) e_7) x1).bind fun e_177=>(D.a e_171.2 e_177.2).bind fun y_183=>some (decide (y_183<0))) (some false)).bind fun b_169=>cond b_169 (some (.inl (IntKind.i64.wrap (x_110+1)))) (some (.inr x_110))) (IntKind.i64.wrap (x1+1))).bind fun x_150=>(Ap (σ:=Int) (ρ:=(Int)) (fun(x_272:Int)=>(cond (decide (x_150≤x_272)) ((idx ((x0.set (Int.toNat x1) e_1).set (Int.toNat x3) e_7) x_272).bind fun e_333=>(idx ((x0.set (Int.toNat x1) e_1).set (Int.toNat x3) e_7) x1).bind fun e_339=>(D.a e_333.2 e_339.2).bind fun y_345=>some (!(decide (y_345<0)))) (some false)).bind fun b_331=>cond b_331 (some (.inl (IntKind.i64.wrap (x_272-1)))) (some (.inr x_272))) (IntKind.i64.wrap (x2-1))).bind fun x_312=>cond (decide (x_312<x_150)) ((idx ((x0.set (Int.toNat x1) e_1).set (Int.toNat x3) e_7) x1).bind fun e_352=>(idx ((x0.set (Int.toNat x1) e_1).set (Int.toNat x3) e_7) x_312).bind fun e_358=>(idx ((x0.set (Int.toNat x1) e_1).set (Int.toNat x3) e_7) x_312).bind fun e_364=>(idx (((x0.set (Int.toNat x1) e_1).set (Int.toNat x3) e_7).set (Int.toNat x_312) e_352) x1).bind fun e_372=>some (x_312,true,((((x0.set (Int.toNat x1) e_1).set (Int.toNat x3) e_7).set (Int.toNat x_312) e_352).set (Int.toNat x1) e_358))) ((idx ((x0.set (Int.toNat x1) e_1).set (Int.toNat x3) e_7) x_312).bind fun e_378=>(idx ((x0.set (Int.toNat x1) e_1).set (Int.toNat x3) e_7) x_150).bind fun e_384=>(idx ((x0.set (Int.toNat x1) e_1).set (Int.toNat x3) e_7) x_150).bind fun e_390=>(idx (((x0.set (Int.toNat x1) e_1).set (Int.toNat x3) e_7).set (Int.toNat x_150) e_378) x_312).bind fun e_398=>(Ap (σ:=(List (Value×List Int))×Int×Int) (ρ:=((List (Value×List Int))×Int)) (fun(s_1116:(List (Value×List Int))×Int×Int)=>match s_1116 with|(l_1119,x_1122,x_1123)=>(Ap (σ:=Int) (ρ:=(Int)) (fun(x_1565:Int)=>(cond (decide (x_1565≤x_1123)) ((idx l_1119 x_1565).bind fun e_1626=>(idx l_1119 x1).bind fun e_1632=>(D.a e_1626.2 e_1632.2).bind fun y_1638=>some (decide (y_1638<0))) (some false)).bind fun b_1624=>cond b_1624 (some (.inl (IntKind.i64.wrap (x_1565+1)))) (some (.inr x_1565))) x_1122).bind fun x_1605=>(Ap (σ:=Int) (ρ:=(Int)) (fun(x_1727:Int)=>(cond (decide (x_1605≤x_1727)) ((idx l_1119 x_1727).bind fun e_1788=>(idx l_1119 x1).bind fun e_1794=>(D.a e_1788.2 e_1794.2).bind fun y_1800=>some (!(decide (y_1800<0)))) (some false)).bind fun b_1786=>cond b_1786 (some (.inl (IntKind.i64.wrap (x_1727-1)))) (some (.inr x_1727))) x_1123).bind fun x_1767=>cond (decide (x_1767<x_1605)) (some (.inr (l_1119,x_1767))) ((idx l_1119 x_1767).bind fun e_1807=>(idx l_1119 x_1605).bind fun e_1813=>(idx l_1119 x_1605).bind fun e_1819=>(idx (l_1119.set (Int.toNat x_1605) e_1807) x_1767).bind fun e_1827=>some (.inl (((l_1119.set (Int.toNat x_1605) e_1807).set (Int.toNat x_1767) e_1813),(IntKind.i64.wrap (x_1605+1)),(IntKind.i64.wrap (x_1767-1)))))) (((((x0.set (Int.toNat x1) e_1).set (Int.toNat x3) e_7).set (Int.toNat x_150) e_378).set (Int.toNat x_312) e_384),(IntKind.i64.wrap (x_150+1)),(IntKind.i64.wrap (x_312-1)))).bind fun(l_1477,x_1480)=>(idx l_1477 x1).bind fun e_1833=>(idx l_1477 x_1480).bind fun e_1839=>(idx l_1477 x_1480).bind fun e_1845=>(idx (l_1477.set (Int.toNat x_1480) e_1833) x1).bind fun e_1853=>some (x_1480,false,((l_1477.set (Int.toNat x_1480) e_1833).set (Int.toNat x1) e_1839)))
noncomputable def D.M :Nat→((List (Value×List Int)))→Int→Int→Int→Option (((List (Value×List Int))))
 |0,_,_,_,_=>none
 |fuel+1,x0,x1,x2,x3=>(Ap (σ:=(List (Value×List Int))×Int×Int×Int×Bool×Bool) (ρ:=(((List (Value×List Int))))) (fun(s_398:(List (Value×List Int))×Int×Int×Int×Bool×Bool)=>match s_398 with|(l_401,x_404,x_405,x_406,b_407,b_408)=>cond (decide ((IntKind.i64.wrap (x_405-x_404))≤12)) ((D.d1 l_401 x_404 x_405).bind fun y_411=>some (.inr y_411)) (cond (x_406==0) ((D.h1 l_401 x_404 x_405).bind fun y_421=>some (.inr y_421)) (((cond (!b_407) ((D.o1 l_401 x_404 x_405).bind fun y_449=>some (y_449,(IntKind.i64.wrap (x_406-1)))) (some (l_401,x_406)):Option ((List (Value×List Int))×Int))).bind fun(l_443,x_446)=>(D.a1 l_443 x_404 x_405).bind fun y_458=>((cond (y_458.2.1==2) ((D.m1 y_458.2.2 x_404 x_405).bind fun y_487=>some (y_487,(IntKind.i64.wrap ((IntKind.i64.wrap (x_405-1))-(IntKind.i64.wrap (y_458.1-x_404)))),1)) (some (y_458.2.2,y_458.1,y_458.2.1)):Option ((List (Value×List Int))×Int×Int))).bind fun(l_480,x_483,x_484)=>((cond ((b_407&&b_408)&&(x_484==1)) ((D.j1 l_480 x_404 x_405).bind fun y_521=>cond y_521.1 (some (.inr y_521.2)) (some (.inl y_521.2))) (some (.inl l_480)):Option (((List (Value×List Int))) ⊕ (((List (Value×List Int))))))).bind fun q=>match q with| .inl l_516=>((cond (decide ((0:Int)<x_404)) ((idx l_516 (IntKind.i64.wrap (x_404-1))).bind fun e_550=>(idx l_516 x_483).bind fun e_556=>(D.a e_550.2 e_556.2).bind fun y_562=>some (!(decide (y_562<0)))) (some false)).bind fun b_548=>cond b_548 ((D.k1 l_516 x_404 x_405 x_483).bind fun y_568=>some (.inl (y_568.2,y_568.1,x_405,x_446,b_407,b_408))) ((D.g1 l_516 x_404 x_405 x_483).bind fun y_577=>cond (decide ((IntKind.i64.wrap (y_577.1-x_404))<(IntKind.i64.wrap (x_405-y_577.1)))) ((D.M fuel y_577.2.2 x_404 y_577.1 x_446).bind fun y_587=>some (.inl (y_587,(IntKind.i64.wrap (y_577.1+1)),x_405,x_446,(decide ((IntKind.i64.wrap (Int.tdiv (IntKind.i64.wrap (x_405-x_404)) 8))≤(IntKind.i64.wrap (y_577.1-x_404)))),y_577.2.1))) ((D.M fuel y_577.2.2 (IntKind.i64.wrap (y_577.1+1)) x_405 x_446).bind fun y_596=>some (.inl (y_596,x_404,y_577.1,x_446,(decide ((IntKind.i64.wrap (Int.tdiv (IntKind.i64.wrap (x_405-x_404)) 8))≤(IntKind.i64.wrap (x_405-y_577.1)))),y_577.2.1)))))| .inr q=>(some (.inr q))))) (x0,x1,x2,x3,true,true)).bind fun z=>some z
noncomputable def D.m (x0:(List (Value×List Int)))(x1:Int)(x2:Int)(x3:Int):Option (((List (Value×List Int)))):=D.M CU x0 x1 x2 x3
noncomputable def D.S (x0:(List (Value×List Int))):Option (((List (Value×List Int)))):=
 (D.r (IntKind.u64.wrap (x0.length:Int))).bind fun y_1=>(D.m x0 0 (x0.length:Int) y_1).bind fun y_8=>some y_8
noncomputable def D.Y0 (x0:(List Int))(x1:(List Int)):Option (((List (List Int)))×((List (List Int)))):=
 (D.B x0 x1).bind fun y_3=>(CX (0:Int) (x1.length:Int) (x1.length:Int)).bind fun l_18=>(Ap (σ:=(List Int)×Int) (ρ:=((List Int))) (fun(s_59:(List Int)×Int)=>match s_59 with|(l_62,x_65)=>cond (decide (x_65<(x1.length:Int))) ((idx x1 x_65).bind fun e_86=>(idx l_62 e_86).bind fun e_92=>some (.inl ((l_62.set (Int.toNat e_86) x_65),(IntKind.i64.wrap (x_65+1))))) (some (.inr l_62))) (l_18,0)).bind fun l_81=>(Ap (σ:=Int×(List (List Int))×(List (List Int))) (ρ:=((List (List Int))×(List (List Int)))) (fun(s_635:Int×(List (List Int))×(List (List Int)))=>match s_635 with|(x_644,l_645,l_650)=>cond (decide (x_644<(x1.length:Int))) ((idx x1 x_644).bind fun e_925=>(idx y_3.2 e_925).bind fun e_931=>(D.c e_925).bind fun y_937=>(D.H (ior .u32 e_931 y_937)).bind fun y_943=>(AV l_645 [y_943]).bind fun l_963=>cond (x_644==(IntKind.i64.wrap ((x1.length:Int)-1))) (some (.inr (l_963,l_650))) ((idx y_3.2 e_925).bind fun e_970=>(D.i e_970).bind fun y_976=>(Ap (σ:=Int×Int) (ρ:=(Int)) (fun(s_1068:Int×Int)=>match s_1068 with|(x_1071,x_1072)=>cond (decide (x_1072<(y_976.length:Int))) ((idx y_976 x_1072).bind fun e_1115=>(cond (x_1072==0) (some true) ((idx l_81 e_1115).bind fun e_1138=>some (decide (e_1138<x_1071)))).bind fun b_1136=>cond b_1136 ((idx l_81 e_1115).bind fun e_1145=>some (.inl (e_1145,(IntKind.i64.wrap (x_1072+1))))) (some (.inl (x_1071,(IntKind.i64.wrap (x_1072+1)))))) (some (.inr x_1071))) ((IntKind.i64.wrap (x_644+1)),0)).bind fun x_1112=>(D.R x_644 x_1112).bind fun y_1154=>(AV l_650 [y_1154]).bind fun l_1174=>some (.inl ((IntKind.i64.wrap (x_644+1)),l_963,l_1174)))) (some (.inr (l_645,l_650)))) (0,([]:List (List Int)),([]:List (List Int)))).bind fun(l_913,l_918)=>(CF l_918).bind fun y_1180=>some (l_913,y_1180)
noncomputable def D.F0 (x0_0:(List (List Int)))(x1:(List Int)):Option (((List (List Int)))×((List (List Int)))×Bool):=
 (D.X x0_0 x1).bind fun y_5=>cond (!y_5) (some (([]:List (List Int)),([]:List (List Int)),false)) ((D.v x0_0).bind fun y_21=>(D.g0 x1).bind fun y_32=>(D.Y0 y_21 y_32).bind fun y_43=>some (y_43.1,y_43.2,true))
end Go.Sx

namespace Go.Sx
def DT :Value→Bool
 | .slice none _ _=>true
 |_=>false
section
variable {P : Program} {ρ : Operand → Value} {w : World} {d : Option Tmp} {t : TypeId} {pos : String} {af : Array Edge} {gd : Option (Nat × Bool)}
theorem run_eq_nil_aux (dd:Nat){u e:TypeId}{v:Value}(hu:P.underlying u=some (.slice e))(hv:∃a l c,v= .slice a l c):(Op.equalIn (dd+1) u v (.slice none 0 0)).run P w= .ok (DT v) w:=by
 obtain⟨a,l,c,rfl⟩:=hv
 cases a<;>simp[Op.equalIn,run_underlying hu,DT]
theorem run_eq_nil {u e:TypeId}{v:Value}(hu:P.underlying u=some (.slice e))(hv:∃a l c,v= .slice a l c):(Op.equal u v (.slice none 0 0)).run P w= .ok (DT v) w:=run_eq_nil_aux 9999 hu hv
theorem E7 {u u' e:TypeId}{x y:Operand}{v:Value}{b:Bool}(hx:ρ x=v)(hy:ρ y= .slice none 0 0)(hv:∃a l c,v= .slice a l c)(hu:P.underlying u=some (.slice e))(hb:DT v=b):
  (execOp ρ ⟨d,.binOp .eql u x y u',t,pos,af,gd⟩).run P w= .ok (.value (.bool b)) w:=by
 have hg:(eqGuard .eql u x y v (.slice none 0 0)).run P w= .ok () w:=by
  obtain⟨a,l,c,rfl⟩:=hv
  unfold eqGuard;rfl
 have e1:(binOp .eql u v (.slice none 0 0)).run P w= .ok (.bool b) w:=by
  rw[←hb]
  have:=run_eq_nil (w:=w) hu hv
  obtain⟨a,l,c,rfl⟩:=hv
  simp[binOp,this]
 simp[execOp,hx,hy,hg,e1]
end
theorem RSl.hdr {α:Type}{R:Rep α}{G:GH}{v:Value}{xs:List α}(h:RSl R G v xs):∃a l c,v= .slice a l c:=by
 obtain⟨a,c,rfl,_⟩:=h.len;exact⟨_,_,_,rfl⟩
theorem RSl.nil_inv {α:Type}{R:Rep α}{G:GH}{v:Value}{xs:List α}(h:RSl R G v xs)(hn:DT v=true):xs=[]:=by
 obtain⟨vs,hA,h⟩:=h
 rcases h with⟨rfl,h⟩|⟨a,c,rfl,h1,h2,h3⟩
 ·exact h
 ·simp[DT] at hn
theorem Ow.hdr {α:Type}{R:Rep α}{t:TypeId}{W w:World}{G:GH}{it:Itm}{H:List Itm}{v:Value}{xs:List α}(j:Nat)(m:Mem W G w H)(h:Ow R t G it v xs)(hj:H[j]? =some it):∃a l c,v= .slice a l c:=by
 obtain⟨a,c,rfl,_⟩:=h.len (m.front j hj);exact⟨_,_,_,rfl⟩
section
variable {P : Program} {ops : Array Oper} {rest : List Oper} {n r : Bk} {x : List (Nat × Bk)} {a : Act} {w : World} {N : Nat} {L : Br} {d : Nat} {t : TypeId} {pos : String} {af : Array Edge}
theorem EK {fn:Fn}{fs cs:List Operand}{vs us:List Value}(f:Fr a N L)(hN:Nat.blt d N=true)(hf:evalAll L fs=some vs)(hc:evalAll L cs=some us)
  (k:∀a',Fr a' N ((d,.func fn vs.toArray us.toArray)::L)→wpList P ops (Qk n x r) rest a' w):
  wpList P ops (Qk n x r) (⟨some d,.makeFunc fn fs.toArray cs.toArray,t,pos,af,none⟩::rest) a w:=by
 refine Co f rfl rfl hN (r_makeFunc (v:= .func fn vs.toArray us.toArray) ?_) k
 rw[List.map_toArray,List.map_toArray,f.evalAll hf,f.evalAll hc]
 rfl
end
end Go.Sx

namespace Go.Sx
def delD {α:Type}(xs:List α)(i j:Int):Option (List α):=if 0≤i∧i<j∧j≤xs.length then some (xs.take i.toNat++xs.drop j.toNat) else none
section
variable {P : Program} {ops : Array Oper} {rest : List Oper} {n r : Bk} {x : List (Nat × Bk)} {a : Act} {w w' W : World} {G : GH} {H : List Itm} {N : Nat} {L : Br}
variable {d : Nat} {t : TypeId} {pos : String} {af : Array Edge}
theorem l_op0 {o:Oper}{v:Value}(hg:o.guard=none)(hd:o.dst=none)(hr:(execOp a.eval o).run P w= .ok (.value v) w')(k:wpList P ops (Qk n x r) rest a w'):
  wpList P ops (Qk n x r) (o::rest) a w:=by
 refine wpList_plain hg fun K hK=> ?_
 unfold Oper.wp
 rw[hr]
 simp only[Oper.upon,hd]
 exact hK _ _ k
theorem r_slice3 {ρ:Operand→Value}{u e sz bytes:Nat}{z:Value}{xo o1 o2 o3:Operand}{av:Option Addr}{nn c:Nat}{i j q:Int}{k1 k2 k3:IntKind}{dd:Option Tmp}{gd:Option (Nat×Bool)}(hu:SlT P u e sz bytes z)
  (hx:ρ xo= .slice av nn c) (h1:ρ o1= .int k1 i) (h2:ρ o2= .int k2 j) (h3:ρ o3= .int k3 q) (g0:0≤i) (g1:i≤j) (g2:j≤q) (g3:q≤c):
  ∃v,(execOp ρ ⟨dd,.slice u xo (some o1) (some o2) (some o3),t,pos,af,gd⟩).run P w= .ok (.value v) w:=by
 obtain⟨ti,hi1,hi2,hi3,hi4⟩:=hu.info
 have hj0:0≤j:=by omega
 have hq0:0≤q:=by omega
 have ej:(j.toNat:Int)=j:=by omega
 have eq:(q.toNat:Int)=q:=by omega
 simp[execOp,hx,h1,h2,h3,Instr.sliceAt,Instr.slice,run_underlying hu.und,Instr.sliceBounds,Instr.sliceBound,asIntOf,g0,g1,g2,g3,hj0,hq0,ej,eq,sizeOf,typeInfo,hi1,hi2]
theorem l_slice3 {u e sz bytes:Nat}{z:Value}{xo o1 o2 o3:Operand}{av:Option Addr}{nn c:Nat}{i j q:Int}{k1 k2 k3:IntKind}(hu:SlT P u e sz bytes z)(f:Fr a N L)(hN:Nat.blt d N=true)
  (hx:A2 L xo=some (.slice av nn c)) (h1:A2 L o1=some (.int k1 i)) (h2:A2 L o2=some (.int k2 j)) (h3:A2 L o3=some (.int k3 q)) (g0:0≤i) (g1:i≤j) (g2:j≤q) (g3:q≤c)
  (k:∀v a',Fr a' N ((d,v)::L)→wpList P ops (Qk n x r) rest a' w):
  wpList P ops (Qk n x r) (⟨some d,.slice u xo (some o1) (some o2) (some o3),t,pos,af,none⟩::rest) a w:=by
 obtain⟨v,hv⟩:=r_slice3 (P:=P) (w:=w) (t:=t) (pos:=pos) (af:=af) (dd:=some d) (gd:=none) hu (f.eval hx) (f.eval h1) (f.eval h2) (f.eval h3) g0 g1 g2 g3
 exact Co f rfl rfl hN hv (fun a' f'=>k v a' f')
theorem Ow.block {α:Type}{R:Rep α}{tt:TypeId}{it:Itm}{v:Value}{xs:List α}(m:Mem W G w (it::H))(o:Ow R tt G it v xs)(hx:0<xs.length):∃b c,v= .slice (some ⟨b,0,none⟩) xs.length c∧xs.length≤c:=by
 obtain⟨vs,rfl,hA⟩:=o
 have ok:=m.items 0 _ rfl
 rcases ok.2 with⟨rfl,e⟩|⟨g,cap,cur,rfl,_,_,e2,_⟩
 ·omega
 ·exact⟨g,cap,rfl,e2⟩
theorem r_slice_lo {ρ:Operand→Value}{u e bytes:Nat}{z:Value}{xo o2:Operand}{b nn c:Nat}{j:Int}{k2:IntKind}{dd:Option Tmp}{gd:Option (Nat×Bool)}(hu:SlT P u e 1 bytes z)
  (hx:ρ xo= .slice (some ⟨b,0,none⟩) nn c) (h2:ρ o2= .int k2 j) (g0:0≤j) (g1:j≤c):
  (execOp ρ ⟨dd,.slice u xo none (some o2) none,t,pos,af,gd⟩).run P w= .ok (.value (.slice (some ⟨b,0,none⟩) j.toNat c)) w:=by
 have:=EA (P:=P) (w:=w) (t:=t) (pos:=pos) (af:=af) (dd:=dd) (gd:=gd) (lo:=none) (hi:=some o2) (i:=0) (j:=j) hu hx (.inl ⟨rfl,rfl⟩) (.inr ⟨o2,k2,rfl,h2⟩) (by omega) g0 g1
 rw[this]
 have e:(if c=(0:Int).toNat then some (⟨b,0,none⟩:Addr) else(some ⟨b,0,none⟩:Option Addr).map (·.add ((0:Int).toNat*1)))=some ⟨b,0,none⟩:=by
  split
  ·rfl
  ·simp[Addr.add]
 rw[e];simp
theorem r_slice_hi {ρ:Operand→Value}{u e bytes:Nat}{z:Value}{xo o1:Operand}{b nn c:Nat}{i:Int}{k1:IntKind}{dd:Option Tmp}{gd:Option (Nat×Bool)}(hu:SlT P u e 1 bytes z)
  (hx:ρ xo= .slice (some ⟨b,0,none⟩) nn c) (h1:ρ o1= .int k1 i) (g0:0≤i) (g1:i≤nn) (g2:nn≤c):
  (execOp ρ ⟨dd,.slice u xo (some o1) none none,t,pos,af,gd⟩).run P w= .ok (.value (.slice (some ⟨b,(if c=i.toNat then 0 else i.toNat),none⟩) (nn-i.toNat) (c-i.toNat))) w:=by
 have:=EA (P:=P) (w:=w) (t:=t) (pos:=pos) (af:=af) (dd:=dd) (gd:=gd) (lo:=some o1) (hi:=none) (i:=i) (j:=nn) hu hx (.inr ⟨o1,k1,rfl,h1⟩) (.inl ⟨rfl,rfl⟩) g0 g1 (by omega)
 rw[this]
 have e:(if c=i.toNat then some (⟨b,0,none⟩:Addr) else(some ⟨b,0,none⟩:Option Addr).map (·.add (i.toNat*1)))=some ⟨b,(if c=i.toNat then 0 else i.toNat),none⟩:=by
  split
  ·rfl
  ·show some ((⟨b,0,none⟩:Addr).add (i.toNat*1))=_
   rw[BR];simp
 rw[e];simp
theorem r_slice_mid {ρ:Operand→Value}{u e bytes:Nat}{z:Value}{xo o1 o2:Operand}{b nn c l h:Nat}{k1 k2:IntKind}{dd:Option Tmp}{gd:Option (Nat×Bool)}(hu:SlT P u e 1 bytes z)
  (hx:ρ xo= .slice (some ⟨b,0,none⟩) nn c) (h1:ρ o1= .int k1 (l:Int)) (h2:ρ o2= .int k2 (h:Int)) (g1:l<h) (g2:h≤c):
  (execOp ρ ⟨dd,.slice u xo (some o1) (some o2) none,t,pos,af,gd⟩).run P w= .ok (.value (.slice (some ⟨b,l,none⟩) (h-l) (c-l))) w:=by
 have:=EA (P:=P) (w:=w) (t:=t) (pos:=pos) (af:=af) (dd:=dd) (gd:=gd) (lo:=some o1) (hi:=some o2) (i:=(l:Int)) (j:=(h:Int)) hu hx (.inr ⟨o1,k1,rfl,h1⟩) (.inr ⟨o2,k2,rfl,h2⟩) (by omega) (by omega) (by omega)
 rw[this]
 have e:(if c=((l:Int)).toNat then some (⟨b,0,none⟩:Addr) else(some ⟨b,0,none⟩:Option Addr).map (·.add (((l:Int)).toNat*1)))=some ⟨b,l,none⟩:=by
  rw[if_neg (by omega)]
  show some ((⟨b,0,none⟩:Addr).add (((l:Int)).toNat*1))=_
  rw[BR];simp
 rw[e];simp
theorem l_del {α:Type}{R:Rep α}(hO:One R){tt u bytes:Nat}{z:Value}{it:Itm}{b c q mm c2:Nat}{i j:Int}{xs:List α}{s xo:Operand}(m:Mem W G w (it::H))(h:Ow R tt G it (.slice (some ⟨b,0,none⟩) xs.length c) xs)
  (hu:SlT P u tt 1 bytes z) (f:Fr a N L) (hN:Nat.blt d N=true) (g0:0≤i) (g1:i<j) (g2:j≤xs.length)
  (hs:A2 L s=some (.slice (some ⟨b,0,none⟩) i.toNat c)) (hx:A2 L xo=some (.slice (some ⟨b,q,none⟩) mm c2)) (hm:mm=xs.length-j.toNat) (hq:0<mm→q=j.toNat)
  (k:∀it' w' a',Mem W G w' (it'::H)→Ow R tt G it' (.slice (some ⟨b,0,none⟩) (xs.take i.toNat++xs.drop j.toNat).length c) (xs.take i.toNat++xs.drop j.toNat)→Fr a' N ((d,.slice (some ⟨b,0,none⟩) (xs.take i.toNat++xs.drop j.toNat).length c)::L)→wpList P ops (Qk n x r) rest a' w'):
  wpList P ops (Qk n x r) (⟨some d,.call {callee:= .builtin .append,args:= #[s,xo],argTypes:= #[u,u]},t,pos,af,none⟩::rest) a w:=by
 have hlen':(xs.take i.toNat++xs.drop j.toNat).length=i.toNat+mm:=by
  rw[List.length_append,List.length_take,List.length_drop];omega
 rw[hlen'] at k
 obtain⟨vs,rfl,hA⟩:=h
 obtain⟨ti,hi1,hi2,hi3,hi4⟩:=hu.info
 have ok:w.ownsRow 0 tt 1 (.slice (some ⟨b,0,none⟩) xs.length c) xs.length vs:=m.items 0 _ rfl
 have hl0:vs.length=xs.length:=hA.1
 have hcells:=World.ownsRow.cells ok (g:=b) rfl
 rcases ok.2 with⟨e,_⟩|⟨g,cap,cur,e1,_,eh,e2,e3,e4,e5⟩
 ·cases e
 ·cases e1
  simp only[Nat.mul_one] at e4 e5
  have hnews:∀(jj:Nat) v,(vs.drop j.toNat)[jj]? =some v→w.cell? ((⟨b,q,none⟩:Addr).add jj)=some v:=fun jj v hv=>by
   have hpos:0<mm:=by
    have:=(List.getElem?_eq_some_iff.1 hv).1
    simp at this;omega
   rw[hq hpos]
   rw[List.getElem?_drop] at hv
   have:=hcells _ _ hv
   rw[BR] at this ⊢
   rwa [Nat.zero_add] at this
  have h1:∀v∈vs.drop j.toNat,v.oneCell'=true:=fun v hv=>hA.ones hO v (List.mem_of_mem_drop hv)
  have hr:=run_append_room (P:=P) w u t tt ti hu.und hi1 b i.toNat c cur eh ⟨b,q,none⟩ mm c2 (vs.drop j.toNat) (by rw[hi2,List.length_drop];omega) hnews h1 (by omega) (by rw[hi2,List.length_drop];omega)
  refine Co f rfl rfl hN (r_append (f.eval hs) (f.eval hx) hr) (fun a' f'=>k (.row (.slice (some ⟨b,0,none⟩) (i.toNat+mm) c) tt 1 (xs.take i.toNat++xs.drop j.toNat).length (vs.take i.toNat++vs.drop j.toNat)) _ a' ?_ ⟨_,rfl,(hA.take _).append (hA.drop _)⟩ f')
  have hlen:(xs.take i.toNat++xs.drop j.toNat).length=i.toNat+mm:=by
   rw[List.length_append,List.length_take,List.length_drop];omega
  have hcur:cur.toList.take i.toNat=vs.take i.toNat:=by
   rw[←e5,List.take_take];congr 1;omega
  refine m.changeAt 0 rfl rfl rfl rfl (fun y _ hy=>setRow_other w b y _ (fun e=>hy (by simp[Itm.foot,Value.ownBlock,e])))
   ⟨by rw[hlen,List.length_append,List.length_take,List.length_drop];omega,.inr ⟨b,c,_,by rw[hlen],Nat.zero_le _,setRow_heap w b cur _ tt _ eh,by omega,e3,?_,?_⟩⟩ (fun y hy=> .inl (by simpa [Itm.foot,Value.ownBlock] using hy))
  ·simp only[List.size_toArray,List.length_append,List.length_take,List.length_drop,Array.length_toList,hi2]
   omega
  ·simp only[hi2,Nat.mul_one]
   rw[hcur,hlen]
   have:(vs.take i.toNat++vs.drop j.toNat).length=i.toNat+mm:=by
    rw[List.length_append,List.length_take,List.length_drop];omega
   rw[←this]
   exact List.take_left
theorem l_wipe {α:Type}{R:Rep α}{tt u bytes:Nat}{z:Value}{it:Itm}{b c q mm c2:Nat}{xs:List α}{xo:Operand}(m:Mem W G w (it::H))(h:Ow R tt G it (.slice (some ⟨b,0,none⟩) xs.length c) xs)
  (hu:SlT P u tt 1 bytes z) (hz:z.cells= #[z]) (hz1:z.oneCell'=true) (f:Fr a N L) (hx:A2 L xo=some (.slice (some ⟨b,q,none⟩) mm c2)) (hq:xs.length≤q) (hmm:q+mm≤c)
  (k:∀w',Mem W G w' (it::H)→wpList P ops (Qk n x r) rest a w'):
  wpList P ops (Qk n x r) (⟨none,.call {callee:= .builtin .clear,args:= #[xo],argTypes:= #[u]},t,pos,af,none⟩::rest) a w:=by
 obtain⟨vs,rfl,hA⟩:=h
 obtain⟨ti,hi1,hi2,hi3,hi4⟩:=hu.info
 have ok:w.ownsRow 0 tt 1 (.slice (some ⟨b,0,none⟩) xs.length c) xs.length vs:=m.items 0 _ rfl
 have hl0:vs.length=xs.length:=hA.1
 rcases ok.2 with⟨e,_⟩|⟨g,cap,cur,e1,_,eh,e2,e3,e4,e5⟩
 ·cases e
 ·cases e1
  simp only[Nat.mul_one] at e4 e5
  have hz0:(zeroValue tt).run P w= .ok z w:=by simp[zeroValue,typeInfo,hi1,hi4]
  by_cases hm:mm=0
  ·subst hm
   refine l_op0 (v:= .tuple #[]) (w':=w) rfl rfl ?_ (k w m)
   simp[execOp,resolve,invoke,builtin,Builtin.clear_,run_underlying hu.und,f.eval hx]
  ·have hmem:∀v∈(Builtin.zeroCells z.cells mm).toList,v.oneCell'=true:=fun v hv=>by
    rw[hz] at hv
    simp[Builtin.zeroCells] at hv
    obtain⟨_,_,rfl⟩:=hv
    rw[Nat.mod_one];simpa using hz1
   have hsz:(Builtin.zeroCells z.cells mm).toList.length=mm:=by
    rw[Array.length_toList,size_zeroCells,hz];simp
   have hst:=run_storeCells_at P b q tt (Builtin.zeroCells z.cells mm).toList 0 cur w eh (by rw[hsz];omega) hmem
   refine l_op0 (v:= .tuple #[]) (w':=w.setRow b (cur.toList.take (q+0)++(Builtin.zeroCells z.cells mm).toList++cur.toList.drop (q+0+(Builtin.zeroCells z.cells mm).toList.length)).toArray) rfl rfl ?_ (k _ ?_)
   ·obtain⟨m',rfl⟩:∃m',mm=m'+1:=⟨mm-1,by omega⟩
    simp[execOp,resolve,invoke,builtin,Builtin.clear_,run_underlying hu.und,f.eval hx,hz0,hst]
   ·have hm2:=m.changeAt (w':=w.setRow b (cur.toList.take (q+0)++(Builtin.zeroCells z.cells mm).toList++cur.toList.drop (q+0+(Builtin.zeroCells z.cells mm).toList.length)).toArray) (h':= .row (.slice (some ⟨b,0,none⟩) xs.length c) tt 1 xs.length vs) 0 rfl rfl rfl rfl (fun y _ hy=>setRow_other w b y _ (fun e=>hy (by simp[Itm.foot,Value.ownBlock,e])))
     ⟨ok.1,.inr ⟨b,c,_,rfl,Nat.zero_le _,setRow_heap w b cur _ tt _ eh,e2,e3,?_,?_⟩⟩ (fun y hy=> .inl hy)
    ·exact hm2
    ·simp only[List.size_toArray,List.length_append,List.length_take,List.length_drop,Array.length_toList,size_zeroCells,hz]
     simp
     omega
    ·simp only[Nat.mul_one,Nat.add_zero]
     rw[List.append_assoc,List.take_append_of_le_length (by simp;omega),List.take_take,show min xs.length q=xs.length by omega]
     exact e5
end
end Go.Sx

namespace Go.Sx
noncomputable def D.y1 (x0:(List (List Int))):Option (((List (List Int)))):=
 (AV ([]:List (List Int)) x0).bind fun l_9=>some l_9
noncomputable def D.n1 (x0:(List Int)):Option (((List Int))):=
 (AV ([]:List Int) x0).bind fun l_9=>some l_9
noncomputable def D.q1 (x0:(List Int))(x1:Int)(x2:Int):Option ((List Int)):=
 delD x0 x1 x2
noncomputable def D.N0 (x0:(List Int)):Option (((List Int))):=
 (AV ([]:List Int) x0).bind fun l_9=>some l_9
noncomputable def D.M1 (x0_0:(List (List Int)))(x0_1:(List (List Int))):Option (((List (List Int)))×((List (List Int)))):=
 (Ap (σ:=Int×(List (List Int))) (ρ:=((List (List Int)))) (fun(s_100:Int×(List (List Int)))=>match s_100 with|(x_106,l_107)=>cond (decide (x_106<(x0_0.length:Int))) ((idx x0_0 x_106).bind fun e_160=>(D.g e_160).bind fun y_169=>(AV l_107 ([y_169]:List (List Int))).bind fun l_192=>some (.inl ((IntKind.i64.wrap (x_106+1)),l_192))) (some (.inr l_107))) (0,([]:List (List Int)))).bind fun l_153=>(Ap (σ:=Int×(List (List Int))) (ρ:=((List (List Int)))) (fun(s_336:Int×(List (List Int)))=>match s_336 with|(x_342,l_343)=>cond (decide (x_342<(x0_1.length:Int))) ((idx x0_1 x_342).bind fun e_486=>(idx e_486 0).bind fun e_492=>(idx x0_1 x_342).bind fun e_498=>(idx e_498 1).bind fun e_504=>(D.F1 l_343 e_492 e_504).bind fun y_513=>some (.inl ((IntKind.i64.wrap (x_342+1)),y_513))) (some (.inr l_343))) (0,([]:List (List Int)))).bind fun l_435=>some (l_153,l_435)
noncomputable def D.A1 (x0_0:(List (List Int)))(x0_1:(List (List Int))):Option (Int×Int):=
 (Ap (σ:=Int) (ρ:=(Unit) ⊕ (Int×Int)) (fun(x_134:Int)=>cond (decide (x_134<(x0_1.length:Int))) ((idx x0_1 x_134).bind fun e_200=>(idx e_200 0).bind fun e_206=>(idx x0_1 x_134).bind fun e_212=>(idx e_212 1).bind fun e_218=>(idx x0_0 e_218).bind fun e_224=>(idx x0_0 e_206).bind fun e_230=>(D.y e_224 e_230).bind fun y_236=>cond y_236 (some (.inr (.inr (e_218,e_206)))) ((idx x0_0 e_206).bind fun e_242=>(idx x0_0 e_218).bind fun e_248=>(D.y e_242 e_248).bind fun y_254=>cond y_254 (some (.inr (.inr (e_206,e_218)))) (some (.inl (IntKind.i64.wrap (x_134+1)))))) (some (.inr (.inl ())))) 0).bind fun zz=>match zz with| .inl _=>(some ((-1),(-1)))| .inr z=>(some z)
noncomputable def D.C1 (x0:Bool):Option (Int):=
 cond x0 (some 1) (some 0)
noncomputable def D.D1 (x0_0:(List (List Int)))(x0_1:(List (List Int)))(x1:Int)(x2:Int):Option (((List (List Int)))×((List (List Int)))):=
 (Ap (σ:=Int×(List (List Int))) (ρ:=((List (List Int)))) (fun(s_102:Int×(List (List Int)))=>match s_102 with|(x_108,l_109)=>cond (decide (x_108<(x0_0.length:Int))) (cond (x_108 !=x1) ((idx x0_0 x_108).bind fun e_164=>(D.g e_164).bind fun y_173=>(AV l_109 ([y_173]:List (List Int))).bind fun l_196=>some (.inl ((IntKind.i64.wrap (x_108+1)),l_196))) (some (.inl ((IntKind.i64.wrap (x_108+1)),l_109)))) (some (.inr l_109))) (0,([]:List (List Int)))).bind fun l_156=>(Ap (σ:=Int×(List (List Int))) (ρ:=((List (List Int)))) (fun(s_364:Int×(List (List Int)))=>match s_364 with|(x_370,l_371)=>cond (decide (x_370<(x0_1.length:Int))) ((idx x0_1 x_370).bind fun e_473=>(idx e_473 0).bind fun e_479=>(idx x0_1 x_370).bind fun e_485=>(idx e_485 1).bind fun e_491=>((cond (e_479==x1) (some x2) (some e_479):Option (Int))).bind fun x_501=>((cond (e_491==x1) (some x2) (some e_491):Option (Int))).bind fun x_508=>cond (x_501 !=x_508) ((D.C1 (decide (x1<x_501))).bind fun y_538=>(D.C1 (decide (x1<x_508))).bind fun y_541=>(D.F1 l_371 (IntKind.i64.wrap (x_501-y_538)) (IntKind.i64.wrap (x_508-y_541))).bind fun y_547=>some (.inl ((IntKind.i64.wrap (x_370+1)),y_547))) (some (.inl ((IntKind.i64.wrap (x_370+1)),l_371)))) (some (.inr l_371))) (0,([]:List (List Int)))).bind fun l_466=>some (l_156,l_466)
noncomputable def D.K0 (x0:(List Int))(x1_0:Int):Option (Bool):=
 (cond ((x0.length:Int) !=2) (some true) ((D.w x0 x1_0).bind fun y_20=>some (!y_20))).bind fun b_18=>some b_18
noncomputable def D.p1 (x0:(List (List Int)))(x1c0_0:Int):Option (Int):=
 (Ap (σ:=Int) (ρ:=(Unit) ⊕ (Int)) (fun(x_40:Int)=>cond (decide (x_40<(x0.length:Int))) ((idx x0 x_40).bind fun e_60=>(D.K0 e_60 x1c0_0).bind fun y_66=>cond y_66 (some (.inr (.inr x_40))) (some (.inl (IntKind.i64.wrap (x_40+1))))) (some (.inr (.inl ())))) 0).bind fun zz=>match zz with| .inl _=>(some (-1))| .inr z=>(some z)
noncomputable def D.r1 (x0:(List (List Int)))(x1c0_0:Int):Option (Bool):=
 (D.p1 x0 x1c0_0).bind fun y_1=>some (decide ((0:Int)≤y_1))
noncomputable def D.l (x0:(List (List Int)))(x1:Int):Option (Bool):=
 (D.r1 x0 x1).bind fun y_3=>some (!y_3)
noncomputable def D.S0 (x0_0:(List (List Int)))(x0_1:(List (List Int))):Option (((List Int))):=
 (CX (0:Int) (x0_0.length:Int) (x0_0.length:Int)).bind fun l_3=>(Ap (σ:=(List Int)×Int) (ρ:=((List Int))) (fun(s_78:(List Int)×Int)=>match s_78 with|(l_81,x_84)=>cond (decide (x_84<(x0_1.length:Int))) ((idx x0_1 x_84).bind fun e_122=>(idx e_122 0).bind fun e_128=>(idx e_122 1).bind fun e_134=>(D.n0 l_81 e_128 e_134).bind fun y_142=>some (.inl (y_142,(IntKind.i64.wrap (x_84+1))))) (some (.inr l_81))) (l_3,0)).bind fun l_117=>some l_117
noncomputable def D.h0 (x0:(List Int))(x1:Int)(x2:Int):Option (Int):=
 (D.c x1).bind fun y_1=>(Ap (σ:=Int) (ρ:=(Int)) (fun(x_177:Int)=>(D.i x_177).bind fun y_179=>(Ap (σ:=Int×Int) (ρ:=(Int)) (fun(s_223:Int×Int)=>match s_223 with|(x_226,x_227)=>cond (decide (x_227<(y_179.length:Int))) ((idx y_179 x_227).bind fun e_246=>(idx x0 e_246).bind fun e_252=>some (.inl ((ior .u32 x_226 (iand .u32 e_252 x2)),(IntKind.i64.wrap (x_227+1))))) (some (.inr x_226))) (x_177,0)).bind fun x_243=>cond (x_243==x_177) (some (.inr x_177)) (some (.inl x_243))) y_1).bind fun z=>some z
noncomputable def D.T (x0:(List Int))(x1:Int):Option (Bool):=
 (cond (x1 !=0) ((D.G x1).bind fun y_34=>(D.h0 x0 y_34 x1).bind fun y_41=>some (y_41==x1)) (some false)).bind fun b_32=>some b_32
noncomputable def D.C (x0_0:(List (List Int)))(x1_0:(List (List Int)))(x1_1:(List (List Int))):Option (Bool):=
 (D.F x0_0).bind fun y_5=>(cond ((((!y_5)||(decide ((x1_0.length:Int)<1)))||(decide ((16:Int)<(x1_0.length:Int))))||((x1_1.length:Int) !=(IntKind.i64.wrap ((x1_0.length:Int)-1)))) (some true) ((D.l x1_1 (x1_0.length:Int)).bind fun y_40=>some (!y_40))).bind fun b_38=>cond b_38 (some false) ((Ap (σ:=Int) (ρ:=(Unit) ⊕ (Bool)) (fun(x_87:Int)=>cond (decide (x_87<(x1_0.length:Int))) ((idx x1_0 x_87).bind fun e_107=>(D.w e_107 (x0_0.length:Int)).bind fun y_113=>cond (!y_113) (some (.inr (.inr false))) (some (.inl (IntKind.i64.wrap (x_87+1))))) (some (.inr (.inl ())))) 0).bind fun zz=>match zz with| .inl _=>((D.S0 x1_0 x1_1).bind fun y_124=>(D.x x1_0).bind fun y_138=>(D.p y_124).bind fun y_151=>(D.T y_124 y_151).bind fun y_161=>(cond (!y_161) (some true) ((D.v x0_0).bind fun y_224=>(D.m0 y_224 y_138).bind fun y_235=>some (!y_235))).bind fun b_222=>cond b_222 (some false) ((Ap (σ:=Int) (ρ:=(Unit) ⊕ (Bool)) (fun(x_490:Int)=>cond (decide (x_490<(x0_0.length:Int))) ((Ap (σ:=Int×Int) (ρ:=(Int)) (fun(s_662:Int×Int)=>match s_662 with|(x_665,x_666)=>cond (decide (x_666<(y_138.length:Int))) ((idx y_138 x_666).bind fun e_694=>(D.j e_694 x_490).bind fun y_700=>cond y_700 ((D.c x_666).bind fun y_708=>some (.inl ((ior .u32 x_665 y_708),(IntKind.i64.wrap (x_666+1))))) (some (.inl (x_665,(IntKind.i64.wrap (x_666+1)))))) (some (.inr x_665))) (0,0)).bind fun x_691=>(D.T y_124 x_691).bind fun y_715=>cond (!y_715) (some (.inr (.inr false))) (some (.inl (IntKind.i64.wrap (x_490+1))))) (some (.inr (.inl ())))) 0).bind fun zz=>match zz with| .inl _=>(some true)| .inr z=>(some z)))| .inr z=>(some z))
noncomputable def D.b0 (x0:Int)(x1_0:Int)(x2_0:Int):Option (Int):=
 cond (x0==x1_0) (cond (decide (x1_0<x2_0)) (some (IntKind.i64.wrap (x2_0-1))) (some x2_0)) (cond (decide (x1_0<x0)) (some (IntKind.i64.wrap (x0-1))) (some x0))
noncomputable def D.f (x0:(List Int))(x1:(List (List Int)))(x2:Int)(x3:Int):Option (((List Int))×((List (List Int)))):=
 (Ap (σ:=(List (List Int))×Int) (ρ:=((List (List Int)))) (fun(s_152:(List (List Int))×Int)=>match s_152 with|(l_155,x_160)=>cond (decide (x_160<(x1.length:Int))) ((idx x1 x_160).bind fun e_236=>(idx e_236 0).bind fun e_242=>(idx e_236 1).bind fun e_248=>(D.b0 e_242 x2 x3).bind fun y_257=>(D.b0 e_248 x2 x3).bind fun y_267=>cond (y_257 !=y_267) ((D.R y_257 y_267).bind fun y_277=>(AV l_155 ([y_277]:List (List Int))).bind fun l_295=>some (.inl (l_295,(IntKind.i64.wrap (x_160+1))))) (some (.inl (l_155,(IntKind.i64.wrap (x_160+1)))))) (some (.inr l_155))) (([]:List (List Int)),0)).bind fun l_229=>(CF l_229).bind fun y_301=>(D.n1 x0).bind fun y_313=>(D.q1 y_313 x2 (IntKind.i64.wrap (x2+1))).bind fun y_327=>some (y_327,y_301)
noncomputable def D.I0 (x0_0:(List (List Int)))(x0_1:(List (List Int))):Option (((List (List Int)))×((List (List Int)))):=
 (D.x x0_0).bind fun y_8=>(D.y1 x0_1).bind fun y_22=>(CF y_22).bind fun y_35=>(Ap (σ:=(List Int)×(List (List Int))×Bool) (ρ:=((List Int)×(List (List Int)))) (fun(s_853:(List Int)×(List (List Int))×Bool)=>match s_853 with|(l_856,l_861,b_866)=>cond b_866 ((Ap (σ:=Int) (ρ:=((List Int)×(List (List Int))×Bool)) (fun(x_1473:Int)=>cond (decide (x_1473<(l_861.length:Int))) ((idx l_861 x_1473).bind fun e_1582=>(idx e_1582 0).bind fun e_1588=>(idx e_1582 1).bind fun e_1594=>(idx l_856 e_1594).bind fun e_1602=>(idx l_856 e_1588).bind fun e_1608=>cond ((iandNot .u32 e_1602 e_1608)==0) ((D.f l_856 l_861 e_1594 e_1588).bind fun y_1623=>some (.inr (y_1623.1,y_1623.2,true))) ((idx l_856 e_1588).bind fun e_1638=>(idx l_856 e_1594).bind fun e_1644=>cond ((iandNot .u32 e_1638 e_1644)==0) ((D.f l_856 l_861 e_1588 e_1594).bind fun y_1659=>some (.inr (y_1659.1,y_1659.2,true))) (some (.inl (IntKind.i64.wrap (x_1473+1)))))) (some (.inr (l_856,l_861,false)))) 0).bind fun(l_1569,l_1574,b_1579)=>some (.inl (l_1569,l_1574,b_1579))) (some (.inr (l_856,l_861)))) (y_8,y_35,true)).bind fun(l_1266,l_1271)=>(D.J0 l_1266).bind fun y_1674=>(Ap (σ:=Int×(List (List Int))) (ρ:=((List (List Int)))) (fun(s_1777:Int×(List (List Int)))=>match s_1777 with|(x_1783,l_1784)=>cond (decide (x_1783<(l_1271.length:Int))) ((idx l_1271 x_1783).bind fun e_1834=>(D.N0 e_1834).bind fun y_1843=>(AV l_1784 [y_1843]).bind fun l_1863=>some (.inl ((IntKind.i64.wrap (x_1783+1)),l_1863))) (some (.inr l_1784))) (0,([]:List (List Int)))).bind fun l_1827=>some (y_1674,l_1827)
noncomputable def D.A0 (x0_0:(List (List Int)))(x1_0:(List (List Int)))(x1_1:(List (List Int))):Option (((List (List Int)))×((List (List Int)))×Bool):=
 (D.C x0_0 x1_0 x1_1).bind fun y_7=>cond (!y_7) (some (([]:List (List Int)),([]:List (List Int)),false)) ((D.I0 x1_0 x1_1).bind fun y_23=>some (y_23.1,y_23.2,true))
end Go.Sx

namespace Go.Sx
end Go.Sx

namespace Go.Sx
end Go.Sx

namespace Go.Sx
end Go.Sx

namespace Go.Sx
end Go.Sx

namespace Go.Sx
end Go.Sx

namespace Go.Sx
section
variable {P : Program} {ops : Array Oper} {rest : List Oper} {n r : Bk} {x : List (Nat × Bk)} {a : Act} {w : World} {N : Nat} {L : Br}
variable {d : Nat} {t : TypeId} {pos : String} {af : Array Edge} {W : World} {G : GH} {H : List Itm} {α : Type} {E : Rec α}
end
end Go.Sx

namespace Go.Sx
end Go.Sx

namespace Go.Sx
noncomputable def D.B1 (x0:(List Int))(x1:Int)(x2:Int):Option (Int):=
 (D.c x2).bind fun y_1=>(D.h0 x0 x2 (ior .u32 x1 y_1)).bind fun y_8=>(D.i y_8).bind fun y_15=>(Ap (σ:=Int×Int) (ρ:=(Int)) (fun(s_59:Int×Int)=>match s_59 with|(x_62,x_63)=>cond (decide (x_63<(y_15.length:Int))) ((idx y_15 x_63).bind fun e_82=>(idx x0 e_82).bind fun e_88=>some (.inl ((ior .u32 x_62 e_88),(IntKind.i64.wrap (x_63+1))))) (some (.inr x_62))) (0,0)).bind fun x_79=>(D.c x2).bind fun y_94=>some (iandNot .u32 (iandNot .u32 x_79 x1) y_94)
noncomputable def D.Y (x0_0:(List (List Int)))(x1:(List Int)):Option (Int):=
 (D.f0 x0_0 x1).bind fun y_3=>cond (!y_3) (some (-1)) ((D.P0 x0_0 x1).bind fun y_11=>(Ap (σ:=Int×Int) (ρ:=(Int)) (fun(s_57:Int×Int)=>match s_57 with|(x_60,x_61)=>cond (decide (x_61<(y_11.length:Int))) ((idx y_11 x_61).bind fun e_81=>(D.L x_60 (e_81.length:Int)).bind fun y_87=>some (.inl (y_87,(IntKind.i64.wrap (x_61+1))))) (some (.inr x_60))) (0,0)).bind fun x_78=>some x_78)
end Go.Sx

namespace Go.Sx
end Go.Sx

namespace Go.Sx
end Go.Sx

namespace Go.Sx
end Go.Sx

namespace Go.Sx
section
variable {P : Program} {ops : Array Oper} {nn r : Bk} {x : List (Nat × Bk)} {a : Act} {W : World} {T : Act → World → Prop} {H E : List Itm} {G : GH} {N fuel : Nat} {L : Br} {listed listed' : Array Bool}
variable {t : TypeId} {pos : String} {af : Array Edge} {gd : Option (Nat × Bool)} {d i : Nat}
theorem q_own2_len {α:Type}{R:Rep α}{t1 t2:TypeId}{it:Itm}{v:Value}{xs:List (List α)}{u e:Nat}{xo:Operand}{w₀:World}{G₀:GH}{H₀:List Itm}(n:Nat)(j:Nat)(m:Mem W G₀ w₀ H₀)(h:Ow2 R t1 t2 G it v xs)(hj:H₀[j]? =some it)(hu:P.underlying u=some (.slice e))
  (hi:ops[i]? =some ⟨some d,.call {callee:= .builtin .len,args:= #[xo],argTypes:= #[u]},t,pos,af,gd⟩) (hck:BP ops n fuel listed i=true) (hl:listed.setIfInBounds i true=listed') (f:Fr a N L)
  (hw:Region.wanted ⟨some d,.call {callee:= .builtin .len,args:= #[xo],argTypes:= #[u]},t,pos,af,gd⟩ (yielded ops a.tmps)=true) (hN:Nat.blt d N=true) (hx:A2 L xo=some v)
  (k:∀a',Fr a' N ((d,.int .i64 (xs.length:Int))::L)→AnyB W P ops (Qk nn x r) T H fuel G E listed' a'):AnyB W P ops (Qk nn x r) T H (fuel+1) G E listed a:=by
 obtain⟨b,c,rfl,_⟩:=h.len m hj
 exact DF n hi hck hl f hw rfl hN (fun _ _ _ _ _=>En (f.eval hx) hu) k
end
end Go.Sx

namespace Go.Sx
noncomputable def D.u (x0_0:(List (List Int)))(x0_1:(List (List Int))):Option (Int):=
 (D.V0 x0_0).bind fun y_3=>some y_3
noncomputable def D.z0 (x0:Int)(x1_0:Int):Option (Bool):=
 some ((iandNot .u32 x1_0 x0)==0)
noncomputable def D.b1 (x0:(List Int))(x1c0_0:Int):Option (Int):=
 (Ap (σ:=Int) (ρ:=(Unit) ⊕ (Int)) (fun(x_40:Int)=>cond (decide (x_40<(x0.length:Int))) ((idx x0 x_40).bind fun e_60=>(D.z0 e_60 x1c0_0).bind fun y_66=>cond y_66 (some (.inr (.inr x_40))) (some (.inl (IntKind.i64.wrap (x_40+1))))) (some (.inr (.inl ())))) 0).bind fun zz=>match zz with| .inl _=>(some (-1))| .inr z=>(some z)
noncomputable def D.W0 (x0:(List Int))(x1c0_0:Int):Option (Bool):=
 (D.b1 x0 x1c0_0).bind fun y_1=>some (decide ((0:Int)≤y_1))
noncomputable def D.o (x0_0:(List (List Int)))(x1_0:(List (List Int)))(x1_1:(List (List Int))):Option (((List Int))):=
 (D.C x0_0 x1_0 x1_1).bind fun y_5=>cond (!y_5) (some ([]:List Int)) ((((D.v x0_0).bind fun y_75=>(D.x x1_0).bind fun y_89=>some (y_75,y_89,([]:List Int)):Option ((List Int)×(List Int)×(List Int)))).bind fun(l_56,l_61,l_66)=>(D.p l_56).bind fun y_109=>(Ap (σ:=(List Int)×(List Int)×(List Int)×Int) (ρ:=((List Int)) ⊕ (((List Int)))) (fun(s_505:(List Int)×(List Int)×(List Int)×Int)=>match s_505 with|(l_511,l_514,l_517,x_522)=>cond (x_522 !=0) ((D.i x_522).bind fun y_709=>(Ap (σ:=Int) (ρ:=(Int)) (fun(x_791:Int)=>cond (decide (x_791<(y_709.length:Int))) ((idx y_709 x_791).bind fun e_828=>(idx l_511 e_828).bind fun e_834=>(D.c e_828).bind fun y_840=>(D.W0 l_514 (ior .u32 (iand .u32 e_834 x_522) y_840)).bind fun y_850=>cond y_850 (some (.inr e_828)) (some (.inl (IntKind.i64.wrap (x_791+1))))) (some (.inr (-1)))) 0).bind fun x_825=>cond (decide (x_825<0)) (some (.inr (.inr ([]:List Int)))) ((D.a0 l_511 x_522 x_825).bind fun y_862=>(D.c x_825).bind fun y_871=>(AV l_517 ([x_825]:List Int)).bind fun l_882=>some (.inl (y_862,l_514,l_882,(iandNot .u32 x_522 y_871))))) (some (.inr (.inl l_517)))) (l_56,l_61,l_66,y_109)).bind fun zz=>match zz with| .inl l_702=>((D.Q l_702).bind fun y_888=>some y_888)| .inr z=>(some z))
noncomputable def D.u0 (x0_0:(List (List Int)))(x0_1:(List (List Int))):Option (Bool):=
 (cond (((decide ((1:Int)≤(x0_0.length:Int)))&&(decide ((x0_0.length:Int)≤16)))&&(decide ((x0_1.length:Int)≤16))) ((D.l x0_1 (x0_0.length:Int)).bind fun y_28=>some y_28) (some false)).bind fun b_26=>some b_26
noncomputable def D.R0 (x0_0:(List (List Int)))(x0_1:(List (List Int))):Option (((List (List Int)))):=
 (D.u0 x0_0 x0_1).bind fun y_3=>cond (!y_3) (some ([]:List (List Int))) ((Ap (σ:=(List (List Int))×Int) (ρ:=((List (List Int)))) (fun(s_441:(List (List Int))×Int)=>match s_441 with|(l_444,x_449)=>cond (decide (x_449<(x0_1.length:Int))) ((idx x0_1 x_449).bind fun e_665=>(idx e_665 0).bind fun e_675=>(idx x0_0 e_675).bind fun e_681=>(Ap (σ:=(List Int)×Int) (ρ:=((List Int))) (fun(s_770:(List Int)×Int)=>match s_770 with|(l_773,x_778)=>cond (decide (x_778<(e_681.length:Int))) ((idx e_681 x_778).bind fun e_823=>(idx e_665 1).bind fun e_829=>(idx x0_0 e_829).bind fun e_835=>(D.E e_835 e_823).bind fun y_841=>cond y_841 ((AV l_773 ([e_823]:List Int)).bind fun l_851=>some (.inl (l_851,(IntKind.i64.wrap (x_778+1))))) (some (.inl (l_773,(IntKind.i64.wrap (x_778+1)))))) (some (.inr l_773))) (([]:List Int),0)).bind fun l_816=>(AV l_444 ([l_816]:List (List Int))).bind fun l_864=>some (.inl (l_864,(IntKind.i64.wrap (x_449+1))))) (some (.inr l_444))) (([]:List (List Int)),0)).bind fun l_658=>some l_658)
noncomputable def D.t1 (x0:(List Int)):Option (Bool):=
 (D.c1 x0).bind fun y_1=>cond y_1 (some true) ((D.H0 x0 808).bind fun y_9=>(D.O0 y_9.1 y_9.2.1 y_9.2.2 8).bind fun y_20=>(D.y0 y_20.2.1 y_20.2.2.1 y_20.2.2.2 (y_20.1.length:Int)).bind fun y_35=>(D.F0 y_20.1 y_35.1).bind fun y_48=>(cond (!y_48.2.2) (some true) ((D.P y_20.1 y_48.1 y_48.2.1).bind fun y_87=>some (!y_87))).bind fun b_85=>(cond b_85 (some true) ((D.C y_20.1 y_48.1 y_48.2.1).bind fun y_115=>some (!y_115))).bind fun b_113=>(cond b_113 (some true) ((D.u y_48.1 y_48.2.1).bind fun y_149=>(D.Y y_20.1 y_35.1).bind fun y_158=>some (y_149 !=y_158))).bind fun b_147=>cond b_147 (some false) ((D.A0 y_20.1 y_48.1 y_48.2.1).bind fun y_170=>(cond (!y_170.2.2) (some true) ((D.P y_20.1 y_170.1 y_170.2.1).bind fun y_212=>some (!y_212))).bind fun b_210=>(cond b_210 (some true) ((D.u y_170.1 y_170.2.1).bind fun y_246=>(D.u y_48.1 y_48.2.1).bind fun y_255=>some (y_246 !=y_255))).bind fun b_244=>cond (b_244||(decide ((y_48.1.length:Int)<(y_170.1.length:Int)))) (some false) ((D.o y_20.1 y_170.1 y_170.2.1).bind fun y_269=>(D.f0 y_20.1 y_269).bind fun y_426=>(cond y_426 ((D.Y y_20.1 y_269).bind fun y_451=>(D.u y_170.1 y_170.2.1).bind fun y_460=>some (decide (y_451≤y_460))) (some false)).bind fun b_449=>cond b_449 ((D.R0 y_170.1 y_170.2.1).bind fun y_467=>some ((y_467.length:Int)==(IntKind.i64.wrap ((y_170.1.length:Int)-1)))) (some false))))
end Go.Sx

namespace Go.Sx
end Go.Sx

namespace Go.Sx
end Go.Sx

namespace Go.Sx
end Go.Sx

namespace Go.Sx
end Go.Sx

namespace Go.Sx
end Go.Sx

namespace Go.Proofs
open Go.Shelf
def Tryz.lays125_ren :Go.Shelf.Ren:=⟨fun|125=>122|128=>162|129=>163|n=>n,fun|46=>135|3=>3|51=>75|53=>58|4=>4|5=>5|9=>9|n=>n,fun|n=>n⟩
theorem Tryz.lays125 :Go.Proofs.Lays.n125 Tryz.prog Tryz.lays125_ren:={
 mixed:=by kernel_rfl
 f125:=Tryz.func122.trans (congrArg some (by kernel_rfl))
 f128:=Tryz.func162.trans (congrArg some (by kernel_rfl))
 f129:=Tryz.func163.trans (congrArg some (by kernel_rfl))
 t3:=Tryz.underlying3
 a3:=Tryz.isAgg3
 z3:=Tryz.sizeOf3
 v3:=Tryz.zeroValue3
 t4:=Tryz.underlying4
 a4:=Tryz.isAgg4
 z4:=Tryz.sizeOf4
 v4:=Tryz.zeroValue4
 t5:=Tryz.underlying5
 a5:=Tryz.isAgg5
 z5:=Tryz.sizeOf5
 v5:=Tryz.zeroValue5
 t9:=Tryz.underlying9
 a9:=Tryz.isAgg9
 z9:=Tryz.sizeOf9
 v9:=Tryz.zeroValue9
 t46:=Tryz.underlying135
 a46:=Tryz.isAgg135
 z46:=Tryz.sizeOf135
 v46:=Tryz.zeroValue135
 t51:=Tryz.underlying75
 a51:=Tryz.isAgg75
 z51:=Tryz.sizeOf75
 v51:=Tryz.zeroValue75
 t53:=Tryz.underlying58
 a53:=Tryz.isAgg58
 z53:=Tryz.sizeOf58
 v53:=Tryz.zeroValue58}
theorem Tryz.bits_Len (x:Int)(w:World)(h0:0≤x)(h1:x≤18446744073709551615):
  Calls Tryz.prog 122 #[.int .u64 x] w fun e w'=>e= .returned (.int .i64 (Lib.bitLen x.toNat))∧w'=w:=Any.bits_Len Tryz.lays125 x w h0 h1
end Go.Proofs
namespace Go.Proofs.YtebbefpdncgoiaaGreatDoor
open Go Go.Sx
theorem Wk.r {W w:World}{G:GH}{H:List Itm}{x0:Int}(m:Mem W G w H){y:Int}(hd:D.r x0=some y):
  Calls Tryz.prog 122 #[(.int .u64 x0)] w (Res W G H (fun _ Ho v=>Ho=[]∧v=(.int .i64 y))):=by
 unfold D.r at hd
 split at hd
 ·rename_i h
  obtain rfl:=Option.some.inj hd
  exact(Tryz.bits_Len x0 w h.1 h.2).mono (fun e w' ⟨he,hw⟩=>by subst hw;exact⟨_,he,G,[],GLe.refl G,m,rfl,rfl⟩)
 ·cases hd
end Go.Proofs.YtebbefpdncgoiaaGreatDoor

namespace Go.Proofs
open Go.RowKit Go.Shelf
attribute [local go_sem] Oper.semAt_some
namespace YtebbefpdncgoiaaGreatDoor
def Dh {α:Type}(f:Nat→α)(k:Nat):List α:=(List.range k).map f
theorem upto_succ {α:Type}(f:Nat→α)(k:Nat):Dh f (k+1)=Dh f k++[f k]:=by simp[Dh,List.range_succ]
theorem upto_length {α:Type}(f:Nat→α)(k:Nat):(Dh f k).length=k:=by simp[Dh]
theorem upto_all (zs:List Int):Dh (fun j=>zs[j]?.getD 0) zs.length=zs:=by
 apply List.ext_getElem
 ·simp[Dh]
 ·intro i h1 h2
  simp[Dh,h2]
theorem upto_take (zs:List Int){k:Nat}(hk:k≤zs.length):Dh (fun j=>zs[j]?.getD 0) k=zs.take k:=by
 apply List.ext_getElem
 ·simp[Dh,hk]
 ·intro i h1 h2
  have:i<zs.length:=by simp[Dh] at h1;omega
  simp[Dh,this]
set_option maxRecDepth 100000 in
set_option maxHeartbeats 2000000 in
theorem values1_in (F:Fence)(n:Nat)(h7:F.fn 172)(hro:F.round=none)(hn:1≤n)(l Bs n₀ b off len cap:Nat)(zs:List Int)(hreach:len*8≤140737488351232)(hb:len=0∨b<n₀)(J Jx:List Int→World→Prop)
  (hY:∀pre x W,J pre W→pre.length<len→YieldAt F (n-1) Tryz.prog l #[.int .i64 x] W fun e W'=>
   (e= .returned (.bool true)∧J (pre++[x]) W'∧Below n₀ W W')∨(e= .returned (.bool false)∧Jx (pre++[x]) W'))
  (W:World) (hBs:W.cell? ⟨Bs,0,none⟩=some (.slice (some ⟨b,off,none⟩) len cap)) (hc:∀j,j<len→W.cell? ⟨b,off+j,none⟩=some (.int .i64 (zs[j]?.getD 0))) (h0:J [] W):
  CallsIn F n Tryz.prog 172 #[.func (.yield l) #[] #[],.pointer (some ⟨Bs,0,none⟩)] W fun e W'=>(∃v,e= .returned v)∧
   ((∃ys,ys=Dh (fun j=>zs[j]?.getD 0) len∧J ys W')∨(∃pre,(∃k,k≤len∧pre=Dh (fun j=>zs[j]?.getD 0) k)∧Jx pre W')):=by
 refine callsIn_of_wp Tryz.func172 rfl h7 ?_ hro
 simp only[Tryz.ntmps172,List.size_toArray,List.length_cons,List.length_nil,Nat.reduceAdd,Nat.reduceSub,Array.replicate_succ,Array.replicate_zero,List.push_toArray,List.append_toArray,List.nil_append,List.cons_append]
 gi_wp2
 gi_loopw [7] (fun i wr=>∃k:Nat,k≤len∧i= .int .i64 k∧J (Dh (fun j=>zs[j]?.getD 0) k) wr∧Below n₀ W wr)
  (fun i _=>len-(intOf i).toNat)
 case atStart=>exact⟨0,Nat.zero_le _,rfl,h0,Below.refl _ _⟩
 case round=>
  obtain⟨k,hk,rfl,hJs,hnx⟩:=hrel
  have hcx:k<len→wr.cell? ⟨b,off+k,none⟩=some (.int .i64 (zs[k]?.getD 0)):=fun h=>(hnx.cell (p:=⟨b,off+k,none⟩) (hb.resolve_left (by omega))).trans (hc k h)
  by_cases hlt:k<len
  ·obtain⟨fn,tmps,assign,body,hy,hR⟩:=hY _ (zs[k]?.getD 0) wr hJs (by rw[upto_length];exact hlt)
   have hcx':=hcx hlt
   gi_wp2
   refine hR.mono ?_
   rintro e W3 (⟨rfl,hJ3,hk3⟩|⟨rfl,hJx3⟩)
   ·gi_wp2
    go_roundw
    case rel=>exact⟨k+1,by omega,by simp,by rw[upto_succ];exact hJ3,hnx.trans hk3⟩
    case measure=>simp[intOf];omega
   ·gi_wp2
    refine bodyPost_ret (results_none rfl _ _ _) rfl ?_
    exact⟨⟨_,rfl⟩,.inr ⟨_,⟨k+1,by omega,(upto_succ _ _).symm⟩,hJx3⟩⟩
  ·obtain rfl:k=len:=by omega
   gi_wp2
   go_end0
   exact⟨⟨_,rfl⟩,.inl ⟨_,rfl,hJs⟩⟩
def Ints (n₀:Nat)(W:World)(sv:Value)(zs:List Int):Prop:=
 ((∃a c,sv= .slice a 0 c)∧zs=[])∨∃b off cap,sv= .slice (some ⟨b,off,none⟩) zs.length cap∧(zs.length=0∨b<n₀)∧∀j,j<zs.length→W.cell? ⟨b,off+j,none⟩=some (.int .i64 (zs[j]?.getD 0))
theorem Ints.below {n₀:Nat}{A B:World}(h:Below n₀ A B){sv:Value}{zs:List Int}:Ints n₀ A sv zs→Ints n₀ B sv zs
 | .inl e=> .inl e
 | .inr ⟨b,off,cap,e,hb,hc⟩=> .inr ⟨b,off,cap,e,hb,fun j hj=>(h.cell (p:=⟨b,off+j,none⟩) (hb.resolve_left (by omega))).trans (hc j hj)⟩
set_option maxRecDepth 100000 in
set_option maxHeartbeats 1000000 in
theorem values1_nil_in (F:Fence)(n:Nat)(h7:F.fn 172)(hro:F.round=none)(l Bs:Nat)(J:List Int→World→Prop)(W:World)(a:Option Addr)(c:Nat)(hBs:W.cell? ⟨Bs,0,none⟩=some (.slice a 0 c))(h0:J [] W):
  CallsIn F n Tryz.prog 172 #[.func (.yield l) #[] #[],.pointer (some ⟨Bs,0,none⟩)] W fun e W'=>(∃v,e= .returned v)∧J [] W':=by
 refine callsIn_of_wp Tryz.func172 rfl h7 ?_ hro
 simp only[Tryz.ntmps172,List.size_toArray,List.length_cons,List.length_nil,Nat.reduceAdd,Nat.reduceSub,Array.replicate_succ,Array.replicate_zero,List.push_toArray,List.append_toArray,List.nil_append,List.cons_append]
 gi_wp2
 gi_loopw [7] (fun i wr=>i= .int .i64 0∧J [] wr) (fun _ _=>0)
 case atStart=>exact⟨rfl,h0⟩
 case round=>
  obtain⟨rfl,hJs⟩:=hrel
  gi_wp2
  go_end0
  exact⟨⟨_,rfl⟩,hJs⟩
theorem values_stops (F:Fence)(n:Nat)(h7:F.fn 172)(hro:F.round=none)(hn:1≤n)(Bs n₀:Nat)(sv:Value)(zs:List Int)(hreach:zs.length*8≤140737488351232)(w:World)(hBs:Bs<w.heap.size)(hn₀:n₀≤w.heap.size)
  (hc:w.cell? ⟨Bs,0,none⟩=some sv) (hI:Ints n₀ w sv zs):
  SeqStopsK F n Tryz.prog 172 #[.pointer (some ⟨Bs,0,none⟩)] (fun x:Int=> #[Value.int .i64 x]) (Below n₀) (fun ys=>ys=zs) (fun pre=>pre<+:zs) zs.length w:=fun l J Jx W hW _ _ hY h0=>by
 have hc':=(hW.cell (p:=⟨Bs,0,none⟩) hBs).trans hc
 rcases hI.below (hW.mono hn₀) with⟨⟨a,c,rfl⟩,rfl⟩|⟨b,off,cap,rfl,hb,hcs⟩
 ·exact(values1_nil_in F n h7 hro l Bs J W a c hc' h0).mono fun e W' ⟨he,hj⟩=>⟨he,.inl ⟨_,rfl,hj⟩⟩
 ·refine(values1_in F n h7 hro hn l Bs n₀ b off zs.length cap zs hreach hb J Jx hY W hc' hcs h0).mono ?_
  rintro e W' ⟨he,⟨ys,rfl,hj⟩|⟨pre,⟨k,hk,rfl⟩,hj⟩⟩
  ·exact⟨he,.inl ⟨_,upto_all zs,hj⟩⟩
  ·exact⟨he,.inr ⟨_,by rw[upto_take zs hk];exact List.take_prefix _ _,hj⟩⟩
theorem info2 :(Tryz.prog.info? 2).map (fun i=>(i.zero,i.size,i.bytes))=some (some (.int .i64 0),1,8):=by kernel_rfl
set_option maxRecDepth 100000 in
set_option maxHeartbeats 4000000 in
theorem AppendSeq_in (F:Fence)(n:Nat)(h3:F.fn 194)(h5:F.fn 172)(hro:F.round=none)(hn:3≤n)(Bs:Nat)(sv:Value)(xs:List Int)(hlen:xs.length≤maxLen)(hbytes:xs.length*8≤140737488351232)(w:World)(hBs:Bs<w.heap.size)(hc:w.cell? ⟨Bs,0,none⟩=some sv)(hL:Ints w.heap.size w sv xs):
  CallsIn F n Tryz.prog 194 #[.slice none 0 0,.func (.func 172) #[] #[.pointer (some ⟨Bs,0,none⟩)]] w fun e W'=>∃v,e= .returned v∧W'.ownsRow w.heap.size 2 1 v xs.length (xs.map (Value.int .i64))∧Below w.heap.size w W':=by
 have h1:1≤n:=by omega
 obtain⟨i0,hi,hz0,hz1,hz2⟩:=info_parts info2
 refine callsIn_of_wp_marks Tryz.func194 rfl h3 ?_ hro
 simp only[Tryz.ntmps194,List.size_toArray,List.length_cons,List.length_nil,Nat.reduceAdd,Nat.reduceSub,Array.replicate_succ,Array.replicate_zero,List.push_toArray,List.append_toArray,List.nil_append,List.cons_append]
 gi_wp2
 have bO:=Boxed.new w 42 (.slice none 0 0)
 have hB0:Below w.heap.size w (w.alloc (.cells #[.slice none 0 0] 42)):=(Below.refl _ w).alloc (Nat.le_refl _) _
 refine wpIn_rangeFunc_ownG hro h1 (gf:=172) (lb:= #[.pointer (some ⟨Bs,0,none⟩)]) rfl h5 (enters_of Tryz.func172 (by kernel_rfl) rfl)
  (values_stops F (n-1) h5 hro (by omega) Bs w.heap.size sv xs hbytes _ (by simp;omega) (by simp) ((hB0.cell (p:=⟨Bs,0,none⟩) hBs).trans hc) (hL.below hB0)) belowK_t (belowK_b (by simp)) (Below.refl _ _) (fun _=>rfl)
  (fun pre W=>(∃v,Boxed W w.heap.size 42 v∧W.ownsRow w.heap.size 2 1 v pre.length (pre.map (Value.int .i64))∧(v= .slice none 0 0↔pre=[]))∧Below w.heap.size w W)
  (fun _ _ _=>False)
  (OwnFrom.and (Own.from (holdsRow_own w.heap.size w.heap.size 42 2 1 (fun pre=>pre.length) (fun pre=>pre.map (Value.int .i64)) (fun pre v=>v= .slice none 0 0↔pre=[])) _) (ownFrom_below (Nat.le_refl _) (by simp)))
  (fun _ _ _ _ _ hs _ _=>hs)
  ⟨⟨_,bO,World.ownsRow_nil _ _ _ _,by simp⟩,hB0⟩
  (fun x=>{tmps:= #[.slice none 0 0,.func (.func 172) #[] #[.pointer (some ⟨Bs,0,none⟩)],.pointer (some ⟨w.heap.size,0,none⟩),undef,.slice none 0 0,.int .i64 x,.func (.func 172) #[] #[.pointer (some ⟨Bs,0,none⟩)],.int .i64 x,undef,undef,undef,undef,undef],defers:=[]}) ?assign ?body ?done ?stop
 case assign=>
  intro l x W K hK
  gi_wp2
  exact hK
 case body=>
  rintro l pre x W ⟨⟨v,hv,hrow,hnil⟩,hB⟩ hlt
  have hc:=hv.cell
  gi_wp2_with (gi_at_builtin;refine wpListIn_append_own _ rfl _ _ 42 rfl w.heap.size 2 i0 (.int .i64 0) 1 8 Tryz.underlying42 hi hz0 hz1 hz2 rfl (by decide) _ _ _ rfl (hrow.alloc _) ⟨W.heap.size,0,none⟩ 1 1 [.int .i64 x] rfl rfl (cell_one_new _ _ _) (by simp[Value.oneCell']) (by omega) (by omega) (by have:=hB.size;simp;omega) ?_;intro v' w1 hown' hgrow _;obtain⟨g',cap',rfl⟩:=ownsRow_succ hown';obtain⟨hv1,hv2,hr2,hk2,hb2⟩:=hv.appended (by decide) hrow hB.size (Nat.le_refl _) hown' hgrow;have hc1:=hv1.cell;have hf1:=hv1.frozen)
  exact⟨hk2.from _,hb2,⟨_,hv2,by simpa using hr2,by simp⟩,hB.trans hb2⟩
 case done=>
  rintro D ys W hD rfl ⟨⟨v,hv,hrow,hnil⟩,hB⟩ hK
  have hc:=hv.cell
  gi_wp2
  refine⟨by simp,.inl ⟨_,_,rfl,run_takeDeferred hK,?_⟩⟩
  exact⟨_,results_tmp rfl _ _ _,v,rfl,ownsRow_putObj hrow _ hK rfl,hB.trans (belowK_b (w:=w) (Nat.le_refl _) W D _ _ (by simp at hD;omega) hK rfl rfl)⟩
 case stop=>
  rintro D c pre W _ _ h _
  exact h.elim
set_option maxHeartbeats 1000000 in
theorem values_in (F:Fence)(n:Nat)(h5:F.fn 134)(hro:F.round=none)(a:Option Addr)(len cap:Nat)(w:World):
  CallsIn F n Tryz.prog 134 #[.slice a len cap] w fun e w'=>e= .returned (.func (.func 172) #[] #[.pointer (some ⟨w.heap.size,0,none⟩)])∧w'=w.alloc (.cells #[.slice a len cap] 42):=by
 refine callsIn_of_wp Tryz.func134 rfl h5 ?_ hro
 simp only[Tryz.ntmps134,List.size_toArray,List.length_cons,List.length_nil,Nat.reduceAdd,Nat.reduceSub,Array.replicate_succ,Array.replicate_zero,List.push_toArray,List.append_toArray,List.nil_append,List.cons_append]
 gi_wp2
 go_ret
 exact⟨rfl,rfl⟩
open Go.Sx in
theorem Wk.O1 {W w:World}{G:GH}{H:List Itm}{v:Value}{x:List Int}(m:Mem W G w H)(h:RSl (RI .i64) G v x):
  Calls Tryz.prog 134 #[v] w (Res W G H (fun _ Ho r=>∃b,Ho=[Itm.box b 42 [v]]∧ .func (.func 172) #[] #[.pointer (some ⟨b,0,none⟩)]=r)):=by
 obtain⟨a,c,rfl,_,_⟩:=h.len
 refine(callsIn_wide (n:=3)).1 ((values_in Fence.wide 3 trivial rfl a x.length c w).mono ?_)
 rintro e w' ⟨rfl,rfl⟩
 exact⟨_,rfl,G,[.box w.heap.size 42 [.slice a x.length c]],GLe.refl G,m.alloc 42 [.slice a x.length c],_,rfl,rfl⟩
open Go.Sx in
theorem Wk.w1 {W w:World}{G:GH}{H:List Itm}{b0:Nat}{v:Value}{x y:List Int}(m:Mem W G w (Itm.box b0 42 [v]::H))(h:RSl (RI .i64) G v x)(hy:D.w1 x=some y):
  Calls Tryz.prog 194 #[.slice none 0 0,.func (.func 172) #[] #[.pointer (some ⟨b0,0,none⟩)]] w (Res W G H (fun G' Ho r=>∃r' it,Ho=[it]∧r'=r∧Go.Sx.Ow (RI .i64) 2 G' it r' y)):=by
 unfold D.w1 at hy
 split at hy
 ·rename_i hx
  obtain rfl:=Option.some.inj hy
  have hb0:w.heap[b0]? =some (.cells #[v] 42 (0,0)):=m.items 0 (.box b0 42 [v]) rfl
  have hc:w.cell? ⟨b0,0,none⟩=some v:=by simp[World.cell?,hb0]
  have hl:b0<w.heap.size:=(Array.getElem?_eq_some_iff.1 hb0).1
  have hI:Ints w.heap.size w v x:=by
   obtain⟨vs,hA,h⟩:=h
   rcases h with⟨rfl,rfl⟩|⟨⟨b,off,sp⟩,cap,rfl,h1,h2,h3⟩
   ·exact .inl ⟨⟨_,_,rfl⟩,rfl⟩
   ·rcases Nat.eq_zero_or_pos x.length with h0|h0
    ·refine .inl ⟨⟨_,_,by rw[h0]⟩,List.eq_nil_of_length_eq_zero h0⟩
    ·obtain⟨c,hc,_⟩:=hA.get (i:=0) (x:=x[0]) (by simp[h0])
     obtain⟨rfl,cs,t,f,k1,_⟩:=h3 0 c hc
     refine .inr ⟨b,off,cap,rfl,.inr (m.glt k1),fun j hj=> ?_⟩
     obtain⟨c,hc,hR⟩:=hA.get (i:=j) (x:=x[j]) (by simp[hj])
     have:=(h3 j c hc).2.get m
     rw[this,show c= .int .i64 x[j] from hR]
     simp[hj]
  refine(callsIn_wide (n:=3)).1 ((AppendSeq_in Fence.wide 3 trivial trivial rfl (by omega) b0 v x (by unfold maxLen;omega) (by omega) w hl hc hI).mono ?_)
  rintro e w' ⟨r,rfl,hrow,hB⟩
  refine⟨_,rfl,G,[.row r 2 1 x.length (x.map (Value.int .i64))],GLe.refl G,?_,r,_,rfl,rfl,x.map (Value.int .i64),rfl,by simp,fun i c z h1 h2=> ?_⟩
  ·refine m.tail.add hB.os hB.tape hB.output (fun z hz=>hB.block z hz) ?_ ?_
   ·refine⟨hrow.1,?_⟩
    rcases hrow.2 with hn|⟨g,cap,cur,e1,_,e3⟩
    ·exact .inl hn
    ·exact .inr ⟨g,cap,cur,e1,Nat.zero_le _,e3⟩
   ·intro z hz
    rcases hrow.2 with⟨rfl,_⟩|⟨g,cap,cur,rfl,e2,e3⟩
    ·simp[Itm.foot,Value.ownBlock] at hz
    ·simp[Itm.foot,Value.ownBlock] at hz;omega
  ·rw[List.getElem?_map,h2] at h1
   exact(Option.some.inj h1).symm
 ·cases hy
end YtebbefpdncgoiaaGreatDoor
end Go.Proofs

namespace Go.Sx
theorem w64 {x:Int}(h1: -9223372036854775808≤x)(h2:x<9223372036854775808):IntKind.i64.wrap x=x:=by
 simp only[IntKind.wrap,IntKind.bits,IntKind.signed]
 have e:(2:Int)^64=18446744073709551616:=by decide
 have e':(2:Int)^(64-1)=9223372036854775808:=by decide
 simp
 omega
theorem dlt {i n:Nat}(h:i<n):decide ((i:Int)<(n:Int))=true:=by simp;omega
theorem A9 {n:Nat}:decide ((n:Int)<(n:Int))=false:=by simp
theorem Ay {α:Type}{xs:List α}{i:Nat}(h:i<xs.length):idx xs (i:Int)=some xs[i]:=by
 unfold idx;rw[if_pos (by omega)];simp[h]
theorem idx_int {α:Type}{xs:List α}{i:Int}(h0:0≤i)(h:i<xs.length):idx xs i=some (xs[i.toNat]'(by omega)):=by
 unfold idx;rw[if_pos h0];simp
theorem wi {i:Nat}(h:i<4611686018427387904):IntKind.i64.wrap ((i:Int)+1)=((i+1:Nat):Int):=by
 rw[w64 (by omega) (by omega)];rfl
theorem wi' {i n:Nat}(h:i<n)(hn:n≤4611686018427387904):IntKind.i64.wrap ((i:Int)+1)=((i+1:Nat):Int):=wi (by omega)
theorem Av {α:Type}{xs:List α}{i:Nat}(h:i<xs.length)(d:α):xs.getD i d=xs[i]:=by simp[h]
theorem A4 {α:Type}{xs ys:List α}(h:xs.length+ys.length≤4294967296):AV xs ys=some (xs++ys):=by
 unfold AV;rw[if_pos h]
theorem sliceD_pre {α:Type}{xs:List α}{i:Nat}(h:i≤xs.length):CC xs 0 (i:Int)=some (xs.take i):=by
 unfold CC;rw[if_pos ⟨by omega,by omega,by omega⟩];simp
theorem sliceD_post {α:Type}{xs:List α}{i:Nat}(h:i≤xs.length):CC xs (i:Int) (xs.length:Int)=some (xs.drop i):=by
 unfold CC;rw[if_pos ⟨by omega,by omega,by omega⟩];simp
theorem Di {α:Type}{z:α}{n:Nat}{c:Int}(h:(n:Int)≤c)(h2:c≤4294967296):CX z (n:Int) c=some (List.replicate n z):=by
 unfold CX;rw[if_pos ⟨by omega,h,h2⟩];simp
theorem makeD_zero {α:Type}{z:α}{c:Int}(h:0≤c)(h2:c≤4294967296):CX z 0 c=some []:=by
 unfold CX;rw[if_pos ⟨by omega,h,h2⟩];simp
def Stp {σ ρ:Type}(I:σ→Prop)(μ:σ→Nat)(Post:ρ→Prop)(s:σ):σ ⊕ ρ→Prop
 | .inl s'=>I s'∧μ s'<μ s
 | .inr r=>Post r
theorem AM {σ ρ β:Type}{step:σ→Option (σ ⊕ ρ)}{s:σ}{k:ρ→Option β}{Q:β→Prop}(I:σ→Prop)(μ:σ→Nat)(Post:ρ→Prop)
  (hstep:∀s,I s→∃y,step s=some y∧Stp I μ Post s y) (h0:I s) (hk:∀r,Post r→∃y,k r=some y∧Q y):∃y,(Ap step s).bind k=some y∧Q y:=by
 obtain⟨r,hr,hp⟩:=loopF_inv (step:=step) I μ Post (fun s hs=>by
  obtain⟨y,hy,hq⟩:=hstep s hs
  cases y with
  |inl s'=>exact .inl ⟨s',hy,hq.1,hq.2⟩
  |inr r=>exact .inr ⟨r,hy,hq⟩) s h0
 rw[hr]
 exact hk r hp
theorem BI {α β:Type}{e:Option α}{k:α→Option β}{Q:β→Prop}(R:α→Prop)(h:∃x,e=some x∧R x)(hk:∀x,R x→∃y,k x=some y∧Q y):∃y,e.bind k=some y∧Q y:=by
 obtain⟨x,rfl,hx⟩:=h
 exact hk x hx
theorem bind_eq {α β:Type}{e:Option α}{k:α→Option β}{Q:β→Prop}{x:α}(h:e=some x)(hk:∃y,k x=some y∧Q y):∃y,e.bind k=some y∧Q y:=by
 subst h;exact hk
theorem loop_steps {S ρ:Type}{step:S→Option (S ⊕ ρ)}(st:Nat→S)(n:Nat)(h:∀i,i<n→step (st i)=some (.inl (st (i+1)))):Ap step (st 0)=Ap step (st n):=by
 have key:∀k,k≤n→Ap step (st 0)=Ap step (st k):=by
  intro k
  induction k with
  |zero=>intro _;rfl
  |succ k ih=>intro hk;rw[ih (by omega),BC (h k (by omega))]
 exact key n (Nat.le_refl n)
theorem B9 {S ρ β:Type}{step:S→Option (S ⊕ ρ)}{k:ρ→Option β}{s0:S}(st:Nat→S)(n:Nat)(r:ρ)(h0:st 0=s0)(h:∀i,i<n→step (st i)=some (.inl (st (i+1))))(he:step (st n)=some (.inr r)):
  (Ap step s0).bind k=k r:=by
 rw[←h0,loop_steps st n h,Bp he];rfl
theorem loop_list {α σ S ρ:Type}{step:S→Option (S ⊕ ρ)}(xs:List α)(enc:σ→Int→S)(f:σ→α→σ)(fin:σ→ρ)(I:σ→Prop)(s0:σ)
  (h0:I s0) (hstep:∀s (i:Nat) (h:i<xs.length),I s→step (enc s i)=some (.inl (enc (f s xs[i]) ((i+1:Nat):Int)))∧I (f s xs[i]))
  (hend:∀s,I s→step (enc s xs.length)=some (.inr (fin s))):Ap step (enc s0 0)=some (fin (xs.foldl f s0))∧I (xs.foldl f s0):=by
 have key:∀(k i:Nat) (s:σ),i+k=xs.length→I s→Ap step (enc s i)=some (fin ((xs.drop i).foldl f s))∧I ((xs.drop i).foldl f s):=by
  intro k
  induction k with
  |zero=>
   intro i s hk hs
   obtain rfl:i=xs.length:=by omega
   simp only[List.drop_length,List.foldl_nil]
   exact⟨Bp (hend s hs),hs⟩
  |succ k ih=>
   intro i s hk hs
   have hi:i<xs.length:=by omega
   obtain⟨h1,h2⟩:=hstep s i hi hs
   rw[BC h1,List.drop_eq_getElem_cons hi,List.foldl_cons]
   exact ih (i+1) _ (by omega) h2
 have:=key xs.length 0 s0 (by omega) h0
 simpa using this
theorem D2 {α σ S ρ β:Type}{step:S→Option (S ⊕ ρ)}{k:ρ→Option β}(xs:List α)(enc:σ→Int→S)(f:σ→α→σ)(fin:σ→ρ)(I:σ→Prop)(s0:σ)
  (h0:I s0) (hstep:∀s (i:Nat) (h:i<xs.length),I s→step (enc s i)=some (.inl (enc (f s xs[i]) ((i+1:Nat):Int)))∧I (f s xs[i]))
  (hend:∀s,I s→step (enc s xs.length)=some (.inr (fin s))):(Ap step (enc s0 0)).bind k=k (fin (xs.foldl f s0)):=by
 rw[(loop_list xs enc f fin I s0 h0 hstep hend).1];rfl
theorem Dm {α β γ S:Type}{step:S→Option (S ⊕ List β)}{k:List β→Option γ}(xs:List α)(enc:List β→Int→S)(f:α→β)(hx:xs.length≤4294967296)
  (hstep:∀s (i:Nat) (h:i<xs.length),s.length=i→step (enc s i)=(AV s [f xs[i]]).bind fun l=>some (.inl (enc l ((i+1:Nat):Int))))
  (hend:∀s,step (enc s xs.length)=some (.inr s)):(Ap step (enc [] 0)).bind k=k (xs.map f):=by
 have key:∀i,i≤xs.length→Ap step (enc [] 0)=Ap step (enc ((xs.take i).map f) i):=by
  intro i
  induction i with
  |zero=>intro _;simp
  |succ i ih=>
   intro hi
   rw[ih (by omega)]
   have h1:=hstep ((xs.take i).map f) i (by omega) (by simp;omega)
   have h2:AV ((xs.take i).map f) [f xs[i]]=some ((xs.take (i+1)).map f):=by
    unfold AV
    rw[if_pos (by simp;omega)]
    rw[List.take_succ_eq_append_getElem (show i<xs.length by omega),List.map_append];rfl
   rw[h2] at h1
   rw[BC h1]
 rw[key xs.length (Nat.le_refl _),List.take_length,Bp (hend _)];rfl
theorem loop_nat {σ S ρ:Type}{step:S→Option (S ⊕ ρ)}(n:Nat)(enc:σ→Int→S)(f:σ→Nat→σ)(fin:σ→ρ)(I:Nat→σ→Prop)(s0:σ)
  (h0:I 0 s0) (hstep:∀s (i:Nat),i<n→I i s→step (enc s i)=some (.inl (enc (f s i) ((i+1:Nat):Int)))∧I (i+1) (f s i))
  (hend:∀s,I n s→step (enc s n)=some (.inr (fin s))):Ap step (enc s0 0)=some (fin ((List.range n).foldl f s0))∧I n ((List.range n).foldl f s0):=by
 have key:∀k,k≤n→Ap step (enc s0 0)=Ap step (enc ((List.range k).foldl f s0) k)∧I k ((List.range k).foldl f s0):=by
  intro k
  induction k with
  |zero=>intro _;exact⟨rfl,h0⟩
  |succ k ih=>
   intro hk
   obtain⟨h1,h2⟩:=ih (by omega)
   obtain⟨h3,h4⟩:=hstep _ k (by omega) h2
   rw[List.range_succ,List.foldl_append,List.foldl_cons,List.foldl_nil]
   exact⟨by rw[h1,BC h3],h4⟩
 obtain⟨h1,h2⟩:=key n (Nat.le_refl n)
 exact⟨by rw[h1,Bp (hend _ h2)],h2⟩
theorem CM {ρ : Type} {step : Int → Option (Int ⊕ ρ)} (n : Nat) (c : Nat → Option ρ) (fin : ρ)
    (hstep : ∀ i, i < n → step (i : Int) = match c i with | some r => some (.inr r) | none => some (.inl ((i + 1 : Nat) : Int)))
    (hend : step (n : Int) = some (.inr fin)) : Ap step 0 = some (((List.range n).findSome? c).getD fin) := by
  have key : ∀ (k i : Nat), i + k = n → Ap step (i : Int) = some (((List.range' i k).findSome? c).getD fin) := by
    intro k
    induction k with
    | zero => intro i h; obtain rfl : i = n := by omega
              simpa using Bp hend
    | succ k ih =>
      intro i h
      have h1 := hstep i (by omega)
      rw [List.range'_succ, List.findSome?_cons]
      cases hc : c i with
      | some r => rw [hc] at h1; simpa using Bp h1
      | none => rw [hc] at h1; rw [BC h1]; exact ih (i + 1) (by omega)
  have := key n 0 (by omega)
  simpa [List.range_eq_range'] using this
theorem CA {β:Type}{step:Int→Option (Int ⊕ (Unit ⊕ β))}{k:Unit ⊕ β→Option Bool}(n:Nat)(c:Nat→Bool)(bad:β)
  (hstep:∀i,i<n→step (i:Int)=if c i then some (.inl ((i+1:Nat):Int)) else some (.inr (.inr bad)))
  (hend:step (n:Int)=some (.inr (.inl ()))) (hk1:k (.inl ())=some true) (hk2:k (.inr bad)=some false):
  (Ap step 0).bind k=some ((List.range n).all c):=by
 rw[CM n (fun i=>if c i then none else some (.inr bad)) (.inl ()) (fun i hi=>by rw[hstep i hi];cases c i<;>rfl) hend]
 simp only[Option.bind_some]
 cases h:(List.range n).all c with
 |true=>
  rw[List.findSome?_eq_none_iff.2 (fun x hx=>by rw[if_pos (List.all_eq_true.1 h x hx)])]
  exact hk1
 |false=>
  cases h2:(List.range n).findSome? (fun i=>if c i then none else some (Sum.inr bad)) with
  |none=>
   rw[List.findSome?_eq_none_iff] at h2
   have:(List.range n).all c=true:=List.all_eq_true.2 fun x hx=>by
    have:=h2 x hx
    cases hc:c x
    ·rw[hc] at this;cases this
    ·rfl
   rw[this] at h;cases h
  |some r=>
   obtain⟨x,_,hx⟩:=List.exists_of_findSome?_eq_some h2
   cases hc:c x
   ·rw[hc] at hx;simp at hx;subst hx;exact hk2
   ·rw[hc] at hx;simp at hx
theorem DD {ρ β:Type}{step:Int→Option (Int ⊕ ρ)}{k:ρ→Option β}(n:Nat)(c:Nat→Bool)(fine bad:ρ)
  (hstep:∀i,i<n→step (i:Int)=if c i then some (.inl ((i+1:Nat):Int)) else some (.inr bad))
  (hend:step (n:Int)=some (.inr fine)):(Ap step 0).bind k=cond ((List.range n).all c) (k fine) (k bad):=by
 rw[CM n (fun i=>if c i then none else some bad) fine (fun i hi=>by rw[hstep i hi];cases c i<;>rfl) hend]
 simp only[Option.bind_some]
 cases h:(List.range n).all c with
 |true=>
  rw[List.findSome?_eq_none_iff.2 (fun x hx=>by rw[if_pos (List.all_eq_true.1 h x hx)])]
  rfl
 |false=>
  cases h2:(List.range n).findSome? (fun i=>if c i then none else some bad) with
  |none=>
   rw[List.findSome?_eq_none_iff] at h2
   have:(List.range n).all c=true:=List.all_eq_true.2 fun x hx=>by
    have:=h2 x hx
    cases hc:c x
    ·rw[hc] at this;cases this
    ·rfl
   rw[this] at h;cases h
  |some r=>
   obtain⟨x,_,hx⟩:=List.exists_of_findSome?_eq_some h2
   cases hc:c x
   ·rw[hc] at hx;simp at hx;subst hx;rfl
   ·rw[hc] at hx;simp at hx
theorem loop_anyb {β:Type}{step:Int→Option (Int ⊕ (Unit ⊕ β))}{k:Unit ⊕ β→Option Bool}(n:Nat)(c:Nat→Bool)(good:β)
  (hstep:∀i,i<n→step (i:Int)=if c i then some (.inr (.inr good)) else some (.inl ((i+1:Nat):Int)))
  (hend:step (n:Int)=some (.inr (.inl ()))) (hk1:k (.inl ())=some false) (hk2:k (.inr good)=some true):
  (Ap step 0).bind k=some ((List.range n).any c):=by
 rw[CM n (fun i=>if c i then some (.inr good) else none) (.inl ()) (fun i hi=>by rw[hstep i hi];cases c i<;>rfl) hend]
 simp only[Option.bind_some]
 cases h:(List.range n).any c with
 |false=>
  rw[List.findSome?_eq_none_iff.2 (fun x hx=>by
   have:c x=false:=by
    cases hc:c x
    ·rfl
    ·rw[List.any_eq_true.2 ⟨x,hx,hc⟩] at h;cases h
   rw[this];rfl)]
  exact hk1
 |true=>
  obtain⟨x,hx,hc⟩:=List.any_eq_true.1 h
  cases h2:(List.range n).findSome? (fun i=>if c i then some (Sum.inr good) else none) with
  |none=>
   rw[List.findSome?_eq_none_iff] at h2
   have:=h2 x hx
   rw[hc] at this;cases this
  |some r=>
   obtain⟨y,_,hy⟩:=List.exists_of_findSome?_eq_some h2
   cases hc:c y
   ·rw[hc] at hy;simp at hy
   ·rw[hc] at hy;simp at hy;subst hy;exact hk2
theorem Cr {α:Type}(xs:List α)(p:α→Bool)(c:Nat→Bool)(h:∀i (hi:i<xs.length),c i=p xs[i]):(List.range xs.length).all c=xs.all p:=by
 rw[Bool.eq_iff_iff,List.all_eq_true,List.all_eq_true]
 constructor
 ·intro hh x hx
  obtain⟨i,hi,rfl⟩:=List.getElem_of_mem hx
  rw[←h i hi];exact hh i (List.mem_range.2 hi)
 ·intro hh i hi
  have hi':=List.mem_range.1 hi
  rw[h i hi'];exact hh _ (List.getElem_mem _)
theorem Ex {α:Type}(xs:List α)(p:α→Bool)(c:Nat→Bool)(h:∀i (hi:i<xs.length),c i=p xs[i]):(List.range xs.length).any c=xs.any p:=by
 rw[Bool.eq_iff_iff,List.any_eq_true,List.any_eq_true]
 constructor
 ·rintro⟨i,hi,hc⟩
  have hi':=List.mem_range.1 hi
  exact⟨_,List.getElem_mem hi',by rw[←h i hi'];exact hc⟩
 ·rintro⟨x,hx,hc⟩
  obtain⟨i,hi,rfl⟩:=List.getElem_of_mem hx
  exact⟨i,List.mem_range.2 hi,by rw[h i hi];exact hc⟩
theorem CR (n:Nat)(c:Nat→Bool):(List.range n).all c=true↔∀i,i<n→c i=true:=by
 rw[List.all_eq_true]
 exact⟨fun h i hi=>h i (List.mem_range.2 hi),fun h i hi=>h i (List.mem_range.1 hi)⟩
end Go.Sx



namespace Go.Sx
noncomputable def DG.insertionSort {α:Type}(cmp:α→α→Option Int)(x0:(List α))(x1:Int)(x2:Int):Option (((List α))):=
 (Ap (σ:=(List α)×Int) (ρ:=((List α))) (fun(s_560:(List α)×Int)=>match s_560 with|(l_563,x_566)=>cond (decide (x_566<x2)) ((Ap (σ:=(List α)×Int) (ρ:=((List α))) (fun(s_984:(List α)×Int)=>match s_984 with|(l_987,x_990)=>(cond (decide (x1<x_990)) ((idx l_987 x_990).bind fun e_1079=>(idx l_987 (IntKind.i64.wrap (x_990-1))).bind fun e_1085=>(cmp e_1079 e_1085).bind fun y_1091=>some (decide (y_1091<0))) (some false)).bind fun b_1077=>cond b_1077 ((idx l_987 (IntKind.i64.wrap (x_990-1))).bind fun e_1097=>(idx l_987 x_990).bind fun e_1103=>(idx l_987 x_990).bind fun e_1109=>(idx (l_987.set (Int.toNat x_990) e_1097) (IntKind.i64.wrap (x_990-1))).bind fun e_1117=>some (.inl (((l_987.set (Int.toNat x_990) e_1097).set (Int.toNat (IntKind.i64.wrap (x_990-1))) e_1103),(IntKind.i64.wrap (x_990-1))))) (some (.inr l_987))) (l_563,x_566)).bind fun l_1056=>some (.inl (l_1056,(IntKind.i64.wrap (x_566+1))))) (some (.inr l_563))) (x0,(IntKind.i64.wrap (x1+1)))).bind fun l_844=>some l_844
noncomputable def DG.siftDown {α:Type}(cmp:α→α→Option Int)(x0:(List α))(x1:Int)(x2:Int)(x3:Int):Option (((List α))):=
 (Ap (σ:=(List α)×Int) (ρ:=((List α)) ⊕ (((List α)))) (fun(s_186:(List α)×Int)=>match s_186 with|(l_189,x_192)=>cond (decide (x2≤(IntKind.i64.wrap ((IntKind.i64.wrap (2*x_192))+1)))) (some (.inr (.inl l_189))) ((cond (decide ((IntKind.i64.wrap ((IntKind.i64.wrap ((IntKind.i64.wrap (2*x_192))+1))+1))<x2)) ((idx l_189 (IntKind.i64.wrap (x3+(IntKind.i64.wrap ((IntKind.i64.wrap (2*x_192))+1))))).bind fun e_307=>(idx l_189 (IntKind.i64.wrap ((IntKind.i64.wrap (x3+(IntKind.i64.wrap ((IntKind.i64.wrap (2*x_192))+1))))+1))).bind fun e_313=>(cmp e_307 e_313).bind fun y_319=>some (decide (y_319<0))) (some false)).bind fun b_305=>((cond b_305 (some (IntKind.i64.wrap ((IntKind.i64.wrap ((IntKind.i64.wrap (2*x_192))+1))+1))) (some (IntKind.i64.wrap ((IntKind.i64.wrap (2*x_192))+1))):Option (Int))).bind fun x_328=>(idx l_189 (IntKind.i64.wrap (x3+x_192))).bind fun e_331=>(idx l_189 (IntKind.i64.wrap (x3+x_328))).bind fun e_337=>(cmp e_331 e_337).bind fun y_343=>cond (!(decide (y_343<0))) (some (.inr (.inr l_189))) ((idx l_189 (IntKind.i64.wrap (x3+x_328))).bind fun e_349=>(idx l_189 (IntKind.i64.wrap (x3+x_192))).bind fun e_355=>(idx l_189 (IntKind.i64.wrap (x3+x_192))).bind fun e_361=>(idx (l_189.set (Int.toNat (IntKind.i64.wrap (x3+x_192))) e_349) (IntKind.i64.wrap (x3+x_328))).bind fun e_369=>some (.inl (((l_189.set (Int.toNat (IntKind.i64.wrap (x3+x_192))) e_349).set (Int.toNat (IntKind.i64.wrap (x3+x_328))) e_355),x_328))))) (x0,x1)).bind fun zz=>match zz with| .inl l_283=>(some l_283)| .inr z=>(some z)
noncomputable def DG.heapSort {α:Type}(cmp:α→α→Option Int)(x0:(List α))(x1:Int)(x2:Int):Option (((List α))):=
 (Ap (σ:=(List α)×Int) (ρ:=((List α))) (fun(s_30:(List α)×Int)=>match s_30 with|(l_33,x_36)=>cond (decide ((0:Int)≤x_36)) ((DG.siftDown cmp l_33 x_36 (IntKind.i64.wrap (x2-x1)) x1).bind fun y_54=>some (.inl (y_54,(IntKind.i64.wrap (x_36-1))))) (some (.inr l_33))) (x0,(IntKind.i64.wrap (Int.tdiv (IntKind.i64.wrap ((IntKind.i64.wrap (x2-x1))-1)) 2)))).bind fun l_49=>(Ap (σ:=(List α)×Int) (ρ:=((List α))) (fun(s_144:(List α)×Int)=>match s_144 with|(l_147,x_150)=>cond (decide ((0:Int)≤x_150)) ((idx l_147 (IntKind.i64.wrap (x1+x_150))).bind fun e_194=>(idx l_147 x1).bind fun e_200=>(idx l_147 x1).bind fun e_206=>(idx (l_147.set (Int.toNat x1) e_194) (IntKind.i64.wrap (x1+x_150))).bind fun e_214=>(DG.siftDown cmp ((l_147.set (Int.toNat x1) e_194).set (Int.toNat (IntKind.i64.wrap (x1+x_150))) e_200) 0 x_150 x1).bind fun y_220=>some (.inl (y_220,(IntKind.i64.wrap (x_150-1))))) (some (.inr l_147))) (l_49,(IntKind.i64.wrap ((IntKind.i64.wrap (x2-x1))-1)))).bind fun l_189=>some l_189
noncomputable def DG.breakPatterns {α:Type}(cmp:α→α→Option Int)(x0:(List α))(x1:Int)(x2:Int):Option (((List α))):=
 cond (decide ((8:Int)≤(IntKind.i64.wrap (x2-x1)))) ((D.z (IntKind.i64.wrap (x2-x1))).bind fun y_4=>(Ap (σ:=(List α)×Int×Int) (ρ:=((List α))) (fun(s_103:(List α)×Int×Int)=>match s_103 with|(l_106,x_109,x_110)=>cond (decide (x_109≤(IntKind.i64.wrap ((IntKind.i64.wrap (x1+(IntKind.i64.wrap ((IntKind.i64.wrap (Int.tdiv (IntKind.i64.wrap (x2-x1)) 4))*2))))+1)))) ((D.K x_110).bind fun y_159=>((cond (decide ((IntKind.i64.wrap (x2-x1))≤(IntKind.i64.wrap (iand .u64 y_159.1 (IntKind.u64.wrap (y_4-1)))))) (some (IntKind.i64.wrap ((IntKind.i64.wrap (iand .u64 y_159.1 (IntKind.u64.wrap (y_4-1))))-(IntKind.i64.wrap (x2-x1))))) (some (IntKind.i64.wrap (iand .u64 y_159.1 (IntKind.u64.wrap (y_4-1))))):Option (Int))).bind fun x_170=>(idx l_106 (IntKind.i64.wrap (x1+x_170))).bind fun e_173=>(idx l_106 x_109).bind fun e_179=>(idx l_106 x_109).bind fun e_185=>(idx (l_106.set (Int.toNat x_109) e_173) (IntKind.i64.wrap (x1+x_170))).bind fun e_193=>some (.inl (((l_106.set (Int.toNat x_109) e_173).set (Int.toNat (IntKind.i64.wrap (x1+x_170))) e_179),(IntKind.i64.wrap (x_109+1)),y_159.2))) (some (.inr l_106))) (x0,(IntKind.i64.wrap ((IntKind.i64.wrap (x1+(IntKind.i64.wrap ((IntKind.i64.wrap (Int.tdiv (IntKind.i64.wrap (x2-x1)) 4))*2))))-1)),(IntKind.u64.wrap (IntKind.i64.wrap (x2-x1))))).bind fun l_154=>some l_154) (some x0)
noncomputable def DG.order2 {α:Type}(cmp:α→α→Option Int)(x0:(List α))(x1:Int)(x2:Int)(x3_0:Int):Option (Int×Int×((List α))×Int):=
 (idx x0 x2).bind fun e_1=>(idx x0 x1).bind fun e_7=>(cmp e_1 e_7).bind fun y_13=>cond (decide (y_13<0)) (some (x2,x1,x0,(IntKind.i64.wrap (x3_0+1)))) (some (x1,x2,x0,x3_0))
noncomputable def DG.median {α:Type}(cmp:α→α→Option Int)(x0:(List α))(x1:Int)(x2:Int)(x3:Int)(x4_0:Int):Option (Int×((List α))×Int):=
 (DG.order2 cmp x0 x1 x2 x4_0).bind fun y_1=>(DG.order2 cmp y_1.2.2.1 y_1.2.1 x3 y_1.2.2.2).bind fun y_10=>(DG.order2 cmp y_10.2.2.1 y_1.1 y_10.1 y_10.2.2.2).bind fun y_19=>some (y_19.2.1,y_19.2.2.1,y_19.2.2.2)
noncomputable def DG.medianAdjacent {α:Type}(cmp:α→α→Option Int)(x0:(List α))(x1:Int)(x2_0:Int):Option (Int×((List α))×Int):=
 (DG.median cmp x0 (IntKind.i64.wrap (x1-1)) x1 (IntKind.i64.wrap (x1+1)) x2_0).bind fun y_1=>some (y_1.1,y_1.2.1,y_1.2.2)
noncomputable def DG.choosePivot {α:Type}(cmp:α→α→Option Int)(x0:(List α))(x1:Int)(x2:Int):Option (Int×Int×((List α))):=
 cond (decide ((8:Int)≤(IntKind.i64.wrap (x2-x1)))) (((cond (decide ((50:Int)≤(IntKind.i64.wrap (x2-x1)))) ((DG.medianAdjacent cmp x0 (IntKind.i64.wrap (x1+(IntKind.i64.wrap ((IntKind.i64.wrap (Int.tdiv (IntKind.i64.wrap (x2-x1)) 4))*1)))) 0).bind fun y_44=>(DG.medianAdjacent cmp y_44.2.1 (IntKind.i64.wrap (x1+(IntKind.i64.wrap ((IntKind.i64.wrap (Int.tdiv (IntKind.i64.wrap (x2-x1)) 4))*2)))) y_44.2.2).bind fun y_53=>(DG.medianAdjacent cmp y_53.2.1 (IntKind.i64.wrap (x1+(IntKind.i64.wrap ((IntKind.i64.wrap (Int.tdiv (IntKind.i64.wrap (x2-x1)) 4))*3)))) y_53.2.2).bind fun y_62=>some (y_62.2.1,y_44.1,y_53.1,y_62.1,y_62.2.2)) (some (x0,(IntKind.i64.wrap (x1+(IntKind.i64.wrap ((IntKind.i64.wrap (Int.tdiv (IntKind.i64.wrap (x2-x1)) 4))*1)))),(IntKind.i64.wrap (x1+(IntKind.i64.wrap ((IntKind.i64.wrap (Int.tdiv (IntKind.i64.wrap (x2-x1)) 4))*2)))),(IntKind.i64.wrap (x1+(IntKind.i64.wrap ((IntKind.i64.wrap (Int.tdiv (IntKind.i64.wrap (x2-x1)) 4))*3)))),0)):Option ((List α)×Int×Int×Int×Int))).bind fun(l_35,x_38,x_39,x_40,x_41)=>(DG.median cmp l_35 x_38 x_39 x_40 x_41).bind fun y_71=>cond (y_71.2.2==0) (some (y_71.1,1,y_71.2.1)) (cond (y_71.2.2==12) (some (y_71.1,2,y_71.2.1)) (some (y_71.1,0,y_71.2.1)))) (cond ((0:Int)==0) (some ((IntKind.i64.wrap (x1+(IntKind.i64.wrap ((IntKind.i64.wrap (Int.tdiv (IntKind.i64.wrap (x2-x1)) 4))*2)))),1,x0)) (cond ((0:Int)==12) (some ((IntKind.i64.wrap (x1+(IntKind.i64.wrap ((IntKind.i64.wrap (Int.tdiv (IntKind.i64.wrap (x2-x1)) 4))*2)))),2,x0)) (some ((IntKind.i64.wrap (x1+(IntKind.i64.wrap ((IntKind.i64.wrap (Int.tdiv (IntKind.i64.wrap (x2-x1)) 4))*2)))),0,x0))))
noncomputable def DG.reverseRange {α:Type}(cmp:α→α→Option Int)(x0:(List α))(x1:Int)(x2:Int):Option (((List α))):=
 (Ap (σ:=(List α)×Int×Int) (ρ:=((List α))) (fun(s_65:(List α)×Int×Int)=>match s_65 with|(l_68,x_71,x_72)=>cond (decide (x_71<x_72)) ((idx l_68 x_72).bind fun e_107=>(idx l_68 x_71).bind fun e_113=>(idx l_68 x_71).bind fun e_119=>(idx (l_68.set (Int.toNat x_71) e_107) x_72).bind fun e_127=>some (.inl (((l_68.set (Int.toNat x_71) e_107).set (Int.toNat x_72) e_113),(IntKind.i64.wrap (x_71+1)),(IntKind.i64.wrap (x_72-1))))) (some (.inr l_68))) (x0,x1,(IntKind.i64.wrap (x2-1)))).bind fun l_102=>some l_102
noncomputable def DG.partialInsertionSort {α:Type}(cmp:α→α→Option Int)(x0:(List α))(x1:Int)(x2:Int):Option (Bool×((List α))):=
 (Ap (σ:=(List α)×Int×Int) (ρ:=((List α)) ⊕ (Bool×((List α)))) (fun(s_1625:(List α)×Int×Int)=>match s_1625 with|(l_1628,x_1631,x_1632)=>cond (decide (x_1632<5)) ((Ap (σ:=Int) (ρ:=(Int)) (fun(x_2530:Int)=>(cond (decide (x_2530<x2)) ((idx l_1628 x_2530).bind fun e_2591=>(idx l_1628 (IntKind.i64.wrap (x_2530-1))).bind fun e_2597=>(cmp e_2591 e_2597).bind fun y_2603=>some (!(decide (y_2603<0)))) (some false)).bind fun b_2589=>cond b_2589 (some (.inl (IntKind.i64.wrap (x_2530+1)))) (some (.inr x_2530))) x_1631).bind fun x_2570=>cond (x_2570==x2) (some (.inr (.inr (true,l_1628)))) (cond (decide ((IntKind.i64.wrap (x2-x1))<50)) (some (.inr (.inr (false,l_1628)))) ((idx l_1628 (IntKind.i64.wrap (x_2570-1))).bind fun e_2611=>(idx l_1628 x_2570).bind fun e_2617=>(idx l_1628 x_2570).bind fun e_2623=>(idx (l_1628.set (Int.toNat x_2570) e_2611) (IntKind.i64.wrap (x_2570-1))).bind fun e_2631=>((cond (decide ((2:Int)≤(IntKind.i64.wrap (x_2570-x1)))) ((Ap (σ:=(List α)×Int) (ρ:=((List α))) (fun(s_2947:(List α)×Int)=>match s_2947 with|(l_2950,x_2953)=>cond (decide ((1:Int)≤x_2953)) ((idx l_2950 x_2953).bind fun e_3006=>(idx l_2950 (IntKind.i64.wrap (x_2953-1))).bind fun e_3012=>(cmp e_3006 e_3012).bind fun y_3018=>cond (!(decide (y_3018<0))) (some (.inr l_2950)) ((idx l_2950 (IntKind.i64.wrap (x_2953-1))).bind fun e_3024=>(idx l_2950 x_2953).bind fun e_3030=>(idx l_2950 x_2953).bind fun e_3036=>(idx (l_2950.set (Int.toNat x_2953) e_3024) (IntKind.i64.wrap (x_2953-1))).bind fun e_3044=>some (.inl (((l_2950.set (Int.toNat x_2953) e_3024).set (Int.toNat (IntKind.i64.wrap (x_2953-1))) e_3030),(IntKind.i64.wrap (x_2953-1)))))) (some (.inr l_2950))) (((l_1628.set (Int.toNat x_2570) e_2611).set (Int.toNat (IntKind.i64.wrap (x_2570-1))) e_2617),(IntKind.i64.wrap (x_2570-1)))).bind fun l_3001=>some l_3001) (some ((l_1628.set (Int.toNat x_2570) e_2611).set (Int.toNat (IntKind.i64.wrap (x_2570-1))) e_2617)):Option ((List α)))).bind fun l_2843=>cond (decide ((2:Int)≤(IntKind.i64.wrap (x2-x_2570)))) ((Ap (σ:=(List α)×Int) (ρ:=((List α))) (fun(s_3150:(List α)×Int)=>match s_3150 with|(l_3153,x_3156)=>cond (decide (x_3156<x2)) ((idx l_3153 x_3156).bind fun e_3209=>(idx l_3153 (IntKind.i64.wrap (x_3156-1))).bind fun e_3215=>(cmp e_3209 e_3215).bind fun y_3221=>cond (!(decide (y_3221<0))) (some (.inr l_3153)) ((idx l_3153 (IntKind.i64.wrap (x_3156-1))).bind fun e_3227=>(idx l_3153 x_3156).bind fun e_3233=>(idx l_3153 x_3156).bind fun e_3239=>(idx (l_3153.set (Int.toNat x_3156) e_3227) (IntKind.i64.wrap (x_3156-1))).bind fun e_3247=>some (.inl (((l_3153.set (Int.toNat x_3156) e_3227).set (Int.toNat (IntKind.i64.wrap (x_3156-1))) e_3233),(IntKind.i64.wrap (x_3156+1)))))) (some (.inr l_3153))) (l_2843,(IntKind.i64.wrap (x_2570+1)))).bind fun l_3204=>some (.inl (l_3204,x_2570,(IntKind.i64.wrap (x_1632+1))))) (some (.inl (l_2843,x_2570,(IntKind.i64.wrap (x_1632+1)))))))) (some (.inr (.inl l_1628)))) (x0,(IntKind.i64.wrap (x1+1)),0)).bind fun zz=>match zz with| .inl l_2442=>(some (false,l_2442))| .inr z=>(some z)
noncomputable def DG.partitionEqual {α:Type}(cmp:α→α→Option Int)(x0:(List α))(x1:Int)(x2:Int)(x3:Int):Option (Int×((List α))):=
 (idx x0 x3).bind fun e_1=>(idx x0 x1).bind fun e_7=>(idx x0 x1).bind fun e_13=>(idx (x0.set (Int.toNat x1) e_1) x3).bind fun e_21=>(Ap (σ:=(List α)×Int×Int) (ρ:=((List α)×Int)) (fun(s_739:(List α)×Int×Int)=>match s_739 with|(l_742,x_745,x_746)=>(Ap (σ:=Int) (ρ:=(Int)) (fun(x_1188:Int)=>(cond (decide (x_1188≤x_746)) ((idx l_742 x1).bind fun e_1249=>(idx l_742 x_1188).bind fun e_1255=>(cmp e_1249 e_1255).bind fun y_1261=>some (!(decide (y_1261<0)))) (some false)).bind fun b_1247=>cond b_1247 (some (.inl (IntKind.i64.wrap (x_1188+1)))) (some (.inr x_1188))) x_745).bind fun x_1228=>(Ap (σ:=Int) (ρ:=(Int)) (fun(x_1350:Int)=>(cond (decide (x_1228≤x_1350)) ((idx l_742 x1).bind fun e_1411=>(idx l_742 x_1350).bind fun e_1417=>(cmp e_1411 e_1417).bind fun y_1423=>some (decide (y_1423<0))) (some false)).bind fun b_1409=>cond b_1409 (some (.inl (IntKind.i64.wrap (x_1350-1)))) (some (.inr x_1350))) x_746).bind fun x_1390=>cond (decide (x_1390<x_1228)) (some (.inr (l_742,x_1228))) ((idx l_742 x_1390).bind fun e_1430=>(idx l_742 x_1228).bind fun e_1436=>(idx l_742 x_1228).bind fun e_1442=>(idx (l_742.set (Int.toNat x_1228) e_1430) x_1390).bind fun e_1450=>some (.inl (((l_742.set (Int.toNat x_1228) e_1430).set (Int.toNat x_1390) e_1436),(IntKind.i64.wrap (x_1228+1)),(IntKind.i64.wrap (x_1390-1)))))) (((x0.set (Int.toNat x1) e_1).set (Int.toNat x3) e_7),(IntKind.i64.wrap (x1+1)),(IntKind.i64.wrap (x2-1)))).bind fun(l_1100,x_1103)=>some (x_1103,l_1100)
noncomputable def DG.partition {α:Type}(cmp:α→α→Option Int)(x0:(List α))(x1:Int)(x2:Int)(x3:Int):Option (Int×Bool×((List α))):=
 (idx x0 x3).bind fun e_1=>(idx x0 x1).bind fun e_7=>(idx x0 x1).bind fun e_13=>(idx (x0.set (Int.toNat x1) e_1) x3).bind fun e_21=>(Ap (σ:=Int) (ρ:=(Int)) (fun(x_110:Int)=>(cond (decide (x_110≤(IntKind.i64.wrap (x2-1)))) ((idx ((x0.set (Int.toNat x1) e_1).set (Int.toNat x3) e_7) x_110).bind fun e_171=>(idx ((x0.set (Int.toNat x1) e_1).set (Int.toNat x3) e_7) x1).bind fun e_177=>(cmp e_171 e_177).bind fun y_183=>some (decide (y_183<0))) (some false)).bind fun b_169=>cond b_169 (some (.inl (IntKind.i64.wrap (x_110+1)))) (some (.inr x_110))) (IntKind.i64.wrap (x1+1))).bind fun x_150=>(Ap (σ:=Int) (ρ:=(Int)) (fun(x_272:Int)=>(cond (decide (x_150≤x_272)) ((idx ((x0.set (Int.toNat x1) e_1).set (Int.toNat x3) e_7) x_272).bind fun e_333=>(idx ((x0.set (Int.toNat x1) e_1).set (Int.toNat x3) e_7) x1).bind fun e_339=>(cmp e_333 e_339).bind fun y_345=>some (!(decide (y_345<0)))) (some false)).bind fun b_331=>cond b_331 (some (.inl (IntKind.i64.wrap (x_272-1)))) (some (.inr x_272))) (IntKind.i64.wrap (x2-1))).bind fun x_312=>cond (decide (x_312<x_150)) ((idx ((x0.set (Int.toNat x1) e_1).set (Int.toNat x3) e_7) x1).bind fun e_352=>(idx ((x0.set (Int.toNat x1) e_1).set (Int.toNat x3) e_7) x_312).bind fun e_358=>(idx ((x0.set (Int.toNat x1) e_1).set (Int.toNat x3) e_7) x_312).bind fun e_364=>(idx (((x0.set (Int.toNat x1) e_1).set (Int.toNat x3) e_7).set (Int.toNat x_312) e_352) x1).bind fun e_372=>some (x_312,true,((((x0.set (Int.toNat x1) e_1).set (Int.toNat x3) e_7).set (Int.toNat x_312) e_352).set (Int.toNat x1) e_358))) ((idx ((x0.set (Int.toNat x1) e_1).set (Int.toNat x3) e_7) x_312).bind fun e_378=>(idx ((x0.set (Int.toNat x1) e_1).set (Int.toNat x3) e_7) x_150).bind fun e_384=>(idx ((x0.set (Int.toNat x1) e_1).set (Int.toNat x3) e_7) x_150).bind fun e_390=>(idx (((x0.set (Int.toNat x1) e_1).set (Int.toNat x3) e_7).set (Int.toNat x_150) e_378) x_312).bind fun e_398=>(Ap (σ:=(List α)×Int×Int) (ρ:=((List α)×Int)) (fun(s_1116:(List α)×Int×Int)=>match s_1116 with|(l_1119,x_1122,x_1123)=>(Ap (σ:=Int) (ρ:=(Int)) (fun(x_1565:Int)=>(cond (decide (x_1565≤x_1123)) ((idx l_1119 x_1565).bind fun e_1626=>(idx l_1119 x1).bind fun e_1632=>(cmp e_1626 e_1632).bind fun y_1638=>some (decide (y_1638<0))) (some false)).bind fun b_1624=>cond b_1624 (some (.inl (IntKind.i64.wrap (x_1565+1)))) (some (.inr x_1565))) x_1122).bind fun x_1605=>(Ap (σ:=Int) (ρ:=(Int)) (fun(x_1727:Int)=>(cond (decide (x_1605≤x_1727)) ((idx l_1119 x_1727).bind fun e_1788=>(idx l_1119 x1).bind fun e_1794=>(cmp e_1788 e_1794).bind fun y_1800=>some (!(decide (y_1800<0)))) (some false)).bind fun b_1786=>cond b_1786 (some (.inl (IntKind.i64.wrap (x_1727-1)))) (some (.inr x_1727))) x_1123).bind fun x_1767=>cond (decide (x_1767<x_1605)) (some (.inr (l_1119,x_1767))) ((idx l_1119 x_1767).bind fun e_1807=>(idx l_1119 x_1605).bind fun e_1813=>(idx l_1119 x_1605).bind fun e_1819=>(idx (l_1119.set (Int.toNat x_1605) e_1807) x_1767).bind fun e_1827=>some (.inl (((l_1119.set (Int.toNat x_1605) e_1807).set (Int.toNat x_1767) e_1813),(IntKind.i64.wrap (x_1605+1)),(IntKind.i64.wrap (x_1767-1)))))) (((((x0.set (Int.toNat x1) e_1).set (Int.toNat x3) e_7).set (Int.toNat x_150) e_378).set (Int.toNat x_312) e_384),(IntKind.i64.wrap (x_150+1)),(IntKind.i64.wrap (x_312-1)))).bind fun(l_1477,x_1480)=>(idx l_1477 x1).bind fun e_1833=>(idx l_1477 x_1480).bind fun e_1839=>(idx l_1477 x_1480).bind fun e_1845=>(idx (l_1477.set (Int.toNat x_1480) e_1833) x1).bind fun e_1853=>some (x_1480,false,((l_1477.set (Int.toNat x_1480) e_1833).set (Int.toNat x1) e_1839)))
noncomputable def DG.pdqsortR {α:Type}(cmp:α→α→Option Int):Nat→((List α))→Int→Int→Int→Option (((List α)))
 |0,_,_,_,_=>none
 |fuel+1,x0,x1,x2,x3=>(Ap (σ:=(List α)×Int×Int×Int×Bool×Bool) (ρ:=(((List α)))) (fun(s_398:(List α)×Int×Int×Int×Bool×Bool)=>match s_398 with|(l_401,x_404,x_405,x_406,b_407,b_408)=>cond (decide ((IntKind.i64.wrap (x_405-x_404))≤12)) ((DG.insertionSort cmp l_401 x_404 x_405).bind fun y_411=>some (.inr y_411)) (cond (x_406==0) ((DG.heapSort cmp l_401 x_404 x_405).bind fun y_421=>some (.inr y_421)) (((cond (!b_407) ((DG.breakPatterns cmp l_401 x_404 x_405).bind fun y_449=>some (y_449,(IntKind.i64.wrap (x_406-1)))) (some (l_401,x_406)):Option ((List α)×Int))).bind fun(l_443,x_446)=>(DG.choosePivot cmp l_443 x_404 x_405).bind fun y_458=>((cond (y_458.2.1==2) ((DG.reverseRange cmp y_458.2.2 x_404 x_405).bind fun y_487=>some (y_487,(IntKind.i64.wrap ((IntKind.i64.wrap (x_405-1))-(IntKind.i64.wrap (y_458.1-x_404)))),1)) (some (y_458.2.2,y_458.1,y_458.2.1)):Option ((List α)×Int×Int))).bind fun(l_480,x_483,x_484)=>((cond ((b_407&&b_408)&&(x_484==1)) ((DG.partialInsertionSort cmp l_480 x_404 x_405).bind fun y_521=>cond y_521.1 (some (.inr y_521.2)) (some (.inl y_521.2))) (some (.inl l_480)):Option (((List α)) ⊕ (((List α)))))).bind fun q=>match q with| .inl l_516=>((cond (decide ((0:Int)<x_404)) ((idx l_516 (IntKind.i64.wrap (x_404-1))).bind fun e_550=>(idx l_516 x_483).bind fun e_556=>(cmp e_550 e_556).bind fun y_562=>some (!(decide (y_562<0)))) (some false)).bind fun b_548=>cond b_548 ((DG.partitionEqual cmp l_516 x_404 x_405 x_483).bind fun y_568=>some (.inl (y_568.2,y_568.1,x_405,x_446,b_407,b_408))) ((DG.partition cmp l_516 x_404 x_405 x_483).bind fun y_577=>cond (decide ((IntKind.i64.wrap (y_577.1-x_404))<(IntKind.i64.wrap (x_405-y_577.1)))) ((DG.pdqsortR cmp fuel y_577.2.2 x_404 y_577.1 x_446).bind fun y_587=>some (.inl (y_587,(IntKind.i64.wrap (y_577.1+1)),x_405,x_446,(decide ((IntKind.i64.wrap (Int.tdiv (IntKind.i64.wrap (x_405-x_404)) 8))≤(IntKind.i64.wrap (y_577.1-x_404)))),y_577.2.1))) ((DG.pdqsortR cmp fuel y_577.2.2 (IntKind.i64.wrap (y_577.1+1)) x_405 x_446).bind fun y_596=>some (.inl (y_596,x_404,y_577.1,x_446,(decide ((IntKind.i64.wrap (Int.tdiv (IntKind.i64.wrap (x_405-x_404)) 8))≤(IntKind.i64.wrap (x_405-y_577.1)))),y_577.2.1)))))| .inr q=>(some (.inr q))))) (x0,x1,x2,x3,true,true)).bind fun z=>some z
noncomputable def DG.pdqsort {α:Type}(cmp:α→α→Option Int)(x0:(List α))(x1:Int)(x2:Int)(x3:Int):Option (((List α))):=DG.pdqsortR cmp CU x0 x1 x2 x3
noncomputable def DG.Sort {α:Type}(cmp:α→α→Option Int)(x0:(List α)):Option (((List α))):=
 (D.r (IntKind.u64.wrap (x0.length:Int))).bind fun y_1=>(DG.pdqsort cmp x0 0 (x0.length:Int) y_1).bind fun y_8=>some y_8
end Go.Sx

namespace Go.Sx.Gs
class Srtd (α:Type) where
 dflt:α
 key:α→Int
 good:α→Prop
 cmp:α→α→Option Int
 law:∀x y,good x→good y→∃v,cmp x y=some v∧decide (v<0)=decide (key x<key y)
variable {α : Type} [Srtd α]
def el (l:List α)(i:Int):α:=l.getD i.toNat Srtd.dflt
def at' (l:List α)(i:Int):Int:=Srtd.key (el l i)
theorem AR {l:List α}{i:Int}(h0:0≤i)(h1:i<l.length):idx l i=some (el l i):=by
 unfold idx el
 rw[if_pos h0]
 have:i.toNat<l.length:=by omega
 simp[this]
theorem el_set {l:List α}{i k:Int}{x:α}(h0:0≤i)(h1:i<l.length)(hk:0≤k):el (l.set i.toNat x) k=if k=i then x else el l k:=by
 unfold el
 by_cases h:k=i
 ·subst h
  have:k.toNat<l.length:=by omega
  simp[this]
 ·rw[if_neg h]
  have:i.toNat≠k.toNat:=by omega
  simp[List.getD_eq_getElem?_getD,List.getElem?_set_ne this]
def sw (l:List α)(i j:Int):List α:=(l.set i.toNat (el l j)).set j.toNat (el l i)
theorem sw_len (l:List α)(i j:Int):(sw l i j).length=l.length:=by simp[sw]
theorem Be {l:List α}{i j k:Int}(hi:0≤i)(hi':i<l.length)(hj:0≤j)(hj':j<l.length)(hk:0≤k):
  at' (sw l i j) k=if k=j then at' l i else if k=i then at' l j else at' l k:=by
 unfold sw at'
 rw[el_set hj (by simpa using hj') hk]
 split
 ·rfl
 ·rw[el_set hi hi' hk]
  split<;>rfl
omit [Srtd α] in
theorem BS (z:α):∀(l:List α) (j:Nat),j<l.length→List.Perm (l.set j z) (z::l.eraseIdx j)
 |[],j,h=>by simp at h
 |x::l,0,_=>by simp
 |x::l,j+1,h=>by
  simp only[List.set_cons_succ,List.eraseIdx_cons_succ]
  exact((BS z l j (by simpa using h)).cons x).trans (List.Perm.swap _ _ _)
omit [Srtd α] in
theorem Dv (l:List α)(j:Nat)(h:j<l.length):List.Perm l (l[j]::l.eraseIdx j):=by
 have:=BS l[j] l j h
 rwa [List.set_getElem_self] at this
omit [Srtd α] in
theorem Ea :∀(l:List α) (i j:Nat) (x y:α),l[i]? =some x→l[j]? =some y→List.Perm ((l.set i y).set j x) l
 |[],i,j,x,y,h,_=>by simp at h
 |z::l,0,0,x,y,h,h'=>by simp at h h';subst h;simp
 |z::l,0,j+1,x,y,h,h'=>by
  simp at h h'
  subst h
  simp only[List.set_cons_zero,List.set_cons_succ]
  obtain⟨hj,rfl⟩:=List.getElem?_eq_some_iff.1 h'
  have h1:=BS z l j hj
  have h2:=Dv l j hj
  exact((h1.cons _).trans (List.Perm.swap _ _ _)).trans (h2.symm.cons z)
 |z::l,i+1,0,x,y,h,h'=>by
  simp at h h'
  subst h'
  simp only[List.set_cons_zero,List.set_cons_succ]
  obtain⟨hj,rfl⟩:=List.getElem?_eq_some_iff.1 h
  have h1:=BS z l i hj
  have h2:=Dv l i hj
  exact((h1.cons _).trans (List.Perm.swap _ _ _)).trans (h2.symm.cons z)
 |z::l,i+1,j+1,x,y,h,h'=>by
  simp at h h'
  simp only[List.set_cons_succ]
  exact(Ea l i j x y h h').cons z
theorem sw_perm {l:List α}{i j:Int}(hi:0≤i)(hi':i<l.length)(hj:0≤j)(hj':j<l.length):List.Perm (sw l i j) l:=by
 have h1:i.toNat<l.length:=by omega
 have h2:j.toNat<l.length:=by omega
 exact Ea l i.toNat j.toNat _ _ (by simp[el,h1]) (by simp[el,h2])
structure Rg (a b:Int)(l l':List α):Prop where
 len:l'.length=l.length
 perm:List.Perm l' l
 out:∀k,0≤k→(k<a∨b≤k)→at' l' k=at' l k
 all:∀Q:Int→Prop,(∀k,a≤k→k<b→Q (at' l k))→∀k,a≤k→k<b→Q (at' l' k)
theorem Rg.refl (a b:Int)(l:List α):Rg a b l l:=⟨rfl,List.Perm.refl _,fun _ _ _=>rfl,fun _ h=>h⟩
theorem Rg.trans {a b:Int}{l l' l'':List α}(h:Rg a b l l')(h':Rg a b l' l''):Rg a b l l'':=
 ⟨h'.len.trans h.len,h'.perm.trans h.perm,fun k h0 hk=>(h'.out k h0 hk).trans (h.out k h0 hk),fun Q hQ=>h'.all Q (h.all Q hQ)⟩
theorem Rg.swap {a b i j:Int}{l:List α}(ha:0≤a)(hb:b≤l.length)(hi:a≤i)(hi':i<b)(hj:a≤j)(hj':j<b):Rg a b l (sw l i j):=by
 refine⟨sw_len _ _ _,sw_perm (by omega) (by omega) (by omega) (by omega),fun k h0 hk=> ?_,fun Q hQ k h1 h2=> ?_⟩
 ·rw[Be (by omega) (by omega) (by omega) (by omega) h0,if_neg (by omega),if_neg (by omega)]
 ·rw[Be (by omega) (by omega) (by omega) (by omega) (by omega)]
  split
  ·exact hQ i hi hi'
  ·split
   ·exact hQ j hj hj'
   ·exact hQ k h1 h2
theorem Rg.widen {a b a' b':Int}{l l':List α}(h:Rg a b l l')(ha:a'≤a)(hb:b≤b')(h0:0≤a'):Rg a' b' l l':=by
 refine⟨h.len,h.perm,fun k h0 hk=>h.out k h0 (by omega),fun Q hQ k h1 h2=> ?_⟩
 by_cases hk:a≤k∧k<b
 ·exact h.all Q (fun k h3 h4=>hQ k (by omega) (by omega)) k hk.1 hk.2
 ·rw[h.out k (by omega) (by omega)];exact hQ k h1 h2
def Srt (l:List α)(a b:Int):Prop:=∀i j,a≤i→i<j→j<b→at' l i≤at' l j
def Good (l:List α):Prop:=∀x∈l,Srtd.good x
theorem Rg.good {a b:Int}{l l':List α}(h:Rg a b l l')(hg:Good l):Good l':=fun x hx=>hg x (h.perm.mem_iff.1 hx)
theorem Good.el {l:List α}(h:Good l){i:Int}(h0:0≤i)(h1:i<l.length):Srtd.good (el l i):=by
 unfold Gs.el
 have:i.toNat<l.length:=by omega
 rw[Av this]
 exact h _ (List.getElem_mem this)
theorem CS {l:List α}(h:Good l){i j:Int}(h0:0≤i)(h1:i<l.length)(h2:0≤j)(h3:j<l.length):∃v,Srtd.cmp (el l i) (el l j)=some v∧decide (v<0)=decide (at' l i<at' l j):=
 Srtd.law _ _ (h.el h0 h1) (h.el h2 h3)
theorem Bg {l:List α}{i j:Int}{x:α}(h0:0≤i)(h1:i<l.length):idx (l.set j.toNat x) i=some (el (l.set j.toNat x) i):=AR h0 (by simpa using h1)
end Go.Sx.Gs

namespace Go.Sx.Gs
variable {α : Type} [Srtd α]
theorem C3 (l0:List α)(a b:Int)(ha:0≤a)(hab:a≤b)(hb:b≤l0.length)(hlen:l0.length≤1000000)(hG:Good l0):
  ∃l',DG.insertionSort Srtd.cmp l0 a b=some l'∧Rg a b l0 l'∧Srt l' a b:=by
 unfold DG.insertionSort
 rw[w64 (show-9223372036854775808≤a+1 by omega) (by omega)]
 refine AM (fun s=>Rg a b l0 s.1∧Srt s.1 a s.2∧a+1≤s.2∧s.2≤b+1) (fun s=>(b-s.2).toNat) (fun r=>Rg a b l0 r∧Srt r a b) ?_ ?_ ?_
 ·rintro⟨l,i⟩ ⟨hR,hS,h1,h2⟩
  dsimp only at hR hS h1 h2 ⊢
  have hll:=hR.len
  by_cases hi:i<b
  ·simp only[hi,decide_true,cond_true]
   rw[w64 (show-9223372036854775808≤i+1 by omega) (by omega)]
   refine AM (fun s=>Rg a b l0 s.1∧a≤s.2∧s.2≤i∧∀p q,a≤p→p<q→q≤i→q≠s.2→at' s.1 p≤at' s.1 q) (fun s=>(s.2-a).toNat) (fun r=>Rg a b l0 r∧Srt r a (i+1)) ?_ ?_ ?_
   ·rintro⟨m,j⟩ ⟨hR',g1,g2,hS'⟩
    dsimp only at hR' g1 g2 hS' ⊢
    have hml:=hR'.len
    rw[w64 (show-9223372036854775808≤j-1 by omega) (by omega)]
    by_cases hj:a<j
    ·have r1:idx m j=some (el m j):=AR (by omega) (by omega)
     have r2:idx m (j-1)=some (el m (j-1)):=AR (by omega) (by omega)
     have r3:∀x,idx (m.set j.toNat x) (j-1)=some (el (m.set j.toNat x) (j-1)):=fun x=>Bg (by omega) (by omega)
     obtain⟨v,cv,hv⟩:=CS (hR'.good hG) (i:=j) (j:=j-1) (by omega) (by omega) (by omega) (by omega)
     by_cases hlt:at' m j<at' m (j-1)
     ·refine⟨.inl (sw m j (j-1),j-1),?_,⟨hR'.trans (Rg.swap ha (by omega) (by omega) (by omega) (by omega) (by omega)),by dsimp only;omega,by dsimp only;omega,?_⟩,by dsimp only;omega⟩
      ·simp only[r1,r2,r3,hj,cv,hv,hlt,decide_true,cond_true,Option.bind_some]
       rfl
      ·intro p q k1 k2 k3 k4
       dsimp only at k4 ⊢
       rw[Be (by omega) (by omega) (by omega) (by omega) (by omega),Be (by omega) (by omega) (by omega) (by omega) (by omega)]
       by_cases c1:q=j
       ·subst c1
        rw[if_neg (show¬q=q-1 by omega),if_pos rfl]
        by_cases c2:p=q-1
        ·rw[if_pos c2];omega
        ·rw[if_neg c2,if_neg (by omega)]
         exact hS' p (q-1) k1 (by omega) (by omega) (by omega)
       ·rw[if_neg (show¬q=j-1 by omega),if_neg c1]
        by_cases c2:p=j-1
        ·rw[if_pos c2]
         exact hS' j q (by omega) (by omega) k3 c1
        ·rw[if_neg c2]
         by_cases c3:p=j
         ·rw[if_pos c3]
          exact hS' (j-1) q (by omega) (by omega) k3 c1
         ·rw[if_neg c3]
          exact hS' p q k1 k2 k3 c1
     ·refine⟨.inr m,?_,hR',?_⟩
      ·simp only[r1,r2,hj,cv,hv,hlt,decide_true,decide_false,cond_true,cond_false,Option.bind_some]
      ·intro p q k1 k2 k3
       by_cases c1:q=j
       ·subst c1
        by_cases c2:p=q-1
        ·subst c2;omega
        ·have:=hS' p (q-1) k1 (by omega) (by omega) (by omega)
         omega
       ·exact hS' p q k1 k2 (by omega) c1
    ·refine⟨.inr m,?_,hR',?_⟩
     ·simp only[hj,decide_false,cond_false,Option.bind_some]
     ·intro p q k1 k2 k3
      exact hS' p q k1 k2 (by omega) (by omega)
   ·exact⟨hR,by dsimp only;omega,Int.le_refl _,fun p q k1 k2 k3 k4=>hS p q k1 k2 (by dsimp only at k4 ⊢;omega)⟩
   ·rintro r ⟨hR',hS'⟩
    exact⟨.inl (r,i+1),rfl,⟨hR',hS',by dsimp only;omega,by dsimp only;omega⟩,by dsimp only;omega⟩
  ·refine⟨.inr l,by simp only[hi,decide_false,cond_false],hR,?_⟩
   intro p q k1 k2 k3
   exact hS p q k1 k2 (by omega)
 ·exact⟨Rg.refl _ _ _,fun p q k1 k2 k3=>by dsimp only at k3;omega,by dsimp only;omega,by dsimp only;omega⟩
 ·rintro r hr
  exact⟨r,rfl,hr⟩
end Go.Sx.Gs

namespace Go.Sx.Gs
variable {α : Type} [Srtd α]
theorem C8 (l0:List α)(a b:Int)(ha:0≤a)(hab:a≤b)(hb:b≤l0.length)(hlen:l0.length≤1000000):
  ∃l',DG.reverseRange Srtd.cmp l0 a b=some l'∧Rg a b l0 l':=by
 unfold DG.reverseRange
 rw[w64 (show-9223372036854775808≤b-1 by omega) (by omega)]
 refine AM (fun s=>Rg a b l0 s.1∧a≤s.2.1∧s.2.1≤b∧s.2.2<b∧a-1≤s.2.2) (fun s=>(s.2.2-s.2.1).toNat) (fun r=>Rg a b l0 r) ?_ ?_ ?_
 ·rintro⟨l,i,j⟩ ⟨hR,h1,h2,h3,h4⟩
  dsimp only at hR h1 h2 h3 h4 ⊢
  have hll:=hR.len
  by_cases hi:i<j
  ·have r1:idx l i=some (el l i):=AR (by omega) (by omega)
   have r2:idx l j=some (el l j):=AR (by omega) (by omega)
   have r3:∀x,idx (l.set i.toNat x) j=some (el (l.set i.toNat x) j):=fun x=>Bg (by omega) (by omega)
   rw[w64 (show-9223372036854775808≤i+1 by omega) (by omega),w64 (show-9223372036854775808≤j-1 by omega) (by omega)]
   refine⟨.inl (sw l i j,i+1,j-1),?_,⟨hR.trans (Rg.swap ha (by omega) (by omega) (by omega) (by omega) (by omega)),by dsimp only;omega,by dsimp only;omega,by dsimp only;omega,by dsimp only;omega⟩,by dsimp only;omega⟩
   simp only[r1,r2,r3,hi,decide_true,cond_true,Option.bind_some]
   rfl
  ·exact⟨.inr l,by simp only[hi,decide_false,cond_false],hR⟩
 ·exact⟨Rg.refl _ _ _,by dsimp only;omega,by dsimp only;omega,by dsimp only;omega,by dsimp only;omega⟩
 ·rintro r hr
  exact⟨r,rfl,hr⟩
theorem scanUp {β:Type}{k:Int→Option β}{Q:β→Prop}(l:List α)(hG:Good l)(a hi i0:Int)(ha:0≤a)(ha':a<l.length)(h0:0≤i0)(h1:i0≤hi+1)(h2:hi<l.length)(hlen:l.length≤1000000)
  (hk:∀i,i0≤i→i≤hi+1→(∀q,i0≤q→q<i→at' l q<at' l a)→(i≤hi→¬at' l i<at' l a)→∃y,k i=some y∧Q y):
  ∃y,(Ap (σ:=Int) (ρ:=(Int)) (fun(x:Int)=>(cond (decide (x≤hi)) ((idx l x).bind fun e=>(idx l a).bind fun e'=>(Srtd.cmp e e').bind fun y=>some (decide (y<0))) (some false)).bind fun b=>cond b (some (.inl (IntKind.i64.wrap (x+1)))) (some (.inr x))) i0).bind k=some y∧Q y:=by
 refine AM (fun i=>i0≤i∧i≤hi+1∧∀q,i0≤q→q<i→at' l q<at' l a) (fun i=>(hi+1-i).toNat) (fun i=>i0≤i∧i≤hi+1∧(∀q,i0≤q→q<i→at' l q<at' l a)∧(i≤hi→¬at' l i<at' l a)) ?_ ?_ ?_
 ·rintro i ⟨g1,g2,g3⟩
  by_cases hi':i≤hi
  ·have r1:idx l i=some (el l i):=AR (by omega) (by omega)
   have r2:idx l a=some (el l a):=AR (by omega) (by omega)
   obtain⟨v,cv,hv⟩:=CS hG (i:=i) (j:=a) (by omega) (by omega) (by omega) (by omega)
   by_cases hlt:at' l i<at' l a
   ·refine⟨.inl (i+1),?_,⟨by omega,by omega,fun q q1 q2=> ?_⟩,by dsimp only;omega⟩
    ·simp only[r1,r2,hi',cv,hv,hlt,decide_true,cond_true,Option.bind_some]
     rw[w64 (by omega) (by omega)]
    ·by_cases e:q=i
     ·rw[e];exact hlt
     ·exact g3 q q1 (by omega)
   ·exact⟨.inr i,by simp only[r1,r2,hi',cv,hv,hlt,decide_true,decide_false,cond_true,cond_false,Option.bind_some],g1,g2,g3,fun _=>hlt⟩
  ·exact⟨.inr i,by simp only[hi',decide_false,cond_false,Option.bind_some],g1,g2,g3,fun h=>absurd h hi'⟩
 ·exact⟨Int.le_refl _,h1,fun q q1 q2=>by omega⟩
 ·rintro i ⟨g1,g2,g3,g4⟩
  exact hk i g1 g2 g3 g4
theorem D7 {β:Type}{k:Int→Option β}{Q:β→Prop}(l:List α)(hG:Good l)(a lo j0:Int)(ha:0≤a)(ha':a<l.length)(h0:0≤lo)(h1:lo≤j0+1)(h2:j0<l.length)(hlen:l.length≤1000000)
  (hk:∀j,lo≤j+1→j≤j0→(∀q,j<q→q≤j0→¬at' l q<at' l a)→(lo≤j→at' l j<at' l a)→∃y,k j=some y∧Q y):
  ∃y,(Ap (σ:=Int) (ρ:=(Int)) (fun(x:Int)=>(cond (decide (lo≤x)) ((idx l x).bind fun e=>(idx l a).bind fun e'=>(Srtd.cmp e e').bind fun y=>some (!(decide (y<0)))) (some false)).bind fun b=>cond b (some (.inl (IntKind.i64.wrap (x-1)))) (some (.inr x))) j0).bind k=some y∧Q y:=by
 refine AM (fun j=>lo≤j+1∧j≤j0∧∀q,j<q→q≤j0→¬at' l q<at' l a) (fun j=>(j+1-lo).toNat) (fun j=>lo≤j+1∧j≤j0∧(∀q,j<q→q≤j0→¬at' l q<at' l a)∧(lo≤j→at' l j<at' l a)) ?_ ?_ ?_
 ·rintro j ⟨g1,g2,g3⟩
  by_cases hi':lo≤j
  ·have r1:idx l j=some (el l j):=AR (by omega) (by omega)
   have r2:idx l a=some (el l a):=AR (by omega) (by omega)
   obtain⟨v,cv,hv⟩:=CS hG (i:=j) (j:=a) (by omega) (by omega) (by omega) (by omega)
   by_cases hlt:at' l j<at' l a
   ·exact⟨.inr j,by simp only[r1,r2,hi',cv,hv,hlt,decide_true,Bool.not_true,cond_true,cond_false,Option.bind_some],g1,g2,g3,fun _=>hlt⟩
   ·refine⟨.inl (j-1),?_,⟨by omega,by omega,fun q q1 q2=> ?_⟩,by dsimp only;omega⟩
    ·simp only[r1,r2,hi',cv,hv,hlt,decide_true,decide_false,Bool.not_false,cond_true,Option.bind_some]
     rw[w64 (by omega) (by omega)]
    ·by_cases e:q=j
     ·rw[e];exact hlt
     ·exact g3 q (by omega) q2
  ·exact⟨.inr j,by simp only[hi',decide_false,cond_false,Option.bind_some],g1,g2,g3,fun h=>absurd h hi'⟩
 ·exact⟨h1,Int.le_refl _,fun q q1 q2=>by omega⟩
 ·rintro j ⟨g1,g2,g3,g4⟩
  exact hk j g1 g2 g3 g4
structure Parted (l0 l':List α)(a b mid:Int):Prop where
 rg:Rg a b l0 l'
 lo:a≤mid
 hi:mid<b
 left:∀k,a≤k→k<mid→at' l' k≤at' l' mid
 right:∀k,mid<k→k<b→at' l' mid≤at' l' k
theorem DE (l0:List α)(a b p:Int)(ha:0≤a)(hb:b≤l0.length)(hlen:l0.length≤1000000)(hG:Good l0)(hp:a≤p)(hp':p<b):
  ∃y,DG.partition Srtd.cmp l0 a b p=some y∧Parted l0 y.2.2 a b y.1:=by
 unfold DG.partition
 have r1:idx l0 p=some (el l0 p):=AR (by omega) (by omega)
 have r2:idx l0 a=some (el l0 a):=AR (by omega) (by omega)
 have r3:∀x,idx (l0.set a.toNat x) p=some (el (l0.set a.toNat x) p):=fun x=>Bg (by omega) (by omega)
 simp only[r1,r2,r3,Option.bind_some]
 rw[show (l0.set a.toNat (el l0 p)).set p.toNat (el l0 a)=sw l0 a p from rfl]
 have hR0:Rg a b l0 (sw l0 a p):=Rg.swap ha hb (by omega) (by omega) hp hp'
 generalize sw l0 a p=m0 at hR0 ⊢
 have hm0:=hR0.len
 rw[w64 (show-9223372036854775808≤b-1 by omega) (by omega),w64 (show-9223372036854775808≤a+1 by omega) (by omega)]
 refine scanUp m0 (hR0.good hG) a (b-1) (a+1) ha (by omega) (by omega) (by omega) (by omega) (by omega) (fun i i1 i2 i3 i4=> ?_)
 refine D7 m0 (hR0.good hG) a i (b-1) ha (by omega) (by omega) (by omega) (by omega) (by omega) (fun j j1 j2 j3 j4=> ?_)
 have q1:idx m0 a=some (el m0 a):=AR (by omega) (by omega)
 have q2:idx m0 j=some (el m0 j):=AR (by omega) (by omega)
 by_cases hij:j<i
 ·have q3:∀x,idx (m0.set j.toNat x) a=some (el (m0.set j.toNat x) a):=fun x=>Bg (by omega) (by omega)
  refine⟨(j,true,sw m0 j a),?_,⟨hR0.trans (Rg.swap ha (by omega) (by omega) (by omega) (by omega) (by omega)),by dsimp only;omega,by dsimp only;omega,fun k k1 k2=> ?_,fun k k1 k2=> ?_⟩⟩
  ·simp only[q1,q2,q3,hij,decide_true,cond_true,Option.bind_some]
   rfl
  ·dsimp only at k1 k2 ⊢
   rw[Be (by omega) (by omega) (by omega) (by omega) (by omega),Be (by omega) (by omega) (by omega) (by omega) (by omega)]
   rw[if_neg (show¬j=a by omega),if_pos rfl]
   by_cases e:k=a
   ·rw[if_pos e]
    have:=i3 j (by omega) (by omega);omega
   ·rw[if_neg e,if_neg (by omega)]
    have:=i3 k (by omega) (by omega);omega
  ·dsimp only at k1 k2 ⊢
   rw[Be (by omega) (by omega) (by omega) (by omega) (by omega),Be (by omega) (by omega) (by omega) (by omega) (by omega)]
   rw[if_neg (show¬k=a by omega),if_neg (show¬k=j by omega)]
   have hk:=j3 k (by omega) (by omega)
   by_cases e:j=a
   ·rw[if_pos e];subst e;omega
   ·rw[if_neg e,if_pos rfl];omega
 ·have q4:idx m0 i=some (el m0 i):=AR (by omega) (by omega)
  have q5:∀x,idx (m0.set i.toNat x) j=some (el (m0.set i.toNat x) j):=fun x=>Bg (by omega) (by omega)
  simp only[q1,q2,q4,q5,hij,decide_false,cond_false,Option.bind_some]
  rw[show (m0.set i.toNat (el m0 j)).set j.toNat (el m0 i)=sw m0 i j from rfl]
  have hia:=i4 (by omega)
  have hja:=j4 (by omega)
  have hne:i<j:=by
   rcases Int.lt_or_eq_of_le (show i≤j by omega) with h|h
   ·exact h
   ·subst h;exact absurd hja hia
  have hR1:Rg a b l0 (sw m0 i j):=hR0.trans (Rg.swap ha (by omega) (by omega) (by omega) (by omega) (by omega))
  have ea:at' (sw m0 i j) a=at' m0 a:=by rw[Be (by omega) (by omega) (by omega) (by omega) (by omega),if_neg (by omega),if_neg (by omega)]
  have hlo:∀q,a+1≤q→q<i+1→at' (sw m0 i j) q<at' (sw m0 i j) a:=fun q h1 h2=>by
   rw[ea,Be (by omega) (by omega) (by omega) (by omega) (by omega),if_neg (by omega)]
   by_cases e:q=i
   ·rw[if_pos e];exact hja
   ·rw[if_neg e];exact i3 q h1 (by omega)
  have hhi:∀q,j-1<q→q<b→¬at' (sw m0 i j) q<at' (sw m0 i j) a:=fun q h1 h2=>by
   rw[ea,Be (by omega) (by omega) (by omega) (by omega) (by omega)]
   by_cases e:q=j
   ·rw[if_pos e];exact hia
   ·rw[if_neg e,if_neg (by omega)];exact j3 q (by omega) (by omega)
  rw[w64 (show-9223372036854775808≤i+1 by omega) (by omega),w64 (show-9223372036854775808≤j-1 by omega) (by omega)]
  generalize sw m0 i j=m1 at hR1 hlo hhi ⊢
  refine AM (fun s=>Rg a b l0 s.1∧a+1≤s.2.1∧s.2.1≤s.2.2+1∧s.2.2<b∧(∀q,a+1≤q→q<s.2.1→at' s.1 q<at' s.1 a)∧(∀q,s.2.2<q→q<b→¬at' s.1 q<at' s.1 a)) (fun s=>(s.2.2+1-s.2.1).toNat)
   (fun s=>Rg a b l0 s.1∧a≤s.2∧s.2<b∧(∀q,a+1≤q→q≤s.2→at' s.1 q<at' s.1 a)∧(∀q,s.2<q→q<b→¬at' s.1 q<at' s.1 a)) ?_ ?_ ?_
  ·rintro⟨m,u,v⟩ ⟨hR,g1,g2,g3,g4,g5⟩
   dsimp only at hR g1 g2 g3 g4 g5 ⊢
   have hml:=hR.len
   refine scanUp m (hR.good hG) a v u ha (by omega) (by omega) (by omega) (by omega) (by omega) (fun i i1 i2 i3 i4=> ?_)
   refine D7 m (hR.good hG) a i v ha (by omega) (by omega) (by omega) (by omega) (by omega) (fun j j1 j2 j3 j4=> ?_)
   have f1:∀q,a+1≤q→q<i→at' m q<at' m a:=fun q h1 h2=>by
    by_cases h:q<u
    ·exact g4 q h1 h
    ·exact i3 q (by omega) h2
   have f2:∀q,j<q→q<b→¬at' m q<at' m a:=fun q h1 h2=>by
    by_cases h:q≤v
    ·exact j3 q h1 h
    ·exact g5 q (by omega) h2
   by_cases hij:j<i
   ·exact⟨.inr (m,j),by simp only[hij,decide_true,cond_true],hR,by dsimp only;omega,by dsimp only;omega,fun q h1 h2=>f1 q h1 (by dsimp only at h2;omega),f2⟩
   ·have t1:idx m i=some (el m i):=AR (by omega) (by omega)
    have t2:idx m j=some (el m j):=AR (by omega) (by omega)
    have t3:∀x,idx (m.set i.toNat x) j=some (el (m.set i.toNat x) j):=fun x=>Bg (by omega) (by omega)
    have hia:=i4 (by omega)
    have hja:=j4 (by omega)
    have hne:i<j:=by
     rcases Int.lt_or_eq_of_le (show i≤j by omega) with h|h
     ·exact h
     ·subst h;exact absurd hja hia
    have ea:at' (sw m i j) a=at' m a:=by rw[Be (by omega) (by omega) (by omega) (by omega) (by omega),if_neg (by omega),if_neg (by omega)]
    rw[w64 (show-9223372036854775808≤i+1 by omega) (by omega),w64 (show-9223372036854775808≤j-1 by omega) (by omega)]
    refine⟨.inl (sw m i j,i+1,j-1),?_,⟨hR.trans (Rg.swap ha (by omega) (by omega) (by omega) (by omega) (by omega)),by dsimp only;omega,by dsimp only;omega,by dsimp only;omega,fun q h1 h2=> ?_,fun q h1 h2=> ?_⟩,by dsimp only;omega⟩
    ·simp only[t1,t2,t3,hij,decide_false,cond_false,Option.bind_some]
     rfl
    ·dsimp only at h2 ⊢
     rw[ea,Be (by omega) (by omega) (by omega) (by omega) (by omega),if_neg (by omega)]
     by_cases e:q=i
     ·rw[if_pos e];exact hja
     ·rw[if_neg e];exact f1 q h1 (by omega)
    ·dsimp only at h1 ⊢
     rw[ea,Be (by omega) (by omega) (by omega) (by omega) (by omega)]
     by_cases e:q=j
     ·rw[if_pos e];exact hia
     ·rw[if_neg e,if_neg (by omega)];exact f2 q (by omega) h2
  ·exact⟨hR1,by dsimp only;omega,by dsimp only;omega,by dsimp only;omega,hlo,hhi⟩
  ·rintro⟨m,v⟩ ⟨hR,g1,g2,g3,g4⟩
   dsimp only at hR g1 g2 g3 g4 ⊢
   have hml:=hR.len
   have t1:idx m a=some (el m a):=AR (by omega) (by omega)
   have t2:idx m v=some (el m v):=AR (by omega) (by omega)
   have t3:∀x,idx (m.set v.toNat x) a=some (el (m.set v.toNat x) a):=fun x=>Bg (by omega) (by omega)
   refine⟨(v,false,sw m v a),?_,⟨hR.trans (Rg.swap ha (by omega) (by omega) (by omega) (by omega) (by omega)),g1,g2,fun k k1 k2=> ?_,fun k k1 k2=> ?_⟩⟩
   ·simp only[t1,t2,t3,Option.bind_some]
    rfl
   ·dsimp only at k1 k2 ⊢
    rw[Be (by omega) (by omega) (by omega) (by omega) (by omega),Be (by omega) (by omega) (by omega) (by omega) (by omega)]
    rw[if_neg (show¬v=a by omega),if_pos rfl]
    by_cases e:k=a
    ·rw[if_pos e]
     have:=g3 v (by omega) (by omega);omega
    ·rw[if_neg e,if_neg (by omega)]
     have:=g3 k (by omega) (by omega);omega
   ·dsimp only at k1 k2 ⊢
    rw[Be (by omega) (by omega) (by omega) (by omega) (by omega),Be (by omega) (by omega) (by omega) (by omega) (by omega)]
    rw[if_neg (show¬k=a by omega),if_neg (show¬k=v by omega)]
    have hk:=g4 k (by omega) (by omega)
    by_cases e:v=a
    ·rw[if_pos e];subst e;omega
    ·rw[if_neg e,if_pos rfl];omega
end Go.Sx.Gs

namespace Go.Sx.Gs
variable {α : Type} [Srtd α]
theorem scanUp2 {β:Type}{k:Int→Option β}{Q:β→Prop}(l:List α)(hG:Good l)(a hi i0:Int)(ha:0≤a)(ha':a<l.length)(h0:0≤i0)(h1:i0≤hi+1)(h2:hi<l.length)(hlen:l.length≤1000000)
  (hk:∀i,i0≤i→i≤hi+1→(∀q,i0≤q→q<i→¬at' l a<at' l q)→(i≤hi→at' l a<at' l i)→∃y,k i=some y∧Q y):
  ∃y,(Ap (σ:=Int) (ρ:=(Int)) (fun(x:Int)=>(cond (decide (x≤hi)) ((idx l a).bind fun e=>(idx l x).bind fun e'=>(Srtd.cmp e e').bind fun y=>some (!(decide (y<0)))) (some false)).bind fun b=>cond b (some (.inl (IntKind.i64.wrap (x+1)))) (some (.inr x))) i0).bind k=some y∧Q y:=by
 refine AM (fun i=>i0≤i∧i≤hi+1∧∀q,i0≤q→q<i→¬at' l a<at' l q) (fun i=>(hi+1-i).toNat) (fun i=>i0≤i∧i≤hi+1∧(∀q,i0≤q→q<i→¬at' l a<at' l q)∧(i≤hi→at' l a<at' l i)) ?_ ?_ ?_
 ·rintro i ⟨g1,g2,g3⟩
  by_cases hi':i≤hi
  ·have r1:idx l i=some (el l i):=AR (by omega) (by omega)
   have r2:idx l a=some (el l a):=AR (by omega) (by omega)
   obtain⟨v,cv,hv⟩:=CS hG (i:=a) (j:=i) (by omega) (by omega) (by omega) (by omega)
   by_cases hlt:at' l a<at' l i
   ·exact⟨.inr i,by simp only[r1,r2,hi',cv,hv,hlt,decide_true,Bool.not_true,cond_true,cond_false,Option.bind_some],g1,g2,g3,fun _=>hlt⟩
   ·refine⟨.inl (i+1),?_,⟨by omega,by omega,fun q q1 q2=> ?_⟩,by dsimp only;omega⟩
    ·simp only[r1,r2,hi',cv,hv,hlt,decide_true,decide_false,Bool.not_false,cond_true,Option.bind_some]
     rw[w64 (by omega) (by omega)]
    ·by_cases e:q=i
     ·rw[e];exact hlt
     ·exact g3 q q1 (by omega)
  ·exact⟨.inr i,by simp only[hi',decide_false,cond_false,Option.bind_some],g1,g2,g3,fun h=>absurd h hi'⟩
 ·exact⟨Int.le_refl _,h1,fun q q1 q2=>by omega⟩
 ·rintro i ⟨g1,g2,g3,g4⟩
  exact hk i g1 g2 g3 g4
theorem Fb {β:Type}{k:Int→Option β}{Q:β→Prop}(l:List α)(hG:Good l)(a lo j0:Int)(ha:0≤a)(ha':a<l.length)(h0:0≤lo)(h1:lo≤j0+1)(h2:j0<l.length)(hlen:l.length≤1000000)
  (hk:∀j,lo≤j+1→j≤j0→(∀q,j<q→q≤j0→at' l a<at' l q)→(lo≤j→¬at' l a<at' l j)→∃y,k j=some y∧Q y):
  ∃y,(Ap (σ:=Int) (ρ:=(Int)) (fun(x:Int)=>(cond (decide (lo≤x)) ((idx l a).bind fun e=>(idx l x).bind fun e'=>(Srtd.cmp e e').bind fun y=>some (decide (y<0))) (some false)).bind fun b=>cond b (some (.inl (IntKind.i64.wrap (x-1)))) (some (.inr x))) j0).bind k=some y∧Q y:=by
 refine AM (fun j=>lo≤j+1∧j≤j0∧∀q,j<q→q≤j0→at' l a<at' l q) (fun j=>(j+1-lo).toNat) (fun j=>lo≤j+1∧j≤j0∧(∀q,j<q→q≤j0→at' l a<at' l q)∧(lo≤j→¬at' l a<at' l j)) ?_ ?_ ?_
 ·rintro j ⟨g1,g2,g3⟩
  by_cases hi':lo≤j
  ·have r1:idx l j=some (el l j):=AR (by omega) (by omega)
   have r2:idx l a=some (el l a):=AR (by omega) (by omega)
   obtain⟨v,cv,hv⟩:=CS hG (i:=a) (j:=j) (by omega) (by omega) (by omega) (by omega)
   by_cases hlt:at' l a<at' l j
   ·refine⟨.inl (j-1),?_,⟨by omega,by omega,fun q q1 q2=> ?_⟩,by dsimp only;omega⟩
    ·simp only[r1,r2,hi',cv,hv,hlt,decide_true,cond_true,Option.bind_some]
     rw[w64 (by omega) (by omega)]
    ·by_cases e:q=j
     ·rw[e];exact hlt
     ·exact g3 q (by omega) q2
   ·exact⟨.inr j,by simp only[r1,r2,hi',cv,hv,hlt,decide_true,decide_false,cond_true,cond_false,Option.bind_some],g1,g2,g3,fun _=>hlt⟩
  ·exact⟨.inr j,by simp only[hi',decide_false,cond_false,Option.bind_some],g1,g2,g3,fun h=>absurd h hi'⟩
 ·exact⟨h1,Int.le_refl _,fun q q1 q2=>by omega⟩
 ·rintro j ⟨g1,g2,g3,g4⟩
  exact hk j g1 g2 g3 g4
theorem CV (l0:List α)(a b p:Int)(ha:0≤a)(hb:b≤l0.length)(hlen:l0.length≤1000000)(hG:Good l0)(hp:a≤p)(hp':p<b):
  ∃y,DG.partitionEqual Srtd.cmp l0 a b p=some y∧Rg a b l0 y.2∧a<y.1∧y.1≤b∧(∀k,a≤k→k<y.1→at' y.2 k≤at' l0 p)∧(∀k,y.1≤k→k<b→at' l0 p<at' y.2 k):=by
 unfold DG.partitionEqual
 have r1:idx l0 p=some (el l0 p):=AR (by omega) (by omega)
 have r2:idx l0 a=some (el l0 a):=AR (by omega) (by omega)
 have r3:∀x,idx (l0.set a.toNat x) p=some (el (l0.set a.toNat x) p):=fun x=>Bg (by omega) (by omega)
 simp only[r1,r2,r3,Option.bind_some]
 rw[show (l0.set a.toNat (el l0 p)).set p.toNat (el l0 a)=sw l0 a p from rfl]
 have hR0:Rg a b l0 (sw l0 a p):=Rg.swap ha hb (by omega) (by omega) hp hp'
 have ep:at' (sw l0 a p) a=at' l0 p:=by
  rw[Be (by omega) (by omega) (by omega) (by omega) (by omega)]
  by_cases e:a=p
  ·rw[if_pos e,e]
  ·rw[if_neg e,if_pos rfl]
 generalize sw l0 a p=m0 at hR0 ep ⊢
 rw[w64 (show-9223372036854775808≤b-1 by omega) (by omega),w64 (show-9223372036854775808≤a+1 by omega) (by omega)]
 refine AM (fun s=>Rg a b l0 s.1∧a+1≤s.2.1∧s.2.1≤s.2.2+1∧s.2.2<b∧at' s.1 a=at' l0 p∧(∀q,a+1≤q→q<s.2.1→¬at' s.1 a<at' s.1 q)∧(∀q,s.2.2<q→q<b→at' s.1 a<at' s.1 q)) (fun s=>(s.2.2+1-s.2.1).toNat)
  (fun s=>Rg a b l0 s.1∧a+1≤s.2∧s.2≤b∧at' s.1 a=at' l0 p∧(∀q,a+1≤q→q<s.2→¬at' s.1 a<at' s.1 q)∧(∀q,s.2≤q→q<b→at' s.1 a<at' s.1 q)) ?_ ?_ ?_
 ·rintro⟨m,u,v⟩ ⟨hR,g1,g2,g3,g6,g4,g5⟩
  dsimp only at hR g1 g2 g3 g4 g5 g6 ⊢
  have hml:=hR.len
  refine scanUp2 m (hR.good hG) a v u ha (by omega) (by omega) (by omega) (by omega) (by omega) (fun i i1 i2 i3 i4=> ?_)
  refine Fb m (hR.good hG) a i v ha (by omega) (by omega) (by omega) (by omega) (by omega) (fun j j1 j2 j3 j4=> ?_)
  have f1:∀q,a+1≤q→q<i→¬at' m a<at' m q:=fun q h1 h2=>by
   by_cases h:q<u
   ·exact g4 q h1 h
   ·exact i3 q (by omega) h2
  have f2:∀q,j<q→q<b→at' m a<at' m q:=fun q h1 h2=>by
   by_cases h:q≤v
   ·exact j3 q h1 h
   ·exact g5 q (by omega) h2
  by_cases hij:j<i
  ·exact⟨.inr (m,i),by simp only[hij,decide_true,cond_true],hR,by dsimp only;omega,by dsimp only;omega,g6,f1,fun q h1 h2=>f2 q (by dsimp only at h1;omega) h2⟩
  ·have t1:idx m i=some (el m i):=AR (by omega) (by omega)
   have t2:idx m j=some (el m j):=AR (by omega) (by omega)
   have t3:∀x,idx (m.set i.toNat x) j=some (el (m.set i.toNat x) j):=fun x=>Bg (by omega) (by omega)
   have hia:=i4 (by omega)
   have hja:=j4 (by omega)
   have hne:i<j:=by
    rcases Int.lt_or_eq_of_le (show i≤j by omega) with h|h
    ·exact h
    ·subst h;exact absurd hia hja
   have ea:at' (sw m i j) a=at' m a:=by rw[Be (by omega) (by omega) (by omega) (by omega) (by omega),if_neg (by omega),if_neg (by omega)]
   rw[w64 (show-9223372036854775808≤i+1 by omega) (by omega),w64 (show-9223372036854775808≤j-1 by omega) (by omega)]
   refine⟨.inl (sw m i j,i+1,j-1),?_,⟨hR.trans (Rg.swap ha (by omega) (by omega) (by omega) (by omega) (by omega)),by dsimp only;omega,by dsimp only;omega,by dsimp only;omega,by dsimp only;rw[ea];exact g6,fun q h1 h2=> ?_,fun q h1 h2=> ?_⟩,by dsimp only;omega⟩
   ·simp only[t1,t2,t3,hij,decide_false,cond_false,Option.bind_some]
    rfl
   ·dsimp only at h2 ⊢
    rw[ea,Be (by omega) (by omega) (by omega) (by omega) (by omega),if_neg (by omega)]
    by_cases e:q=i
    ·rw[if_pos e];exact hja
    ·rw[if_neg e];exact f1 q h1 (by omega)
   ·dsimp only at h1 ⊢
    rw[ea,Be (by omega) (by omega) (by omega) (by omega) (by omega)]
    by_cases e:q=j
    ·rw[if_pos e];exact hia
    ·rw[if_neg e,if_neg (by omega)];exact f2 q (by omega) h2
 ·exact⟨hR0,by dsimp only;omega,by dsimp only;omega,by dsimp only;omega,ep,fun q h1 h2=>by dsimp only at h2;omega,fun q h1 h2=>by dsimp only at h1;omega⟩
 ·rintro⟨m,v⟩ ⟨hR,g1,g2,g3,g4,g5⟩
  refine⟨(v,m),rfl,hR,by dsimp only at*;omega,g2,fun k k1 k2=> ?_,fun k k1 k2=> ?_⟩
  ·dsimp only at*
   by_cases e:k=a
   ·rw[e,g3];exact Int.le_refl _
   ·have:=g4 k (by omega) k2;omega
  ·dsimp only at*
   have:=g5 k k1 k2;omega
theorem CE (l:List α)(hG:Good l)(a b s:Int)(ha:0≤a)(ha':a<l.length)(hb:0≤b)(hb':b<l.length):
  ∃y,DG.order2 Srtd.cmp l a b s=some y∧y.2.2.1=l∧((y.1=a∧y.2.1=b)∨(y.1=b∧y.2.1=a)):=by
 have r1:idx l a=some (el l a):=AR ha ha'
 have r2:idx l b=some (el l b):=AR hb hb'
 unfold DG.order2
 obtain⟨v,cv,hv⟩:=CS hG (i:=b) (j:=a) hb hb' ha ha'
 simp only[r1,r2,cv,hv,Option.bind_some]
 by_cases h:at' l b<at' l a
 ·simp only[h,decide_true,cond_true];exact⟨_,rfl,rfl,.inr ⟨rfl,rfl⟩⟩
 ·simp only[h,decide_false,cond_false];exact⟨_,rfl,rfl,.inl ⟨rfl,rfl⟩⟩
theorem DI (l:List α)(hG:Good l)(a b c s:Int)(ha:0≤a)(ha':a<l.length)(hb:0≤b)(hb':b<l.length)(hc:0≤c)(hc':c<l.length):
  ∃y,DG.median Srtd.cmp l a b c s=some y∧y.2.1=l∧(y.1=a∨y.1=b∨y.1=c):=by
 unfold DG.median
 obtain⟨y1,h1,e1,c1⟩:=CE l hG a b s ha ha' hb hb'
 rw[h1,Option.bind_some,e1]
 have b1:0≤y1.2.1∧y1.2.1<l.length∧0≤y1.1∧y1.1<l.length:=by rcases c1 with⟨c,d⟩|⟨c,d⟩<;>rw[c,d]<;>exact⟨by assumption,by assumption,by assumption,by assumption⟩
 obtain⟨y2,h2,e2,c2⟩:=CE l hG y1.2.1 c y1.2.2.2 b1.1 b1.2.1 hc hc'
 rw[h2,Option.bind_some,e2]
 have b2:0≤y2.1∧y2.1<l.length:=by rcases c2 with⟨c,d⟩|⟨c,d⟩<;>rw[c]<;>exact⟨by omega,by omega⟩
 obtain⟨y3,h3,e3,c3⟩:=CE l hG y1.1 y2.1 y2.2.2.2 b1.2.2.1 b1.2.2.2 b2.1 b2.2
 rw[h3,Option.bind_some]
 refine⟨_,rfl,e3,?_⟩
 dsimp only
 omega
theorem DB (l:List α)(hG:Good l)(p s:Int)(h0:1≤p)(h1:p+1<l.length)(hlen:l.length≤1000000):
  ∃y,DG.medianAdjacent Srtd.cmp l p s=some y∧y.2.1=l∧p-1≤y.1∧y.1≤p+1:=by
 unfold DG.medianAdjacent
 rw[w64 (show-9223372036854775808≤p-1 by omega) (by omega),w64 (show-9223372036854775808≤p+1 by omega) (by omega)]
 obtain⟨y,h,e,c⟩:=DI l hG (p-1) p (p+1) s (by omega) (by omega) (by omega) (by omega) (by omega) (by omega)
 rw[h,Option.bind_some]
 exact⟨_,rfl,e,by dsimp only;omega,by dsimp only;omega⟩
theorem Dj (l:List α)(hG:Good l)(a b:Int)(ha:0≤a)(hb:b≤l.length)(h8:8≤b-a)(hlen:l.length≤1000000):
  ∃y,DG.choosePivot Srtd.cmp l a b=some y∧y.2.2=l∧a≤y.1∧y.1<b:=by
 unfold DG.choosePivot
 rw[w64 (show-9223372036854775808≤b-a by omega) (by omega)]
 have e4:(b-a).tdiv 4=(b-a)/4:=Int.tdiv_eq_ediv_of_nonneg (by omega)
 rw[e4,w64 (show-9223372036854775808≤(b-a)/4 by omega) (by omega)]
 rw[w64 (show-9223372036854775808≤(b-a)/4*1 by omega) (by omega),w64 (show-9223372036854775808≤(b-a)/4*2 by omega) (by omega),w64 (show-9223372036854775808≤(b-a)/4*3 by omega) (by omega)]
 rw[w64 (show-9223372036854775808≤a+(b-a)/4*1 by omega) (by omega),w64 (show-9223372036854775808≤a+(b-a)/4*2 by omega) (by omega),w64 (show-9223372036854775808≤a+(b-a)/4*3 by omega) (by omega)]
 simp only[h8,decide_true,cond_true]
 refine BI (fun q:List α×Int×Int×Int×Int=>q.1=l∧(a≤q.2.1∧q.2.1<b)∧(a≤q.2.2.1∧q.2.2.1<b)∧(a≤q.2.2.2.1∧q.2.2.2.1<b)) ?_ ?_
 ·by_cases h50:50≤b-a
  ·simp only[h50,decide_true,cond_true]
   obtain⟨y1,h1,e1,c1⟩:=DB l hG (a+(b-a)/4*1) 0 (by omega) (by omega) hlen
   rw[h1,Option.bind_some,e1]
   obtain⟨y2,h2,e2,c2⟩:=DB l hG (a+(b-a)/4*2) y1.2.2 (by omega) (by omega) hlen
   rw[h2,Option.bind_some,e2]
   obtain⟨y3,h3,e3,c3⟩:=DB l hG (a+(b-a)/4*3) y2.2.2 (by omega) (by omega) hlen
   rw[h3,Option.bind_some]
   exact⟨_,rfl,e3,⟨by dsimp only;omega,by dsimp only;omega⟩,⟨by dsimp only;omega,by dsimp only;omega⟩,⟨by dsimp only;omega,by dsimp only;omega⟩⟩
  ·simp only[h50,decide_false,cond_false]
   exact⟨_,rfl,rfl,⟨by dsimp only;omega,by dsimp only;omega⟩,⟨by dsimp only;omega,by dsimp only;omega⟩,⟨by dsimp only;omega,by dsimp only;omega⟩⟩
 ·rintro⟨q,i,j,k,sw⟩ ⟨rfl,g1,g2,g3⟩
  dsimp only at g1 g2 g3 hb hlen ⊢
  obtain⟨y,h1,e1,c1⟩:=DI q hG i j k sw (by omega) (by omega) (by omega) (by omega) (by omega) (by omega)
  rw[h1,Option.bind_some,e1]
  have hy:a≤y.1∧y.1<b:=by omega
  cases (y.2.2==0)
  ·cases (y.2.2==12)
   ·exact⟨_,rfl,rfl,hy⟩
   ·exact⟨_,rfl,rfl,hy⟩
  ·exact⟨_,rfl,rfl,hy⟩
end Go.Sx.Gs

namespace Go.Sx
def at' (l:List Int)(i:Int):Int:=l.getD i.toNat 0
theorem AR {l:List Int}{i:Int}(h0:0≤i)(h1:i<l.length):idx l i=some (at' l i):=by
 unfold idx at'
 rw[if_pos h0]
 have:i.toNat<l.length:=by omega
 simp[this]
theorem at_set {l:List Int}{i k x:Int}(h0:0≤i)(h1:i<l.length)(hk:0≤k):at' (l.set i.toNat x) k=if k=i then x else at' l k:=by
 unfold at'
 by_cases h:k=i
 ·subst h
  have:k.toNat<l.length:=by omega
  simp[this]
 ·rw[if_neg h]
  have:i.toNat≠k.toNat:=by omega
  simp[List.getD_eq_getElem?_getD,List.getElem?_set_ne this]
def sw (l:List Int)(i j:Int):List Int:=(l.set i.toNat (at' l j)).set j.toNat (at' l i)
theorem sw_len (l:List Int)(i j:Int):(sw l i j).length=l.length:=by simp[sw]
theorem Be {l:List Int}{i j k:Int}(hi:0≤i)(hi':i<l.length)(hj:0≤j)(hj':j<l.length)(hk:0≤k):
  at' (sw l i j) k=if k=j then at' l i else if k=i then at' l j else at' l k:=by
 unfold sw
 rw[at_set hj (by simpa using hj') hk]
 split
 ·rfl
 ·rw[at_set hi hi' hk]
theorem BS (z:Int):∀(l:List Int) (j:Nat),j<l.length→List.Perm (l.set j z) (z::l.eraseIdx j)
 |[],j,h=>by simp at h
 |x::l,0,_=>by simp
 |x::l,j+1,h=>by
  simp only[List.set_cons_succ,List.eraseIdx_cons_succ]
  exact((BS z l j (by simpa using h)).cons x).trans (List.Perm.swap _ _ _)
theorem Dv (l:List Int)(j:Nat)(h:j<l.length):List.Perm l (l[j]::l.eraseIdx j):=by
 have:=BS l[j] l j h
 rwa [List.set_getElem_self] at this
theorem Ea :∀(l:List Int) (i j:Nat) (x y:Int),l[i]? =some x→l[j]? =some y→List.Perm ((l.set i y).set j x) l
 |[],i,j,x,y,h,_=>by simp at h
 |z::l,0,0,x,y,h,h'=>by simp at h h';subst h;simp
 |z::l,0,j+1,x,y,h,h'=>by
  simp at h h'
  subst h
  simp only[List.set_cons_zero,List.set_cons_succ]
  obtain⟨hj,rfl⟩:=List.getElem?_eq_some_iff.1 h'
  have h1:=BS z l j hj
  have h2:=Dv l j hj
  exact((h1.cons _).trans (List.Perm.swap _ _ _)).trans (h2.symm.cons z)
 |z::l,i+1,0,x,y,h,h'=>by
  simp at h h'
  subst h'
  simp only[List.set_cons_zero,List.set_cons_succ]
  obtain⟨hj,rfl⟩:=List.getElem?_eq_some_iff.1 h
  have h1:=BS z l i hj
  have h2:=Dv l i hj
  exact((h1.cons _).trans (List.Perm.swap _ _ _)).trans (h2.symm.cons z)
 |z::l,i+1,j+1,x,y,h,h'=>by
  simp at h h'
  simp only[List.set_cons_succ]
  exact(Ea l i j x y h h').cons z
theorem sw_perm {l:List Int}{i j:Int}(hi:0≤i)(hi':i<l.length)(hj:0≤j)(hj':j<l.length):List.Perm (sw l i j) l:=by
 have h1:i.toNat<l.length:=by omega
 have h2:j.toNat<l.length:=by omega
 exact Ea l i.toNat j.toNat _ _ (by simp[at',h1]) (by simp[at',h2])
structure Rg (a b:Int)(l l':List Int):Prop where
 len:l'.length=l.length
 perm:List.Perm l' l
 out:∀k,0≤k→(k<a∨b≤k)→at' l' k=at' l k
 all:∀Q:Int→Prop,(∀k,a≤k→k<b→Q (at' l k))→∀k,a≤k→k<b→Q (at' l' k)
theorem Rg.refl (a b:Int)(l:List Int):Rg a b l l:=⟨rfl,List.Perm.refl _,fun _ _ _=>rfl,fun _ h=>h⟩
theorem Rg.trans {a b:Int}{l l' l'':List Int}(h:Rg a b l l')(h':Rg a b l' l''):Rg a b l l'':=
 ⟨h'.len.trans h.len,h'.perm.trans h.perm,fun k h0 hk=>(h'.out k h0 hk).trans (h.out k h0 hk),fun Q hQ=>h'.all Q (h.all Q hQ)⟩
theorem Rg.swap {a b i j:Int}{l:List Int}(ha:0≤a)(hb:b≤l.length)(hi:a≤i)(hi':i<b)(hj:a≤j)(hj':j<b):Rg a b l (sw l i j):=by
 refine⟨sw_len _ _ _,sw_perm (by omega) (by omega) (by omega) (by omega),fun k h0 hk=> ?_,fun Q hQ k h1 h2=> ?_⟩
 ·rw[Be (by omega) (by omega) (by omega) (by omega) h0,if_neg (by omega),if_neg (by omega)]
 ·rw[Be (by omega) (by omega) (by omega) (by omega) (by omega)]
  split
  ·exact hQ i hi hi'
  ·split
   ·exact hQ j hj hj'
   ·exact hQ k h1 h2
theorem Rg.widen {a b a' b':Int}{l l':List Int}(h:Rg a b l l')(ha:a'≤a)(hb:b≤b')(h0:0≤a'):Rg a' b' l l':=by
 refine⟨h.len,h.perm,fun k h0 hk=>h.out k h0 (by omega),fun Q hQ k h1 h2=> ?_⟩
 by_cases hk:a≤k∧k<b
 ·exact h.all Q (fun k h3 h4=>hQ k (by omega) (by omega)) k hk.1 hk.2
 ·rw[h.out k (by omega) (by omega)];exact hQ k h1 h2
def Srt (l:List Int)(a b:Int):Prop:=∀i j,a≤i→i<j→j<b→at' l i≤at' l j
end Go.Sx

namespace Go.Sx
theorem Cj (x y:Int):D.b x y=some (decide (x<y)):=by
 simp[D.b,D.s]
theorem Bg {l:List Int}{i j x:Int}(h0:0≤i)(h1:i<l.length):idx (l.set j.toNat x) i=some (at' (l.set j.toNat x) i):=AR h0 (by simpa using h1)
theorem C3 (l0:List Int)(a b:Int)(ha:0≤a)(hab:a≤b)(hb:b≤l0.length)(hlen:l0.length≤1000000):
  ∃l',D.G0 l0 a b=some l'∧Rg a b l0 l'∧Srt l' a b:=by
 unfold D.G0
 rw[w64 (show-9223372036854775808≤a+1 by omega) (by omega)]
 refine AM (fun s=>Rg a b l0 s.1∧Srt s.1 a s.2∧a+1≤s.2∧s.2≤b+1) (fun s=>(b-s.2).toNat) (fun r=>Rg a b l0 r∧Srt r a b) ?_ ?_ ?_
 ·rintro⟨l,i⟩ ⟨hR,hS,h1,h2⟩
  dsimp only at hR hS h1 h2 ⊢
  have hll:=hR.len
  by_cases hi:i<b
  ·simp only[hi,decide_true,cond_true]
   rw[w64 (show-9223372036854775808≤i+1 by omega) (by omega)]
   refine AM (fun s=>Rg a b l0 s.1∧a≤s.2∧s.2≤i∧∀p q,a≤p→p<q→q≤i→q≠s.2→at' s.1 p≤at' s.1 q) (fun s=>(s.2-a).toNat) (fun r=>Rg a b l0 r∧Srt r a (i+1)) ?_ ?_ ?_
   ·rintro⟨m,j⟩ ⟨hR',g1,g2,hS'⟩
    dsimp only at hR' g1 g2 hS' ⊢
    have hml:=hR'.len
    rw[w64 (show-9223372036854775808≤j-1 by omega) (by omega)]
    by_cases hj:a<j
    ·have r1:idx m j=some (at' m j):=AR (by omega) (by omega)
     have r2:idx m (j-1)=some (at' m (j-1)):=AR (by omega) (by omega)
     have r3:∀x,idx (m.set j.toNat x) (j-1)=some (at' (m.set j.toNat x) (j-1)):=fun x=>Bg (by omega) (by omega)
     by_cases hlt:at' m j<at' m (j-1)
     ·refine⟨.inl (sw m j (j-1),j-1),?_,⟨hR'.trans (Rg.swap ha (by omega) (by omega) (by omega) (by omega) (by omega)),by dsimp only;omega,by dsimp only;omega,?_⟩,by dsimp only;omega⟩
      ·simp only[r1,r2,r3,hj,Cj,hlt,decide_true,cond_true,Option.bind_some]
       rfl
      ·intro p q k1 k2 k3 k4
       dsimp only at k4 ⊢
       rw[Be (by omega) (by omega) (by omega) (by omega) (by omega),Be (by omega) (by omega) (by omega) (by omega) (by omega)]
       by_cases c1:q=j
       ·subst c1
        rw[if_neg (show¬q=q-1 by omega),if_pos rfl]
        by_cases c2:p=q-1
        ·rw[if_pos c2];omega
        ·rw[if_neg c2,if_neg (by omega)]
         exact hS' p (q-1) k1 (by omega) (by omega) (by omega)
       ·rw[if_neg (show¬q=j-1 by omega),if_neg c1]
        by_cases c2:p=j-1
        ·rw[if_pos c2]
         exact hS' j q (by omega) (by omega) k3 c1
        ·rw[if_neg c2]
         by_cases c3:p=j
         ·rw[if_pos c3]
          exact hS' (j-1) q (by omega) (by omega) k3 c1
         ·rw[if_neg c3]
          exact hS' p q k1 k2 k3 c1
     ·refine⟨.inr m,?_,hR',?_⟩
      ·simp only[r1,r2,hj,Cj,hlt,decide_true,decide_false,cond_true,cond_false,Option.bind_some]
      ·intro p q k1 k2 k3
       by_cases c1:q=j
       ·subst c1
        by_cases c2:p=q-1
        ·subst c2;omega
        ·have:=hS' p (q-1) k1 (by omega) (by omega) (by omega)
         omega
       ·exact hS' p q k1 k2 (by omega) c1
    ·refine⟨.inr m,?_,hR',?_⟩
     ·simp only[hj,decide_false,cond_false,Option.bind_some]
     ·intro p q k1 k2 k3
      exact hS' p q k1 k2 (by omega) (by omega)
   ·exact⟨hR,by dsimp only;omega,Int.le_refl _,fun p q k1 k2 k3 k4=>hS p q k1 k2 (by dsimp only at k4 ⊢;omega)⟩
   ·rintro r ⟨hR',hS'⟩
    exact⟨.inl (r,i+1),rfl,⟨hR',hS',by dsimp only;omega,by dsimp only;omega⟩,by dsimp only;omega⟩
  ·refine⟨.inr l,by simp only[hi,decide_false,cond_false],hR,?_⟩
   intro p q k1 k2 k3
   exact hS p q k1 k2 (by omega)
 ·exact⟨Rg.refl _ _ _,fun p q k1 k2 k3=>by dsimp only at k3;omega,by dsimp only;omega,by dsimp only;omega⟩
 ·rintro r hr
  exact⟨r,rfl,hr⟩
end Go.Sx

namespace Go.Sx
theorem C8 (l0:List Int)(a b:Int)(ha:0≤a)(hab:a≤b)(hb:b≤l0.length)(hlen:l0.length≤1000000):
  ∃l',D.U0 l0 a b=some l'∧Rg a b l0 l':=by
 unfold D.U0
 rw[w64 (show-9223372036854775808≤b-1 by omega) (by omega)]
 refine AM (fun s=>Rg a b l0 s.1∧a≤s.2.1∧s.2.1≤b∧s.2.2<b∧a-1≤s.2.2) (fun s=>(s.2.2-s.2.1).toNat) (fun r=>Rg a b l0 r) ?_ ?_ ?_
 ·rintro⟨l,i,j⟩ ⟨hR,h1,h2,h3,h4⟩
  dsimp only at hR h1 h2 h3 h4 ⊢
  have hll:=hR.len
  by_cases hi:i<j
  ·have r1:idx l i=some (at' l i):=AR (by omega) (by omega)
   have r2:idx l j=some (at' l j):=AR (by omega) (by omega)
   have r3:∀x,idx (l.set i.toNat x) j=some (at' (l.set i.toNat x) j):=fun x=>Bg (by omega) (by omega)
   rw[w64 (show-9223372036854775808≤i+1 by omega) (by omega),w64 (show-9223372036854775808≤j-1 by omega) (by omega)]
   refine⟨.inl (sw l i j,i+1,j-1),?_,⟨hR.trans (Rg.swap ha (by omega) (by omega) (by omega) (by omega) (by omega)),by dsimp only;omega,by dsimp only;omega,by dsimp only;omega,by dsimp only;omega⟩,by dsimp only;omega⟩
   simp only[r1,r2,r3,hi,decide_true,cond_true,Option.bind_some]
   rfl
  ·exact⟨.inr l,by simp only[hi,decide_false,cond_false],hR⟩
 ·exact⟨Rg.refl _ _ _,by dsimp only;omega,by dsimp only;omega,by dsimp only;omega,by dsimp only;omega⟩
 ·rintro r hr
  exact⟨r,rfl,hr⟩
theorem scanUp {β:Type}{k:Int→Option β}{Q:β→Prop}(l:List Int)(a hi i0:Int)(ha:0≤a)(ha':a<l.length)(h0:0≤i0)(h1:i0≤hi+1)(h2:hi<l.length)(hlen:l.length≤1000000)
  (hk:∀i,i0≤i→i≤hi+1→(∀q,i0≤q→q<i→at' l q<at' l a)→(i≤hi→¬at' l i<at' l a)→∃y,k i=some y∧Q y):
  ∃y,(Ap (σ:=Int) (ρ:=(Int)) (fun(x:Int)=>(cond (decide (x≤hi)) ((idx l x).bind fun e=>(idx l a).bind fun e'=>(D.b e e').bind fun y=>some y) (some false)).bind fun b=>cond b (some (.inl (IntKind.i64.wrap (x+1)))) (some (.inr x))) i0).bind k=some y∧Q y:=by
 refine AM (fun i=>i0≤i∧i≤hi+1∧∀q,i0≤q→q<i→at' l q<at' l a) (fun i=>(hi+1-i).toNat) (fun i=>i0≤i∧i≤hi+1∧(∀q,i0≤q→q<i→at' l q<at' l a)∧(i≤hi→¬at' l i<at' l a)) ?_ ?_ ?_
 ·rintro i ⟨g1,g2,g3⟩
  by_cases hi':i≤hi
  ·have r1:idx l i=some (at' l i):=AR (by omega) (by omega)
   have r2:idx l a=some (at' l a):=AR (by omega) (by omega)
   by_cases hlt:at' l i<at' l a
   ·refine⟨.inl (i+1),?_,⟨by omega,by omega,fun q q1 q2=> ?_⟩,by dsimp only;omega⟩
    ·simp only[r1,r2,hi',Cj,hlt,decide_true,cond_true,Option.bind_some]
     rw[w64 (by omega) (by omega)]
    ·by_cases e:q=i
     ·rw[e];exact hlt
     ·exact g3 q q1 (by omega)
   ·exact⟨.inr i,by simp only[r1,r2,hi',Cj,hlt,decide_true,decide_false,cond_true,cond_false,Option.bind_some],g1,g2,g3,fun _=>hlt⟩
  ·exact⟨.inr i,by simp only[hi',decide_false,cond_false,Option.bind_some],g1,g2,g3,fun h=>absurd h hi'⟩
 ·exact⟨Int.le_refl _,h1,fun q q1 q2=>by omega⟩
 ·rintro i ⟨g1,g2,g3,g4⟩
  exact hk i g1 g2 g3 g4
theorem D7 {β:Type}{k:Int→Option β}{Q:β→Prop}(l:List Int)(a lo j0:Int)(ha:0≤a)(ha':a<l.length)(h0:0≤lo)(h1:lo≤j0+1)(h2:j0<l.length)(hlen:l.length≤1000000)
  (hk:∀j,lo≤j+1→j≤j0→(∀q,j<q→q≤j0→¬at' l q<at' l a)→(lo≤j→at' l j<at' l a)→∃y,k j=some y∧Q y):
  ∃y,(Ap (σ:=Int) (ρ:=(Int)) (fun(x:Int)=>(cond (decide (lo≤x)) ((idx l x).bind fun e=>(idx l a).bind fun e'=>(D.b e e').bind fun y=>some (!y)) (some false)).bind fun b=>cond b (some (.inl (IntKind.i64.wrap (x-1)))) (some (.inr x))) j0).bind k=some y∧Q y:=by
 refine AM (fun j=>lo≤j+1∧j≤j0∧∀q,j<q→q≤j0→¬at' l q<at' l a) (fun j=>(j+1-lo).toNat) (fun j=>lo≤j+1∧j≤j0∧(∀q,j<q→q≤j0→¬at' l q<at' l a)∧(lo≤j→at' l j<at' l a)) ?_ ?_ ?_
 ·rintro j ⟨g1,g2,g3⟩
  by_cases hi':lo≤j
  ·have r1:idx l j=some (at' l j):=AR (by omega) (by omega)
   have r2:idx l a=some (at' l a):=AR (by omega) (by omega)
   by_cases hlt:at' l j<at' l a
   ·exact⟨.inr j,by simp only[r1,r2,hi',Cj,hlt,decide_true,Bool.not_true,cond_true,cond_false,Option.bind_some],g1,g2,g3,fun _=>hlt⟩
   ·refine⟨.inl (j-1),?_,⟨by omega,by omega,fun q q1 q2=> ?_⟩,by dsimp only;omega⟩
    ·simp only[r1,r2,hi',Cj,hlt,decide_true,decide_false,Bool.not_false,cond_true,Option.bind_some]
     rw[w64 (by omega) (by omega)]
    ·by_cases e:q=j
     ·rw[e];exact hlt
     ·exact g3 q (by omega) q2
  ·exact⟨.inr j,by simp only[hi',decide_false,cond_false,Option.bind_some],g1,g2,g3,fun h=>absurd h hi'⟩
 ·exact⟨h1,Int.le_refl _,fun q q1 q2=>by omega⟩
 ·rintro j ⟨g1,g2,g3,g4⟩
  exact hk j g1 g2 g3 g4
structure Parted (l0 l':List Int)(a b mid:Int):Prop where
 rg:Rg a b l0 l'
 lo:a≤mid
 hi:mid<b
 left:∀k,a≤k→k<mid→at' l' k≤at' l' mid
 right:∀k,mid<k→k<b→at' l' mid≤at' l' k
theorem DE (l0:List Int)(a b p:Int)(ha:0≤a)(hb:b≤l0.length)(hlen:l0.length≤1000000)(hp:a≤p)(hp':p<b):
  ∃y,D.Q0 l0 a b p=some y∧Parted l0 y.2.2 a b y.1:=by
 unfold D.Q0
 have r1:idx l0 p=some (at' l0 p):=AR (by omega) (by omega)
 have r2:idx l0 a=some (at' l0 a):=AR (by omega) (by omega)
 have r3:∀x,idx (l0.set a.toNat x) p=some (at' (l0.set a.toNat x) p):=fun x=>Bg (by omega) (by omega)
 simp only[r1,r2,r3,Option.bind_some]
 rw[show (l0.set a.toNat (at' l0 p)).set p.toNat (at' l0 a)=sw l0 a p from rfl]
 have hR0:Rg a b l0 (sw l0 a p):=Rg.swap ha hb (by omega) (by omega) hp hp'
 generalize sw l0 a p=m0 at hR0 ⊢
 have hm0:=hR0.len
 rw[w64 (show-9223372036854775808≤b-1 by omega) (by omega),w64 (show-9223372036854775808≤a+1 by omega) (by omega)]
 refine scanUp m0 a (b-1) (a+1) ha (by omega) (by omega) (by omega) (by omega) (by omega) (fun i i1 i2 i3 i4=> ?_)
 refine D7 m0 a i (b-1) ha (by omega) (by omega) (by omega) (by omega) (by omega) (fun j j1 j2 j3 j4=> ?_)
 have q1:idx m0 a=some (at' m0 a):=AR (by omega) (by omega)
 have q2:idx m0 j=some (at' m0 j):=AR (by omega) (by omega)
 by_cases hij:j<i
 ·have q3:∀x,idx (m0.set j.toNat x) a=some (at' (m0.set j.toNat x) a):=fun x=>Bg (by omega) (by omega)
  refine⟨(j,true,sw m0 j a),?_,⟨hR0.trans (Rg.swap ha (by omega) (by omega) (by omega) (by omega) (by omega)),by dsimp only;omega,by dsimp only;omega,fun k k1 k2=> ?_,fun k k1 k2=> ?_⟩⟩
  ·simp only[q1,q2,q3,hij,decide_true,cond_true,Option.bind_some]
   rfl
  ·dsimp only at k1 k2 ⊢
   rw[Be (by omega) (by omega) (by omega) (by omega) (by omega),Be (by omega) (by omega) (by omega) (by omega) (by omega)]
   rw[if_neg (show¬j=a by omega),if_pos rfl]
   by_cases e:k=a
   ·rw[if_pos e]
    have:=i3 j (by omega) (by omega);omega
   ·rw[if_neg e,if_neg (by omega)]
    have:=i3 k (by omega) (by omega);omega
  ·dsimp only at k1 k2 ⊢
   rw[Be (by omega) (by omega) (by omega) (by omega) (by omega),Be (by omega) (by omega) (by omega) (by omega) (by omega)]
   rw[if_neg (show¬k=a by omega),if_neg (show¬k=j by omega)]
   have hk:=j3 k (by omega) (by omega)
   by_cases e:j=a
   ·rw[if_pos e];subst e;omega
   ·rw[if_neg e,if_pos rfl];omega
 ·have q4:idx m0 i=some (at' m0 i):=AR (by omega) (by omega)
  have q5:∀x,idx (m0.set i.toNat x) j=some (at' (m0.set i.toNat x) j):=fun x=>Bg (by omega) (by omega)
  simp only[q1,q2,q4,q5,hij,decide_false,cond_false,Option.bind_some]
  rw[show (m0.set i.toNat (at' m0 j)).set j.toNat (at' m0 i)=sw m0 i j from rfl]
  have hia:=i4 (by omega)
  have hja:=j4 (by omega)
  have hne:i<j:=by
   rcases Int.lt_or_eq_of_le (show i≤j by omega) with h|h
   ·exact h
   ·subst h;exact absurd hja hia
  have hR1:Rg a b l0 (sw m0 i j):=hR0.trans (Rg.swap ha (by omega) (by omega) (by omega) (by omega) (by omega))
  have ea:at' (sw m0 i j) a=at' m0 a:=by rw[Be (by omega) (by omega) (by omega) (by omega) (by omega),if_neg (by omega),if_neg (by omega)]
  have hlo:∀q,a+1≤q→q<i+1→at' (sw m0 i j) q<at' (sw m0 i j) a:=fun q h1 h2=>by
   rw[ea,Be (by omega) (by omega) (by omega) (by omega) (by omega),if_neg (by omega)]
   by_cases e:q=i
   ·rw[if_pos e];exact hja
   ·rw[if_neg e];exact i3 q h1 (by omega)
  have hhi:∀q,j-1<q→q<b→¬at' (sw m0 i j) q<at' (sw m0 i j) a:=fun q h1 h2=>by
   rw[ea,Be (by omega) (by omega) (by omega) (by omega) (by omega)]
   by_cases e:q=j
   ·rw[if_pos e];exact hia
   ·rw[if_neg e,if_neg (by omega)];exact j3 q (by omega) (by omega)
  rw[w64 (show-9223372036854775808≤i+1 by omega) (by omega),w64 (show-9223372036854775808≤j-1 by omega) (by omega)]
  generalize sw m0 i j=m1 at hR1 hlo hhi ⊢
  refine AM (fun s=>Rg a b l0 s.1∧a+1≤s.2.1∧s.2.1≤s.2.2+1∧s.2.2<b∧(∀q,a+1≤q→q<s.2.1→at' s.1 q<at' s.1 a)∧(∀q,s.2.2<q→q<b→¬at' s.1 q<at' s.1 a)) (fun s=>(s.2.2+1-s.2.1).toNat)
   (fun s=>Rg a b l0 s.1∧a≤s.2∧s.2<b∧(∀q,a+1≤q→q≤s.2→at' s.1 q<at' s.1 a)∧(∀q,s.2<q→q<b→¬at' s.1 q<at' s.1 a)) ?_ ?_ ?_
  ·rintro⟨m,u,v⟩ ⟨hR,g1,g2,g3,g4,g5⟩
   dsimp only at hR g1 g2 g3 g4 g5 ⊢
   have hml:=hR.len
   refine scanUp m a v u ha (by omega) (by omega) (by omega) (by omega) (by omega) (fun i i1 i2 i3 i4=> ?_)
   refine D7 m a i v ha (by omega) (by omega) (by omega) (by omega) (by omega) (fun j j1 j2 j3 j4=> ?_)
   have f1:∀q,a+1≤q→q<i→at' m q<at' m a:=fun q h1 h2=>by
    by_cases h:q<u
    ·exact g4 q h1 h
    ·exact i3 q (by omega) h2
   have f2:∀q,j<q→q<b→¬at' m q<at' m a:=fun q h1 h2=>by
    by_cases h:q≤v
    ·exact j3 q h1 h
    ·exact g5 q (by omega) h2
   by_cases hij:j<i
   ·exact⟨.inr (m,j),by simp only[hij,decide_true,cond_true],hR,by dsimp only;omega,by dsimp only;omega,fun q h1 h2=>f1 q h1 (by dsimp only at h2;omega),f2⟩
   ·have t1:idx m i=some (at' m i):=AR (by omega) (by omega)
    have t2:idx m j=some (at' m j):=AR (by omega) (by omega)
    have t3:∀x,idx (m.set i.toNat x) j=some (at' (m.set i.toNat x) j):=fun x=>Bg (by omega) (by omega)
    have hia:=i4 (by omega)
    have hja:=j4 (by omega)
    have hne:i<j:=by
     rcases Int.lt_or_eq_of_le (show i≤j by omega) with h|h
     ·exact h
     ·subst h;exact absurd hja hia
    have ea:at' (sw m i j) a=at' m a:=by rw[Be (by omega) (by omega) (by omega) (by omega) (by omega),if_neg (by omega),if_neg (by omega)]
    rw[w64 (show-9223372036854775808≤i+1 by omega) (by omega),w64 (show-9223372036854775808≤j-1 by omega) (by omega)]
    refine⟨.inl (sw m i j,i+1,j-1),?_,⟨hR.trans (Rg.swap ha (by omega) (by omega) (by omega) (by omega) (by omega)),by dsimp only;omega,by dsimp only;omega,by dsimp only;omega,fun q h1 h2=> ?_,fun q h1 h2=> ?_⟩,by dsimp only;omega⟩
    ·simp only[t1,t2,t3,hij,decide_false,cond_false,Option.bind_some]
     rfl
    ·dsimp only at h2 ⊢
     rw[ea,Be (by omega) (by omega) (by omega) (by omega) (by omega),if_neg (by omega)]
     by_cases e:q=i
     ·rw[if_pos e];exact hja
     ·rw[if_neg e];exact f1 q h1 (by omega)
    ·dsimp only at h1 ⊢
     rw[ea,Be (by omega) (by omega) (by omega) (by omega) (by omega)]
     by_cases e:q=j
     ·rw[if_pos e];exact hia
     ·rw[if_neg e,if_neg (by omega)];exact f2 q (by omega) h2
  ·exact⟨hR1,by dsimp only;omega,by dsimp only;omega,by dsimp only;omega,hlo,hhi⟩
  ·rintro⟨m,v⟩ ⟨hR,g1,g2,g3,g4⟩
   dsimp only at hR g1 g2 g3 g4 ⊢
   have hml:=hR.len
   have t1:idx m a=some (at' m a):=AR (by omega) (by omega)
   have t2:idx m v=some (at' m v):=AR (by omega) (by omega)
   have t3:∀x,idx (m.set v.toNat x) a=some (at' (m.set v.toNat x) a):=fun x=>Bg (by omega) (by omega)
   refine⟨(v,false,sw m v a),?_,⟨hR.trans (Rg.swap ha (by omega) (by omega) (by omega) (by omega) (by omega)),g1,g2,fun k k1 k2=> ?_,fun k k1 k2=> ?_⟩⟩
   ·simp only[t1,t2,t3,Option.bind_some]
    rfl
   ·dsimp only at k1 k2 ⊢
    rw[Be (by omega) (by omega) (by omega) (by omega) (by omega),Be (by omega) (by omega) (by omega) (by omega) (by omega)]
    rw[if_neg (show¬v=a by omega),if_pos rfl]
    by_cases e:k=a
    ·rw[if_pos e]
     have:=g3 v (by omega) (by omega);omega
    ·rw[if_neg e,if_neg (by omega)]
     have:=g3 k (by omega) (by omega);omega
   ·dsimp only at k1 k2 ⊢
    rw[Be (by omega) (by omega) (by omega) (by omega) (by omega),Be (by omega) (by omega) (by omega) (by omega) (by omega)]
    rw[if_neg (show¬k=a by omega),if_neg (show¬k=v by omega)]
    have hk:=g4 k (by omega) (by omega)
    by_cases e:v=a
    ·rw[if_pos e];subst e;omega
    ·rw[if_neg e,if_pos rfl];omega
end Go.Sx

namespace Go.Sx
theorem scanUp2 {β:Type}{k:Int→Option β}{Q:β→Prop}(l:List Int)(a hi i0:Int)(ha:0≤a)(ha':a<l.length)(h0:0≤i0)(h1:i0≤hi+1)(h2:hi<l.length)(hlen:l.length≤1000000)
  (hk:∀i,i0≤i→i≤hi+1→(∀q,i0≤q→q<i→¬at' l a<at' l q)→(i≤hi→at' l a<at' l i)→∃y,k i=some y∧Q y):
  ∃y,(Ap (σ:=Int) (ρ:=(Int)) (fun(x:Int)=>(cond (decide (x≤hi)) ((idx l a).bind fun e=>(idx l x).bind fun e'=>(D.b e e').bind fun y=>some (!y)) (some false)).bind fun b=>cond b (some (.inl (IntKind.i64.wrap (x+1)))) (some (.inr x))) i0).bind k=some y∧Q y:=by
 refine AM (fun i=>i0≤i∧i≤hi+1∧∀q,i0≤q→q<i→¬at' l a<at' l q) (fun i=>(hi+1-i).toNat) (fun i=>i0≤i∧i≤hi+1∧(∀q,i0≤q→q<i→¬at' l a<at' l q)∧(i≤hi→at' l a<at' l i)) ?_ ?_ ?_
 ·rintro i ⟨g1,g2,g3⟩
  by_cases hi':i≤hi
  ·have r1:idx l i=some (at' l i):=AR (by omega) (by omega)
   have r2:idx l a=some (at' l a):=AR (by omega) (by omega)
   by_cases hlt:at' l a<at' l i
   ·exact⟨.inr i,by simp only[r1,r2,hi',Cj,hlt,decide_true,Bool.not_true,cond_true,cond_false,Option.bind_some],g1,g2,g3,fun _=>hlt⟩
   ·refine⟨.inl (i+1),?_,⟨by omega,by omega,fun q q1 q2=> ?_⟩,by dsimp only;omega⟩
    ·simp only[r1,r2,hi',Cj,hlt,decide_true,decide_false,Bool.not_false,cond_true,Option.bind_some]
     rw[w64 (by omega) (by omega)]
    ·by_cases e:q=i
     ·rw[e];exact hlt
     ·exact g3 q q1 (by omega)
  ·exact⟨.inr i,by simp only[hi',decide_false,cond_false,Option.bind_some],g1,g2,g3,fun h=>absurd h hi'⟩
 ·exact⟨Int.le_refl _,h1,fun q q1 q2=>by omega⟩
 ·rintro i ⟨g1,g2,g3,g4⟩
  exact hk i g1 g2 g3 g4
theorem Fb {β:Type}{k:Int→Option β}{Q:β→Prop}(l:List Int)(a lo j0:Int)(ha:0≤a)(ha':a<l.length)(h0:0≤lo)(h1:lo≤j0+1)(h2:j0<l.length)(hlen:l.length≤1000000)
  (hk:∀j,lo≤j+1→j≤j0→(∀q,j<q→q≤j0→at' l a<at' l q)→(lo≤j→¬at' l a<at' l j)→∃y,k j=some y∧Q y):
  ∃y,(Ap (σ:=Int) (ρ:=(Int)) (fun(x:Int)=>(cond (decide (lo≤x)) ((idx l a).bind fun e=>(idx l x).bind fun e'=>(D.b e e').bind fun y=>some y) (some false)).bind fun b=>cond b (some (.inl (IntKind.i64.wrap (x-1)))) (some (.inr x))) j0).bind k=some y∧Q y:=by
 refine AM (fun j=>lo≤j+1∧j≤j0∧∀q,j<q→q≤j0→at' l a<at' l q) (fun j=>(j+1-lo).toNat) (fun j=>lo≤j+1∧j≤j0∧(∀q,j<q→q≤j0→at' l a<at' l q)∧(lo≤j→¬at' l a<at' l j)) ?_ ?_ ?_
 ·rintro j ⟨g1,g2,g3⟩
  by_cases hi':lo≤j
  ·have r1:idx l j=some (at' l j):=AR (by omega) (by omega)
   have r2:idx l a=some (at' l a):=AR (by omega) (by omega)
   by_cases hlt:at' l a<at' l j
   ·refine⟨.inl (j-1),?_,⟨by omega,by omega,fun q q1 q2=> ?_⟩,by dsimp only;omega⟩
    ·simp only[r1,r2,hi',Cj,hlt,decide_true,cond_true,Option.bind_some]
     rw[w64 (by omega) (by omega)]
    ·by_cases e:q=j
     ·rw[e];exact hlt
     ·exact g3 q (by omega) q2
   ·exact⟨.inr j,by simp only[r1,r2,hi',Cj,hlt,decide_true,decide_false,cond_true,cond_false,Option.bind_some],g1,g2,g3,fun _=>hlt⟩
  ·exact⟨.inr j,by simp only[hi',decide_false,cond_false,Option.bind_some],g1,g2,g3,fun h=>absurd h hi'⟩
 ·exact⟨h1,Int.le_refl _,fun q q1 q2=>by omega⟩
 ·rintro j ⟨g1,g2,g3,g4⟩
  exact hk j g1 g2 g3 g4
theorem CV (l0:List Int)(a b p:Int)(ha:0≤a)(hb:b≤l0.length)(hlen:l0.length≤1000000)(hp:a≤p)(hp':p<b):
  ∃y,D.x0 l0 a b p=some y∧Rg a b l0 y.2∧a<y.1∧y.1≤b∧(∀k,a≤k→k<y.1→at' y.2 k≤at' l0 p)∧(∀k,y.1≤k→k<b→at' l0 p<at' y.2 k):=by
 unfold D.x0
 have r1:idx l0 p=some (at' l0 p):=AR (by omega) (by omega)
 have r2:idx l0 a=some (at' l0 a):=AR (by omega) (by omega)
 have r3:∀x,idx (l0.set a.toNat x) p=some (at' (l0.set a.toNat x) p):=fun x=>Bg (by omega) (by omega)
 simp only[r1,r2,r3,Option.bind_some]
 rw[show (l0.set a.toNat (at' l0 p)).set p.toNat (at' l0 a)=sw l0 a p from rfl]
 have hR0:Rg a b l0 (sw l0 a p):=Rg.swap ha hb (by omega) (by omega) hp hp'
 have ep:at' (sw l0 a p) a=at' l0 p:=by
  rw[Be (by omega) (by omega) (by omega) (by omega) (by omega)]
  by_cases e:a=p
  ·rw[if_pos e,e]
  ·rw[if_neg e,if_pos rfl]
 generalize sw l0 a p=m0 at hR0 ep ⊢
 rw[w64 (show-9223372036854775808≤b-1 by omega) (by omega),w64 (show-9223372036854775808≤a+1 by omega) (by omega)]
 refine AM (fun s=>Rg a b l0 s.1∧a+1≤s.2.1∧s.2.1≤s.2.2+1∧s.2.2<b∧at' s.1 a=at' l0 p∧(∀q,a+1≤q→q<s.2.1→¬at' s.1 a<at' s.1 q)∧(∀q,s.2.2<q→q<b→at' s.1 a<at' s.1 q)) (fun s=>(s.2.2+1-s.2.1).toNat)
  (fun s=>Rg a b l0 s.1∧a+1≤s.2∧s.2≤b∧at' s.1 a=at' l0 p∧(∀q,a+1≤q→q<s.2→¬at' s.1 a<at' s.1 q)∧(∀q,s.2≤q→q<b→at' s.1 a<at' s.1 q)) ?_ ?_ ?_
 ·rintro⟨m,u,v⟩ ⟨hR,g1,g2,g3,g6,g4,g5⟩
  dsimp only at hR g1 g2 g3 g4 g5 g6 ⊢
  have hml:=hR.len
  refine scanUp2 m a v u ha (by omega) (by omega) (by omega) (by omega) (by omega) (fun i i1 i2 i3 i4=> ?_)
  refine Fb m a i v ha (by omega) (by omega) (by omega) (by omega) (by omega) (fun j j1 j2 j3 j4=> ?_)
  have f1:∀q,a+1≤q→q<i→¬at' m a<at' m q:=fun q h1 h2=>by
   by_cases h:q<u
   ·exact g4 q h1 h
   ·exact i3 q (by omega) h2
  have f2:∀q,j<q→q<b→at' m a<at' m q:=fun q h1 h2=>by
   by_cases h:q≤v
   ·exact j3 q h1 h
   ·exact g5 q (by omega) h2
  by_cases hij:j<i
  ·exact⟨.inr (m,i),by simp only[hij,decide_true,cond_true],hR,by dsimp only;omega,by dsimp only;omega,g6,f1,fun q h1 h2=>f2 q (by dsimp only at h1;omega) h2⟩
  ·have t1:idx m i=some (at' m i):=AR (by omega) (by omega)
   have t2:idx m j=some (at' m j):=AR (by omega) (by omega)
   have t3:∀x,idx (m.set i.toNat x) j=some (at' (m.set i.toNat x) j):=fun x=>Bg (by omega) (by omega)
   have hia:=i4 (by omega)
   have hja:=j4 (by omega)
   have hne:i<j:=by
    rcases Int.lt_or_eq_of_le (show i≤j by omega) with h|h
    ·exact h
    ·subst h;exact absurd hia hja
   have ea:at' (sw m i j) a=at' m a:=by rw[Be (by omega) (by omega) (by omega) (by omega) (by omega),if_neg (by omega),if_neg (by omega)]
   rw[w64 (show-9223372036854775808≤i+1 by omega) (by omega),w64 (show-9223372036854775808≤j-1 by omega) (by omega)]
   refine⟨.inl (sw m i j,i+1,j-1),?_,⟨hR.trans (Rg.swap ha (by omega) (by omega) (by omega) (by omega) (by omega)),by dsimp only;omega,by dsimp only;omega,by dsimp only;omega,by dsimp only;rw[ea];exact g6,fun q h1 h2=> ?_,fun q h1 h2=> ?_⟩,by dsimp only;omega⟩
   ·simp only[t1,t2,t3,hij,decide_false,cond_false,Option.bind_some]
    rfl
   ·dsimp only at h2 ⊢
    rw[ea,Be (by omega) (by omega) (by omega) (by omega) (by omega),if_neg (by omega)]
    by_cases e:q=i
    ·rw[if_pos e];exact hja
    ·rw[if_neg e];exact f1 q h1 (by omega)
   ·dsimp only at h1 ⊢
    rw[ea,Be (by omega) (by omega) (by omega) (by omega) (by omega)]
    by_cases e:q=j
    ·rw[if_pos e];exact hia
    ·rw[if_neg e,if_neg (by omega)];exact f2 q (by omega) h2
 ·exact⟨hR0,by dsimp only;omega,by dsimp only;omega,by dsimp only;omega,ep,fun q h1 h2=>by dsimp only at h2;omega,fun q h1 h2=>by dsimp only at h1;omega⟩
 ·rintro⟨m,v⟩ ⟨hR,g1,g2,g3,g4,g5⟩
  refine⟨(v,m),rfl,hR,by dsimp only at*;omega,g2,fun k k1 k2=> ?_,fun k k1 k2=> ?_⟩
  ·dsimp only at*
   by_cases e:k=a
   ·rw[e,g3];exact Int.le_refl _
   ·have:=g4 k (by omega) k2;omega
  ·dsimp only at*
   have:=g5 k k1 k2;omega
theorem CE (l:List Int)(a b s:Int)(ha:0≤a)(ha':a<l.length)(hb:0≤b)(hb':b<l.length):
  ∃y,D.D l a b s=some y∧y.2.2.1=l∧((y.1=a∧y.2.1=b)∨(y.1=b∧y.2.1=a)):=by
 have r1:idx l a=some (at' l a):=AR ha ha'
 have r2:idx l b=some (at' l b):=AR hb hb'
 unfold D.D
 simp only[r1,r2,Cj,Option.bind_some]
 by_cases h:at' l b<at' l a
 ·simp only[h,decide_true,cond_true];exact⟨_,rfl,rfl,.inr ⟨rfl,rfl⟩⟩
 ·simp only[h,decide_false,cond_false];exact⟨_,rfl,rfl,.inl ⟨rfl,rfl⟩⟩
theorem DI (l:List Int)(a b c s:Int)(ha:0≤a)(ha':a<l.length)(hb:0≤b)(hb':b<l.length)(hc:0≤c)(hc':c<l.length):
  ∃y,D.N l a b c s=some y∧y.2.1=l∧(y.1=a∨y.1=b∨y.1=c):=by
 unfold D.N
 obtain⟨y1,h1,e1,c1⟩:=CE l a b s ha ha' hb hb'
 rw[h1,Option.bind_some,e1]
 have b1:0≤y1.2.1∧y1.2.1<l.length∧0≤y1.1∧y1.1<l.length:=by rcases c1 with⟨c,d⟩|⟨c,d⟩<;>rw[c,d]<;>exact⟨by assumption,by assumption,by assumption,by assumption⟩
 obtain⟨y2,h2,e2,c2⟩:=CE l y1.2.1 c y1.2.2.2 b1.1 b1.2.1 hc hc'
 rw[h2,Option.bind_some,e2]
 have b2:0≤y2.1∧y2.1<l.length:=by rcases c2 with⟨c,d⟩|⟨c,d⟩<;>rw[c]<;>exact⟨by omega,by omega⟩
 obtain⟨y3,h3,e3,c3⟩:=CE l y1.1 y2.1 y2.2.2.2 b1.2.2.1 b1.2.2.2 b2.1 b2.2
 rw[h3,Option.bind_some]
 refine⟨_,rfl,e3,?_⟩
 dsimp only
 omega
theorem Dj (l:List Int)(a b:Int)(ha:0≤a)(hb:b≤l.length)(h8:8≤b-a)(h50:b-a<50)(hlen:l.length≤1000000):
  ∃y,D.k0 l a b=some y∧y.2.2=l∧a≤y.1∧y.1<b:=by
 unfold D.k0
 rw[w64 (show-9223372036854775808≤b-a by omega) (by omega)]
 have e4:(b-a).tdiv 4=(b-a)/4:=Int.tdiv_eq_ediv_of_nonneg (by omega)
 rw[e4,w64 (show-9223372036854775808≤(b-a)/4 by omega) (by omega)]
 rw[w64 (show-9223372036854775808≤(b-a)/4*1 by omega) (by omega),w64 (show-9223372036854775808≤(b-a)/4*2 by omega) (by omega),w64 (show-9223372036854775808≤(b-a)/4*3 by omega) (by omega)]
 rw[w64 (show-9223372036854775808≤a+(b-a)/4*1 by omega) (by omega),w64 (show-9223372036854775808≤a+(b-a)/4*2 by omega) (by omega),w64 (show-9223372036854775808≤a+(b-a)/4*3 by omega) (by omega)]
 simp only[h8,show¬(50≤b-a) by omega,decide_true,decide_false,cond_true,cond_false,Option.bind_some]
 obtain⟨y,h1,e1,c1⟩:=DI l (a+(b-a)/4*1) (a+(b-a)/4*2) (a+(b-a)/4*3) 0 (by omega) (by omega) (by omega) (by omega) (by omega) (by omega)
 rw[h1,Option.bind_some,e1]
 have hy:a≤y.1∧y.1<b:=by omega
 cases (y.2.2==0)
 ·cases (y.2.2==12)
  ·exact⟨_,rfl,rfl,hy⟩
  ·exact⟨_,rfl,rfl,hy⟩
 ·exact⟨_,rfl,rfl,hy⟩
theorem CK (l:List Int)(a b:Int)(ha:0≤a)(hab:a<b)(hb:b≤l.length)(h50:b-a<50)(hlen:l.length≤1000000):
  ∃y,D.E0 l a b=some y∧y.2=l∧(y.1=true→Srt l a b):=by
 unfold D.E0
 rw[w64 (show-9223372036854775808≤a+1 by omega) (by omega)]
 refine AM (fun s=>s=(l,a+1,0)) (fun _=>0) (fun r=>∃y:Bool×List Int,r= .inr y∧y.2=l∧(y.1=true→Srt l a b)) ?_ rfl ?_
 ·rintro s rfl
  dsimp only
  simp only[show ((0:Int)<5) from by decide,decide_true,cond_true]
  refine AM (fun i=>a+1≤i∧i≤b∧Srt l a i) (fun i=>(b-i).toNat) (fun i=>a+1≤i∧i≤b∧Srt l a i) ?_ ?_ ?_
  ·rintro i ⟨g1,g2,g3⟩
   by_cases hi:i<b
   ·have r1:idx l i=some (at' l i):=AR (by omega) (by omega)
    have r2:idx l (i-1)=some (at' l (i-1)):=AR (by omega) (by omega)
    have e1:IntKind.i64.wrap (i-1)=i-1:=w64 (by omega) (by omega)
    by_cases hlt:at' l i<at' l (i-1)
    ·exact⟨.inr i,by simp only[r1,r2,e1,hi,Cj,hlt,decide_true,Bool.not_true,cond_true,cond_false,Option.bind_some],g1,g2,g3⟩
    ·refine⟨.inl (i+1),?_,⟨by omega,by omega,fun p q k1 k2 k3=> ?_⟩,by dsimp only;omega⟩
     ·simp only[r1,r2,e1,hi,Cj,hlt,decide_true,decide_false,Bool.not_false,cond_true,Option.bind_some]
      rw[w64 (by omega) (by omega)]
     ·by_cases e:q=i
      ·subst e
       by_cases e2:p=q-1
       ·subst e2;omega
       ·have:=g3 p (q-1) k1 (by omega) (by omega);omega
      ·exact g3 p q k1 k2 (by omega)
   ·exact⟨.inr i,by simp only[hi,decide_false,cond_false,Option.bind_some],g1,g2,g3⟩
  ·exact⟨Int.le_refl _,by omega,fun p q k1 k2 k3=>by omega⟩
  ·rintro i ⟨g1,g2,g3⟩
   rw[w64 (show-9223372036854775808≤b-a by omega) (by omega)]
   by_cases he:i=b
   ·refine⟨.inr (.inr (true,l)),?_,_,rfl,rfl,fun _=>by rw[←he];exact g3⟩
    have:(i==b)=true:=by simp[he]
    simp only[this,cond_true]
   ·refine⟨.inr (.inr (false,l)),?_,_,rfl,rfl,fun h=>by cases h⟩
    have:(i==b)=false:=by simp[he]
    simp only[this,h50,decide_true,cond_true,cond_false]
 ·rintro r ⟨y,rfl,h1,h2⟩
  exact⟨y,rfl,h1,h2⟩
end Go.Sx

namespace Go.Sx
theorem iand_small (y m:Int)(h0:0≤m)(h1:m<4294967296):0≤iand .u64 y m∧iand .u64 y m≤m:=by
 unfold iand
 have e:(BitVec.ofInt IntKind.u64.bits y&&&BitVec.ofInt IntKind.u64.bits m).toNat≤(BitVec.ofInt IntKind.u64.bits m).toNat:=by
  rw[BitVec.toNat_and];exact Nat.and_le_right
 have e2:(BitVec.ofInt IntKind.u64.bits m).toNat=m.toNat:=by
  rw[BitVec.toNat_ofInt]
  show (m%(2^64:Nat)).toNat=m.toNat
  congr 1
  omega
 rw[e2] at e
 generalize (BitVec.ofInt IntKind.u64.bits y&&&BitVec.ofInt IntKind.u64.bits m).toNat=t at e
 have:IntKind.u64.wrap (t:Int)=t:=by
  simp only[IntKind.wrap,IntKind.bits,IntKind.signed]
  simp
  omega
 rw[this]
 omega
theorem wu64 {x:Int}(h1:0≤x)(h2:x<18446744073709551616):IntKind.u64.wrap x=x:=by
 simp only[IntKind.wrap,IntKind.bits,IntKind.signed]
 simp
 omega
theorem E9 (n:Int)(h1:8≤n)(h2:n≤16):∃y,D.z n=some y∧n<y∧y≤2*n:=by
 unfold D.z
 rw[wu64 (by omega) (by omega)]
 have key:∀k:Int,k=8∨k=9∨k=10∨k=11∨k=12∨k=13∨k=14∨k=15∨k=16→k<ishl .u64 1 (Lib.bitLen k.toNat:Nat)∧ishl .u64 1 (Lib.bitLen k.toNat:Nat)≤2*k:=by
  rintro k (rfl|rfl|rfl|rfl|rfl|rfl|rfl|rfl|rfl)<;>decide
 obtain⟨k1,k2⟩:=key n (by omega)
 refine⟨_,?_,k1,k2⟩
 unfold D.r
 rw[if_pos (by omega),Option.bind_some]
 have:decide (((Lib.bitLen n.toNat:Nat):Int)<0)=false:=by simp
 rw[this]
 rfl
theorem CZ (l0:List Int)(a b:Int)(ha:0≤a)(hb:b≤l0.length)(h8:8≤b-a)(h16:b-a≤16)(hlen:l0.length≤1000000):
  ∃l',D.C0 l0 a b=some l'∧Rg a b l0 l':=by
 unfold D.C0
 rw[w64 (show-9223372036854775808≤b-a by omega) (by omega)]
 have e4:(b-a).tdiv 4=(b-a)/4:=Int.tdiv_eq_ediv_of_nonneg (by omega)
 rw[e4,w64 (show-9223372036854775808≤(b-a)/4 by omega) (by omega)]
 rw[w64 (show-9223372036854775808≤(b-a)/4*2 by omega) (by omega)]
 rw[w64 (show-9223372036854775808≤a+(b-a)/4*2 by omega) (by omega)]
 rw[w64 (show-9223372036854775808≤a+(b-a)/4*2+1 by omega) (by omega),w64 (show-9223372036854775808≤a+(b-a)/4*2-1 by omega) (by omega)]
 simp only[h8,decide_true,cond_true]
 obtain⟨y,hy,g1,g2⟩:=E9 (b-a) h8 h16
 rw[hy,Option.bind_some,wu64 (show 0≤y-1 by omega) (by omega)]
 refine AM (fun s=>Rg a b l0 s.1∧a+(b-a)/4*2-1≤s.2.1∧s.2.1≤a+(b-a)/4*2+2) (fun s=>(a+(b-a)/4*2+2-s.2.1).toNat) (fun r=>Rg a b l0 r) ?_ ?_ ?_
 ·rintro⟨l,i,z⟩ ⟨hR,k1,k2⟩
  dsimp only at hR k1 k2 ⊢
  have hll:=hR.len
  by_cases hi:i≤a+(b-a)/4*2+1
  ·simp only[hi,decide_true,cond_true,D.K,Option.bind_some]
   obtain⟨t1,t2⟩:=iand_small (A7 .u64 (A7 .u64 (A7 .u64 z (ishl .u64 z 13)) (BJ .u64 (A7 .u64 z (ishl .u64 z 13)) 7)) (ishl .u64 (A7 .u64 (A7 .u64 z (ishl .u64 z 13)) (BJ .u64 (A7 .u64 z (ishl .u64 z 13)) 7)) 17)) (y-1) (by omega) (by omega)
   revert t1 t2
   generalize iand .u64 (A7 .u64 (A7 .u64 (A7 .u64 z (ishl .u64 z 13)) (BJ .u64 (A7 .u64 z (ishl .u64 z 13)) 7)) (ishl .u64 (A7 .u64 (A7 .u64 z (ishl .u64 z 13)) (BJ .u64 (A7 .u64 z (ishl .u64 z 13)) 7)) 17)) (y-1)=t
   generalize (A7 .u64 (A7 .u64 (A7 .u64 z (ishl .u64 z 13)) (BJ .u64 (A7 .u64 z (ishl .u64 z 13)) 7)) (ishl .u64 (A7 .u64 (A7 .u64 z (ishl .u64 z 13)) (BJ .u64 (A7 .u64 z (ishl .u64 z 13)) 7)) 17))=z'
   intro t1 t2
   rw[w64 (show-9223372036854775808≤t by omega) (by omega),w64 (show-9223372036854775808≤t-(b-a) by omega) (by omega)]
   have hc:∃o,(bif decide (b-a≤t) then some (t-(b-a)) else some t)=some o∧0≤o∧o<b-a:=by
    by_cases h:b-a≤t
    ·exact⟨t-(b-a),by simp[h],by omega,by omega⟩
    ·exact⟨t,by simp[h],by omega,by omega⟩
   obtain⟨o,ho,o1,o2⟩:=hc
   rw[ho,Option.bind_some,w64 (show-9223372036854775808≤a+o by omega) (by omega),w64 (show-9223372036854775808≤i+1 by omega) (by omega)]
   have r1:idx l i=some (at' l i):=AR (by omega) (by omega)
   have r2:idx l (a+o)=some (at' l (a+o)):=AR (by omega) (by omega)
   have r3:∀x,idx (l.set i.toNat x) (a+o)=some (at' (l.set i.toNat x) (a+o)):=fun x=>Bg (by omega) (by omega)
   refine⟨.inl (sw l i (a+o),i+1,z'),?_,⟨hR.trans (Rg.swap ha (by omega) (by omega) (by omega) (by omega) (by omega)),by dsimp only;omega,by dsimp only;omega⟩,by dsimp only;omega⟩
   simp only[r1,r2,r3,Option.bind_some]
   rfl
  ·exact⟨.inr l,by simp only[hi,decide_false,cond_false],hR⟩
 ·exact⟨Rg.refl _ _ _,by dsimp only;omega,by dsimp only;omega⟩
 ·rintro r hr
  exact⟨r,rfl,hr⟩
end Go.Sx

namespace Go.Sx.Gs
variable {α : Type} [Srtd α]
theorem CK (l0:List α)(hG:Good l0)(a b:Int)(ha:0≤a)(hab:a<b)(hb:b≤l0.length)(hlen:l0.length≤1000000)
  (hpre:0<a→∀k,a≤k→k<b→at' l0 (a-1)≤at' l0 k):
  ∃y,DG.partialInsertionSort Srtd.cmp l0 a b=some y∧Rg a b l0 y.2∧(y.1=true→Srt y.2 a b):=by
 unfold DG.partialInsertionSort
 rw[w64 (show-9223372036854775808≤a+1 by omega) (by omega),w64 (show-9223372036854775808≤b-a by omega) (by omega)]
 refine AM (fun s=>Rg a b l0 s.1∧a+1≤s.2.1∧s.2.1≤b∧Srt s.1 a s.2.1∧0≤s.2.2∧s.2.2≤5) (fun s=>(5-s.2.2).toNat)
  (fun r=>match r with| .inl l=>Rg a b l0 l| .inr y=>Rg a b l0 y.2∧(y.1=true→Srt y.2 a b)) ?_ ⟨Rg.refl _ _ _,by dsimp only;omega,by dsimp only;omega,fun p q k1 k2 k3=>by dsimp only at k3;omega,by dsimp only;omega,by dsimp only;omega⟩ ?_
 ·rintro⟨l,i,j⟩ ⟨hR,g1,g2,g3,g4,g5⟩
  dsimp only at hR g1 g2 g3 g4 g5 ⊢
  have hll:=hR.len
  by_cases hj:j<5
  ·simp only[hj,decide_true,cond_true]
   refine AM (fun i=>a+1≤i∧i≤b∧Srt l a i) (fun i=>(b-i).toNat) (fun i=>a+1≤i∧i≤b∧Srt l a i∧(i<b→at' l i<at' l (i-1))) ?_ ⟨g1,g2,g3⟩ ?_
   ·rintro i ⟨g1,g2,g3⟩
    by_cases hi:i<b
    ·have r1:idx l i=some (el l i):=AR (by omega) (by omega)
     have r2:idx l (i-1)=some (el l (i-1)):=AR (by omega) (by omega)
     have e1:IntKind.i64.wrap (i-1)=i-1:=w64 (by omega) (by omega)
     obtain⟨v,cv,hv⟩:=CS (hR.good hG) (i:=i) (j:=i-1) (by omega) (by omega) (by omega) (by omega)
     by_cases hlt:at' l i<at' l (i-1)
     ·exact⟨.inr i,by simp only[r1,r2,e1,hi,cv,hv,hlt,decide_true,Bool.not_true,cond_true,cond_false,Option.bind_some],g1,g2,g3,fun _=>hlt⟩
     ·refine⟨.inl (i+1),?_,⟨by omega,by omega,fun p q k1 k2 k3=> ?_⟩,by dsimp only;omega⟩
      ·simp only[r1,r2,e1,hi,cv,hv,hlt,decide_true,decide_false,Bool.not_false,cond_true,Option.bind_some]
       rw[w64 (by omega) (by omega)]
      ·by_cases e:q=i
       ·subst e
        by_cases e2:p=q-1
        ·subst e2;omega
        ·have:=g3 p (q-1) k1 (by omega) (by omega);omega
       ·exact g3 p q k1 k2 (by omega)
    ·exact⟨.inr i,by simp only[hi,decide_false,cond_false,Option.bind_some],g1,g2,g3,fun h=>absurd h hi⟩
   ·rintro i ⟨g1,g2,g3,g6⟩
    by_cases he:i=b
    ·have:(i==b)=true:=by simp[he]
     simp only[this,cond_true]
     exact⟨_,rfl,hR,fun _=>by rw[←he];exact g3⟩
    ·have:(i==b)=false:=by simp[he]
     simp only[this,cond_false]
     by_cases h50:b-a<50
     ·simp only[h50,decide_true,cond_true]
      exact⟨_,rfl,hR,fun h=>by cases h⟩
     ·simp only[h50,decide_false,cond_false]
      have hib:i<b:=by omega
      have hlt:=g6 hib
      have e1:IntKind.i64.wrap (i-1)=i-1:=w64 (by omega) (by omega)
      have r1:idx l i=some (el l i):=AR (by omega) (by omega)
      have r2:idx l (i-1)=some (el l (i-1)):=AR (by omega) (by omega)
      have r3:∀x,idx (l.set i.toNat x) (i-1)=some (el (l.set i.toNat x) (i-1)):=fun x=>Bg (by omega) (by omega)
      simp only[e1,r1,r2,r3,Option.bind_some]
      rw[show (l.set i.toNat (el l (i-1))).set (i-1).toNat (el l i)=sw l i (i-1) from rfl]
      have hR1:Rg a b l0 (sw l i (i-1)):=hR.trans (Rg.swap ha (by omega) (by omega) (by omega) (by omega) (by omega))
      have hS1:∀p q,a≤p→p<q→q≤i-1→q≠i-1→at' (sw l i (i-1)) p≤at' (sw l i (i-1)) q:=fun p q k1 k2 k3 k4=>by
       rw[Be (by omega) (by omega) (by omega) (by omega) (by omega),Be (by omega) (by omega) (by omega) (by omega) (by omega)]
       rw[if_neg (by omega),if_neg (by omega),if_neg (by omega),if_neg (by omega)]
       exact g3 p q k1 k2 (by omega)
      generalize sw l i (i-1)=m at hR1 hS1 ⊢
      have hml:=hR1.len
      have hpre':∀m',Rg a b l0 m'→0<a→∀k,a≤k→k<b→at' m' (a-1)≤at' m' k:=fun m' hr h0 k k1 k2=>by
       rw[hr.out (a-1) (by omega) (.inl (by omega))]
       exact hr.all (fun x=>at' l0 (a-1)≤x) (hpre h0) k k1 k2
      rw[w64 (show-9223372036854775808≤i-a by omega) (by omega),w64 (show-9223372036854775808≤b-i by omega) (by omega),w64 (show-9223372036854775808≤i+1 by omega) (by omega),w64 (show-9223372036854775808≤j+1 by omega) (by omega)]
      refine BI (fun m=>Rg a b l0 m∧Srt m a i) ?_ ?_
      ·by_cases h2:2≤i-a
       ·simp only[h2,decide_true,cond_true]
        refine AM (fun s=>Rg a b l0 s.1∧a≤s.2∧s.2≤i-1∧∀p q,a≤p→p<q→q≤i-1→q≠s.2→at' s.1 p≤at' s.1 q) (fun s=>s.2.toNat) (fun r=>Rg a b l0 r∧Srt r a i) ?_ ⟨hR1,by dsimp only;omega,Int.le_refl _,hS1⟩ (fun r hr=>⟨r,rfl,hr⟩)
        rintro⟨m,j⟩ ⟨hR',q1,q2,hS'⟩
        dsimp only at hR' q1 q2 hS' ⊢
        have hml:=hR'.len
        by_cases hj1:1≤j
        ·have f1:idx m j=some (el m j):=AR (by omega) (by omega)
         have f2:idx m (j-1)=some (el m (j-1)):=AR (by omega) (by omega)
         have f3:∀x,idx (m.set j.toNat x) (j-1)=some (el (m.set j.toNat x) (j-1)):=fun x=>Bg (by omega) (by omega)
         have e2:IntKind.i64.wrap (j-1)=j-1:=w64 (by omega) (by omega)
         obtain⟨v,cv,hv⟩:=CS (hR'.good hG) (i:=j) (j:=j-1) (by omega) (by omega) (by omega) (by omega)
         by_cases hlt:at' m j<at' m (j-1)
         ·have hja:a<j:=by
           rcases Int.lt_or_eq_of_le q1 with h|h
           ·exact h
           ·subst h
            have:=hpre' m hR' (by omega) a (Int.le_refl _) hab
            omega
          refine⟨.inl (sw m j (j-1),j-1),?_,⟨hR'.trans (Rg.swap ha (by omega) (by omega) (by omega) (by omega) (by omega)),by dsimp only;omega,by dsimp only;omega,?_⟩,by dsimp only;omega⟩
          ·simp only[hj1,decide_true,cond_true,e2,f1,f2,f3,cv,hv,hlt,Bool.not_true,cond_false,Option.bind_some]
           rfl
          ·intro p q k1 k2 k3 k4
           dsimp only at k4 ⊢
           rw[Be (by omega) (by omega) (by omega) (by omega) (by omega),Be (by omega) (by omega) (by omega) (by omega) (by omega)]
           by_cases c1:q=j
           ·subst c1
            rw[if_neg (show¬q=q-1 by omega),if_pos rfl]
            by_cases c2:p=q-1
            ·rw[if_pos c2];omega
            ·rw[if_neg c2,if_neg (by omega)]
             exact hS' p (q-1) k1 (by omega) (by omega) (by omega)
           ·rw[if_neg (show¬q=j-1 by omega),if_neg c1]
            by_cases c2:p=j-1
            ·rw[if_pos c2]
             exact hS' j q (by omega) (by omega) k3 c1
            ·rw[if_neg c2]
             by_cases c3:p=j
             ·rw[if_pos c3]
              exact hS' (j-1) q (by omega) (by omega) k3 c1
             ·rw[if_neg c3]
              exact hS' p q k1 k2 k3 c1
         ·refine⟨.inr m,?_,hR',?_⟩
          ·simp only[hj1,decide_true,cond_true,e2,f1,f2,cv,hv,hlt,decide_false,Bool.not_false,Option.bind_some]
          ·intro p q k1 k2 k3
           by_cases c1:q=j
           ·subst c1
            by_cases c2:p=q-1
            ·subst c2;omega
            ·have:=hS' p (q-1) k1 (by omega) (by omega) (by omega)
             omega
           ·exact hS' p q k1 k2 (by omega) c1
        ·refine⟨.inr m,?_,hR',?_⟩
         ·simp only[hj1,decide_false,cond_false]
         ·intro p q k1 k2 k3
          exact hS' p q k1 k2 (by omega) (by omega)
       ·simp only[h2,decide_false,cond_false]
        exact⟨_,rfl,hR1,fun p q k1 k2 k3=>by omega⟩
      ·rintro m1 ⟨hR2,hS2⟩
       have hm1:=hR2.len
       by_cases h2:2≤b-i
       ·simp only[h2,decide_true,cond_true]
        refine AM (fun s=>Rg a b l0 s.1∧Srt s.1 a i∧i+1≤s.2∧s.2≤b) (fun s=>(b-s.2).toNat) (fun r=>Rg a b l0 r∧Srt r a i) ?_ ⟨hR2,hS2,by dsimp only;omega,by dsimp only;omega⟩ ?_
        ·rintro⟨m,q⟩ ⟨hR',hS',q1,q2⟩
         dsimp only at hR' hS' q1 q2 ⊢
         have hml:=hR'.len
         by_cases hq:q<b
         ·have f1:idx m q=some (el m q):=AR (by omega) (by omega)
          have f2:idx m (q-1)=some (el m (q-1)):=AR (by omega) (by omega)
          have f3:∀x,idx (m.set q.toNat x) (q-1)=some (el (m.set q.toNat x) (q-1)):=fun x=>Bg (by omega) (by omega)
          have e2:IntKind.i64.wrap (q-1)=q-1:=w64 (by omega) (by omega)
          have e3:IntKind.i64.wrap (q+1)=q+1:=w64 (by omega) (by omega)
          obtain⟨v,cv,hv⟩:=CS (hR'.good hG) (i:=q) (j:=q-1) (by omega) (by omega) (by omega) (by omega)
          by_cases hlt:at' m q<at' m (q-1)
          ·refine⟨.inl (sw m q (q-1),q+1),?_,⟨hR'.trans (Rg.swap ha (by omega) (by omega) (by omega) (by omega) (by omega)),fun p r k1 k2 k3=> ?_,by dsimp only;omega,by dsimp only;omega⟩,by dsimp only;omega⟩
           ·simp only[hq,decide_true,cond_true,e2,e3,f1,f2,f3,cv,hv,hlt,Bool.not_true,cond_false,Option.bind_some]
            rfl
           ·dsimp only
            rw[Be (by omega) (by omega) (by omega) (by omega) (by omega),Be (by omega) (by omega) (by omega) (by omega) (by omega)]
            rw[if_neg (by omega),if_neg (by omega),if_neg (by omega),if_neg (by omega)]
            exact hS' p r k1 k2 k3
          ·refine⟨.inr m,?_,hR',hS'⟩
           simp only[hq,decide_true,cond_true,e2,f1,f2,cv,hv,hlt,decide_false,Bool.not_false,Option.bind_some]
         ·exact⟨.inr m,by simp only[hq,decide_false,cond_false],hR',hS'⟩
        ·rintro m2 ⟨hR3,hS3⟩
         exact⟨_,rfl,⟨hR3,g1,g2,hS3,by dsimp only;omega,by dsimp only;omega⟩,by dsimp only;omega⟩
       ·simp only[h2,decide_false,cond_false]
        exact⟨_,rfl,⟨hR2,g1,g2,hS2,by dsimp only;omega,by dsimp only;omega⟩,by dsimp only;omega⟩
  ·simp only[hj,decide_false,cond_false]
   exact⟨_,rfl,hR⟩
 ·rintro(l|y) h
  ·exact⟨_,rfl,h,fun h=>by cases h⟩
  ·exact⟨_,rfl,h⟩
theorem Fu :∀x:Nat,1≤x→x<2^64→x<2^(Lib.bitLen x)∧2^(Lib.bitLen x)≤2*x:=by
 intro x
 induction x using Nat.strongRecOn with
 |ind x ih=>
  intro h1 h2
  rw[Lib.bitLen_half x (by omega) h2]
  by_cases h:x=1
  ·subst h;decide
  ·obtain⟨a,b⟩:=ih (x/2) (by omega) (by omega) (by omega)
   rw[Nat.add_comm,Nat.pow_succ]
   generalize 2^Lib.bitLen (x/2)=p at a b
   omega
theorem E9 (n:Int)(h1:8≤n)(h2:n≤1000000):∃y,D.z n=some y∧n<y∧y≤2*n:=by
 obtain⟨m,rfl⟩:∃m:Nat,n=(m:Int):=⟨n.toNat,by omega⟩
 obtain⟨k1,k2⟩:=Fu m (by omega) (by omega)
 have hb:Lib.bitLen m<22:=by
  apply Classical.byContradiction
  intro hc
  have:2^22≤2^Lib.bitLen m:=Nat.pow_le_pow_right (by omega) (by omega)
  omega
 unfold D.z
 rw[wu64 (by omega) (by omega)]
 unfold D.r
 rw[if_pos (by omega),Option.bind_some]
 have:decide (((Lib.bitLen m:Nat):Int)<0)=false:=by simp
 rw[Int.toNat_natCast,this,cond_false]
 have e:ishl .u64 1 ((Lib.bitLen m:Nat):Int)=((2^Lib.bitLen m:Nat):Int):=by
  show IntKind.u64.wrap (1*2^(min (((Lib.bitLen m:Nat):Int)).toNat 64))=_
  rw[Int.toNat_natCast,show min (Lib.bitLen m) 64=Lib.bitLen m by omega,Int.one_mul]
  have e':((2^Lib.bitLen m:Nat):Int)=(2:Int)^Lib.bitLen m:=by simp
  rw[←e',wu64 (by omega) (by omega)]
 rw[e]
 exact⟨_,rfl,by omega,by omega⟩
theorem CZ (l0:List α)(a b:Int)(ha:0≤a)(hb:b≤l0.length)(h8:8≤b-a)(hlen:l0.length≤1000000):
  ∃l',DG.breakPatterns Srtd.cmp l0 a b=some l'∧Rg a b l0 l':=by
 unfold DG.breakPatterns
 rw[w64 (show-9223372036854775808≤b-a by omega) (by omega)]
 have e4:(b-a).tdiv 4=(b-a)/4:=Int.tdiv_eq_ediv_of_nonneg (by omega)
 rw[e4,w64 (show-9223372036854775808≤(b-a)/4 by omega) (by omega)]
 rw[w64 (show-9223372036854775808≤(b-a)/4*2 by omega) (by omega)]
 rw[w64 (show-9223372036854775808≤a+(b-a)/4*2 by omega) (by omega)]
 rw[w64 (show-9223372036854775808≤a+(b-a)/4*2+1 by omega) (by omega),w64 (show-9223372036854775808≤a+(b-a)/4*2-1 by omega) (by omega)]
 simp only[h8,decide_true,cond_true]
 obtain⟨y,hy,g1,g2⟩:=E9 (b-a) h8 (by omega)
 rw[hy,Option.bind_some,wu64 (show 0≤y-1 by omega) (by omega)]
 refine AM (fun s=>Rg a b l0 s.1∧a+(b-a)/4*2-1≤s.2.1∧s.2.1≤a+(b-a)/4*2+2) (fun s=>(a+(b-a)/4*2+2-s.2.1).toNat) (fun r=>Rg a b l0 r) ?_ ?_ ?_
 ·rintro⟨l,i,z⟩ ⟨hR,k1,k2⟩
  dsimp only at hR k1 k2 ⊢
  have hll:=hR.len
  by_cases hi:i≤a+(b-a)/4*2+1
  ·simp only[hi,decide_true,cond_true,D.K,Option.bind_some]
   obtain⟨t1,t2⟩:=iand_small (A7 .u64 (A7 .u64 (A7 .u64 z (ishl .u64 z 13)) (BJ .u64 (A7 .u64 z (ishl .u64 z 13)) 7)) (ishl .u64 (A7 .u64 (A7 .u64 z (ishl .u64 z 13)) (BJ .u64 (A7 .u64 z (ishl .u64 z 13)) 7)) 17)) (y-1) (by omega) (by omega)
   revert t1 t2
   generalize iand .u64 (A7 .u64 (A7 .u64 (A7 .u64 z (ishl .u64 z 13)) (BJ .u64 (A7 .u64 z (ishl .u64 z 13)) 7)) (ishl .u64 (A7 .u64 (A7 .u64 z (ishl .u64 z 13)) (BJ .u64 (A7 .u64 z (ishl .u64 z 13)) 7)) 17)) (y-1)=t
   generalize (A7 .u64 (A7 .u64 (A7 .u64 z (ishl .u64 z 13)) (BJ .u64 (A7 .u64 z (ishl .u64 z 13)) 7)) (ishl .u64 (A7 .u64 (A7 .u64 z (ishl .u64 z 13)) (BJ .u64 (A7 .u64 z (ishl .u64 z 13)) 7)) 17))=z'
   intro t1 t2
   rw[w64 (show-9223372036854775808≤t by omega) (by omega),w64 (show-9223372036854775808≤t-(b-a) by omega) (by omega)]
   have hc:∃o,(bif decide (b-a≤t) then some (t-(b-a)) else some t)=some o∧0≤o∧o<b-a:=by
    by_cases h:b-a≤t
    ·exact⟨t-(b-a),by simp[h],by omega,by omega⟩
    ·exact⟨t,by simp[h],by omega,by omega⟩
   obtain⟨o,ho,o1,o2⟩:=hc
   rw[ho,Option.bind_some,w64 (show-9223372036854775808≤a+o by omega) (by omega),w64 (show-9223372036854775808≤i+1 by omega) (by omega)]
   have r1:idx l i=some (el l i):=AR (by omega) (by omega)
   have r2:idx l (a+o)=some (el l (a+o)):=AR (by omega) (by omega)
   have r3:∀x,idx (l.set i.toNat x) (a+o)=some (el (l.set i.toNat x) (a+o)):=fun x=>Bg (by omega) (by omega)
   refine⟨.inl (sw l i (a+o),i+1,z'),?_,⟨hR.trans (Rg.swap ha (by omega) (by omega) (by omega) (by omega) (by omega)),by dsimp only;omega,by dsimp only;omega⟩,by dsimp only;omega⟩
   simp only[r1,r2,r3,Option.bind_some]
   rfl
  ·exact⟨.inr l,by simp only[hi,decide_false,cond_false],hR⟩
 ·exact⟨Rg.refl _ _ _,by dsimp only;omega,by dsimp only;omega⟩
 ·rintro r hr
  exact⟨r,rfl,hr⟩
end Go.Sx.Gs

namespace Go.Sx.Gs
variable {α : Type} [Srtd α]
def kid (i c:Int):Prop:=c=2*i+1∨c=2*i+2
theorem EQ (l0:List α)(hG:Good l0)(lo hi f:Int)(h0:0≤lo)(hf:0≤f)(hlh:lo≤hi)(hb:f+hi≤l0.length)(hlen:l0.length≤1000000)
  (hH:∀i c,lo<i→kid i c→c<hi→at' l0 (f+c)≤at' l0 (f+i)):
  ∃l',DG.siftDown Srtd.cmp l0 lo hi f=some l'∧Rg (f+lo) (f+hi) l0 l'∧∀i c,lo≤i→kid i c→c<hi→at' l' (f+c)≤at' l' (f+i):=by
 unfold DG.siftDown
 refine AM (fun s=>Rg (f+lo) (f+hi) l0 s.1∧lo≤s.2∧s.2≤hi∧(∀i c,lo≤i→i≠s.2→kid i c→c<hi→at' s.1 (f+c)≤at' s.1 (f+i))∧(∀p c,lo≤p→kid p s.2→kid s.2 c→c<hi→at' s.1 (f+c)≤at' s.1 (f+p)))
  (fun s=>(hi-s.2).toNat)
  (fun r=>match r with| .inl l'=>Rg (f+lo) (f+hi) l0 l'∧∀i c,lo≤i→kid i c→c<hi→at' l' (f+c)≤at' l' (f+i)| .inr l'=>Rg (f+lo) (f+hi) l0 l'∧∀i c,lo≤i→kid i c→c<hi→at' l' (f+c)≤at' l' (f+i)) ?_
  ⟨Rg.refl _ _ _,Int.le_refl _,hlh,fun i c h1 h2 h3 h4=>hH i c (by dsimp only at h2;omega) h3 h4,fun p c h1 h2 h3 h4=>by unfold kid at h2;dsimp only at h2;omega⟩ ?_
 ·rintro⟨l,r⟩ ⟨hR,g1,g2,g3,g4⟩
  dsimp only at hR g1 g2 g3 g4 ⊢
  have hll:=hR.len
  rw[w64 (show-9223372036854775808≤2*r by omega) (by omega),w64 (show-9223372036854775808≤2*r+1 by omega) (by omega)]
  rw[w64 (show-9223372036854775808≤2*r+1+1 by omega) (by omega),w64 (show-9223372036854775808≤f+(2*r+1) by omega) (by omega),w64 (show-9223372036854775808≤f+(2*r+1)+1 by omega) (by omega),w64 (show-9223372036854775808≤f+r by omega) (by omega)]
  by_cases hc:hi≤2*r+1
  ·simp only[hc,decide_true,cond_true]
   refine⟨_,rfl,hR,fun i c h1 h2 h3=> ?_⟩
   by_cases e:i=r
   ·subst e;unfold kid at h2;omega
   ·exact g3 i c h1 e h2 h3
  ·simp only[hc,decide_false,cond_false]
   refine BI (fun b:Bool=>(b=true→2*r+2<hi∧at' l (f+(2*r+1))<at' l (f+(2*r+2)))∧(b=false→2*r+2<hi→at' l (f+(2*r+2))≤at' l (f+(2*r+1)))) ?_ ?_
   ·by_cases h2:2*r+1+1<hi
    ·have r1:idx l (f+(2*r+1))=some (el l (f+(2*r+1))):=AR (by omega) (by omega)
     have r2:idx l (f+(2*r+1)+1)=some (el l (f+(2*r+1)+1)):=AR (by omega) (by omega)
     obtain⟨v,cv,hv⟩:=CS (hR.good hG) (i:=f+(2*r+1)) (j:=f+(2*r+1)+1) (by omega) (by omega) (by omega) (by omega)
     simp only[h2,decide_true,cond_true,r1,r2,cv,hv,Option.bind_some]
     rw[show f+(2*r+1)+1=f+(2*r+2) by omega]
     refine⟨_,rfl,fun h=>⟨by omega,of_decide_eq_true h⟩,fun h _=> ?_⟩
     have:=of_decide_eq_false h
     omega
    ·simp only[h2,decide_false,cond_false]
     exact⟨_,rfl,(fun h=>by cases h),(fun _ h=>by omega)⟩
   ·rintro b ⟨hbb,hbf⟩
    have hch:∃c,(bif b then some (2*r+1+1) else some (2*r+1))=some c∧(b=true→c=2*r+2)∧(b=false→c=2*r+1):=by
     cases b
     ·exact⟨2*r+1,rfl,by simp,by simp⟩
     ·exact⟨2*r+2,by simp;omega,by simp,by simp⟩
    obtain⟨c,ec,c1,c2⟩:=hch
    have hkc:kid r c:=by unfold kid;cases b<;>simp at c1 c2<;>omega
    have hchi:c<hi:=by
     cases b
     ·have:=c2 rfl;omega
     ·have:=c1 rfl;have:=hbb rfl;omega
    rw[ec,Option.bind_some,w64 (show-9223372036854775808≤f+c by unfold kid at hkc;omega) (by omega)]
    have hcr:r<c:=by unfold kid at hkc;omega
    have t1:idx l (f+r)=some (el l (f+r)):=AR (by omega) (by omega)
    have t2:idx l (f+c)=some (el l (f+c)):=AR (by omega) (by omega)
    have t3:∀x,idx (l.set (f+r).toNat x) (f+c)=some (el (l.set (f+r).toNat x) (f+c)):=fun x=>Bg (by omega) (by omega)
    obtain⟨v,cv,hv⟩:=CS (hR.good hG) (i:=f+r) (j:=f+c) (by omega) (by omega) (by omega) (by omega)
    have hbest:∀d,kid r d→d<hi→at' l (f+d)≤at' l (f+c):=fun d hd hdh=>by
     cases b
     ·have e:=c2 rfl
      subst e
      rcases hd with rfl|rfl
      ·exact Int.le_refl _
      ·exact hbf rfl hdh
     ·have e:=c1 rfl
      subst e
      rcases hd with rfl|rfl
      ·have:=(hbb rfl).2;omega
      ·exact Int.le_refl _
    by_cases hlt:at' l (f+r)<at' l (f+c)
    ·refine⟨.inl (sw l (f+r) (f+c),c),?_,⟨hR.trans (Rg.swap (by omega) (by omega) (by omega) (by omega) (by omega) (by omega)),by dsimp only;omega,by dsimp only;omega,fun i d h1 h2 h3 h4=> ?_,fun p d h1 h2 h3 h4=> ?_⟩,by dsimp only;omega⟩
     ·simp only[t1,t2,t3,cv,hv,hlt,decide_true,Bool.not_true,cond_false,Option.bind_some]
      rfl
     ·dsimp only at h2 ⊢
      have hd0:i<d:=by unfold kid at h3;omega
      rw[Be (by omega) (by omega) (by omega) (by omega) (by omega),Be (by omega) (by omega) (by omega) (by omega) (by omega)]
      rw[if_neg (show¬f+i=f+c by omega)]
      by_cases e:i=r
      ·subst e
       rw[if_pos rfl]
       by_cases e2:d=c
       ·subst e2;rw[if_pos rfl];omega
       ·rw[if_neg (show¬f+d=f+c by omega),if_neg (show¬f+d=f+i by omega)]
        exact hbest d h3 h4
      ·rw[if_neg (show¬f+i=f+r by omega)]
       have e2:d≠c:=fun e2=>by subst e2;unfold kid at h3 hkc;omega
       rw[if_neg (show¬f+d=f+c by omega)]
       by_cases e3:d=r
       ·subst e3
        rw[if_pos rfl]
        exact g4 i c h1 h3 hkc hchi
       ·rw[if_neg (show¬f+d=f+r by omega)]
        exact g3 i d h1 e h3 h4
     ·dsimp only at h2 h3 ⊢
      have e:p=r:=by unfold kid at h2 hkc;omega
      subst e
      have hd0:c<d:=by unfold kid at h3;omega
      rw[Be (by omega) (by omega) (by omega) (by omega) (by omega),Be (by omega) (by omega) (by omega) (by omega) (by omega)]
      rw[if_neg (show¬f+d=f+c by omega),if_neg (show¬f+d=f+p by omega),if_neg (show¬f+p=f+c by omega),if_pos rfl]
      exact g3 c d (by omega) (by omega) h3 h4
    ·refine⟨.inr (.inr l),?_,hR,fun i d h1 h2 h3=> ?_⟩
     ·simp only[t1,t2,cv,hv,hlt,decide_false,Bool.not_false,cond_true,Option.bind_some]
     ·by_cases e:i=r
      ·subst e
       have:=hbest d h2 h3
       omega
      ·exact g3 i d h1 e h2 h3
 ·rintro(l|l) h
  ·exact⟨_,rfl,h⟩
  ·exact⟨_,rfl,h⟩
theorem heap_root {l:List α}{f hi:Int}(hH:∀i c,0≤i→kid i c→c<hi→at' l (f+c)≤at' l (f+i)):∀(n:Nat) (k:Int),k.toNat≤n→0≤k→k<hi→at' l (f+k)≤at' l (f+0):=by
 intro n
 induction n with
 |zero=>intro k h1 h2 h3;rw[show k=0 by omega];exact Int.le_refl _
 |succ n ih=>
  intro k h1 h2 h3
  by_cases h:k=0
  ·subst h;exact Int.le_refl _
  ·have hk:kid ((k-1)/2) k:=by unfold kid;omega
   have a:=hH ((k-1)/2) k (by omega) hk h3
   have b:=ih ((k-1)/2) (by omega) (by omega) (by omega)
   omega
theorem heapSort_spec (l0:List α)(hG:Good l0)(a b:Int)(ha:0≤a)(hab:a≤b)(hb:b≤l0.length)(hlen:l0.length≤1000000):
  ∃l',DG.heapSort Srtd.cmp l0 a b=some l'∧Rg a b l0 l'∧Srt l' a b:=by
 unfold DG.heapSort
 rw[w64 (show-9223372036854775808≤b-a by omega) (by omega),w64 (show-9223372036854775808≤b-a-1 by omega) (by omega)]
 have e2: -1≤(b-a-1).tdiv 2∧(b-a-1).tdiv 2≤b-a∧b-a≤2*(b-a-1).tdiv 2+2:=by
  by_cases h:1≤b-a
  ·rw[Int.tdiv_eq_ediv_of_nonneg (by omega)];omega
  ·have:b-a-1= -1:=by omega
   have e:(-1:Int).tdiv 2=0:=by decide
   rw[this,e];omega
 rw[w64 (show-9223372036854775808≤(b-a-1).tdiv 2 by omega) (by omega)]
 generalize (b-a-1).tdiv 2=st at e2
 refine AM (fun s=>Rg a b l0 s.1∧-1≤s.2∧s.2≤b-a∧∀i c,s.2<i→kid i c→c<b-a→at' s.1 (a+c)≤at' s.1 (a+i)) (fun s=>(s.2+1).toNat)
  (fun r=>Rg a b l0 r∧∀i c,0≤i→kid i c→c<b-a→at' r (a+c)≤at' r (a+i)) ?_ ⟨Rg.refl _ _ _,by dsimp only;omega,by dsimp only;omega,fun i c h1 h2 h3=>by unfold kid at h2;dsimp only at h1;omega⟩ ?_
 ·rintro⟨l,i⟩ ⟨hR,g1,g2,g3⟩
  dsimp only at hR g1 g2 g3 ⊢
  have hll:=hR.len
  by_cases hi:0≤i
  ·simp only[hi,decide_true,cond_true]
   obtain⟨l',e,r1,r2⟩:=EQ l (hR.good hG) i (b-a) a hi ha (by omega) (by omega) (by omega) g3
   rw[e,Option.bind_some,w64 (show-9223372036854775808≤i-1 by omega) (by omega)]
   exact⟨_,rfl,⟨hR.trans (r1.widen (by omega) (by omega) ha),by dsimp only;omega,by dsimp only;omega,fun p c h1 h2 h3=>r2 p c (by dsimp only at h1;omega) h2 h3⟩,by dsimp only;omega⟩
  ·simp only[hi,decide_false,cond_false]
   exact⟨_,rfl,hR,fun p c h1 h2 h3=>g3 p c (by omega) h2 h3⟩
 ·rintro l1 ⟨hR1,hH1⟩
  refine AM (fun s=>Rg a b l0 s.1∧-1≤s.2∧s.2<b-a∧(∀i c,0≤i→kid i c→c≤s.2→at' s.1 (a+c)≤at' s.1 (a+i))∧(∀p q,s.2<p→p<q→q<b-a→at' s.1 (a+p)≤at' s.1 (a+q))∧(∀p q,0≤p→p≤s.2→s.2<q→q<b-a→at' s.1 (a+p)≤at' s.1 (a+q))) (fun s=>(s.2+1).toNat)
   (fun r=>Rg a b l0 r∧Srt r a b) ?_ ⟨hR1,by dsimp only;omega,by dsimp only;omega,fun i c h1 h2 h3=>hH1 i c h1 h2 (by dsimp only at h3;omega),fun p q h1 h2 h3=>by dsimp only at h1;omega,fun p q h1 h2 h3 h4=>by dsimp only at h3;omega⟩ (fun r hr=>⟨r,rfl,hr⟩)
  rintro⟨l,i⟩ ⟨hR,g1,g2,g3,g4,g5⟩
  dsimp only at hR g1 g2 g3 g4 g5 ⊢
  have hll:=hR.len
  by_cases hi:0≤i
  ·rw[w64 (show-9223372036854775808≤a+i by omega) (by omega)]
   have t1:idx l a=some (el l a):=AR (by omega) (by omega)
   have t2:idx l (a+i)=some (el l (a+i)):=AR (by omega) (by omega)
   have t3:∀x,idx (l.set a.toNat x) (a+i)=some (el (l.set a.toNat x) (a+i)):=fun x=>Bg (by omega) (by omega)
   simp only[hi,decide_true,cond_true,t1,t2,t3,Option.bind_some]
   rw[show (l.set a.toNat (el l (a+i))).set (a+i).toNat (el l a)=sw l a (a+i) from rfl]
   have hRs:Rg a (a+(i+1)) l (sw l a (a+i)):=Rg.swap ha (by omega) (by omega) (by omega) (by omega) (by omega)
   have sat:∀k,0≤k→at' (sw l a (a+i)) (a+k)=if k=i then at' l a else if k=0 then at' l (a+i) else at' l (a+k):=fun k hk=>by
    rw[Be (by omega) (by omega) (by omega) (by omega) (by omega)]
    by_cases c1:k=i
    ·subst c1;simp
    ·rw[if_neg (show¬a+k=a+i by omega),if_neg c1]
     by_cases c2:k=0
     ·subst c2;simp
     ·rw[if_neg (show¬a+k=a by omega),if_neg c2]
   have hroot:∀k,0≤k→k≤i→at' l (a+k)≤at' l a:=fun k k1 k2=>by
    have:=heap_root (hi:=i+1) (fun p c h1 h2 h3=>g3 p c h1 h2 (by omega)) k.toNat k (Nat.le_refl _) k1 (by omega)
    rwa [Int.add_zero] at this
   have hsl:(sw l a (a+i)).length=l.length:=sw_len _ _ _
   obtain⟨l',e,r1,r2⟩:=EQ (sw l a (a+i)) (hRs.good (hR.good hG)) 0 i a (Int.le_refl _) ha hi (by omega) (by omega) (fun p c h1 h2 h3=>by
    have hc:p<c:=by unfold kid at h2;omega
    rw[sat c (by omega),sat p (by omega),if_neg (by omega),if_neg (by omega),if_neg (by omega),if_neg (by omega)]
    exact g3 p c (by omega) h2 (by omega))
   rw[e,Option.bind_some,w64 (show-9223372036854775808≤i-1 by omega) (by omega)]
   rw[Int.add_zero] at r1
   have same:∀k,i≤k→at' l' (a+k)=at' (sw l a (a+i)) (a+k):=fun k hk=>r1.out (a+k) (by omega) (.inr (by omega))
   have big:∀k,i<k→k<b-a→at' l' (a+k)=at' l (a+k):=fun k hk hk2=>by
    rw[same k (by omega),sat k (by omega),if_neg (by omega),if_neg (by omega)]
   have ati:at' l' (a+i)=at' l a:=by rw[same i (Int.le_refl _),sat i hi,if_pos rfl]
   have low:∀Q:Int→Prop,(∀k,0≤k→k≤i→Q (at' l (a+k)))→∀k,0≤k→k<i→Q (at' l' (a+k)):=fun Q hQ k k1 k2=>
    r1.all Q (fun m m1 m2=>by
     have h1:=sat (m-a) (by omega)
     rw[show a+(m-a)=m by omega] at h1
     rw[h1]
     split
     ·have:=hQ 0 (by omega) hi;rwa [Int.add_zero] at this
     ·split
      ·exact hQ i hi (Int.le_refl _)
      ·have:=hQ (m-a) (by omega) (by omega);rwa [show a+(m-a)=m by omega] at this) (a+k) (by omega) (by omega)
   refine⟨_,rfl,⟨hR.trans ((hRs.widen (Int.le_refl a) (by omega) ha).trans (r1.widen (Int.le_refl a) (by omega) ha)),by dsimp only;omega,by dsimp only;omega,fun p c h1 h2 h3=> ?_,fun p q h1 h2 h3=> ?_,fun p q h1 h2 h3 h4=> ?_⟩,by dsimp only;omega⟩
   ·dsimp only at h3 ⊢;exact r2 p c h1 h2 (by omega)
   ·dsimp only at h1 ⊢
    by_cases c1:p=i
    ·subst c1
     rw[ati,big q h2 h3]
     have:=g5 0 q (Int.le_refl _) hi h2 h3
     rwa [Int.add_zero] at this
    ·rw[big p (by omega) (by omega),big q (by omega) h3]
     exact g4 p q (by omega) h2 h3
   ·dsimp only at h2 h3 ⊢
    by_cases c1:q=i
    ·subst c1
     rw[ati]
     exact low (fun x=>x≤at' l a) hroot p h1 (by omega)
    ·rw[big q (by omega) h4]
     exact low (fun x=>x≤at' l (a+q)) (fun k k1 k2=>g5 k q k1 k2 (by omega) h4) p h1 (by omega)
  ·simp only[hi,decide_false,cond_false]
   refine⟨_,rfl,hR,fun p q h1 h2 h3=> ?_⟩
   have:=g4 (p-a) (q-a) (by omega) (by omega) (by omega)
   rwa [show a+(p-a)=p by omega,show a+(q-a)=q by omega] at this
end Go.Sx.Gs

namespace Go.Sx.Gs
variable {α : Type} [Srtd α]
def Out (l:List α)(a0 b0 a b:Int):Prop:=∀i j,a0≤i→i<j→j<b0→¬(a≤i∧j<b)→at' l i≤at' l j
theorem Out.keep {a0 a b b0:Int}{l l':List α}(h:Rg a b l l')(h0:0≤a0)(ha:a0≤a)(hb:b≤b0)(c:Out l a0 b0 a b):Out l' a0 b0 a b:=by
 intro i j h1 h2 h3 h4
 by_cases hi:a≤i∧i<b
 ·rw[h.out j (by omega) (by omega)]
  exact h.all (fun x=>x≤at' l j) (fun k k1 k2=>c k j (by omega) (by omega) h3 (by omega)) i hi.1 hi.2
 ·rw[h.out i (by omega) (by omega)]
  by_cases hj:a≤j∧j<b
  ·exact h.all (fun x=>at' l i≤x) (fun k k1 k2=>c i k (by omega) (by omega) (by omega) (by omega)) j hj.1 hj.2
  ·rw[h.out j (by omega) (by omega)];exact c i j h1 h2 h3 h4
theorem Ee :∀(n:Nat) (l0:List α) (a0 b0 lim:Int),0≤a0→a0≤b0→b0≤l0.length→l0.length≤1000000→Good l0→0≤lim→lim≤64→
  (0<a0→∀k,a0≤k→k<b0→at' l0 (a0-1)≤at' l0 k)→b0-a0<n→∃l',DG.pdqsortR Srtd.cmp n l0 a0 b0 lim=some l'∧Rg a0 b0 l0 l'∧Srt l' a0 b0:=by
 intro n
 induction n with
 |zero=>intro l0 a0 b0 lim h1 h2 h3 h4 hG h7 h8 h9 h10;omega
 |succ n ih=>
  intro l0 a0 b0 lim h1 h2 h3 h4 hG h7 h8 h9 h10
  unfold DG.pdqsortR
  refine AM (fun s=>Rg a0 b0 l0 s.1∧Out s.1 a0 b0 s.2.1 s.2.2.1∧a0≤s.2.1∧s.2.1≤s.2.2.1∧s.2.2.1≤b0∧0≤s.2.2.2.1∧s.2.2.2.1≤64∧(0<s.2.1→∀k,s.2.1≤k→k<s.2.2.1→at' s.1 (s.2.1-1)≤at' s.1 k))
   (fun s=>(s.2.2.1-s.2.1).toNat) (fun r=>Rg a0 b0 l0 r∧Srt r a0 b0) ?_ ?_ ?_
  ·rintro⟨l,a,b,lm,bal,par⟩ ⟨hR,hO,g1,g2,g3,g5,g6,g7⟩
   dsimp only at hR hO g1 g2 g3 g5 g6 g7 ⊢
   have hll:=hR.len
   have fin:∀l',Rg a b l l'→Srt l' a b→Rg a0 b0 l0 l'∧Srt l' a0 b0:=fun l' hr hs=>
    ⟨hR.trans (hr.widen g1 g3 h1),fun i j k1 k2 k3=>by
     by_cases hc:a≤i∧j<b
     ·exact hs i j hc.1 k2 hc.2
     ·exact(hO.keep hr h1 g1 g3) i j k1 k2 k3 hc⟩
   rw[w64 (show-9223372036854775808≤b-a by omega) (by omega)]
   by_cases hs:b-a≤12
   ·obtain⟨l',e,r1,r2⟩:=C3 l a b (by omega) g2 (by omega) (by omega) (hR.good hG)
    refine⟨.inr l',?_,fin l' r1 r2⟩
    simp only[hs,decide_true,cond_true,e,Option.bind_some]
   ·simp only[hs,decide_false,cond_false]
    by_cases hlm:lm=0
    ·have hl0:(lm==0)=true:=by simp[hlm]
     obtain⟨l',e,r1,r2⟩:=heapSort_spec l (hR.good hG) a b (by omega) g2 (by omega) (by omega)
     refine⟨.inr l',?_,fin l' r1 r2⟩
     simp only[hl0,cond_true,e,Option.bind_some]
    have hl0:(lm==0)=false:=by simp[hlm]
    simp only[hl0,cond_false]
    refine BI (fun q:List α×Int=>Rg a b l q.1∧0≤q.2∧q.2≤64) ?_ ?_
    ·cases bal
     ·obtain⟨l1,e,r1⟩:=CZ l a b (by omega) (by omega) (by omega) (by omega)
      refine⟨(l1,lm-1),?_,r1,by dsimp only;omega,by dsimp only;omega⟩
      simp only[Bool.not_false,cond_true,e,Option.bind_some]
      rw[w64 (by omega) (by omega)]
     ·exact⟨(l,lm),rfl,Rg.refl _ _ _,by dsimp only;omega,by dsimp only;omega⟩
    rintro⟨l1,lm1⟩ ⟨hr1,k2,k3⟩
    dsimp only at hr1 k2 k3 ⊢
    have hl1:=hr1.len
    obtain⟨y,ey,c1,c2,c3⟩:=Dj l1 ((hR.trans (hr1.widen g1 g3 h1)).good hG) a b (by omega) (by omega) (by omega) (by omega)
    rw[ey,Option.bind_some]
    refine BI (fun q:List α×Int×Int=>Rg a b l q.1∧a≤q.2.1∧q.2.1<b) ?_ ?_
    ·cases (y.2.1==2)
     ·exact⟨_,rfl,by dsimp only;rw[c1];exact hr1,c2,c3⟩
     ·obtain⟨l2,e2,r2⟩:=C8 l1 a b (by omega) (by omega) (by omega) (by omega)
      rw[c1]
      simp only[cond_true,e2,Option.bind_some]
      rw[w64 (show-9223372036854775808≤b-1 by omega) (by omega),w64 (show-9223372036854775808≤y.1-a by omega) (by omega),w64 (show-9223372036854775808≤b-1-(y.1-a) by omega) (by omega)]
      exact⟨_,rfl,hr1.trans r2,by dsimp only;omega,by dsimp only;omega⟩
    rintro⟨l2,p,hint⟩ ⟨hr2,p1,p2⟩
    dsimp only at hr2 p1 p2 ⊢
    have hl2:=hr2.len
    refine BI (fun q:List α ⊕ List α=>match q with| .inl q=>Rg a b l q| .inr q=>Rg a b l q∧Srt q a b) ?_ ?_
    ·cases ((bal&&par)&&(hint==1))
     ·exact⟨.inl l2,rfl,hr2⟩
     ·obtain⟨y2,e2,d1,d2⟩:=CK l2 ((hR.trans (hr2.widen g1 g3 h1)).good hG) a b (by omega) (by omega) (by omega) (by omega) (fun ha k m1 m2=>by
       rw[hr2.out (a-1) (by omega) (.inl (by omega))]
       exact hr2.all (fun x=>at' l (a-1)≤x) (g7 ha) k m1 m2)
      simp only[cond_true,e2,Option.bind_some]
      cases hy:y2.1
      ·exact⟨.inl y2.2,rfl,hr2.trans d1⟩
      ·exact⟨.inr y2.2,rfl,hr2.trans d1,d2 hy⟩
    rintro(q|q) hq
    case inr=>
     exact⟨.inr q,rfl,fin q hq.1 hq.2⟩
    dsimp only at hq ⊢
    clear hr2 hl2
    have hr2:Rg a b l q:=hq
    have hl2:=hr2.len
    have hGq:Good q:=(hR.trans (hr2.widen g1 g3 h1)).good hG
    have hO2:=hO.keep hr2 h1 g1 g3
    have g7':0<a→∀k,a≤k→k<b→at' q (a-1)≤at' q k:=fun ha k m1 m2=>by
     rw[hr2.out (a-1) (by omega) (.inl (by omega))]
     exact hr2.all (fun x=>at' l (a-1)≤x) (g7 ha) k m1 m2
    refine BI (fun c:Bool=>c=true→0<a∧at' q p≤at' q (a-1)) ?_ ?_
    ·by_cases ha:0<a
     ·have r1:idx q (a-1)=some (el q (a-1)):=AR (by omega) (by omega)
      have r2:idx q p=some (el q p):=AR (by omega) (by omega)
      rw[w64 (show-9223372036854775808≤a-1 by omega) (by omega)]
      obtain⟨v,cv,hv⟩:=CS hGq (i:=a-1) (j:=p) (by omega) (by omega) (by omega) (by omega)
      simp only[ha,decide_true,cond_true,r1,r2,cv,hv,Option.bind_some]
      exact⟨_,rfl,fun h=>⟨by trivial,by simpa using h⟩⟩
     ·simp only[ha,decide_false,cond_false]
      exact⟨_,rfl,fun h=>by cases h⟩
    intro c hc
    cases c
    ·
     simp only[cond_false]
     obtain⟨⟨mid,par',l3⟩,e3,P⟩:=DE q a b p (by omega) (by omega) (by omega) hGq p1 p2
     rw[e3,Option.bind_some]
     obtain⟨hr3,m1,m2,m3,m4⟩:=P
     dsimp only at hr3 m1 m2 m3 m4 ⊢
     have hl3:=hr3.len
     have hO3:=hO2.keep hr3 h1 g1 g3
     have g7'':0<a→∀k,a≤k→k<b→at' l3 (a-1)≤at' l3 k:=fun ha k n1 n2=>by
      rw[hr3.out (a-1) (by omega) (.inl (by omega))]
      exact hr3.all (fun x=>at' q (a-1)≤x) (g7' ha) k n1 n2
     have hR3:Rg a0 b0 l0 l3:=hR.trans ((hr2.trans hr3).widen g1 g3 h1)
     rw[w64 (show-9223372036854775808≤mid-a by omega) (by omega),w64 (show-9223372036854775808≤b-mid by omega) (by omega),w64 (show-9223372036854775808≤mid+1 by omega) (by omega)]
     by_cases hside:mid-a<b-mid
     ·simp only[hside,decide_true,cond_true]
      obtain⟨l4,e4,r4,s4⟩:=ih l3 a mid lm1 (by omega) m1 (by omega) (by omega) (hR3.good hG) k2 k3 (fun ha k n1 n2=>g7'' ha k n1 (by omega)) (by omega)
      rw[e4,Option.bind_some]
      have hl4:=r4.len
      have em:∀k,mid≤k→at' l4 k=at' l3 k:=fun k hk=>r4.out k (by omega) (.inr hk)
      have lf:∀k,a≤k→k<mid→at' l4 k≤at' l4 mid:=fun k n1 n2=>by
       rw[em mid (Int.le_refl _)];exact r4.all (fun x=>x≤at' l3 mid) m3 k n1 n2
      refine⟨.inl _,rfl,⟨hR3.trans (r4.widen g1 (by omega) h1),?_,by dsimp only;omega,by dsimp only;omega,g3,k2,k3,?_⟩,by dsimp only;omega⟩
      ·have hO4:=hO3.keep (r4.widen (Int.le_refl a) (by omega) (by omega)) h1 g1 g3
       intro i j n1 n2 n3 n4
       dsimp only at n4 ⊢
       by_cases hin:a≤i∧j<b
       ·by_cases hj:j<mid
        ·exact s4 i j hin.1 n2 hj
        ·have hi:i≤mid:=by omega
         have e1:at' l4 i≤at' l4 mid:=by
          by_cases e:i=mid
          ·rw[e];exact Int.le_refl _
          ·exact lf i hin.1 (by omega)
         have e2:at' l4 mid≤at' l4 j:=by
          by_cases e:j=mid
          ·rw[e];exact Int.le_refl _
          ·rw[em mid (Int.le_refl _),em j (by omega)];exact m4 j (by omega) hin.2
         omega
       ·exact hO4 i j n1 n2 n3 hin
      ·intro _ k n1 n2
       dsimp only at n1 n2 ⊢
       rw[show mid+1-1=mid by omega,em mid (Int.le_refl _),em k (by omega)]
       exact m4 k (by omega) n2
     ·simp only[hside,decide_false,cond_false]
      obtain⟨l4,e4,r4,s4⟩:=ih l3 (mid+1) b lm1 (by omega) (by omega) (by omega) (by omega) (hR3.good hG) k2 k3 (fun _ k n1 n2=>by rw[show mid+1-1=mid by omega];exact m4 k (by omega) n2) (by omega)
      rw[e4,Option.bind_some]
      have hl4:=r4.len
      have em:∀k,0≤k→k≤mid→at' l4 k=at' l3 k:=fun k h0 hk=>r4.out k h0 (.inl (by omega))
      have rt:∀k,mid<k→k<b→at' l4 mid≤at' l4 k:=fun k n1 n2=>by
       rw[em mid (by omega) (Int.le_refl _)];exact r4.all (fun x=>at' l3 mid≤x) (fun k q1 q2=>m4 k (by omega) q2) k (by omega) n2
      refine⟨.inl _,rfl,⟨hR3.trans (r4.widen (by omega) g3 h1),?_,g1,m1,by dsimp only;omega,k2,k3,?_⟩,by dsimp only;omega⟩
      ·have hO4:=hO3.keep (r4.widen (by omega) (Int.le_refl b) (by omega)) h1 g1 g3
       intro i j n1 n2 n3 n4
       dsimp only at n4 ⊢
       by_cases hin:a≤i∧j<b
       ·by_cases hi:mid<i
        ·exact s4 i j (by omega) n2 hin.2
        ·have hj:mid≤j:=by omega
         have e1:at' l4 i≤at' l4 mid:=by
          by_cases e:i=mid
          ·rw[e];exact Int.le_refl _
          ·rw[em i (by omega) (by omega),em mid (by omega) (Int.le_refl _)];exact m3 i hin.1 (by omega)
         have e2:at' l4 mid≤at' l4 j:=by
          by_cases e:j=mid
          ·rw[e];exact Int.le_refl _
          ·exact rt j (by omega) hin.2
         omega
       ·exact hO4 i j n1 n2 n3 hin
      ·intro ha k n1 n2
       dsimp only at ha n1 n2 ⊢
       rw[em (a-1) (by omega) (by omega),em k (by omega) (by omega)]
       exact g7'' ha k n1 (by omega)
    ·
     simp only[cond_true]
     obtain⟨hc1,hc2⟩:=hc rfl
     obtain⟨⟨mid,l3⟩,e3,hr3,m1,m2,m3,m4⟩:=CV q a b p (by omega) (by omega) (by omega) hGq p1 p2
     rw[e3,Option.bind_some]
     dsimp only at hr3 m1 m2 m3 m4 ⊢
     have hl3:=hr3.len
     have hO3:=hO2.keep hr3 h1 g1 g3
     have lw:∀k,a≤k→k<b→at' q p≤at' l3 k:=fun k n1 n2=>
      hr3.all (fun x=>at' q p≤x) (fun k q1 q2=>Int.le_trans hc2 (g7' hc1 k q1 q2)) k n1 n2
     refine⟨.inl _,rfl,⟨hR.trans ((hr2.trans hr3).widen g1 g3 h1),?_,by dsimp only;omega,m2,g3,k2,k3,?_⟩,by dsimp only;omega⟩
     ·intro i j n1 n2 n3 n4
      dsimp only at n4 ⊢
      by_cases hin:a≤i∧j<b
      ·have:=m3 i hin.1 (by omega)
       have:=lw j (by omega) hin.2
       omega
      ·exact hO3 i j n1 n2 n3 hin
     ·intro _ k n1 n2
      dsimp only at n1 n2 ⊢
      have:=m3 (mid-1) (by omega) (by omega)
      have:=m4 k n1 n2
      omega
  ·exact⟨Rg.refl _ _ _,fun i j n1 n2 n3 n4=>by dsimp only at n4;omega,Int.le_refl _,h2,Int.le_refl _,h7,h8,h9⟩
  ·rintro r hr
   exact⟨r,rfl,hr⟩
theorem sort_spec (l:List α)(hG:Good l)(hlen:l.length≤1000000):∃l',DG.Sort Srtd.cmp l=some l'∧List.Perm l' l∧Srt l' 0 l'.length:=by
 unfold DG.Sort
 rw[wu64 (by omega) (by omega)]
 unfold D.r
 rw[if_pos (by omega),Option.bind_some]
 have hb:Lib.bitLen l.length≤64:=by
  by_cases h:1≤l.length
  ·obtain⟨_,k2⟩:=Fu l.length h (by omega)
   apply Classical.byContradiction
   intro hc
   have:2^22≤2^Lib.bitLen l.length:=Nat.pow_le_pow_right (by omega) (by omega)
   omega
  ·have:l.length=0:=by omega
   rw[this];decide
 have hf:=Ft
 obtain⟨l',e,r,s⟩:=Ee CU l 0 (l.length:Int) ((Lib.bitLen l.length:Nat):Int) (Int.le_refl _) (by omega) (Int.le_refl _) (by omega) hG (by omega) (by omega) (fun h=>by omega) (by omega)
 unfold DG.pdqsort
 rw[Int.toNat_natCast,e]
 refine⟨l',rfl,r.perm,?_⟩
 rw[r.len];exact s
end Go.Sx.Gs

namespace Go.Sx
theorem FB :D.d1=DG.insertionSort (fun a b:Value×List Int=>D.a a.2 b.2):=by kernel_rfl
theorem st_heapSort :D.h1=DG.heapSort (fun a b:Value×List Int=>D.a a.2 b.2):=by kernel_rfl
theorem FA :D.o1=DG.breakPatterns (fun a b:Value×List Int=>D.a a.2 b.2):=by kernel_rfl
theorem st_choosePivot :D.a1=DG.choosePivot (fun a b:Value×List Int=>D.a a.2 b.2):=by kernel_rfl
theorem FH :D.m1=DG.reverseRange (fun a b:Value×List Int=>D.a a.2 b.2):=by kernel_rfl
theorem Eg :D.j1=DG.partialInsertionSort (fun a b:Value×List Int=>D.a a.2 b.2):=by kernel_rfl
theorem Fm :D.k1=DG.partitionEqual (fun a b:Value×List Int=>D.a a.2 b.2):=by kernel_rfl
theorem st_partition :D.g1=DG.partition (fun a b:Value×List Int=>D.a a.2 b.2):=by kernel_rfl
theorem st_pdqsort :∀(n:Nat) x a b c,D.M n x a b c=DG.pdqsortR (fun a b:Value×List Int=>D.a a.2 b.2) n x a b c
 |0,_,_,_,_=>rfl
 |n+1,x,a,b,c=>by
  unfold D.M DG.pdqsortR
  rw[FB,st_heapSort,FA,st_choosePivot,FH,Eg,Fm,st_partition,funext (fun x=>funext fun a=>funext fun b=>funext fun c=>st_pdqsort n x a b c)]
  kernel_rfl
theorem st_Sort (x):D.S x=DG.Sort (fun a b:Value×List Int=>D.a a.2 b.2) x:=by
 unfold D.S DG.Sort D.m DG.pdqsort
 simp only[st_pdqsort]
theorem isNaN_no (x:Int):D.s x=some false:=by unfold D.s;simp
theorem cmp64 (x y:Int):D.X0 x y=some (if x<y then-1 else if y<x then 1 else 0):=by
 unfold D.X0
 simp only[isNaN_no,Option.bind_some,cond_false]
 by_cases h:x<y
 ·simp[h]
 ·by_cases h':y<x
  ·simp[h,h']
  ·simp[h,h']
theorem list2 {l:List Int}(h:l.length=2):∃a b,l=[a,b]:=by
 match l,h with
 |[a,b],_=>exact⟨a,b,rfl⟩
theorem compare2 (a b c d:Int):D.a [a,b] [c,d]=some (if a<c then-1 else if c<a then 1 else if b<d then-1 else if d<b then 1 else 0):=by
 unfold D.a
 have i0:∀x y:Int,idx [x,y] 0=some x:=fun x y=>by unfold idx;simp
 have i1:∀x y:Int,idx [x,y] 1=some y:=fun x y=>by unfold idx;simp
 have w1:IntKind.i64.wrap 1=1:=by decide
 have w2:IntKind.i64.wrap 2=2:=by decide
 by_cases h1:a<c
 ·rw[Bp (r:= .inr (-1)) (by simp[i0,cmp64,h1])];simp[h1]
 ·by_cases h2:c<a
  ·rw[Bp (r:= .inr 1) (by simp[i0,cmp64,h1,h2])];simp[h1,h2]
  ·rw[BC (s':=1) (by simp[i0,cmp64,h1,h2,w1])]
   by_cases h3:b<d
   ·rw[Bp (r:= .inr (-1)) (by simp[i1,cmp64,h3])];simp[h1,h2,h3]
   ·by_cases h4:d<b
    ·rw[Bp (r:= .inr 1) (by simp[i1,cmp64,h3,h4])];simp[h1,h2,h3,h4]
    ·rw[BC (s':=2) (by simp[i1,cmp64,h3,h4,w2]),Bp (r:= .inl ()) (by simp)];simp[h1,h2,h3,h4]
noncomputable abbrev byRow :Gs.Srtd (Value×List Int) where
 dflt:=(.bool false,[])
 key:=fun z=>Bc z.2
 good:=fun z=>Cb z.2
 cmp:=fun a b=>D.a a.2 b.2
 law:=by
  rintro⟨v,x⟩ ⟨u,y⟩ ⟨h1,h2,h3,h4,h5⟩ ⟨k1,k2,k3,k4,k5⟩
  obtain⟨a,b,rfl⟩:=list2 h1
  obtain⟨c,d,rfl⟩:=list2 k1
  refine⟨_,compare2 a b c d,?_⟩
  simp only[List.getD_cons_zero,List.getD_cons_succ] at*
  rw[decide_eq_decide]
  unfold Bc
  simp only[List.getD_cons_zero,List.getD_cons_succ]
  repeat' split
  all_goals constructor<;>intro _<;>omega
theorem row_inj {x y:List Int}(hx:Cb x)(hy:Cb y)(h:Bc x=Bc y):x=y:=by
 obtain⟨h1,h2,h3,h4,h5⟩:=hx
 obtain⟨k1,k2,k3,k4,k5⟩:=hy
 obtain⟨a,b,rfl⟩:=list2 h1
 obtain⟨c,d,rfl⟩:=list2 k1
 unfold Bc at h
 simp only[List.getD_cons_zero,List.getD_cons_succ] at*
 have:a=c:=by omega
 subst this
 have:b=d:=by omega
 subst this
 rfl
theorem E2 {xs ys:List (List Int)}(hp:xs.Perm ys)(hg:∀x∈ys,Cb x)(h1:xs.Pairwise (fun a b=>Bc a≤Bc b))(h2:ys.Pairwise (fun a b=>Bc a≤Bc b)):xs=ys:=by
 refine hp.eq_of_pairwise (fun a b ha hb k1 k2=> ?_) h1 h2
 exact row_inj (hg a (hp.mem_iff.1 ha)) (hg b hb) (by omega)
theorem BE (xs:List (List Int)):(xs.mergeSort BQ).Perm xs:=List.mergeSort_perm _ _
theorem Dr (xs:List (List Int)):(xs.mergeSort BQ).Pairwise (fun a b=>Bc a≤Bc b):=by
 have:=List.pairwise_mergeSort (le:=BQ) (fun a b c=>by unfold BQ;simp only[decide_eq_true_eq];omega) (fun a b=>by unfold BQ;rw[Bool.or_eq_true,decide_eq_true_eq,decide_eq_true_eq];omega) xs
 exact this.imp (fun h=>by unfold BQ at h;exact of_decide_eq_true h)
theorem sortRows_ok {xs ys:List (List Int)}(hl:xs.length≤1000000)(hg:∀x∈xs,Cb x)(hp:ys.Perm xs)(hs:ys.Pairwise (fun a b=>Bc a≤Bc b)):CF xs=some ys:=by
 unfold CF
 rw[if_pos ⟨hl,hg⟩]
 congr 1
 exact E2 ((BE xs).trans hp.symm) (fun x hx=>hg x (hp.mem_iff.1 hx)) (Dr xs) hs
theorem Bm {xs ys:List (List Int)}(h:CF xs=some ys){Z:List (Value×List Int)}(hZ:Z.map (·.2)=xs):
  ∃zs,D.S Z=some zs∧zs.Perm Z∧zs.map (·.2)=ys:=by
 unfold CF at h
 split at h
 ·rename_i hc
  obtain rfl:=Option.some.inj h
  obtain⟨hl,hg⟩:=hc
  have hgZ:∀z∈Z,Cb z.2:=fun z hz=>hg _ (by rw[←hZ];exact List.mem_map.2 ⟨z,hz,rfl⟩)
  obtain⟨zs,e,hp,hs⟩:= @Gs.sort_spec (Value×List Int) byRow Z hgZ (by rw[←hZ] at hl;simpa using hl)
  refine⟨zs,by rw[st_Sort];exact e,hp,?_⟩
  refine E2 (((hp.map (·.2)).trans (by rw[hZ])).trans (BE xs).symm) (fun x hx=>hg x ((BE xs).mem_iff.1 hx)) ?_ (Dr xs)
  rw[List.pairwise_iff_getElem]
  intro i j hi hj hij
  have:=hs i j (by omega) (by omega) (by simp at hj;omega)
  simp only[List.length_map] at hi hj
  unfold Gs.at' Gs.el at this
  simp only[Int.toNat_natCast,List.getD_eq_getElem?_getD,List.getElem?_eq_getElem hi,List.getElem?_eq_getElem hj,Option.getD_some] at this
  have e:Bc zs[i].2≤Bc zs[j].2:=this
  simpa using e
 ·cases h
end Go.Sx
