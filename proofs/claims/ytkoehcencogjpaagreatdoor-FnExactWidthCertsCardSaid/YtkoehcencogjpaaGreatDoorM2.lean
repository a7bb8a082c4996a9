/- Parts. -/
import Derived.Test.YtkoehcencogjpaaGreatDoorM1
import Derived.Maps.AppendAt
import Derived.ArgAppend
import Derived.Laws.StructEq
import Derived.Laws.IdiomRangeMap
import Derived.WideKeyRuns
import Derived.Lib.TrailingZeros
import Derived.Lib.AppendZeros
import Derived.Shelf.Small.Bits
import Derived.Test.YtkoehcencogjpaaGreatDoorProg
import Derived.KernelRfl
set_option linter.unusedVariables false
set_option linter.unusedSimpArgs false
namespace Go.Sx
def C7 :Value→Bool
 | .slice none _ _=>true
 |_=>false
section
variable {P : Program} {ρ : Operand → Value} {w : World} {d : Option Tmp} {t : TypeId} {pos : String} {af : Array Edge} {gd : Option (Nat × Bool)}
theorem run_eq_nil_aux (dd:Nat){u e:TypeId}{v:Value}(hu:P.underlying u=some (.slice e))(hv:∃a l c,v= .slice a l c):(Op.equalIn (dd+1) u v (.slice none 0 0)).run P w= .ok (C7 v) w:=by
 obtain⟨a,l,c,rfl⟩:=hv
 cases a<;>simp[Op.equalIn,run_underlying hu,C7]
theorem run_eq_nil {u e:TypeId}{v:Value}(hu:P.underlying u=some (.slice e))(hv:∃a l c,v= .slice a l c):(Op.equal u v (.slice none 0 0)).run P w= .ok (C7 v) w:=run_eq_nil_aux 9999 hu hv
theorem Fc {u u' e:TypeId}{x y:Operand}{v:Value}{b:Bool}(hx:ρ x=v)(hy:ρ y= .slice none 0 0)(hv:∃a l c,v= .slice a l c)(hu:P.underlying u=some (.slice e))(hb:C7 v=b):
  (execOp ρ ⟨d,.binOp .eql u x y u',t,pos,af,gd⟩).run P w= .ok (.value (.bool b)) w:=by
 have hg:(eqGuard .eql u x y v (.slice none 0 0)).run P w= .ok () w:=by
  obtain⟨a,l,c,rfl⟩:=hv
  unfold eqGuard;rfl
 have e1:(binOp .eql u v (.slice none 0 0)).run P w= .ok (.bool b) w:=by
  rw[←hb]
  have:=run_eq_nil (w:=w) hu hv
  obtain⟨a,l,c,rfl⟩:=hv
  simp[binOp,this]
 simp[execOp,hx,hy,hg,e1]
theorem r_nil_neq {u u' e:TypeId}{x y:Operand}{v:Value}{b:Bool}(hx:ρ x=v)(hy:ρ y= .slice none 0 0)(hv:∃a l c,v= .slice a l c)(hu:P.underlying u=some (.slice e))(hb:C7 v=b):
  (execOp ρ ⟨d,.binOp .neq u x y u',t,pos,af,gd⟩).run P w= .ok (.value (.bool (!b))) w:=by
 have hg:(eqGuard .neq u x y v (.slice none 0 0)).run P w= .ok () w:=by
  obtain⟨a,l,c,rfl⟩:=hv
  unfold eqGuard;rfl
 have e1:(binOp .neq u v (.slice none 0 0)).run P w= .ok (.bool (!b)) w:=by
  rw[←hb]
  have:=run_eq_nil (w:=w) hu hv
  obtain⟨a,l,c,rfl⟩:=hv
  simp[binOp,this]
 simp[execOp,hx,hy,hg,e1]
end
theorem RSl.hdr {α:Type}{R:Rep α}{G:GH}{v:Value}{xs:List α}(h:RSl R G v xs):∃a l c,v= .slice a l c:=by
 obtain⟨a,c,rfl,_⟩:=h.len;exact⟨_,_,_,rfl⟩
theorem RSl.nil_inv {α:Type}{R:Rep α}{G:GH}{v:Value}{xs:List α}(h:RSl R G v xs)(hn:C7 v=true):xs=[]:=by
 obtain⟨vs,hA,h⟩:=h
 rcases h with⟨rfl,h⟩|⟨a,c,rfl,h1,h2,h3⟩
 ·exact h
 ·simp[C7] at hn
def nonE {α:Type}:List α→Option Unit
 |[]=>none
 |_=>some ()
section
variable {P : Program} {ops : Array Oper} {rest : List Oper} {n r : Be} {x : List (Nat × Be)} {a : Act} {w : World} {N : Nat} {L : Bw} {d : Nat} {t : TypeId} {pos : String} {af : Array Edge}
theorem EJ {fn:Fn}{fs cs:List Operand}{vs us:List Value}(f:Fr a N L)(hN:Nat.blt d N=true)(hf:evalAll L fs=some vs)(hc:evalAll L cs=some us)
  (k:∀a',Fr a' N ((d,.func fn vs.toArray us.toArray)::L)→wpList P ops (Qk n x r) rest a' w):
  wpList P ops (Qk n x r) (⟨some d,.makeFunc fn fs.toArray cs.toArray,t,pos,af,none⟩::rest) a w:=by
 refine Bs f rfl rfl hN (r_makeFunc (v:= .func fn vs.toArray us.toArray) ?_) k
 rw[List.map_toArray,List.map_toArray,f.evalAll hf,f.evalAll hc]
 rfl
end
end Go.Sx

namespace Go.Sx
def delD {α:Type}(xs:List α)(i j:Int):Option (List α):=if 0≤i∧i<j∧j≤xs.length then some (xs.take i.toNat++xs.drop j.toNat) else none
section
variable {P : Program} {ops : Array Oper} {rest : List Oper} {n r : Be} {x : List (Nat × Be)} {a : Act} {w w' W : World} {G : GH} {H : List Itm} {N : Nat} {L : Bw}
variable {d : Nat} {t : TypeId} {pos : String} {af : Array Edge}
theorem l_op0 {o:Oper}{v:Value}(hg:o.guard=none)(hd:o.dst=none)(hr:(execOp a.eval o).run P w= .ok (.value v) w')(k:wpList P ops (Qk n x r) rest a w'):
  wpList P ops (Qk n x r) (o::rest) a w:=by
 refine wpList_plain hg λK hK=> ?_
 unfold Oper.wp
 rw[hr]
 simp only[Oper.upon,hd]
 exact hK _ _ k
theorem r_slice3 {ρ:Operand→Value}{u e sz bytes:Nat}{z:Value}{xo o1 o2 o3:Operand}{av:Option Addr}{nn c:Nat}{i j q:Int}{k1 k2 k3:IntKind}{dd:Option Tmp}{gd:Option (Nat×Bool)}(hu:SlT P u e sz bytes z)
  (hx:ρ xo= .slice av nn c) (h1:ρ o1= .int k1 i) (h2:ρ o2= .int k2 j) (h3:ρ o3= .int k3 q) (g0:0≤i) (g1:i≤j) (g2:j≤q) (g3:q≤c):
  ∃v,(execOp ρ ⟨dd,.slice u xo (some o1) (some o2) (some o3),t,pos,af,gd⟩).run P w= .ok (.value v) w:=by
 obtain⟨ti,hi1,hi2,hi3,hi4⟩:=hu.info
 have hj0:0≤j:=by omega
 have hq0:0≤q:=by omega
 have ej:(j.toNat:Int)=j:=by omega
 have eq:(q.toNat:Int)=q:=by omega
 simp[execOp,hx,h1,h2,h3,Instr.sliceAt,Instr.slice,run_underlying hu.und,Instr.sliceBounds,Instr.sliceBound,asIntOf,g0,g1,g2,g3,hj0,hq0,ej,eq,sizeOf,typeInfo,hi1,hi2]
theorem l_slice3 {u e sz bytes:Nat}{z:Value}{xo o1 o2 o3:Operand}{av:Option Addr}{nn c:Nat}{i j q:Int}{k1 k2 k3:IntKind}(hu:SlT P u e sz bytes z)(f:Fr a N L)(hN:Nat.blt d N=true)
  (hx:AX L xo=some (.slice av nn c)) (h1:AX L o1=some (.int k1 i)) (h2:AX L o2=some (.int k2 j)) (h3:AX L o3=some (.int k3 q)) (g0:0≤i) (g1:i≤j) (g2:j≤q) (g3:q≤c)
  (k:∀v a',Fr a' N ((d,v)::L)→wpList P ops (Qk n x r) rest a' w):
  wpList P ops (Qk n x r) (⟨some d,.slice u xo (some o1) (some o2) (some o3),t,pos,af,none⟩::rest) a w:=by
 obtain⟨v,hv⟩:=r_slice3 (P:=P) (w:=w) (t:=t) (pos:=pos) (af:=af) (dd:=some d) (gd:=none) hu (f.eval hx) (f.eval h1) (f.eval h2) (f.eval h3) g0 g1 g2 g3
 exact Bs f rfl rfl hN hv (λa' f'=>k v a' f')
theorem Ow.block {α:Type}{R:Rep α}{tt:TypeId}{it:Itm}{v:Value}{xs:List α}(m:Mem W G w (it::H))(o:Ow R tt G it v xs)(hx:0<xs.length):∃b c,v= .slice (some ⟨b,0,none⟩) xs.length c∧xs.length≤c:=by
 obtain⟨vs,rfl,hA⟩:=o
 have ok:=m.items 0 _ rfl
 rcases ok.2 with⟨rfl,e⟩|⟨g,cap,cur,rfl,_,_,e2,_⟩
 ·omega
 ·exact⟨g,cap,rfl,e2⟩
theorem r_slice_lo {ρ:Operand→Value}{u e bytes:Nat}{z:Value}{xo o2:Operand}{b nn c:Nat}{j:Int}{k2:IntKind}{dd:Option Tmp}{gd:Option (Nat×Bool)}(hu:SlT P u e 1 bytes z)
  (hx:ρ xo= .slice (some ⟨b,0,none⟩) nn c) (h2:ρ o2= .int k2 j) (g0:0≤j) (g1:j≤c):
  (execOp ρ ⟨dd,.slice u xo none (some o2) none,t,pos,af,gd⟩).run P w= .ok (.value (.slice (some ⟨b,0,none⟩) j.toNat c)) w:=by
 have:=D8 (P:=P) (w:=w) (t:=t) (pos:=pos) (af:=af) (dd:=dd) (gd:=gd) (lo:=none) (hi:=some o2) (i:=0) (j:=j) hu hx (.inl ⟨rfl,rfl⟩) (.inr ⟨o2,k2,rfl,h2⟩) (by omega) g0 g1
 rw[this]
 have e:(if c=(0:Int).toNat then some (⟨b,0,none⟩:Addr) else(some ⟨b,0,none⟩:Option Addr).map (·.add ((0:Int).toNat*1)))=some ⟨b,0,none⟩:=by
  split
  ·rfl
  ·simp[Addr.add]
 rw[e];simp
theorem r_slice_hi {ρ:Operand→Value}{u e bytes:Nat}{z:Value}{xo o1:Operand}{b nn c:Nat}{i:Int}{k1:IntKind}{dd:Option Tmp}{gd:Option (Nat×Bool)}(hu:SlT P u e 1 bytes z)
  (hx:ρ xo= .slice (some ⟨b,0,none⟩) nn c) (h1:ρ o1= .int k1 i) (g0:0≤i) (g1:i≤nn) (g2:nn≤c):
  (execOp ρ ⟨dd,.slice u xo (some o1) none none,t,pos,af,gd⟩).run P w= .ok (.value (.slice (some ⟨b,(if c=i.toNat then 0 else i.toNat),none⟩) (nn-i.toNat) (c-i.toNat))) w:=by
 have:=D8 (P:=P) (w:=w) (t:=t) (pos:=pos) (af:=af) (dd:=dd) (gd:=gd) (lo:=some o1) (hi:=none) (i:=i) (j:=nn) hu hx (.inr ⟨o1,k1,rfl,h1⟩) (.inl ⟨rfl,rfl⟩) g0 g1 (by omega)
 rw[this]
 have e:(if c=i.toNat then some (⟨b,0,none⟩:Addr) else(some ⟨b,0,none⟩:Option Addr).map (·.add (i.toNat*1)))=some ⟨b,(if c=i.toNat then 0 else i.toNat),none⟩:=by
  split
  ·rfl
  ·show some ((⟨b,0,none⟩:Addr).add (i.toNat*1))=_
   rw[B6];simp
 rw[e];simp
theorem r_slice_mid {ρ:Operand→Value}{u e bytes:Nat}{z:Value}{xo o1 o2:Operand}{b nn c l h:Nat}{k1 k2:IntKind}{dd:Option Tmp}{gd:Option (Nat×Bool)}(hu:SlT P u e 1 bytes z)
  (hx:ρ xo= .slice (some ⟨b,0,none⟩) nn c) (h1:ρ o1= .int k1 (l:Int)) (h2:ρ o2= .int k2 (h:Int)) (g1:l<h) (g2:h≤c):
  (execOp ρ ⟨dd,.slice u xo (some o1) (some o2) none,t,pos,af,gd⟩).run P w= .ok (.value (.slice (some ⟨b,l,none⟩) (h-l) (c-l))) w:=by
 have:=D8 (P:=P) (w:=w) (t:=t) (pos:=pos) (af:=af) (dd:=dd) (gd:=gd) (lo:=some o1) (hi:=some o2) (i:=(l:Int)) (j:=(h:Int)) hu hx (.inr ⟨o1,k1,rfl,h1⟩) (.inr ⟨o2,k2,rfl,h2⟩) (by omega) (by omega) (by omega)
 rw[this]
 have e:(if c=((l:Int)).toNat then some (⟨b,0,none⟩:Addr) else(some ⟨b,0,none⟩:Option Addr).map (·.add (((l:Int)).toNat*1)))=some ⟨b,l,none⟩:=by
  rw[if_neg (by omega)]
  show some ((⟨b,0,none⟩:Addr).add (((l:Int)).toNat*1))=_
  rw[B6];simp
 rw[e];simp
theorem l_del {α:Type}{R:Rep α}(hO:One R){tt u bytes:Nat}{z:Value}{it:Itm}{b c q mm c2:Nat}{i j:Int}{xs:List α}{s xo:Operand}(m:Mem W G w (it::H))(h:Ow R tt G it (.slice (some ⟨b,0,none⟩) xs.length c) xs)
  (hu:SlT P u tt 1 bytes z) (f:Fr a N L) (hN:Nat.blt d N=true) (g0:0≤i) (g1:i<j) (g2:j≤xs.length)
  (hs:AX L s=some (.slice (some ⟨b,0,none⟩) i.toNat c)) (hx:AX L xo=some (.slice (some ⟨b,q,none⟩) mm c2)) (hm:mm=xs.length-j.toNat) (hq:0<mm→q=j.toNat)
  (k:∀it' w' a',Mem W G w' (it'::H)→Ow R tt G it' (.slice (some ⟨b,0,none⟩) (xs.take i.toNat++xs.drop j.toNat).length c) (xs.take i.toNat++xs.drop j.toNat)→Fr a' N ((d,.slice (some ⟨b,0,none⟩) (xs.take i.toNat++xs.drop j.toNat).length c)::L)→wpList P ops (Qk n x r) rest a' w'):
  wpList P ops (Qk n x r) (⟨some d,.call {callee:= .builtin .append,args:= #[s,xo],argTypes:= #[u,u]},t,pos,af,none⟩::rest) a w:=by
 have hlen':(xs.take i.toNat++xs.drop j.toNat).length=i.toNat+mm:=by
  rw[List.length_append,List.length_take,List.length_drop];omega
 rw[hlen'] at k
 obtain⟨vs,rfl,hA⟩:=h
 obtain⟨ti,hi1,hi2,hi3,hi4⟩:=hu.info
 have ok:w.ownsRow 0 tt 1 (.slice (some ⟨b,0,none⟩) xs.length c) xs.length vs:=m.items 0 _ rfl
 have hl0:vs.length=xs.length:=hA.1
 have hcells:=World.ownsRow.cells ok (g:=b) rfl
 rcases ok.2 with⟨e,_⟩|⟨g,cap,cur,e1,_,eh,e2,e3,e4,e5⟩
 ·cases e
 ·cases e1
  simp only[Nat.mul_one] at e4 e5
  have hnews:∀(jj:Nat) v,(vs.drop j.toNat)[jj]? =some v→w.cell? ((⟨b,q,none⟩:Addr).add jj)=some v:=λjj v hv=>by
   have hpos:0<mm:=by
    have:=(List.getElem?_eq_some_iff.1 hv).1
    simp at this;omega
   rw[hq hpos]
   rw[List.getElem?_drop] at hv
   have:=hcells _ _ hv
   rw[B6] at this ⊢
   rwa [Nat.zero_add] at this
  have h1:∀v∈vs.drop j.toNat,v.oneCell'=true:=λv hv=>hA.ones hO v (List.mem_of_mem_drop hv)
  have hr:=run_append_room (P:=P) w u t tt ti hu.und hi1 b i.toNat c cur eh ⟨b,q,none⟩ mm c2 (vs.drop j.toNat) (by rw[hi2,List.length_drop];omega) hnews h1 (by omega) (by rw[hi2,List.length_drop];omega)
  refine Bs f rfl rfl hN (r_append (f.eval hs) (f.eval hx) hr) (λa' f'=>k (.row (.slice (some ⟨b,0,none⟩) (i.toNat+mm) c) tt 1 (xs.take i.toNat++xs.drop j.toNat).length (vs.take i.toNat++vs.drop j.toNat)) _ a' ?_ ⟨_,rfl,(hA.take _).append (hA.drop _)⟩ f')
  have hlen:(xs.take i.toNat++xs.drop j.toNat).length=i.toNat+mm:=by
   rw[List.length_append,List.length_take,List.length_drop];omega
  have hcur:cur.toList.take i.toNat=vs.take i.toNat:=by
   rw[←e5,List.take_take];congr 1;omega
  refine m.changeAt 0 rfl rfl rfl rfl (λy _ hy=>setRow_other w b y _ (λe=>hy (by simp[Itm.foot,Value.ownBlock,e])))
   ⟨by rw[hlen,List.length_append,List.length_take,List.length_drop];omega,.inr ⟨b,c,_,by rw[hlen],Nat.zero_le _,setRow_heap w b cur _ tt _ eh,by omega,e3,?_,?_⟩⟩ (λy hy=> .inl (by simpa [Itm.foot,Value.ownBlock] using hy))
  ·simp only[List.size_toArray,List.length_append,List.length_take,List.length_drop,Array.length_toList,hi2]
   omega
  ·simp only[hi2,Nat.mul_one]
   rw[hcur,hlen]
   have:(vs.take i.toNat++vs.drop j.toNat).length=i.toNat+mm:=by
    rw[List.length_append,List.length_take,List.length_drop];omega
   rw[←this]
   exact List.take_left
theorem l_wipe {α:Type}{R:Rep α}{tt u bytes:Nat}{z:Value}{it:Itm}{b c q mm c2:Nat}{xs:List α}{xo:Operand}(m:Mem W G w (it::H))(h:Ow R tt G it (.slice (some ⟨b,0,none⟩) xs.length c) xs)
  (hu:SlT P u tt 1 bytes z) (hz:z.cells= #[z]) (hz1:z.oneCell'=true) (f:Fr a N L) (hx:AX L xo=some (.slice (some ⟨b,q,none⟩) mm c2)) (hq:xs.length≤q) (hmm:q+mm≤c)
  (k:∀w',Mem W G w' (it::H)→wpList P ops (Qk n x r) rest a w'):
  wpList P ops (Qk n x r) (⟨none,.call {callee:= .builtin .clear,args:= #[xo],argTypes:= #[u]},t,pos,af,none⟩::rest) a w:=by
 obtain⟨vs,rfl,hA⟩:=h
 obtain⟨ti,hi1,hi2,hi3,hi4⟩:=hu.info
 have ok:w.ownsRow 0 tt 1 (.slice (some ⟨b,0,none⟩) xs.length c) xs.length vs:=m.items 0 _ rfl
 have hl0:vs.length=xs.length:=hA.1
 rcases ok.2 with⟨e,_⟩|⟨g,cap,cur,e1,_,eh,e2,e3,e4,e5⟩
 ·cases e
 ·cases e1
  simp only[Nat.mul_one] at e4 e5
  have hz0:(zeroValue tt).run P w= .ok z w:=by simp[zeroValue,typeInfo,hi1,hi4]
  by_cases hm:mm=0
  ·subst hm
   refine l_op0 (v:= .tuple #[]) (w':=w) rfl rfl ?_ (k w m)
   simp[execOp,resolve,invoke,builtin,Builtin.clear_,run_underlying hu.und,f.eval hx]
  ·have hmem:∀v∈(Builtin.zeroCells z.cells mm).toList,v.oneCell'=true:=λv hv=>by
    rw[hz] at hv
    simp[Builtin.zeroCells] at hv
    obtain⟨_,_,rfl⟩:=hv
    rw[Nat.mod_one];simpa using hz1
   have hsz:(Builtin.zeroCells z.cells mm).toList.length=mm:=by
    rw[Array.length_toList,size_zeroCells,hz];simp
   have hst:=run_storeCells_at P b q tt (Builtin.zeroCells z.cells mm).toList 0 cur w eh (by rw[hsz];omega) hmem
   refine l_op0 (v:= .tuple #[]) (w':=w.setRow b (cur.toList.take (q+0)++(Builtin.zeroCells z.cells mm).toList++cur.toList.drop (q+0+(Builtin.zeroCells z.cells mm).toList.length)).toArray) rfl rfl ?_ (k _ ?_)
   ·obtain⟨m',rfl⟩:∃m',mm=m'+1:=⟨mm-1,by omega⟩
    simp[execOp,resolve,invoke,builtin,Builtin.clear_,run_underlying hu.und,f.eval hx,hz0,hst]
   ·have hm2:=m.changeAt (w':=w.setRow b (cur.toList.take (q+0)++(Builtin.zeroCells z.cells mm).toList++cur.toList.drop (q+0+(Builtin.zeroCells z.cells mm).toList.length)).toArray) (h':= .row (.slice (some ⟨b,0,none⟩) xs.length c) tt 1 xs.length vs) 0 rfl rfl rfl rfl (λy _ hy=>setRow_other w b y _ (λe=>hy (by simp[Itm.foot,Value.ownBlock,e])))
     ⟨ok.1,.inr ⟨b,c,_,rfl,Nat.zero_le _,setRow_heap w b cur _ tt _ eh,e2,e3,?_,?_⟩⟩ (λy hy=> .inl hy)
    ·exact hm2
    ·simp only[List.size_toArray,List.length_append,List.length_take,List.length_drop,Array.length_toList,size_zeroCells,hz]
     simp
     omega
    ·simp only[Nat.mul_one,Nat.add_zero]
     rw[List.append_assoc,List.take_append_of_le_length (by simp;omega),List.take_take,show min xs.length q=xs.length by omega]
     exact e5
end
end Go.Sx

namespace Go.Sx
open IntKind
noncomputable section
def D.h2 (a:LL):Option LL:=
 (AN ([]:LL) a).bind λb=>some b
def D.L (a:LI):Option LI:=
 (AN ([]:LI) a).bind λb=>some b
def D.U1 (a:LI)(b c:Int):Option LI:=
 delD a b c
def D.F1 (a:LI):Option LI:=
 (AN ([]:LI) a).bind λb=>some b
def D.U0 (d b:LL):Option (LL×LL):=
 (As (σ:=Int×LL) (ρ:=LL) (fun(c,e)=>cond (decide (c<(d.length:Int))) ((idx d c).bind λh=>(D.e h).bind λi=>(AN e ([i]:LL)).bind λj=>some (.inl ((i64.wrap (c+1)),j))) (some (.inr e))) (0,([]:LL))).bind λk=>(As (σ:=Int×LL) (ρ:=LL) (fun(a,f)=>cond (decide (a<(b.length:Int))) ((idx b a).bind λm=>(idx m 0).bind λn=>(idx b a).bind λo=>(idx o 1).bind λp=>(D.R f n p).bind λq=>some (.inl ((i64.wrap (a+1)),q))) (some (.inr f))) (0,([]:LL))).bind λr=>some (k,r)
def D.D0 (a e:LL):Option (Int×Int):=
 (As (σ:=Int) (ρ:=(Unit) ⊕ (Int×Int)) (fun(b:Int)=>cond (decide (b<(e.length:Int))) ((idx e b).bind λf=>(idx f 0).bind λc=>(idx e b).bind λg=>(idx g 1).bind λd=>(idx a d).bind λh=>(idx a c).bind λi=>(D.B h i).bind λj=>cond j (some (.inr (.inr (d,c)))) ((idx a c).bind λk=>(idx a d).bind λl=>(D.B k l).bind λm=>cond m (some (.inr (.inr (c,d)))) (some (.inl (i64.wrap (b+1)))))) (some (.inr (.inl ())))) 0).bind λzz=>match zz with| .inl _=>(some ((-1),(-1)))| .inr z=>(some z)
def D.m (a:Bool):Option (Int):=
 cond a (some 1) (some 0)
def D.v0 (i d:LL)(a j:Int):Option (LL×LL):=
 (As (σ:=Int×LL) (ρ:=LL) (fun(b,e)=>cond (decide (b<(i.length:Int))) (cond (b !=a) ((idx i b).bind λn=>(D.e n).bind λo=>(AN e ([o]:LL)).bind λp=>some (.inl ((i64.wrap (b+1)),p))) (some (.inl ((i64.wrap (b+1)),e)))) (some (.inr e))) (0,([]:LL))).bind λq=>(As (σ:=Int×LL) (ρ:=LL) (fun(c,f)=>cond (decide (c<(d.length:Int))) ((idx d c).bind λs=>(idx s 0).bind λk=>(idx d c).bind λt=>(idx t 1).bind λl=>((cond (k==a) (some j) (some k):Option (Int))).bind λg=>((cond (l==a) (some j) (some l):Option (Int))).bind λh=>cond (g !=h) ((D.m (decide (a<g))).bind λu=>(D.m (decide (a<h))).bind λv=>(D.R f (i64.wrap (g-u)) (i64.wrap (h-v))).bind λw=>some (.inl ((i64.wrap (c+1)),w))) (some (.inl ((i64.wrap (c+1)),f)))) (some (.inr f))) (0,([]:LL))).bind λx=>some (q,x)
def D.I1 (h d e:LL):Option (LL×LL×Bool):=
 (D.i1 h d e).bind λi=>cond (!i) (some (([]:LL),([]:LL),false)) ((D.U0 d e).bind λf=>(As (σ:=LL×LL) (ρ:=(LL×LL×Bool)) (fun(a,b)=>(D.D0 a b).bind λc=>cond (decide (c.1<0)) (some (.inr (a,b,true))) ((D.v0 a b c.1 c.2).bind λg=>some (.inl (g.1,g.2)))) (f.1,f.2)).bind λz=>some z)
def D.V (f:LI)(g h:Int):Option (Int):=
 (D.f g).bind λi=>(As (σ:=Int) (ρ:=(Int)) (fun(a:Int)=>(D.i a).bind λc=>(As (σ:=Int×Int) (ρ:=(Int)) (fun(d,b)=>cond (decide (b<(c.length:Int))) ((idx c b).bind λk=>(idx f k).bind λl=>some (.inl ((ior .u32 d (iand .u32 l h)),(i64.wrap (b+1))))) (some (.inr d))) (a,0)).bind λe=>cond (e==a) (some (.inr a)) (some (.inl e))) i).bind λz=>some z
def D.K0 (a b c:Int):Option (Int):=
 cond (a==b) (cond (decide (b<c)) (some (i64.wrap (c-1))) (some c)) (cond (decide (b<a)) (some (i64.wrap (a-1))) (some a))
def D.h (i:LI)(d:LL)(a e:Int):Option (LI×LL):=
 (As (σ:=LL×Int) (ρ:=LL) (fun(c,b)=>cond (decide (b<(d.length:Int))) ((idx d b).bind λf=>(idx f 0).bind λk=>(idx f 1).bind λl=>(D.K0 k a e).bind λg=>(D.K0 l a e).bind λh=>cond (g !=h) ((D.H0 g h).bind λm=>(AN c ([m]:LL)).bind λn=>some (.inl (n,(i64.wrap (b+1))))) (some (.inl (c,(i64.wrap (b+1)))))) (some (.inr c))) (([]:LL),0)).bind λo=>(CO o).bind λp=>(D.L i).bind λq=>(D.U1 q a (i64.wrap (a+1))).bind λr=>some (r,p)
def D.S0 (l m:LL):Option (LL×LL):=
 (D.s1 l).bind λn=>(D.h2 m).bind λo=>(CO o).bind λp=>(As (σ:=LI×LL×Bool) (ρ:=(LI×LL)) (fun(a,b,r)=>cond r ((As (σ:=Int) (ρ:=(LI×LL×Bool)) (fun(e:Int)=>cond (decide (e<(b.length:Int))) ((idx b e).bind λg=>(idx g 0).bind λc=>(idx g 1).bind λd=>(idx a d).bind λs=>(idx a c).bind λt=>cond ((iandNot .u32 s t)==0) ((D.h a b d c).bind λh=>some (.inr (h.1,h.2,true))) ((idx a c).bind λu=>(idx a d).bind λv=>cond ((iandNot .u32 u v)==0) ((D.h a b c d).bind λi=>some (.inr (i.1,i.2,true))) (some (.inl (i64.wrap (e+1)))))) (some (.inr (a,b,false)))) 0).bind fun(w,x,y)=>some (.inl (w,x,y))) (some (.inr (a,b)))) (n,p,true)).bind fun(z,j)=>(D.m0 z).bind λaa=>(As (σ:=Int×LL) (ρ:=LL) (fun(f,k)=>cond (decide (f<(j.length:Int))) ((idx j f).bind λac=>(D.F1 ac).bind λad=>(AN k [ad]).bind λae=>some (.inl ((i64.wrap (f+1)),ae))) (some (.inr k))) (0,([]:LL))).bind λaf=>some (aa,af)
end
end Go.Sx

namespace Go.Sx
end Go.Sx

namespace Go.Sx
end Go.Sx

namespace Go.Sx
section
variable {P : Program} {ops : Array Oper} {rest : List Oper} {n r : Be} {x : List (Nat × Be)} {a : Act} {w : World} {N : Nat} {L : Bw}
variable {d : Nat} {t : TypeId} {pos : String} {af : Array Edge} {W : World} {G : GH} {H : List Itm} {α : Type} {E : Rec α}
end
end Go.Sx

namespace Go.Sx
end Go.Sx

namespace Go.Sx
open IntKind
noncomputable section
def D.Q (a:LL):Option (Bool):=
 (D.I a).bind λb=>(cond b ((D.a a).bind λc=>some (decide (c≤10))) (some false)).bind λd=>some d
def D.u0 (f:LL):Option LI:=
 (As (σ:=Int×Int) (ρ:=(Int)) (fun(d,e)=>(D.a f).bind λh=>cond (decide (e<h)) (some (.inl ((i64.wrap (d*2)),(i64.wrap (e+1))))) (some (.inr d))) (1,0)).bind λb=>(Cx (0:Int) b b).bind λi=>(As (σ:=LI×Int) (ρ:=LI) (fun(c,a)=>cond (decide (a<b)) ((idx c a).bind λl=>some (.inl ((c.set (Int.toNat a) (-1)),(i64.wrap (a+1))))) (some (.inr c))) (i,0)).bind λk=>some k
def D.e1 (b:(List Bool)):Option (Int):=
 (As (σ:=Int×Int) (ρ:=(Int)) (fun(c,a)=>cond (decide ((0:Int)≤a)) ((idx b a).bind λe=>(D.m e).bind λf=>some (.inl ((i64.wrap ((i64.wrap (2*c))+f)),(i64.wrap (a-1))))) (some (.inr c))) (0,(i64.wrap ((b.length:Int)-1)))).bind λg=>some g
def D.T (k:LL)(g:(List Bool))(h:Int):Option LI:=
 (As (σ:=LI×LI×Int) (ρ:=LI) (fun(d,i,e)=>cond (decide (e<(d.length:Int))) ((idx d e).bind λm=>(idx k m).bind λb=>(As (σ:=LI×LI×Int) (ρ:=(LI×LI)) (fun(c,f,a)=>cond (decide (a<(b.length:Int))) ((idx b a).bind λo=>(idx g o).bind λp=>(cond p ((idx b a).bind λq=>(D.c c q).bind λr=>some (!r)) (some false)).bind λs=>((cond s ((idx b a).bind λt=>(AN c ([t]:LI)).bind λu=>some u) (some c):Option LI)).bind λj=>(idx b a).bind λv=>(idx g v).bind λw=>(cond (!w) ((idx b a).bind λx=>some (x !=h)) (some false)).bind λy=>cond y ((idx b a).bind λz=>(D.V1 f z).bind λaa=>some (.inl (j,aa,(i64.wrap (a+1))))) (some (.inl (j,f,(i64.wrap (a+1)))))) (some (.inr (c,f)))) (d,i,0)).bind fun(ab,ac)=>some (.inl (ab,ac,(i64.wrap (e+1))))) (some (.inr i))) (([h]:LI),([]:LI),0)).bind λad=>some ad
def D.B0 :Nat→LL→((List Bool))→LI→Option (Int×((List Bool))×LI)
 |0,_,_,_=>none
 |fuel+1,g,h,f=>(D.e1 h).bind λb=>(idx f b).bind λm=>cond (decide ((0:Int)≤m)) ((idx f b).bind λn=>some (n,h,f)) ((As (σ:=LI×(List Bool)×Int×Int) (ρ:=(LI×(List Bool)×Int)) (fun(i,c,e,a)=>(D.a g).bind λp=>cond (decide (a<p)) ((idx c a).bind λq=>cond q (some (.inl (i,c,e,(i64.wrap (a+1))))) ((D.T g c a).bind λr=>(idx c a).bind λv=>(D.B0 fuel g (c.set (Int.toNat a) true) i).bind λd=>(D.K (r.length:Int) d.1).bind λk=>(idx d.2.1 a).bind λw=>cond ((decide (e<0))||(decide (k<e))) (some (.inl (d.2.2,(d.2.1.set (Int.toNat a) false),k,(i64.wrap (a+1))))) (some (.inl (d.2.2,(d.2.1.set (Int.toNat a) false),e,(i64.wrap (a+1))))))) (some (.inr (i,c,e)))) (f,h,(-1),0)).bind fun(j,s,t)=>(D.K t 0).bind λl=>(idx j b).bind λx=>(idx (j.set (Int.toNat b) l) b).bind λu=>some (u,s,(j.set (Int.toNat b) l)))
def D.k (a:LL)(b:(List Bool))(c:LI):Option (Int×((List Bool))×LI):=D.B0 BL a b c
def D.O0 (b:LL):Option LI:=
 (D.Q b).bind λi=>cond (!i) (some ([]:LI)) ((D.u0 b).bind λj=>(D.a b).bind λh=>(Cx (false:Bool) h h).bind λk=>(D.k b k j).bind λe=>(As (σ:=LI×LI×(List Bool)) (ρ:=LI) (fun(f,m,n)=>(D.a b).bind λo=>cond (decide ((f.length:Int)<o)) ((As (σ:=LI×(List Bool)×Int) (ρ:=(LI×LI×(List Bool))) (fun(g,c,a)=>(D.a b).bind λq=>cond (decide (a<q)) ((idx c a).bind λr=>(cond r (some true) ((D.T b c a).bind λs=>some (decide (e.1<(s.length:Int))))).bind λt=>cond t (some (.inl (g,c,(i64.wrap (a+1))))) ((idx c a).bind λz=>(D.k b (c.set (Int.toNat a) true) g).bind λd=>cond (decide (d.1≤e.1)) ((AN f ([a]:LI)).bind λu=>some (.inr (u,d.2.2,d.2.1))) ((idx d.2.1 a).bind λaa=>some (.inl (d.2.2,(d.2.1.set (Int.toNat a) false),(i64.wrap (a+1))))))) (some (.inr (f,g,c)))) (m,n,0)).bind fun(v,w,x)=>some (.inl (v,w,x))) (some (.inr f))) (([]:LI),e.2.2,e.2.1)).bind λy=>some y)
def D.q0 (a:LL):Option (LL×LL×Bool):=
 (D.Q a).bind λd=>cond (!d) (some (([]:LL),([]:LL),false)) ((((D.O0 a).bind λe=>(D.Y a e).bind λc=>some (c.1,c.2.1):Option (LL×LL))).bind fun(f,g)=>(D.I1 a f g).bind λb=>some (b.1,b.2.1,b.2.2))
def D.K1 (a:LL):Option (Bool):=
 (D.y0 a).bind λb=>some (b&&(decide ((a.length:Int)≤10)))
def D.k0 (c:LI)(d a:Int):Option (Int):=
 (D.f a).bind λg=>(D.V c a (ior .u32 d g)).bind λh=>(D.i h).bind λe=>(As (σ:=Int×Int) (ρ:=(Int)) (fun(f,b)=>cond (decide (b<(e.length:Int))) ((idx e b).bind λj=>(idx c j).bind λk=>some (.inl ((ior .u32 f k),(i64.wrap (b+1))))) (some (.inr f))) (0,0)).bind λl=>(D.f a).bind λm=>some (iandNot .u32 (iandNot .u32 l d) m)
def D.Y1 (f:LL)(c:LI):Option (((List Bool))):=
 (D.a f).bind λd=>(Cx (false:Bool) d d).bind λg=>(As (σ:=(List Bool)×Int) (ρ:=((List Bool))) (fun(a,b)=>cond (decide (b<(c.length:Int))) ((idx c b).bind λe=>(idx a e).bind λj=>some (.inl ((a.set (Int.toNat e) true),(i64.wrap (b+1))))) (some (.inr a))) (g,0)).bind λi=>some i
def D.n2 (a:LL)(b:LI):Option (Int):=
 (D.Q a).bind λc=>(cond (!c) (some true) ((D.a a).bind λd=>(D.J b d).bind λe=>some (!e))).bind λf=>cond f (some (-1)) ((D.Y1 a b).bind λg=>(D.u0 a).bind λh=>(D.k a g h).bind λi=>some i.1)
def D.x1 (a:LL):Option (Int):=
 (D.n2 a ([]:LI)).bind λb=>some b
end
end Go.Sx

namespace Go.Sx
open IntKind
noncomputable section
def D.n0 (rec:Int→Option Int)(F:LI)(gone v:Int):Option Int:=
 (D.k0 F gone v).bind λb=>(D.k1 b).bind λs=>(D.f v).bind λo=>(rec (ior .u32 gone o)).bind λt=>some (if s<t then t else s)
def D.f1 (rec:Int→Option Int)(F:LI)(gone:Int)(us:LI)(s:Int×Int):Option ((Int×Int) ⊕ Int):=
 cond (decide (s.2<(us.length:Int))) ((idx us s.2).bind λv=>(D.n0 rec F gone v).bind λw=>some (.inl ((if w<s.1 then w else s.1),(i64.wrap (s.2+1))))) (some (.inr s.1))
def D.l :Nat→LI→Int→Option Int
 |0,_,_=>none
 |fuel+1,F,gone=>(D.n F).bind λall=>cond (gone==all) (some 0) ((D.i (iandNot .u32 all gone)).bind λus=>As (D.f1 (D.l fuel F) F gone us) (16,0))
def D.s2 (F us:LI)(most:Int)(out:LI)(gone i:Int):Option (Int ⊕ (LI×Int)):=
 cond (decide (i<(us.length:Int))) ((idx us i).bind λv=>(D.n0 (D.l BL F) F gone v).bind λw=>cond (decide (w≤most)) ((AN out [v]).bind λo2=>(D.f v).bind λo=>some (.inr (o2,ior .u32 gone o))) (some (.inl (i64.wrap (i+1))))) (some (.inr (out,gone)))
def D.r2 (F:LI)(most:Int)(s:LI×Int):Option ((LI×Int) ⊕ LI):=
 (D.n F).bind λall=>cond (s.2 !=all) ((D.i (iandNot .u32 all s.2)).bind λus=>(As (D.s2 F us most s.1 s.2) 0).bind λq=>some (.inl q)) (some (.inr s.1))
def D.Z0 (F:LI):Option LI:=(D.l BL F 0).bind λmost=>As (D.r2 F most) ([],0)
theorem loopF_le {σ ρ:Type}{f g:σ→Option (σ ⊕ ρ)}(h:∀s y,f s=some y→g s=some y){s:σ}{r:ρ}(hr:As f s=some r):As g s=some r:=by
 rw[loopF_some] at hr ⊢
 induction hr with
 |done h1=>exact .done (h _ _ h1)
 |more h1 _ ih=>exact .more (h _ _ h1) ih
theorem wWith_le {r1 r2:Int→Option Int}(h:∀k y,r1 k=some y→r2 k=some y){F:LI}{gone v y:Int}(hy:D.n0 r1 F gone v=some y):D.n0 r2 F gone v=some y:=by
 unfold D.n0 at hy ⊢
 obtain⟨b,hb,hy⟩:=bind_some hy
 obtain⟨s,hs,hy⟩:=bind_some hy
 obtain⟨o,ho,hy⟩:=bind_some hy
 obtain⟨t,ht,hy⟩:=bind_some hy
 rw[hb,Option.bind_some,hs,Option.bind_some,ho,Option.bind_some,h _ _ ht,Option.bind_some]
 exact hy
theorem wStep_le {r1 r2:Int→Option Int}(h:∀k y,r1 k=some y→r2 k=some y){F:LI}{gone:Int}{us:LI}{s:Int×Int}{y:(Int×Int) ⊕ Int}(hy:D.f1 r1 F gone us s=some y):D.f1 r2 F gone us s=some y:=by
 unfold D.f1 at hy ⊢
 rcases Af hy with⟨hc,hy⟩|⟨hc,hy⟩
 ·rw[hc,cond_true]
  obtain⟨v,hv,hy⟩:=bind_some hy
  obtain⟨w,hw,hy⟩:=bind_some hy
  rw[hv,Option.bind_some,wWith_le h hw,Option.bind_some]
  exact hy
 ·rw[hc,cond_false];exact hy
theorem wAfterR_le {F:LI}:∀{n:Nat} {k y:Int},D.l n F k=some y→D.l (n+1) F k=some y
 |0,_,_,h=>by simp[D.l] at h
 |n+1,k,y,h=>by
  unfold D.l at h ⊢
  obtain⟨all,ha,h⟩:=bind_some h
  rw[ha,Option.bind_some]
  rcases Af h with⟨hc,h⟩|⟨hc,h⟩
  ·rw[hc,cond_true];exact h
  ·rw[hc,cond_false]
   obtain⟨us,hu,h⟩:=bind_some h
   rw[hu,Option.bind_some]
   exact loopF_le (λs y hs=>wStep_le (λk y hk=>wAfterR_le hk) hs) h
theorem Ea {F:LI}{n:Nat}{k y:Int}(h:D.l n F k=some y):∀d,D.l (n+d) F k=some y
 |0=>h
 |d+1=>wAfterR_le (Ea h d)
theorem wAfterR_det {F:LI}{n m:Nat}{k y z:Int}(h1:D.l n F k=some y)(h2:D.l m F k=some z):y=z:=by
 have a:=Ea h1 m
 have b:=Ea h2 n
 rw[Nat.add_comm m n,a] at b
 exact Option.some.inj b
def DN (F:LI)(M:List (Int×Int)):Prop:=∀kv∈M,∃n,D.l n F kv.1=some kv.2
end
end Go.Sx

namespace Go.Sx
noncomputable def D.x0 (a:LL):Option (LL×LL×Bool):=
 (D.K1 a).bind λe=>cond (!e) (some (([]:LL),([]:LL),false)) ((D.i0 a).bind λb=>(D.Z0 b).bind λf=>(D.Q0 b f).bind λc=>(D.S0 c.1 c.2).bind λd=>some (d.1,d.2,true))
end Go.Sx

namespace Go.Sx
section
variable {P : Program} {ops : Array Oper} {nn r : Be} {x : List (Nat × Be)} {a : Act} {W : World} {T : Act → World → Prop} {H E : List Itm} {G : GH} {N fuel : Nat} {L : Bw} {listed listed' : Array Bool}
variable {t : TypeId} {pos : String} {af : Array Edge} {gd : Option (Nat × Bool)} {d i : Nat}
end
end Go.Sx

namespace Go.Sx
end Go.Sx

namespace Go.Sx
open IntKind
noncomputable section
def D.Y0 {σ:Type}(rec:Int→Int→Int→Int→σ→Option (Bool×σ))(n many chosen:Int)(s:σ×Int):Option ((σ×Int) ⊕ (Bool×σ)):=
 cond (decide (i64.wrap (s.2+many)≤n)) ((D.f s.2).bind λo=>(rec n (i64.wrap (s.2+1)) (i64.wrap (many-1)) (ior .u32 chosen o) s.1).bind λr=>cond r.1 (some (.inr (true,r.2))) (some (.inl (r.2,i64.wrap (s.2+1))))) (some (.inr (false,s.1)))
def D.a0 {σ:Type}(f:Int→σ→Option (Bool×σ)):Nat→Int→Int→Int→Int→σ→Option (Bool×σ)
 |0,_,_,_,_,_=>none
 |fuel+1,n,frm,many,chosen,s=>cond (many==0) (f chosen s) (As (D.Y0 (D.a0 f fuel) n many chosen) (s,frm))
end
end Go.Sx

namespace Go.Sx
section
variable {P : Program} {ops : Array Oper} {rest : List Oper} {n r : Be} {x : List (Nat × Be)} {a : Act} {w W : World} {N : Nat} {L : Bw} {d : Nat} {t : TypeId} {pos : String} {af : Array Edge} {G : GH} {H : List Itm} {α : Type} {E : Rec α}
end
end Go.Sx

namespace Go.Sx
section
variable {P : Program} {ops : Array Oper} {rest : List Oper} {n r : Be} {x : List (Nat × Be)} {a : Act} {w W : World} {N : Nat} {L : Bw} {d : Nat} {t : TypeId} {pos : String} {af : Array Edge} {G : GH} {H : List Itm}
variable {α : Type} {R : Rep α}
end
end Go.Sx

namespace Go.Sx
noncomputable def D.C (d:LI)(e:Int):Option LI:=
 (As (σ:=Int×LI) (ρ:=LI) (fun(a,b)=>cond (a !=0) ((D.O a).bind λg=>(D.V d g a).bind λc=>(AN b ([c]:LI)).bind λh=>some (.inl ((iandNot .u32 a c),h))) (some (.inr b))) (e,([]:LI))).bind λi=>some i
end Go.Sx

namespace Go.Sx
end Go.Sx

namespace Go.Sx
end Go.Sx

namespace Go.Sx
open IntKind
noncomputable def D.f0 (d:LL)(b:LI)(e:Int):Option (Int):=
 (As (σ:=Int×Int) (ρ:=(Int)) (fun(c,a)=>cond (decide (a<(b.length:Int))) ((idx b a).bind λg=>(D.r d g e).bind λh=>(D.m h).bind λi=>some (.inl ((i64.wrap (c+i)),(i64.wrap (a+1))))) (some (.inr c))) (0,0)).bind λj=>some j
end Go.Sx

namespace Go.Sx
end Go.Sx

namespace Go.Sx
section
variable {P : Program} {ops : Array Oper} {rest : List Oper} {nn r : Be} {x : List (Nat × Be)} {a : Act} {w : World} {N : Nat} {L : Bw}
variable {d : Nat} {t : TypeId} {pos : String} {af : Array Edge} {W : World} {G : GH} {H : List Itm} {α : Type} {C : Rec α}
end
section
variable {P : Program} {ops : Array Oper} {nn r : Be} {x : List (Nat × Be)} {a : Act} {W : World} {T : Act → World → Prop} {H E : List Itm} {G : GH} {N fuel : Nat} {L : Bw} {listed listed' : Array Bool}
variable {i d : Nat} {t : TypeId} {pos : String} {af : Array Edge} {gd : Option (Nat × Bool)} {α : Type} {C : Rec α}
end
end Go.Sx

namespace Go.Sx
def OwMp {β:Type}(q:IntKind)(enc:β→Value)(it:Itm)(v:Value)(M:List (Int×β)):Prop:=
 ∃(b:Nat) (es:Array MapEntry) (clock:Nat),it= .obj b (.map es clock)∧v= .map (some b)∧es.toList.map (λe=>(e.key,e.val))=M.map (λkv=>(Value.int q kv.1,enc kv.2))
theorem find_now {β:Type}{q:IntKind}{enc:β→Value}(x:Int):∀(es:List MapEntry) (M:List (Int×β)) (i:Nat),es.map (λe=>(e.key,e.val))=M.map (λkv=>(Value.int q kv.1,enc kv.2))→
  (Instr.findNow (.int q) (.int q x) es i=some none∧∀kv∈M,kv.1≠x)∨∃j kv,Instr.findNow (.int q) (.int q x) es i=some (some (i+j,enc kv.2))∧M[j]? =some kv∧kv.1=x
 |[],M,i,h=>by
  have:M=[]:=by simpa using h.symm
  subst this
  exact .inl ⟨rfl,by simp⟩
 |e::es,[],i,h=>by simp at h
 |e::es,kv::M,i,h=>by
  simp only[List.map_cons,List.cons.injEq,Prod.mk.injEq] at h
  obtain⟨⟨h1,h2⟩,h3⟩:=h
  unfold Instr.findNow
  rw[h1]
  simp only[Instr.sameNow,if_true]
  by_cases hx:x=kv.1
  ·rw[show (x==kv.1)=true by simp[hx]]
   exact .inr ⟨0,kv,by simp[h2],rfl,hx.symm⟩
  ·rw[show (x==kv.1)=false by simp[hx]]
   rcases find_now x es M (i+1) h3 with⟨h4,h5⟩|⟨j,kv',h4,h5,h6⟩
   ·refine .inl ⟨h4,λz hz=> ?_⟩
    rcases List.mem_cons.1 hz with rfl|hz
    ·exact λe=>hx e.symm
    ·exact h5 z hz
   ·exact .inr ⟨j+1,kv',by simp only[h4];congr 3;omega,by simpa using h5,h6⟩
section
variable {P : Program} {ρ : Operand → Value} {w : World} {d : Option Tmp} {t : TypeId} {pos : String} {af : Array Edge} {gd : Option (Nat × Bool)}
theorem EL {q:IntKind}{kt:TypeId}(hk:P.underlying kt=some (.int q)){k:Value}{es:List MapEntry}{o:Option (Nat×Value)}(h:Instr.findNow (.int q) k es 0=some o):(Instr.findKey kt k es).run P w= .ok o w:=by
 simp[Instr.findKey,run_underlying hk,h]
theorem Ei {q:IntKind}{kt:TypeId}(hk:P.underlying kt=some (.int q))(e:Bool)(x:Int):(Instr.checkKey e 10000 kt (.int q x)).run P w= .ok () w:=by
 unfold Instr.checkKey
 simp[run_underlying hk]
theorem run_map {b:Nat}{es:Array MapEntry}{clock:Nat}(h:w.heap[b]? =some (.map es clock)):(getObj b).run P w= .ok (.map es clock) w:=by
 simp[getObj,Sem.run,h]
theorem run_setMap {b:Nat}{es:Array MapEntry}{clock:Nat}{o':Obj}(h:w.heap[b]? =some (.map es clock)):(setObj b o').run P w= .ok () {w with heap:=w.heap.setIfInBounds b o'}:=by
 simp[setObj,Sem.run,h]
theorem run_stays (q:IntKind)(x:Int):(Instr.keyThatStays (.int q x) (.int q x)).run P w= .ok (.int q x) w:=by
 have e:Instr.sameBits 10000 (.int q x) (.int q x)=true:=by simp[Instr.sameBits]
 unfold Instr.keyThatStays
 rw[e];rfl
theorem r_lookup {xo ko:Operand}{mt kt et:TypeId}{q:IntKind}{b:Nat}{es:Array MapEntry}{clock:Nat}{x:Int}{z:Value}{o:Option (Nat×Value)}{ok:Bool}(hx:ρ xo= .map (some b))(hk:ρ ko= .int q x)
  (ht:P.underlying mt=some (.map kt et)) (hq:P.underlying kt=some (.int q)) (hz:∀w,(zeroValue et).run P w= .ok z w) (hg:w.heap[b]? =some (.map es clock)) (ho:Instr.findNow (.int q) (.int q x) es.toList 0=some o):
  (execOp ρ ⟨d,.lookup mt xo ko ok,t,pos,af,gd⟩).run P w= .ok (.value (if ok then .tuple #[(o.map (·.2)).getD z,.bool o.isSome] else(o.map (·.2)).getD z)) w:=by
 cases o with
 |none=>simp[execOp,hx,hk,Instr.lookup,run_underlying ht,run_map hg,Ei hq,EL hq ho,hz w]
 |some p=>obtain⟨i,v⟩:=p;simp[execOp,hx,hk,Instr.lookup,run_underlying ht,run_map hg,Ei hq,EL hq ho]
theorem r_makeMap {mt:TypeId}:(execOp ρ ⟨d,.makeMap mt none,t,pos,af,gd⟩).run P w= .ok (.value (.map (some w.heap.size))) (w.alloc (.map #[] 0)):=by
 simp[execOp,Instr.makeMap]
theorem FL {mo ko vo:Operand}{mt kt et:TypeId}{q:IntKind}{b:Nat}{es:Array MapEntry}{clock:Nat}{x:Int}{y:Value}{o:Option (Nat×Value)}(hm:ρ mo= .map (some b))(hk:ρ ko= .int q x)(hv:ρ vo=y)
  (ht:P.underlying mt=some (.map kt et)) (hq:P.underlying kt=some (.int q)) (hg:w.heap[b]? =some (.map es clock)) (ho:Instr.findNow (.int q) (.int q x) es.toList 0=some o) (hkey:∀j v,o=some (j,v)→(es[j]?).map (·.key)=some (.int q x)):
  (execOp ρ ⟨d,.mapUpdate mt mo ko vo,t,pos,af,gd⟩).run P w= .ok .skip {w with heap:=w.heap.setIfInBounds b (match o with|some (j,_)=> .map (es.modify j λe=>{e with key:= .int q x,val:=y}) clock|none=> .map (es.push {key:= .int q x,val:=y,born:=clock}) (clock+1))}:=by
 cases o with
 |none=>simp[execOp,hm,hk,hv,Instr.mapUpdate,run_underlying ht,run_map hg,Ei hq,EL hq ho,run_setMap hg]
 |some p=>
  obtain⟨j,v⟩:=p
  have h1:=hkey j v rfl
  have h2:((es[j]?).map (·.key)).getD (.int q x)= .int q x:=by rw[h1];rfl
  simp only[execOp,hm,hk,hv,Instr.mapUpdate]
  simp[run_underlying ht,run_map hg,Ei hq,EL hq ho,h2,run_stays,run_setMap hg]
end
section
variable {P : Program} {ops : Array Oper} {rest : List Oper} {n r : Be} {x : List (Nat × Be)} {a : Act} {w : World} {N : Nat} {L : Bw}
variable {W : World} {G : GH} {H : List Itm}
variable {d : Nat} {t : TypeId} {pos : String} {af : Array Edge}
theorem l_makeMap {β:Type}(q:IntKind)(enc:β→Value){mt:TypeId}(m:Mem W G w H)(f:Fr a N L)(hN:Nat.blt d N=true)
  (k:∀it v w' a',Mem W G w' (it::H)→OwMp q enc it v []→Fr a' N ((d,v)::L)→wpList P ops (Qk n x r) rest a' w'):
  wpList P ops (Qk n x r) (⟨some d,.makeMap mt none,t,pos,af,none⟩::rest) a w:=
 Bs f rfl rfl hN r_makeMap (λa' f'=>k (.obj w.heap.size (.map #[] 0)) _ _ a' (m.add rfl rfl rfl (λy hy=>by first|exact heap_alloc_old w _ y hy|exact heap_alloc_old w _ hy) (heap_alloc_new w _) (λy hy=>by simp[Itm.foot] at hy;omega)) ⟨_,_,_,rfl,rfl,rfl⟩ f')
theorem l_lookup2 {β:Type}{q:IntKind}{enc:β→Value}{it:Itm}{v z:Value}{M:List (Int×β)}{mt kt et:TypeId}{xo ko:Operand}{i:Int}(j:Nat)(m:Mem W G w H)(h:OwMp q enc it v M)(hj:H[j]? =some it)
  (ht:P.underlying mt=some (.map kt et)) (hq:P.underlying kt=some (.int q)) (hz:∀w,(zeroValue et).run P w= .ok z w) (f:Fr a N L) (hN:Nat.blt d N=true) (hx:AX L xo=some v) (hk:AX L ko=some (.int q i))
  (k:∀(o:Option β),(∀y,o=some y→(i,y)∈M)→∀a',Fr a' N ((d,.tuple #[(o.map enc).getD z,.bool o.isSome])::L)→wpList P ops (Qk n x r) rest a' w):
  wpList P ops (Qk n x r) (⟨some d,.lookup mt xo ko true,t,pos,af,none⟩::rest) a w:=by
 obtain⟨b,es,clock,rfl,rfl,he⟩:=h
 have hg:w.heap[b]? =some (.map es clock):=m.items j _ hj
 rcases find_now i es.toList M 0 he with⟨h1,_⟩|⟨j',kv,h1,h2,h3⟩
 ·exact Bs f rfl rfl hN (r_lookup (f.eval hx) (f.eval hk) ht hq hz hg h1) (λa' f'=>k none (λy hy=>by cases hy) a' f')
 ·exact Bs f rfl rfl hN (r_lookup (f.eval hx) (f.eval hk) ht hq hz hg h1) (λa' f'=>k (some kv.2) (λy hy=>by
   simp only[Option.some.injEq] at hy
   subst hy;rw[←h3];exact List.mem_of_getElem? h2) a' f')
theorem l_mapUpdate {β:Type}{q:IntKind}{enc:β→Value}{it:Itm}{v:Value}{M:List (Int×β)}{mt kt et:TypeId}{xo ko vo:Operand}{i:Int}{y:β}(j:Nat)(m:Mem W G w H)(h:OwMp q enc it v M)(hj:H[j]? =some it)
  (ht:P.underlying mt=some (.map kt et)) (hq:P.underlying kt=some (.int q)) (f:Fr a N L) (hx:AX L xo=some v) (hk:AX L ko=some (.int q i)) (hv:AX L vo=some (enc y))
  (k:∀it' M' w',(∀kv∈M',kv=(i,y)∨kv∈M)→Mem W G w' (H.set j it')→OwMp q enc it' v M'→wpList P ops (Qk n x r) rest a w'):
  wpList P ops (Qk n x r) (⟨none,.mapUpdate mt xo ko vo,t,pos,af,none⟩::rest) a w:=by
 obtain⟨b,es,clock,rfl,rfl,he⟩:=h
 have hg:w.heap[b]? =some (.map es clock):=m.items j _ hj
 have hb:b<w.heap.size:=(Array.getElem?_eq_some_iff.1 hg).1
 have hlen:es.toList.length=M.length:=by have:=congrArg List.length he;simpa using this
 have hmem:∀(o:Obj),Mem W G {w with heap:=w.heap.setIfInBounds b o} (H.set j (.obj b o)):=λo=>
  m.changeAt j hj rfl rfl rfl (λy _ hy=>by
   have:y≠b:=λe=>hy (by rw[e];simp[Itm.foot])
   simp[Ne.symm this]) (by simp[Itm.ok,hb]) (λy hy=> .inl hy)
 rcases find_now i es.toList M 0 he with⟨h1,_⟩|⟨j',kv,h1,h2,h3⟩
 ·refine l_void rfl rfl (FL (f.eval hx) (f.eval hk) (f.eval hv) ht hq hg h1 (λj v hc=>by cases hc)) ?_
  refine k _ (M++[(i,y)]) _ (λkv hkv=> ?_) (hmem _) ⟨b,_,_,rfl,rfl,?_⟩
  ·rcases List.mem_append.1 hkv with h|h
   ·exact .inr h
   ·exact .inl (by simpa using h)
  ·simp[he]
 ·have hjl:j'<es.toList.length:=by rw[hlen];exact(List.getElem?_eq_some_iff.1 h2).1
  have hkey:(es[j']?).map (·.key)=some (.int q i):=by
   have hA:=congrArg (λl=>l[j']?) he
   simp only[List.getElem?_map,h2,Option.map_some,Array.getElem?_toList] at hA
   cases hE:es[j']? with
   |none=>rw[hE] at hA;simp at hA
   |some e=>
    rw[hE] at hA
    simp only[Option.map_some,Option.some.injEq,Prod.mk.injEq] at hA
    rw[Option.map_some,hA.1,h3]
  refine l_void rfl rfl (FL (f.eval hx) (f.eval hk) (f.eval hv) ht hq hg h1 (λj v hc=>by
   simp only[Option.some.injEq,Prod.mk.injEq,Nat.zero_add] at hc
   rw[←hc.1];exact hkey)) ?_
  refine k _ (M.set j' (i,y)) _ (λkv' hkv=> ?_) (hmem _) ⟨b,_,_,rfl,rfl,?_⟩
  ·rcases List.mem_or_eq_of_mem_set hkv with h|h
   ·exact .inr h
   ·exact .inl h
  ·refine List.ext_getElem? λp=> ?_
   have hA:=congrArg (λl=>l[p]?) he
   simp only[List.getElem?_map,Array.getElem?_toList] at hA
   simp only[List.getElem?_map,Array.getElem?_toList,Array.getElem?_modify,List.getElem?_set,Nat.zero_add]
   by_cases hp:j'=p
   ·subst hp
    rw[if_pos rfl,if_pos rfl,if_pos (by rw[←hlen];exact hjl)]
    have:j'<es.size:=by simpa using hjl
    simp[this]
   ·rw[if_neg hp,if_neg hp]
    exact hA
end
end Go.Sx

namespace Go.Sx
section
variable {P : Program} {kt ft : TypeId} {f0 f1 : Field}
end
section
variable {P : Program} {ops : Array Oper} {rest : List Oper} {n r : Be} {x : List (Nat × Be)} {a : Act} {w : World} {N : Nat} {L : Bw}
variable {W : World} {G : GH} {H : List Itm} {d : Nat} {t : TypeId} {pos : String} {af : Array Edge} {kt ft : TypeId} {f0 f1 : Field}
end
section
variable {P : Program} {ops : Array Oper} {rest : List Oper} {n r : Be} {x : List (Nat × Be)} {a : Act} {w : World} {N : Nat} {L : Bw}
variable {W : World} {G : GH} {H : List Itm} {d : Nat} {t : TypeId} {pos : String} {af : Array Edge}
end
section
variable {P : Program} {ops : Array Oper} {nn r : Be} {x : List (Nat × Be)} {a : Act} {W : World} {T : Act → World → Prop} {H E : List Itm} {G : GH} {N fuel : Nat} {L : Bw} {listed listed' : Array Bool}
variable {i d : Nat} {t : TypeId} {pos : String} {af : Array Edge} {gd : Option (Nat × Bool)} {kt ft : TypeId} {f0 f1 : Field}
end
end Go.Sx

namespace Go.Sx
theorem w64 {x:Int}(h1: -9223372036854775808≤x)(h2:x<9223372036854775808):IntKind.i64.wrap x=x:=by
 simp only[IntKind.wrap,IntKind.bits,IntKind.signed]
 have e:(2:Int)^64=18446744073709551616:=by decide
 have e':(2:Int)^(64-1)=9223372036854775808:=by decide
 simp
 omega
theorem dlt {i n:Nat}(h:i<n):decide ((i:Int)<(n:Int))=true:=by simp;omega
theorem Ba {n:Nat}:decide ((n:Int)<(n:Int))=false:=by simp
theorem Au {α:Type}{xs:List α}{i:Nat}(h:i<xs.length):idx xs (i:Int)=some xs[i]:=by
 unfold idx;rw[if_pos (by omega)];simp[h]
theorem idx_int {α:Type}{xs:List α}{i:Int}(h0:0≤i)(h:i<xs.length):idx xs i=some (xs[i.toNat]'(by omega)):=by
 unfold idx;rw[if_pos h0];simp
theorem wi {i:Nat}(h:i<4611686018427387904):IntKind.i64.wrap ((i:Int)+1)=((i+1:Nat):Int):=by
 rw[w64 (by omega) (by omega)];rfl
theorem wi' {i n:Nat}(h:i<n)(hn:n≤4611686018427387904):IntKind.i64.wrap ((i:Int)+1)=((i+1:Nat):Int):=wi (by omega)
theorem AD {α:Type}{xs:List α}{i:Nat}(h:i<xs.length)(d:α):xs.getD i d=xs[i]:=by simp[h]
theorem AR {α:Type}{xs ys:List α}(h:xs.length+ys.length≤4294967296):AN xs ys=some (xs++ys):=by
 unfold AN;rw[if_pos h]
theorem sliceD_pre {α:Type}{xs:List α}{i:Nat}(h:i≤xs.length):CC xs 0 (i:Int)=some (xs.take i):=by
 unfold CC;rw[if_pos ⟨by omega,by omega,by omega⟩];simp
theorem sliceD_post {α:Type}{xs:List α}{i:Nat}(h:i≤xs.length):CC xs (i:Int) (xs.length:Int)=some (xs.drop i):=by
 unfold CC;rw[if_pos ⟨by omega,by omega,by omega⟩];simp
theorem CI {α:Type}{z:α}{n:Nat}{c:Int}(h:(n:Int)≤c)(h2:c≤4294967296):Cx z (n:Int) c=some (List.replicate n z):=by
 unfold Cx;rw[if_pos ⟨by omega,h,h2⟩];simp
theorem makeD_zero {α:Type}{z:α}{c:Int}(h:0≤c)(h2:c≤4294967296):Cx z 0 c=some []:=by
 unfold Cx;rw[if_pos ⟨by omega,h,h2⟩];simp
def Stp {σ ρ:Type}(I:σ→Prop)(μ:σ→Nat)(Post:ρ→Prop)(s:σ):σ ⊕ ρ→Prop
 | .inl s'=>I s'∧μ s'<μ s
 | .inr r=>Post r
theorem AY {σ ρ β:Type}{step:σ→Option (σ ⊕ ρ)}{s:σ}{k:ρ→Option β}{Q:β→Prop}(I:σ→Prop)(μ:σ→Nat)(Post:ρ→Prop)
  (hstep:∀s,I s→∃y,step s=some y∧Stp I μ Post s y) (h0:I s) (hk:∀r,Post r→∃y,k r=some y∧Q y):∃y,(As step s).bind k=some y∧Q y:=by
 obtain⟨r,hr,hp⟩:=E4 (step:=step) I μ Post (λs hs=>by
  obtain⟨y,hy,hq⟩:=hstep s hs
  cases y with
  |inl s'=>exact .inl ⟨s',hy,hq.1,hq.2⟩
  |inr r=>exact .inr ⟨r,hy,hq⟩) s h0
 rw[hr]
 exact hk r hp
theorem Cw {α β:Type}{e:Option α}{k:α→Option β}{Q:β→Prop}(R:α→Prop)(h:∃x,e=some x∧R x)(hk:∀x,R x→∃y,k x=some y∧Q y):∃y,e.bind k=some y∧Q y:=by
 obtain⟨x,rfl,hx⟩:=h
 exact hk x hx
theorem bind_eq {α β:Type}{e:Option α}{k:α→Option β}{Q:β→Prop}{x:α}(h:e=some x)(hk:∃y,k x=some y∧Q y):∃y,e.bind k=some y∧Q y:=by
 subst h;exact hk
theorem Dy {S ρ:Type}{step:S→Option (S ⊕ ρ)}(st:Nat→S)(n:Nat)(h:∀i,i<n→step (st i)=some (.inl (st (i+1)))):As step (st 0)=As step (st n):=by
 have key:∀k,k≤n→As step (st 0)=As step (st k):=by
  intro k
  induction k with
  |zero=>intro _;rfl
  |succ k ih=>intro hk;rw[ih (by omega),BF (h k (by omega))]
 exact key n (Nat.le_refl n)
theorem BP {S ρ β:Type}{step:S→Option (S ⊕ ρ)}{k:ρ→Option β}{s0:S}(st:Nat→S)(n:Nat)(r:ρ)(h0:st 0=s0)(h:∀i,i<n→step (st i)=some (.inl (st (i+1))))(he:step (st n)=some (.inr r)):
  (As step s0).bind k=k r:=by
 rw[←h0,Dy st n h,Bd he];rfl
theorem Fo {α σ S ρ:Type}{step:S→Option (S ⊕ ρ)}(xs:List α)(enc:σ→Int→S)(f:σ→α→σ)(fin:σ→ρ)(I:σ→Prop)(s0:σ)
  (h0:I s0) (hstep:∀s (i:Nat) (h:i<xs.length),I s→step (enc s i)=some (.inl (enc (f s xs[i]) ((i+1:Nat):Int)))∧I (f s xs[i]))
  (hend:∀s,I s→step (enc s xs.length)=some (.inr (fin s))):As step (enc s0 0)=some (fin (xs.foldl f s0))∧I (xs.foldl f s0):=by
 have key:∀(k i:Nat) (s:σ),i+k=xs.length→I s→As step (enc s i)=some (fin ((xs.drop i).foldl f s))∧I ((xs.drop i).foldl f s):=by
  intro k
  induction k with
  |zero=>
   intro i s hk hs
   obtain rfl:i=xs.length:=by omega
   simp only[List.drop_length,List.foldl_nil]
   exact⟨Bd (hend s hs),hs⟩
  |succ k ih=>
   intro i s hk hs
   have hi:i<xs.length:=by omega
   obtain⟨h1,h2⟩:=hstep s i hi hs
   rw[BF h1,List.drop_eq_getElem_cons hi,List.foldl_cons]
   exact ih (i+1) _ (by omega) h2
 have:=key xs.length 0 s0 (by omega) h0
 simpa using this
theorem loop_listb {α σ S ρ β:Type}{step:S→Option (S ⊕ ρ)}{k:ρ→Option β}(xs:List α)(enc:σ→Int→S)(f:σ→α→σ)(fin:σ→ρ)(I:σ→Prop)(s0:σ)
  (h0:I s0) (hstep:∀s (i:Nat) (h:i<xs.length),I s→step (enc s i)=some (.inl (enc (f s xs[i]) ((i+1:Nat):Int)))∧I (f s xs[i]))
  (hend:∀s,I s→step (enc s xs.length)=some (.inr (fin s))):(As step (enc s0 0)).bind k=k (fin (xs.foldl f s0)):=by
 rw[(Fo xs enc f fin I s0 h0 hstep hend).1];rfl
theorem Ef {α β γ S:Type}{step:S→Option (S ⊕ List β)}{k:List β→Option γ}(xs:List α)(enc:List β→Int→S)(f:α→β)(hx:xs.length≤4294967296)
  (hstep:∀s (i:Nat) (h:i<xs.length),s.length=i→step (enc s i)=(AN s [f xs[i]]).bind λl=>some (.inl (enc l ((i+1:Nat):Int))))
  (hend:∀s,step (enc s xs.length)=some (.inr s)):(As step (enc [] 0)).bind k=k (xs.map f):=by
 have key:∀i,i≤xs.length→As step (enc [] 0)=As step (enc ((xs.take i).map f) i):=by
  intro i
  induction i with
  |zero=>intro _;simp
  |succ i ih=>
   intro hi
   rw[ih (by omega)]
   have h1:=hstep ((xs.take i).map f) i (by omega) (by simp;omega)
   have h2:AN ((xs.take i).map f) [f xs[i]]=some ((xs.take (i+1)).map f):=by
    unfold AN
    rw[if_pos (by simp;omega)]
    rw[List.take_succ_eq_append_getElem (show i<xs.length by omega),List.map_append];rfl
   rw[h2] at h1
   rw[BF h1]
 rw[key xs.length (Nat.le_refl _),List.take_length,Bd (hend _)];rfl
theorem Ee {σ S ρ:Type}{step:S→Option (S ⊕ ρ)}(n:Nat)(enc:σ→Int→S)(f:σ→Nat→σ)(fin:σ→ρ)(I:Nat→σ→Prop)(s0:σ)
  (h0:I 0 s0) (hstep:∀s (i:Nat),i<n→I i s→step (enc s i)=some (.inl (enc (f s i) ((i+1:Nat):Int)))∧I (i+1) (f s i))
  (hend:∀s,I n s→step (enc s n)=some (.inr (fin s))):As step (enc s0 0)=some (fin ((List.range n).foldl f s0))∧I n ((List.range n).foldl f s0):=by
 have key:∀k,k≤n→As step (enc s0 0)=As step (enc ((List.range k).foldl f s0) k)∧I k ((List.range k).foldl f s0):=by
  intro k
  induction k with
  |zero=>intro _;exact⟨rfl,h0⟩
  |succ k ih=>
   intro hk
   obtain⟨h1,h2⟩:=ih (by omega)
   obtain⟨h3,h4⟩:=hstep _ k (by omega) h2
   rw[List.range_succ,List.foldl_append,List.foldl_cons,List.foldl_nil]
   exact⟨by rw[h1,BF h3],h4⟩
 obtain⟨h1,h2⟩:=key n (Nat.le_refl n)
 exact⟨by rw[h1,Bd (hend _ h2)],h2⟩
theorem CW {ρ : Type} {step : Int → Option (Int ⊕ ρ)} (n : Nat) (c : Nat → Option ρ) (fin : ρ)
    (hstep : ∀ i, i < n → step (i : Int) = match c i with | some r => some (.inr r) | none => some (.inl ((i + 1 : Nat) : Int)))
    (hend : step (n : Int) = some (.inr fin)) : As step 0 = some (((List.range n).findSome? c).getD fin) := by
  have key : ∀ (k i : Nat), i + k = n → As step (i : Int) = some (((List.range' i k).findSome? c).getD fin) := by
    intro k
    induction k with
    | zero => intro i h; obtain rfl : i = n := by omega
              simpa using Bd hend
    | succ k ih =>
      intro i h
      have h1 := hstep i (by omega)
      rw [List.range'_succ, List.findSome?_cons]
      cases hc : c i with
      | some r => rw [hc] at h1; simpa using Bd h1
      | none => rw [hc] at h1; rw [BF h1]; exact ih (i + 1) (by omega)
  have := key n 0 (by omega)
  simpa [List.range_eq_range'] using this
theorem CE {β:Type}{step:Int→Option (Int ⊕ (Unit ⊕ β))}{k:Unit ⊕ β→Option Bool}(n:Nat)(c:Nat→Bool)(bad:β)
  (hstep:∀i,i<n→step (i:Int)=if c i then some (.inl ((i+1:Nat):Int)) else some (.inr (.inr bad)))
  (hend:step (n:Int)=some (.inr (.inl ()))) (hk1:k (.inl ())=some true) (hk2:k (.inr bad)=some false):
  (As step 0).bind k=some ((List.range n).all c):=by
 rw[CW n (λi=>if c i then none else some (.inr bad)) (.inl ()) (λi hi=>by rw[hstep i hi];cases c i<;>rfl) hend]
 simp only[bs]
 cases h:(List.range n).all c with
 |true=>
  rw[List.findSome?_eq_none_iff.2 (λx hx=>by rw[if_pos (List.all_eq_true.1 h x hx)])]
  exact hk1
 |false=>
  cases h2:(List.range n).findSome? (λi=>if c i then none else some (Sum.inr bad)) with
  |none=>
   rw[List.findSome?_eq_none_iff] at h2
   have:(List.range n).all c=true:=List.all_eq_true.2 λx hx=>by
    have:=h2 x hx
    cases hc:c x
    ·rw[hc] at this;cases this
    ·rfl
   rw[this] at h;cases h
  |some r=>
   obtain⟨x,_,hx⟩:=List.exists_of_findSome?_eq_some h2
   cases hc:c x
   ·rw[hc] at hx;simp at hx;subst hx;exact hk2
   ·rw[hc] at hx;simp at hx
theorem D7 {ρ β:Type}{step:Int→Option (Int ⊕ ρ)}{k:ρ→Option β}(n:Nat)(c:Nat→Bool)(fine bad:ρ)
  (hstep:∀i,i<n→step (i:Int)=if c i then some (.inl ((i+1:Nat):Int)) else some (.inr bad))
  (hend:step (n:Int)=some (.inr fine)):(As step 0).bind k=cond ((List.range n).all c) (k fine) (k bad):=by
 rw[CW n (λi=>if c i then none else some bad) fine (λi hi=>by rw[hstep i hi];cases c i<;>rfl) hend]
 simp only[bs]
 cases h:(List.range n).all c with
 |true=>
  rw[List.findSome?_eq_none_iff.2 (λx hx=>by rw[if_pos (List.all_eq_true.1 h x hx)])]
  rfl
 |false=>
  cases h2:(List.range n).findSome? (λi=>if c i then none else some bad) with
  |none=>
   rw[List.findSome?_eq_none_iff] at h2
   have:(List.range n).all c=true:=List.all_eq_true.2 λx hx=>by
    have:=h2 x hx
    cases hc:c x
    ·rw[hc] at this;cases this
    ·rfl
   rw[this] at h;cases h
  |some r=>
   obtain⟨x,_,hx⟩:=List.exists_of_findSome?_eq_some h2
   cases hc:c x
   ·rw[hc] at hx;simp at hx;subst hx;rfl
   ·rw[hc] at hx;simp at hx
theorem Ej {β:Type}{step:Int→Option (Int ⊕ (Unit ⊕ β))}{k:Unit ⊕ β→Option Bool}(n:Nat)(c:Nat→Bool)(good:β)
  (hstep:∀i,i<n→step (i:Int)=if c i then some (.inr (.inr good)) else some (.inl ((i+1:Nat):Int)))
  (hend:step (n:Int)=some (.inr (.inl ()))) (hk1:k (.inl ())=some false) (hk2:k (.inr good)=some true):
  (As step 0).bind k=some ((List.range n).any c):=by
 rw[CW n (λi=>if c i then some (.inr good) else none) (.inl ()) (λi hi=>by rw[hstep i hi];cases c i<;>rfl) hend]
 simp only[bs]
 cases h:(List.range n).any c with
 |false=>
  rw[List.findSome?_eq_none_iff.2 (λx hx=>by
   have:c x=false:=by
    cases hc:c x
    ·rfl
    ·rw[List.any_eq_true.2 ⟨x,hx,hc⟩] at h;cases h
   rw[this];rfl)]
  exact hk1
 |true=>
  obtain⟨x,hx,hc⟩:=List.any_eq_true.1 h
  cases h2:(List.range n).findSome? (λi=>if c i then some (Sum.inr good) else none) with
  |none=>
   rw[List.findSome?_eq_none_iff] at h2
   have:=h2 x hx
   rw[hc] at this;cases this
  |some r=>
   obtain⟨y,_,hy⟩:=List.exists_of_findSome?_eq_some h2
   cases hc:c y
   ·rw[hc] at hy;simp at hy
   ·rw[hc] at hy;simp at hy;subst hy;exact hk2
theorem CT {α:Type}(xs:List α)(p:α→Bool)(c:Nat→Bool)(h:∀i (hi:i<xs.length),c i=p xs[i]):(List.range xs.length).all c=xs.all p:=by
 rw[Bool.eq_iff_iff,List.all_eq_true,List.all_eq_true]
 constructor
 ·intro hh x hx
  obtain⟨i,hi,rfl⟩:=List.getElem_of_mem hx
  rw[←h i hi];exact hh i (List.mem_range.2 hi)
 ·intro hh i hi
  have hi':=List.mem_range.1 hi
  rw[h i hi'];exact hh _ (List.getElem_mem _)
theorem EB {α:Type}(xs:List α)(p:α→Bool)(c:Nat→Bool)(h:∀i (hi:i<xs.length),c i=p xs[i]):(List.range xs.length).any c=xs.any p:=by
 rw[Bool.eq_iff_iff,List.any_eq_true,List.any_eq_true]
 constructor
 ·rintro⟨i,hi,hc⟩
  have hi':=List.mem_range.1 hi
  exact⟨_,List.getElem_mem hi',by rw[←h i hi'];exact hc⟩
 ·rintro⟨x,hx,hc⟩
  obtain⟨i,hi,rfl⟩:=List.getElem_of_mem hx
  exact⟨i,List.mem_range.2 hi,by rw[h i hi];exact hc⟩
theorem CZ (n:Nat)(c:Nat→Bool):(List.range n).all c=true↔∀i,i<n→c i=true:=by
 rw[List.all_eq_true]
 exact⟨λh i hi=>h i (List.mem_range.2 hi),λh i hi=>h i (List.mem_range.1 hi)⟩
theorem Ec (n:Int):IntKind.u32.wrap n=n%4294967296:=by simp[IntKind.wrap,IntKind.signed,IntKind.bits]
def VS (s:Int):Prop:=0≤s∧s<4294967296
def has (s:Int)(v:Nat):Bool:=s.toNat.testBit v
theorem VS.nat {s:Int}(h:VS s):∃n:Nat,s=n∧n<4294967296:=⟨s.toNat,by have:=h.1;omega,by have:=h.1;have:=h.2;omega⟩
theorem VS.zero :VS 0:=⟨by omega,by omega⟩
theorem VS.wrap (n:Int):VS (IntKind.u32.wrap n):=by rw[Ec];exact⟨by omega,by omega⟩
theorem CG (n v:Nat):has (n:Int) v=n.testBit v:=by simp[has]
theorem Ci (v:Nat):has 0 v=false:=by simp[has]
theorem Dv (n:Nat)(h:n<4294967296):(BitVec.ofInt 32 (n:Int)).toNat=n:=by
 rw[BitVec.toNat_ofInt]
 omega
theorem ior_nat {a b:Nat}(ha:a<4294967296)(hb:b<4294967296):ior .u32 (a:Int) (b:Int)=((a|||b:Nat):Int):=by
 have hw:a|||b<4294967296:=Nat.or_lt_two_pow (n:=32) ha hb
 show IntKind.u32.wrap (((BitVec.ofInt 32 (a:Int)|||BitVec.ofInt 32 (b:Int)).toNat:Nat):Int)=_
 rw[BitVec.toNat_or,Dv a ha,Dv b hb,Ec];omega
theorem EO {a b:Nat}(ha:a<4294967296)(hb:b<4294967296):iand .u32 (a:Int) (b:Int)=((a&&&b:Nat):Int):=by
 have hw:a&&&b<4294967296:=Nat.and_lt_two_pow (n:=32) _ hb
 show IntKind.u32.wrap (((BitVec.ofInt 32 (a:Int)&&&BitVec.ofInt 32 (b:Int)).toNat:Nat):Int)=_
 rw[BitVec.toNat_and,Dv a ha,Dv b hb,Ec];omega
theorem VS.ior (a b:Int):VS (ior .u32 a b):=VS.wrap _
theorem VS.iand (a b:Int):VS (iand .u32 a b):=VS.wrap _
theorem VS.iandNot (a b:Int):VS (iandNot .u32 a b):=VS.wrap _
theorem VS.ishl (a b:Int):VS (ishl .u32 a b):=VS.wrap _
theorem CV {a b:Int}(ha:VS a)(hb:VS b)(v:Nat):has (ior .u32 a b) v=(has a v||has b v):=by
 obtain⟨m,rfl,hm⟩:=ha.nat;obtain⟨n,rfl,hn⟩:=hb.nat
 rw[ior_nat hm hn];simp only[CG,Nat.testBit_or]
theorem Ch {a b:Int}(ha:VS a)(hb:VS b)(v:Nat):has (iand .u32 a b) v=(has a v&&has b v):=by
 obtain⟨m,rfl,hm⟩:=ha.nat;obtain⟨n,rfl,hn⟩:=hb.nat
 rw[EO hm hn];simp only[CG,Nat.testBit_and]
theorem Bl {a b:Int}(ha:VS a)(hb:VS b)(v:Nat):has (iandNot .u32 a b) v=(has a v&& !has b v):=by
 obtain⟨m,rfl,hm⟩:=ha.nat;obtain⟨n,rfl,hn⟩:=hb.nat
 have e:iandNot .u32 (m:Int) (n:Int)=(((BitVec.ofInt 32 (m:Int)&&& ~~~(BitVec.ofInt 32 (n:Int))).toNat:Nat):Int):=by
  have hw:=(BitVec.ofInt 32 (m:Int)&&& ~~~(BitVec.ofInt 32 (n:Int))).isLt
  show IntKind.u32.wrap (((BitVec.ofInt 32 (m:Int)&&& ~~~(BitVec.ofInt 32 (n:Int))).toNat:Nat):Int)=_
  rw[Ec];omega
 rw[e,CG,CG,CG]
 have h1:∀i,(BitVec.ofInt 32 (m:Int)).getLsbD i=m.testBit i:=λi=>by rw[BitVec.getLsbD,Dv m hm]
 have h2:∀i,(BitVec.ofInt 32 (n:Int)).getLsbD i=n.testBit i:=λi=>by rw[BitVec.getLsbD,Dv n hn]
 rw[←BitVec.getLsbD,BitVec.getLsbD_and,BitVec.getLsbD_not,h1,h2]
 by_cases hv:v<32
 ·simp[hv]
 ·have:m.testBit v=false:=Nat.testBit_lt_two_pow (Nat.lt_of_lt_of_le hm (Nat.pow_le_pow_right (n:=2) (by omega) (show 32≤v by omega)))
  simp[this]
theorem D4 {a:Int}(ha:VS a){v:Nat}(hv:32≤v):has a v=false:=by
 obtain⟨m,rfl,hm⟩:=ha.nat
 rw[CG]
 exact Nat.testBit_lt_two_pow (Nat.lt_of_lt_of_le hm (Nat.pow_le_pow_right (n:=2) (by omega) hv))
theorem VS.ext {a b:Int}(ha:VS a)(hb:VS b)(h:∀v,v<32→has a v=has b v):a=b:=by
 have:∀v,has a v=has b v:=λv=>by
  by_cases hv:v<32
  ·exact h v hv
  ·rw[D4 ha (by omega),D4 hb (by omega)]
 obtain⟨m,rfl,hm⟩:=ha.nat;obtain⟨n,rfl,hn⟩:=hb.nat
 congr 1
 apply Nat.eq_of_testBit_eq
 intro v
 have:=this v
 rwa [CG,CG] at this
theorem VS.eq_zero {a:Int}(ha:VS a):a=0↔∀v,v<32→has a v=false:=
 ⟨λh v _=>by rw[h,Ci],λh=>ha.ext VS.zero (λv hv=>by rw[h v hv,Ci])⟩
theorem one_eq {v:Nat}(hv:v<32):ishl .u32 1 (v:Int)=((2^v:Nat):Int):=by
 have h:(2:Nat)^v<2^32:=Nat.pow_lt_pow_right (by omega) hv
 have h':(2:Nat)^32=4294967296:=by decide
 rw[h'] at h
 show IntKind.u32.wrap (1*2^(min ((v:Int)).toNat 32))=_
 rw[Ec,show min ((v:Int)).toNat 32=v by simp;omega,Int.one_mul]
 have e:((2^v:Nat):Int)=(2:Int)^v:=by simp
 rw[←e]
 generalize 2^v=p at h ⊢
 omega
theorem B3 {v:Nat}(hv:v<32)(u:Nat):has (ishl .u32 1 (v:Int)) u=decide (u=v):=by
 rw[one_eq hv,CG,Nat.testBit_two_pow]
 simp[eq_comm]
theorem shr_eq (s:Int)(v:Nat)(h:VS s)(hv:v<32):Cp .u32 s (v:Int)=((s.toNat>>>v:Nat):Int):=by
 obtain⟨m,rfl,hm⟩:=h.nat
 show Int.fdiv (m:Int) (2^(min ((v:Int)).toNat 32))=_
 rw[show min ((v:Int)).toNat 32=v by simp;omega]
 have e:((2^v:Nat):Int)=(2:Int)^v:=by simp
 rw[←e,Int.fdiv_eq_ediv_of_nonneg _ (Int.natCast_nonneg _),Nat.shiftRight_eq_div_pow]
 simp
def Ap (s:Int):LI:=((List.range 32).filter (has s)).map Int.ofNat
theorem mem_elems {s:Int}{x:Int}:x∈Ap s↔∃v:Nat,v<32∧has s v=true∧x=v:=by
 unfold Ap
 rw[List.mem_map]
 constructor
 ·rintro⟨v,hv,rfl⟩
  rw[List.mem_filter,List.mem_range] at hv
  exact⟨v,hv.1,hv.2,rfl⟩
 ·rintro⟨v,h1,h2,rfl⟩
  exact⟨v,List.mem_filter.2 ⟨List.mem_range.2 h1,h2⟩,rfl⟩
theorem AS {s:Int}(h:VS s){v:Nat}:(v:Int)∈Ap s↔has s v=true:=by
 rw[mem_elems]
 constructor
 ·rintro⟨u,_,h2,h3⟩;obtain rfl:v=u:=by omega
  exact h2
 ·intro h2
  refine⟨v,?_,h2,rfl⟩
  by_cases hv:v<32
  ·exact hv
  ·rw[D4 h (by omega)] at h2;cases h2
theorem BO (s:Int):(Ap s).length≤32:=by
 unfold Ap
 rw[List.length_map]
 exact Nat.le_trans (List.length_filter_le _ _) (by simp)
def Inc (l:LI):Prop:=l.Pairwise (·<·)
theorem BD (s:Int):Inc (Ap s):=by
 unfold Ap Inc
 rw[List.pairwise_map]
 refine List.Pairwise.filter _ ?_
 refine List.Pairwise.imp ?_ (List.pairwise_lt_range (n:=32))
 intro a b h
 show (a:Int)<(b:Int)
 omega
theorem Inc.ext :∀{l l':LI},Inc l→Inc l'→(∀x,x∈l↔x∈l')→l=l'
 |[],[],_,_,_=>rfl
 |[],y::l',_,_,h=>by have:=(h y).2 (by simp);simp at this
 |x::l,[],_,_,h=>by have:=(h x).1 (by simp);simp at this
 |x::l,y::l',h1,h2,h=>by
  have h1':=List.pairwise_cons.1 h1;have h2':=List.pairwise_cons.1 h2
  have e:x=y:=by
   rcases List.mem_cons.1 ((h x).1 (by simp)) with e|e
   ·exact e
   ·rcases List.mem_cons.1 ((h y).2 (by simp)) with e'|e'
    ·exact e'.symm
    ·have:=h2'.1 x e;have:=h1'.1 y e';omega
  subst e
  have:l=l':=by
   refine Inc.ext h1'.2 h2'.2 (λz=> ?_)
   constructor
   ·intro hz
    rcases List.mem_cons.1 ((h z).1 (List.mem_cons_of_mem _ hz)) with e|e
    ·have:=h1'.1 z hz;omega
    ·exact e
   ·intro hz
    rcases List.mem_cons.1 ((h z).2 (List.mem_cons_of_mem _ hz)) with e|e
    ·have:=h2'.1 z hz;omega
    ·exact e
  rw[this]
theorem least_spec {s:Int}(h:VS s)(h0:s≠0):∃k:Nat,k<32∧has s k=true∧(∀v,v<k→has s v=false)∧
  iand .u32 s (IntKind.u32.wrap (0-s))=((2^k:Nat):Int)∧(∀v,has (iand .u32 s (IntKind.u32.wrap (s-1))) v=(has s v&& !decide (v=k))):=by
 obtain⟨m,rfl,hm⟩:=h.nat
 have hm0:m≠0:=by omega
 obtain⟨q,hq,hk⟩:=Lib.ctzFrom_spec 32 m (by omega) hm
 have hc:Lib.ctz 32 m=Lib.ctzFrom 32 m:=by unfold Lib.ctz;rw[if_neg hm0]
 obtain⟨hl,_⟩:=Lib.lowest_bit 32 m hm0 hm
 rw[hc] at hl
 generalize Lib.ctzFrom 32 m=k at*
 have hpos:0<2^k:=Nat.pow_pos (by omega)
 have hb:∀v,m.testBit v=(decide (v≥k)&&(2*q+1).testBit (v-k)):=λv=>by rw[hq,Nat.mul_comm,Nat.testBit_mul_two_pow,Bool.and_comm]
 refine⟨k,hk,?_,λv hv=> ?_,?_,λv=> ?_⟩
 ·rw[CG,hb];simp
 ·rw[CG,hb];simp;intro hc;omega
 ·have e:IntKind.u32.wrap (0-(m:Int))=((4294967296-m:Nat):Int):=by rw[Ec];omega
  rw[e,EO hm (by omega)]
  rw[←hl]
 ·have e:IntKind.u32.wrap ((m:Int)-1)=((m-1:Nat):Int):=by rw[Ec];omega
  rw[e,EO hm (by omega),CG,CG,Nat.testBit_and]
  have hm1:m-1=2^k*(2*q)+(2^k-1):=by rw[hq,Nat.mul_add];omega
  have hb1:(m-1).testBit v=if v<k then true else(2*q).testBit (v-k):=by
   rw[hm1,Nat.testBit_two_pow_mul_add _ (by omega)]
   split
   ·rename_i hv;rw[Nat.testBit_two_pow_sub_one];simp[hv]
   ·rfl
  rw[hb1,hb]
  by_cases hv:v<k
  ·simp[hv];intro hc;omega
  ·rw[if_neg hv]
   by_cases hvk:v=k
   ·subst hvk;simp
   ·obtain⟨t,ht⟩:∃t,v-k=t+1:=⟨v-k-1,by omega⟩
    rw[ht,Nat.testBit_succ,Nat.testBit_succ]
    have e1:(2*q+1)/2=q:=by omega
    have e2:2*q/2=q:=by omega
    rw[e1,e2]
    simp[hvk]
theorem elems_least {s t:Int}{k:Nat}(hk:k<32)(h1:has s k=true)(h2:∀v,v<k→has s v=false)(h3:∀v,has t v=(has s v&& !decide (v=k))):
  Ap s=(k:Int)::Ap t:=by
 refine Inc.ext (BD s) ?_ (λx=> ?_)
 ·refine List.pairwise_cons.2 ⟨λx hx=> ?_,BD t⟩
  obtain⟨v,hv,h4,rfl⟩:=mem_elems.1 hx
  rw[h3] at h4
  simp at h4
  by_cases hc:v<k
  ·rw[h2 v hc] at h4;simp at h4
  ·omega
 ·rw[List.mem_cons,mem_elems,mem_elems]
  constructor
  ·rintro⟨v,hv,h4,rfl⟩
   by_cases e:v=k
   ·left;omega
   ·right;exact⟨v,hv,by rw[h3,h4];simp[e],rfl⟩
  ·rintro(rfl|⟨v,hv,h4,rfl⟩)
   ·exact⟨k,hk,h1,rfl⟩
   ·rw[h3] at h4;simp at h4
    exact⟨v,hv,h4.1,rfl⟩
theorem Dx :Ap 0=[]:=by
 unfold Ap
 rw[List.filter_eq_nil_iff.2 (λv _=>by simp[Ci])];rfl
theorem tz_table :∀k:Nat,k<32→idx tab32 (Cp .u32 (IntKind.u32.wrap (((2^k:Nat):Int)*125613361)) 27)=some (k:Int):=by decide+kernel
abbrev ArM :=List ((Int×Int)×Int)
abbrev ArL :=List (Int×Int)
end Go.Sx

namespace Go.Sx
end Go.Sx

namespace Go.Sx
open Go
section
variable {P : Program} {ρ : Operand → Value} {w : World} {d : Option Tmp} {t : TypeId} {pos : String} {af : Array Edge} {gd : Option (Nat × Bool)}
end
end Go.Sx

namespace Go.Sx
end Go.Sx

namespace Go.Sx
end Go.Sx

namespace Go.Sx
open Go
def ai (x:Nat→Int)(j:Int):Option Int:=if 0≤j∧j<16 then some (x j.toNat) else none
section
variable {P : Program} {ρ : Operand → Value} {w : World} {d : Option Tmp} {t : TypeId} {pos : String} {af : Array Edge} {gd : Option (Nat × Bool)}
end
section
variable {P : Program} {ops : Array Oper} {rest : List Oper} {n r : Be} {x : List (Nat × Be)} {a : Act} {w : World} {N : Nat} {L : Bw}
variable {d : Nat} {t : TypeId} {pos : String} {af : Array Edge}
end
section
variable {P : Program} {ops : Array Oper} {nn r : Be} {x : List (Nat × Be)} {T : Act → World → Prop} {W : World} {G : GH} {E H : List Itm} {N : Nat} {L : Bw} {a : Act} {fuel : Nat} {listed listed' : Array Bool}
variable {t : TypeId} {pos : String} {af : Array Edge} {gd : Option (Nat × Bool)} {d i : Nat}
end
end Go.Sx

namespace Go.Sx
end Go.Sx

namespace Go.Sx
open IntKind
noncomputable section
def D.h1 (i:LL)(d:Int)(j:LI):Option LI:=
 (As (σ:=LI×Int) (ρ:=LI) (fun(k,l)=>(D.a i).bind λp=>cond (decide (l<p)) ((AN k ([(-1)]:LI)).bind λq=>some (.inl (q,(i64.wrap (l+1))))) (some (.inr k))) (([]:LI),0)).bind λg=>(D.c j d).bind λr=>cond (!r) (some g) ((idx g d).bind λah=>(As (σ:=LI×LI×Int) (ρ:=LI) (fun(m,h,e)=>cond (decide (e<(h.length:Int))) ((idx h e).bind λt=>(idx i t).bind λc=>(As (σ:=LI×LI×Int) (ρ:=(LI×LI)) (fun(b,f,a)=>cond (decide (a<(c.length:Int))) ((idx c a).bind λv=>(idx b v).bind λw=>(cond (decide (w<0)) ((idx c a).bind λx=>(D.c j x).bind λy=>some y) (some false)).bind λz=>cond z ((idx c a).bind λn=>(idx f e).bind λaa=>(idx b aa).bind λab=>(idx b n).bind λai=>(idx c a).bind λac=>(AN f ([ac]:LI)).bind λad=>some (.inl ((b.set (Int.toNat n) (i64.wrap (ab+1))),ad,(i64.wrap (a+1))))) (some (.inl (b,f,(i64.wrap (a+1)))))) (some (.inr (b,f)))) (m,h,0)).bind fun(ae,af)=>some (.inl (ae,af,(i64.wrap (e+1))))) (some (.inr m))) ((g.set (Int.toNat d) 0),([d]:LI),0)).bind λag=>some ag)
def D.s (d:LL)(e:Int)(f:LI):Option LI:=
 (D.h1 d e f).bind λc=>(As (σ:=LI×Int) (ρ:=LI) (fun(b,a)=>cond (decide (a<(c.length:Int))) ((idx c a).bind λh=>cond (decide ((0:Int)≤h)) ((AN b ([a]:LI)).bind λi=>some (.inl (i,(i64.wrap (a+1))))) (some (.inl (b,(i64.wrap (a+1)))))) (some (.inr b))) (([]:LI),0)).bind λj=>some j
def D.F0 (f:LL)(b:LI):Option LL:=
 (As (σ:=LL×LI×Int) (ρ:=LL) (fun(c,d,a)=>cond (decide (a<(b.length:Int))) ((idx b a).bind λh=>(D.c d h).bind λi=>cond (!i) ((idx b a).bind λj=>(D.s f j b).bind λe=>(AN c ([e]:LL)).bind λk=>(AN d e).bind λl=>some (.inl (k,l,(i64.wrap (a+1))))) (some (.inl (c,d,(i64.wrap (a+1)))))) (some (.inr c))) (([]:LL),([]:LI),0)).bind λm=>some m
end
end Go.Sx

namespace Go.Sx
open IntKind
noncomputable section
def D.O1 (b:LI)(c:Int):Option (Int):=
 (As (σ:=Int) (ρ:=(Unit) ⊕ (Int)) (fun(a:Int)=>cond (decide (a<(b.length:Int))) ((idx b a).bind λd=>cond (c==d) (some (.inr (.inr a))) (some (.inl (i64.wrap (a+1))))) (some (.inr (.inl ())))) 0).bind λzz=>match zz with| .inl _=>(some (-1))| .inr z=>(some z)
def D.J1 (a:LI)(b:Int):Option (Bool):=
 (D.O1 a b).bind λc=>some (decide ((0:Int)≤c))
def D.S (a:LL):Option (Bool):=
 (D.I a).bind λb=>(cond b ((D.a a).bind λc=>some (decide (c≤8))) (some false)).bind λd=>some d
def D.H1 (g h:Int):Option LL:=
 (As (σ:=LL×Int) (ρ:=LL) (fun(a,d)=>cond (decide (d<h)) ((As (σ:=LL×Int) (ρ:=LL) (fun(e,b)=>cond (decide (b<(a.length:Int))) ((idx a b).bind λk=>((cond (decide ((0:Int)<(k.length:Int))) ((idx a b).bind λl=>(idx a b).bind λm=>(idx l (i64.wrap ((m.length:Int)-1))).bind λn=>some (i64.wrap (n+1))) (some 0):Option (Int))).bind λo=>(As (σ:=LL×Int) (ρ:=LL) (fun(f,c)=>cond (decide (c<g)) ((idx a b).bind λq=>(D.e q).bind λr=>(AN r ([c]:LI)).bind λs=>(AN f ([s]:LL)).bind λt=>some (.inl (t,(i64.wrap (c+1))))) (some (.inr f))) (e,o)).bind λu=>some (.inl (u,(i64.wrap (b+1))))) (some (.inr e))) (([]:LL),0)).bind λv=>some (.inl (v,(i64.wrap (d+1))))) (some (.inr a))) (([([]:LI)]:LL),0)).bind λw=>some w
def D.X (d:LL)(b c:LI):Option (Bool):=
 (As (σ:=Int) (ρ:=(Unit) ⊕ (Bool)) (fun(a:Int)=>cond (decide (a<(b.length:Int))) ((idx b a).bind λe=>(D.c c e).bind λf=>(cond f (some true) ((idx b a).bind λg=>(D.f0 d c g).bind λh=>some (decide ((0:Int)<h)))).bind λi=>cond i (some (.inr (.inr true))) (some (.inl (i64.wrap (a+1))))) (some (.inr (.inl ())))) 0).bind λzz=>match zz with| .inl _=>(some false)| .inr z=>(some z)
def D.N :Nat→LL→((List LL))→LL→Option LL
 |0,_,_,_=>none
 |fuel+1,e,b,a=>cond ((a.length:Int)==(b.length:Int)) (some a) ((As (σ:=Int) (ρ:=(Unit) ⊕ LL) (fun(c:Int)=>(idx b (a.length:Int)).bind λi=>cond (decide (c<(i.length:Int))) ((idx b (a.length:Int)).bind λj=>(idx j c).bind λf=>(As (σ:=Bool×Int) (ρ:=(Bool)) (fun(g,d)=>cond ((decide (d<(a.length:Int)))&&g) ((idx a d).bind λl=>(D.X e l f).bind λm=>some (.inl (m,(i64.wrap (d+1))))) (some (.inr g))) (true,0)).bind λn=>cond n ((((AN ([]:LL) a).bind λo=>(AN o ([f]:LL)).bind λp=>(D.N fuel e b p).bind λq=>some q:Option LL)).bind λh=>cond (decide ((0:Int)<(h.length:Int))) (some (.inr (.inr h))) (some (.inl (i64.wrap (c+1))))) (some (.inl (i64.wrap (c+1))))) (some (.inr (.inl ())))) 0).bind λzz=>match zz with| .inl _=>(some ([]:LL))| .inr z=>(some z))
def D.q (a:LL)(b:(List LL))(c:LL):Option LL:=D.N BL a b c
def D.b0 (a:LL):Option LL:=
 (D.S a).bind λm=>cond (!m) (some ([]:LL)) ((D.a a).bind λi=>(D.x1 a).bind λn=>(D.H1 i n).bind λj=>(As (σ:=(List LL)×Int) (ρ:=((List LL))) (fun(k,e)=>cond (decide (e<(j.length:Int))) ((As (σ:=LI×Int) (ρ:=LI) (fun(f,b)=>cond (decide (b<i)) ((idx j e).bind λq=>(D.c q b).bind λr=>cond (!r) ((AN f ([b]:LI)).bind λs=>some (.inl (s,(i64.wrap (b+1))))) (some (.inl (f,(i64.wrap (b+1)))))) (some (.inr f))) (([]:LI),0)).bind λt=>(D.F0 a t).bind λu=>(AN k ([u]:List LL)).bind λv=>some (.inl (v,(i64.wrap (e+1))))) (some (.inr k))) (([]:List LL),0)).bind λw=>(D.q a w ([]:LL)).bind λg=>(As (σ:=LL×Int) (ρ:=LL) (fun(c,d)=>cond (decide (d<(g.length:Int))) ((As (σ:=Bool×Int) (ρ:=(Bool)) (fun(l,h)=>cond (decide (h<(c.length:Int))) ((cond l (some true) ((idx c h).bind λz=>(idx g d).bind λaa=>(D.l0 z aa).bind λab=>some ab)).bind λac=>some (.inl (ac,(i64.wrap (h+1))))) (some (.inr l))) (false,0)).bind λad=>cond (!ad) ((idx g d).bind λae=>(D.e ae).bind λaf=>(AN c ([af]:LL)).bind λag=>some (.inl (ag,(i64.wrap (d+1))))) (some (.inl (c,(i64.wrap (d+1)))))) (some (.inr c))) (([]:LL),0)).bind λah=>some ah)
def D.D1 (e:LI)(b c:Int):Option (Bool):=
 cond ((iand .u32 b c) !=0) (some true) ((D.i b).bind λd=>(As (σ:=Int) (ρ:=(Unit) ⊕ (Bool)) (fun(a:Int)=>cond (decide (a<(d.length:Int))) ((idx d a).bind λf=>(idx e f).bind λg=>cond ((iand .u32 g c) !=0) (some (.inr (.inr true))) (some (.inl (i64.wrap (a+1))))) (some (.inr (.inl ())))) 0).bind λzz=>match zz with| .inl _=>(some false)| .inr z=>(some z))
def D.P (a:LL):Option (Bool):=
 (D.y0 a).bind λb=>some (b&&(decide ((a.length:Int)≤8)))
def D.i2 (b:Int)(c:LL)(a:LI):Option (Bool×LL):=
 (D.n a).bind λd=>(D.C a (iandNot .u32 d b)).bind λe=>(AN c ([e]:LL)).bind λf=>some (false,f)
def D.A0 (a:Int)(b:LI)(c:Int):Option (Bool):=
 (D.D1 b c a).bind λd=>some (!d)
def D.P1 (b c:LI)(d:Int):Option (Int):=
 (As (σ:=Int) (ρ:=(Unit) ⊕ (Int)) (fun(a:Int)=>cond (decide (a<(b.length:Int))) ((idx b a).bind λe=>(D.A0 e c d).bind λf=>cond f (some (.inr (.inr a))) (some (.inl (i64.wrap (a+1))))) (some (.inr (.inl ())))) 0).bind λzz=>match zz with| .inl _=>(some (-1))| .inr z=>(some z)
def D.J0 (a b:LI)(c:Int):Option (Bool):=
 (D.P1 a b c).bind λd=>some (decide ((0:Int)≤d))
def D.M :Nat→LI→LL→LI→Option LI
 |0,_,_,_=>none
 |fuel+1,d,c,a=>cond ((a.length:Int)==(c.length:Int)) ((nonE a).bind λ_=>some a) ((idx c (a.length:Int)).bind λe=>(As (σ:=Int) (ρ:=(Unit) ⊕ LI) (fun(b:Int)=>cond (decide (b<(e.length:Int))) ((idx e b).bind λf=>(D.J0 a d f).bind λh=>cond h (some (.inl (i64.wrap (b+1)))) ((((D.L a).bind λi=>(AN i ([f]:LI)).bind λj=>(D.M fuel d c j).bind λk=>some k:Option LI)).bind λg=>cond (!g.isEmpty) (some (.inr (.inr g))) (some (.inl (i64.wrap (b+1)))))) (some (.inr (.inl ())))) 0).bind λzz=>match zz with| .inl _=>(some ([]:LI))| .inr z=>(some z))
def D.g (a:LI)(b:LL)(c:LI):Option LI:=D.M BL a b c
end
end Go.Sx

namespace Go.Sx
open IntKind
noncomputable section
def D.v2 (F:LI)(c:Int)(s:LL):Option (Bool×LL):=D.i2 c s F
def D.d2 (l:LI)(s:LI×Int):Option ((LI×Int) ⊕ LI):=
 cond (decide (s.2<(l.length:Int))) ((idx l s.2).bind λx=>(D.J1 s.1 x).bind λb=>cond (!b) ((AN s.1 [x]).bind λo=>some (.inl (o,i64.wrap (s.2+1)))) (some (.inl (s.1,i64.wrap (s.2+1))))) (some (.inr s.1))
def D.u (g:LL):Option LL:=
 (D.P g).bind λb=>cond (!b) (some []) ((D.i0 g).bind λF=>(D.l BL F 0).bind λw=>(D.a0 (D.v2 F) BL (F.length:Int) 0 w 0 []).bind λr=>(D.g F r.2 []).bind λl=>(As (D.d2 l) ([],0)).bind λo=>(D.m0 o).bind λz=>some z)
end
end Go.Sx

namespace Go.Sx
def growD {α:Type}(n:Int):Option (List α):=if 0≤n∧n≤4294967296 then some [] else none
section
variable {P : Program} {ops : Array Oper} {rest : List Oper} {n r : Be} {x : List (Nat × Be)} {a : Act} {w w' W : World} {G : GH} {H : List Itm} {N : Nat} {L : Bw}
variable {d : Nat} {t : TypeId} {pos : String} {af : Array Edge}
theorem r_cap {ρ:Operand→Value}{x:Operand}{u e:TypeId}{a:Option Addr}{n c:Nat}{dd:Option Tmp}{gd:Option (Nat×Bool)}(hx:ρ x= .slice a n c)(hu:P.underlying u=some (.slice e)):
  (execOp ρ ⟨dd,.call {callee:= .builtin .cap,args:= #[x],argTypes:= #[u]},t,pos,af,gd⟩).run P w= .ok (.value (.int .i64 c)) w:=by
 simp[execOp,resolve,invoke,builtin,Builtin.cap_,run_underlying hu,hx,goInt]
theorem r_slice_none {ρ:Operand→Value}{u e sz bytes:Nat}{z:Value}{xo o2:Operand}{k2:IntKind}{dd:Option Tmp}{gd:Option (Nat×Bool)}(hu:SlT P u e sz bytes z)
  (hx:ρ xo= .slice none 0 0) (h2:ρ o2= .int k2 0):
  (execOp ρ ⟨dd,.slice u xo none (some o2) none,t,pos,af,gd⟩).run P w= .ok (.value (.slice none 0 0)) w:=by
 have:=D8 (P:=P) (w:=w) (t:=t) (pos:=pos) (af:=af) (dd:=dd) (gd:=gd) (lo:=none) (hi:=some o2) (i:=0) (j:=0) hu hx (.inl ⟨rfl,rfl⟩) (.inr ⟨o2,k2,rfl,h2⟩) (by omega) (by omega) (by omega)
 rw[this];rfl
theorem b_sub0 {u:TypeId}(w:World):(binOp .sub u (.int .i64 ((0:Nat):Int)) (.int .i64 ((0:Nat):Int))).run P w= .ok (.int .i64 0) w:=by
 rw[Bh];rfl
theorem b_subn {u:TypeId}{j:Int}(h0:0≤j)(h1:j≤4294967296)(w:World):(binOp .sub u (.int .i64 j) (.int .i64 0)).run P w= .ok (.int .i64 j) w:=by
 rw[Bh]
 have:IntKind.i64.wrap (j-0)=j:=by rw[IntKind.wrap_i64];omega
 rw[this]
theorem l_zeros {tt u ut bytes : Nat} {z : Value} {kq kn : IntKind} {j : Int} {s xo : Operand} (m : Mem W G w H) (hu : SlT P u tt 1 bytes z) (hut : P.underlying ut = some (.int kn)) (hzc : z.cells.size = 1) (hb : bytes ≤ 32768)
    (f : Fr a N L) (hN : Nat.blt d N = true) (hs : AX L s = some (.slice none 0 0)) (hx : AX L xo = some (.int kq j)) (h0 : 0 < j) (h1 : j ≤ 4294967296)
    (k : ∀ b c w' a', Mem W G w' (.row (.slice (some ⟨b, 0, none⟩) 0 c) tt 1 0 [] :: H) → Fr a' N ((d, .slice (some ⟨b, 0, none⟩) j.toNat c) :: L) → wpList P ops (Qk n x r) rest a' w') :
    wpList P ops (Qk n x r) (⟨some d, .call { callee := .builtin .append, args := #[s, xo], argTypes := #[u, ut] }, t, pos, af, none⟩ :: rest) a w := by
  obtain ⟨ti, hi1, hi2, hi3, hi4⟩ := hu.info
  obtain ⟨q, rfl⟩ : ∃ q : Nat, j = q := ⟨j.toNat, by omega⟩
  have hq : q * ti.bytes ≤ 281474976710656 := by
    rw [hi3]
    have : q * bytes ≤ 4294967296 * 32768 := Nat.mul_le_mul (by omega) hb
    omega
  have hr := Lib.run_append_nil_zeros (P := P) w u ut t tt ti z kq kn hu.und hut hi1 hi4 q (by omega) (by omega) (by omega) hq
  have hr2 : (execOp a.eval ⟨some d, .call { callee := .builtin .append, args := #[s, xo], argTypes := #[u, ut] }, t, pos, af, none⟩).run P w = .ok (.value (.slice (some ⟨w.heap.size, 0, none⟩) q (grownCap w q 0 tt))) (w.drew.alloc (.cells (Builtin.zeroCells z.cells q ++ Builtin.zeroCells z.cells (grownCap w q 0 tt - q)) tt)) := by
    simp [execOp, resolve, invoke, builtin, f.eval hs, f.eval hx, hr]
  have hge := grownCap_ge w q 0 tt
  refine Bs f rfl rfl hN hr2 (fun a' f' => k w.heap.size (grownCap w q 0 tt) _ a' ?_ f')
  refine m.add rfl rfl rfl (fun y hy => (by first | exact heap_alloc_old w.drew _ y hy | exact heap_alloc_old w.drew _ hy)) ⟨rfl, .inr ⟨w.heap.size, grownCap w q 0 tt, _, rfl, Nat.zero_le _, heap_alloc_new w.drew _, Nat.zero_le _, grownCap_le_maxLen w q 0 tt (by simp only [maxLen]; omega), ?_, ?_⟩⟩ (fun y hy => ?_)
  · simp only [Array.size_append, size_zeroCells, hzc]
    omega
  · simp
  · simp [Itm.foot, Value.ownBlock] at hy; omega
end
end Go.Sx

namespace Go.Sx
open IntKind
noncomputable section
def D.b2 (a:Int):Option LI:=
 growD a
def D.W0 (a:LL):Option LI:=
 (As (σ:=Int×Int) (ρ:=(Int)) (fun(b,c)=>cond (decide (c<(a.length:Int))) ((idx a c).bind λe=>cond (decide ((i64.wrap (b+(e.length:Int)))<0)) none (some (.inl ((i64.wrap (b+(e.length:Int))),(i64.wrap (c+1)))))) (some (.inr b))) (0,0)).bind λh=>(D.b2 h).bind λi=>(As (σ:=LI×Int) (ρ:=LI) (fun(f,d)=>cond (decide (d<(a.length:Int))) ((idx a d).bind λk=>(AN f k).bind λl=>some (.inl (l,(i64.wrap (d+1))))) (some (.inr f))) (i,0)).bind λm=>some m
def D.X1 (a:LL)(d:Int):Option LI:=
 cond (decide ((16:Int)<(a.length:Int))) (some ([]:LI)) ((As (σ:=LI×Int) (ρ:=LI ⊕ LI) (fun(c,b)=>cond (decide (b<(a.length:Int))) ((idx a b).bind λf=>cond ((f.length:Int) !=d) (some (.inr (.inr ([]:LI)))) ((idx a b).bind λg=>(AN c g).bind λh=>some (.inl (h,(i64.wrap (b+1)))))) (some (.inr (.inl c)))) (([]:LI),0)).bind λzz=>match zz with| .inl i=>(some i)| .inr z=>(some z))
def D.A1 (a:LL):Option LI:=
 (D.X1 a 2).bind λb=>some b
def D.w1 (a:LL):Option (Int×LI×LL×Int×LI×LL×Bool):=
 (D.S a).bind λc=>cond (!c) (some (0,([]:LI),([]:LL),0,([]:LI),([]:LL),false)) ((D.q0 a).bind λb=>(((D.A1 b.2.1).bind λd=>(D.b0 a).bind λe=>some (d,e):Option (LI×LL))).bind fun(f,g)=>some (20,f,b.1,21,([]:LI),g,true))
def D.g1 (a:LI)(b:Int):Option (Bool):=
 some ((a.length:Int) !=b)
def D.S1 (b:LL)(c:Int):Option (Int):=
 (As (σ:=Int) (ρ:=(Unit) ⊕ (Int)) (fun(a:Int)=>cond (decide (a<(b.length:Int))) ((idx b a).bind λd=>(D.g1 d c).bind λe=>cond e (some (.inr (.inr a))) (some (.inl (i64.wrap (a+1))))) (some (.inr (.inl ())))) 0).bind λzz=>match zz with| .inl _=>(some (-1))| .inr z=>(some z)
def D.M0 (a:LL)(b:Int):Option (Bool):=
 (D.S1 a b).bind λc=>some (decide ((0:Int)≤c))
def D.A (a:LL)(b:Int):Option LI:=
 (cond (decide ((16:Int)<(a.length:Int))) (some true) ((D.M0 a b).bind λc=>some c)).bind λd=>cond d (some ([]:LI)) ((D.W0 a).bind λe=>some e)
def D.C1 (a:LL):Option LI:=
 (D.A a 2).bind λb=>some b
def D.t0 (a:LL):Option (Int×LI×LL×Int×LI×LL×Bool):=
 (D.P a).bind λc=>cond (!c) (some (0,([]:LI),([]:LL),0,([]:LI),([]:LL),false)) ((D.x0 a).bind λb=>(((D.C1 b.2.1).bind λd=>(D.u a).bind λe=>some (d,e):Option (LI×LL))).bind fun(f,g)=>some (20,f,b.1,21,([]:LI),g,true))
def D.v (a:Int)(b:LI)(c:LL)(d:Int)(e:LI)(f:LL):Option (Bool):=
 cond (a !=d) (some false) ((D.p b e).bind λg=>cond (!g) (some false) ((D.w0 c f).bind λh=>cond (!h) (some false) (some true)))
def D.r0 (f:Int)(c:LI)(d:LL)(e:Int):Option (Int×LI×LL):=
 (D.o c e).bind λa=>(D.C0 d a.1).bind λb=>some (b.1,a.2,b.2)
def D.E (f:Int)(c:LI)(d:LL)(e:Int):Option (Int):=
 (D.t c e).bind λa=>cond (decide (a<0)) (some (-1)) ((D.r1 d a).bind λb=>cond (decide (b<0)) (some (-1)) (some b))
def D.W1 (e:LL):Option (Bool):=
 (D.o1 e 1048576).bind λl=>cond (decide (l<0)) (some true) ((D.F e).bind λm=>(D.w1 m).bind λb=>(D.F e).bind λg=>(D.t0 g).bind λa=>(D.v a.1 a.2.1 a.2.2.1 b.1 b.2.1 b.2.2.1).bind λn=>(cond (!n) (some true) ((D.v a.2.2.2.1 a.2.2.2.2.1 a.2.2.2.2.2.1 b.2.2.2.1 b.2.2.2.2.1 b.2.2.2.2.2.1).bind λo=>some (!o))).bind λp=>cond (p||(a.2.2.2.2.2.2 !=b.2.2.2.2.2.2)) (some false) ((D.F e).bind λq=>(D.p1 g q).bind λr=>cond (!r) (some false) ((D.M1 g 1).bind λs=>(cond (decide (s.1<0)) (some true) ((D.v a.1 a.2.1 a.2.2.1 b.1 b.2.1 b.2.2.1).bind λt=>some (!t))).bind λu=>(cond u (some true) ((D.v a.2.2.2.1 a.2.2.2.2.1 a.2.2.2.2.2.1 b.2.2.2.1 b.2.2.2.2.1 b.2.2.2.2.2.1).bind λv=>some (!v))).bind λw=>cond (w||(a.2.2.2.2.2.2 !=b.2.2.2.2.2.2)) (some false) ((D.r0 a.1 a.2.1 a.2.2.1 1).bind λf=>(D.r0 a.2.2.2.1 a.2.2.2.2.1 a.2.2.2.2.2.1 f.1).bind λd=>(D.E a.1 f.2.1 f.2.2 1).bind λh=>cond (decide (h<0)) (some false) ((D.E a.2.2.2.1 d.2.1 d.2.2 h).bind λi=>cond (decide (i<0)) (some false) (cond (i !=d.1) (some false) ((D.F e).bind λx=>(D.t0 x).bind λc=>(D.v c.1 c.2.1 c.2.2.1 b.1 b.2.1 b.2.2.1).bind λy=>(cond (!y) (some true) ((D.v c.2.2.2.1 c.2.2.2.2.1 c.2.2.2.2.2.1 b.2.2.2.1 b.2.2.2.2.1 b.2.2.2.2.2.1).bind λz=>some (!z))).bind λaa=>cond (aa||(c.2.2.2.2.2.2 !=b.2.2.2.2.2.2)) (some false) ((D.E a.1 f.2.1 f.2.2 1).bind λj=>cond (decide (j<0)) (some false) ((D.E a.2.2.2.1 d.2.1 d.2.2 j).bind λk=>cond (decide (k<0)) (some false) (cond (k !=d.1) (some false) (some true)))))))))))
end
end Go.Sx

namespace Go.Sx
end Go.Sx

namespace Go.Sx
end Go.Sx

namespace Go.Sx
end Go.Sx

namespace Go.Sx
end Go.Sx

namespace Go.Sx
end Go.Sx

namespace Go.Sx
end Go.Sx

namespace Go.Sx
end Go.Sx

namespace Go.Sx
end Go.Sx

namespace Go.Proofs
open Go.Shelf
def Tryz.lays125_ren :Go.Shelf.Ren:=⟨fun|125=>123|128=>150|129=>151|n=>n,fun|46=>136|3=>3|51=>73|53=>159|4=>4|5=>5|9=>9|n=>n,fun|n=>n⟩
theorem Tryz.lays125 :Go.Proofs.Lays.n125 Tryz.prog Tryz.lays125_ren:={
 mixed:=by kernel_rfl
 f125:=Tryz.func123.trans (congrArg some (by kernel_rfl))
 f128:=Tryz.func150.trans (congrArg some (by kernel_rfl))
 f129:=Tryz.func151.trans (congrArg some (by kernel_rfl))
 t3:=Tryz.underlying3
 a3:=Tryz.isAgg3
 z3:=Tryz.sizeOf3
 v3:=Tryz.zeroValue3
 t4:=Tryz.underlying4
 a4:=Tryz.isAgg4
 z4:=Tryz.sizeOf4
 v4:=Tryz.zeroValue4
 t5:=Tryz.underlying5
 a5:=Tryz.isAgg5
 z5:=Tryz.sizeOf5
 v5:=Tryz.zeroValue5
 t9:=Tryz.underlying9
 a9:=Tryz.isAgg9
 z9:=Tryz.sizeOf9
 v9:=Tryz.zeroValue9
 t46:=Tryz.underlying136
 a46:=Tryz.isAgg136
 z46:=Tryz.sizeOf136
 v46:=Tryz.zeroValue136
 t51:=Tryz.underlying73
 a51:=Tryz.isAgg73
 z51:=Tryz.sizeOf73
 v51:=Tryz.zeroValue73
 t53:=Tryz.underlying159
 a53:=Tryz.isAgg159
 z53:=Tryz.sizeOf159
 v53:=Tryz.zeroValue159}
theorem Tryz.bits_Len (x:Int)(w:World)(h0:0≤x)(h1:x≤18446744073709551615):
  Calls Tryz.prog 123 #[.int .u64 x] w λe w'=>e= .returned (.int .i64 (Lib.bitLen x.toNat))∧w'=w:=Any.bits_Len Tryz.lays125 x w h0 h1
end Go.Proofs
namespace Go.Proofs.YtkoehcencogjpaaGreatDoor
open Go Go.Sx
theorem Wk.d0 {W w:World}{G:GH}{H:List Itm}{x0:Int}(m:Mem W G w H){y:Int}(hd:D.d0 x0=some y):
  Calls Tryz.prog 123 #[(.int .u64 x0)] w (Res W G H (λ_ Ho v=>Ho=[]∧v=(.int .i64 y))):=by
 unfold D.d0 at hd
 split at hd
 ·rename_i h
  obtain rfl:=Option.some.inj hd
  exact(Tryz.bits_Len x0 w h.1 h.2).mono (λe w' ⟨he,hw⟩=>by subst hw;exact⟨_,he,G,[],GLe.refl G,m,rfl,rfl⟩)
 ·cases hd
end Go.Proofs.YtkoehcencogjpaaGreatDoor



namespace Go.Sx
noncomputable def DG.insertionSort {α:Type}(cmp:α→α→Option Int)(x0:(List α))(x1:Int)(x2:Int):Option (((List α))):=
 (As (σ:=(List α)×Int) (ρ:=((List α))) (fun(s_560:(List α)×Int)=>match s_560 with|(l_563,x_566)=>cond (decide (x_566<x2)) ((As (σ:=(List α)×Int) (ρ:=((List α))) (fun(s_984:(List α)×Int)=>match s_984 with|(l_987,x_990)=>(cond (decide (x1<x_990)) ((idx l_987 x_990).bind λe_1079=>(idx l_987 (IntKind.i64.wrap (x_990-1))).bind λe_1085=>(cmp e_1079 e_1085).bind λy_1091=>some (decide (y_1091<0))) (some false)).bind λb_1077=>cond b_1077 ((idx l_987 (IntKind.i64.wrap (x_990-1))).bind λe_1097=>(idx l_987 x_990).bind λe_1103=>(idx l_987 x_990).bind λe_1109=>(idx (l_987.set (Int.toNat x_990) e_1097) (IntKind.i64.wrap (x_990-1))).bind λe_1117=>some (.inl (((l_987.set (Int.toNat x_990) e_1097).set (Int.toNat (IntKind.i64.wrap (x_990-1))) e_1103),(IntKind.i64.wrap (x_990-1))))) (some (.inr l_987))) (l_563,x_566)).bind λl_1056=>some (.inl (l_1056,(IntKind.i64.wrap (x_566+1))))) (some (.inr l_563))) (x0,(IntKind.i64.wrap (x1+1)))).bind λl_844=>some l_844
noncomputable def DG.siftDown {α:Type}(cmp:α→α→Option Int)(x0:(List α))(x1:Int)(x2:Int)(x3:Int):Option (((List α))):=
 (As (σ:=(List α)×Int) (ρ:=((List α)) ⊕ (((List α)))) (fun(s_186:(List α)×Int)=>match s_186 with|(l_189,x_192)=>cond (decide (x2≤(IntKind.i64.wrap ((IntKind.i64.wrap (2*x_192))+1)))) (some (.inr (.inl l_189))) ((cond (decide ((IntKind.i64.wrap ((IntKind.i64.wrap ((IntKind.i64.wrap (2*x_192))+1))+1))<x2)) ((idx l_189 (IntKind.i64.wrap (x3+(IntKind.i64.wrap ((IntKind.i64.wrap (2*x_192))+1))))).bind λe_307=>(idx l_189 (IntKind.i64.wrap ((IntKind.i64.wrap (x3+(IntKind.i64.wrap ((IntKind.i64.wrap (2*x_192))+1))))+1))).bind λe_313=>(cmp e_307 e_313).bind λy_319=>some (decide (y_319<0))) (some false)).bind λb_305=>((cond b_305 (some (IntKind.i64.wrap ((IntKind.i64.wrap ((IntKind.i64.wrap (2*x_192))+1))+1))) (some (IntKind.i64.wrap ((IntKind.i64.wrap (2*x_192))+1))):Option (Int))).bind λx_328=>(idx l_189 (IntKind.i64.wrap (x3+x_192))).bind λe_331=>(idx l_189 (IntKind.i64.wrap (x3+x_328))).bind λe_337=>(cmp e_331 e_337).bind λy_343=>cond (!(decide (y_343<0))) (some (.inr (.inr l_189))) ((idx l_189 (IntKind.i64.wrap (x3+x_328))).bind λe_349=>(idx l_189 (IntKind.i64.wrap (x3+x_192))).bind λe_355=>(idx l_189 (IntKind.i64.wrap (x3+x_192))).bind λe_361=>(idx (l_189.set (Int.toNat (IntKind.i64.wrap (x3+x_192))) e_349) (IntKind.i64.wrap (x3+x_328))).bind λe_369=>some (.inl (((l_189.set (Int.toNat (IntKind.i64.wrap (x3+x_192))) e_349).set (Int.toNat (IntKind.i64.wrap (x3+x_328))) e_355),x_328))))) (x0,x1)).bind λzz=>match zz with| .inl l_283=>(some l_283)| .inr z=>(some z)
noncomputable def DG.heapSort {α:Type}(cmp:α→α→Option Int)(x0:(List α))(x1:Int)(x2:Int):Option (((List α))):=
 (As (σ:=(List α)×Int) (ρ:=((List α))) (fun(s_30:(List α)×Int)=>match s_30 with|(l_33,x_36)=>cond (decide ((0:Int)≤x_36)) ((DG.siftDown cmp l_33 x_36 (IntKind.i64.wrap (x2-x1)) x1).bind λy_54=>some (.inl (y_54,(IntKind.i64.wrap (x_36-1))))) (some (.inr l_33))) (x0,(IntKind.i64.wrap (Int.tdiv (IntKind.i64.wrap ((IntKind.i64.wrap (x2-x1))-1)) 2)))).bind λl_49=>(As (σ:=(List α)×Int) (ρ:=((List α))) (fun(s_144:(List α)×Int)=>match s_144 with|(l_147,x_150)=>cond (decide ((0:Int)≤x_150)) ((idx l_147 (IntKind.i64.wrap (x1+x_150))).bind λe_194=>(idx l_147 x1).bind λe_200=>(idx l_147 x1).bind λe_206=>(idx (l_147.set (Int.toNat x1) e_194) (IntKind.i64.wrap (x1+x_150))).bind λe_214=>(DG.siftDown cmp ((l_147.set (Int.toNat x1) e_194).set (Int.toNat (IntKind.i64.wrap (x1+x_150))) e_200) 0 x_150 x1).bind λy_220=>some (.inl (y_220,(IntKind.i64.wrap (x_150-1))))) (some (.inr l_147))) (l_49,(IntKind.i64.wrap ((IntKind.i64.wrap (x2-x1))-1)))).bind λl_189=>some l_189
noncomputable def DG.breakPatterns {α:Type}(cmp:α→α→Option Int)(x0:(List α))(x1:Int)(x2:Int):Option (((List α))):=
 cond (decide ((8:Int)≤(IntKind.i64.wrap (x2-x1)))) ((D.P0 (IntKind.i64.wrap (x2-x1))).bind λy_4=>(As (σ:=(List α)×Int×Int) (ρ:=((List α))) (fun(s_103:(List α)×Int×Int)=>match s_103 with|(l_106,x_109,x_110)=>cond (decide (x_109≤(IntKind.i64.wrap ((IntKind.i64.wrap (x1+(IntKind.i64.wrap ((IntKind.i64.wrap (Int.tdiv (IntKind.i64.wrap (x2-x1)) 4))*2))))+1)))) ((D.N1 x_110).bind λy_159=>((cond (decide ((IntKind.i64.wrap (x2-x1))≤(IntKind.i64.wrap (iand .u64 y_159.1 (IntKind.u64.wrap (y_4-1)))))) (some (IntKind.i64.wrap ((IntKind.i64.wrap (iand .u64 y_159.1 (IntKind.u64.wrap (y_4-1))))-(IntKind.i64.wrap (x2-x1))))) (some (IntKind.i64.wrap (iand .u64 y_159.1 (IntKind.u64.wrap (y_4-1))))):Option (Int))).bind λx_170=>(idx l_106 (IntKind.i64.wrap (x1+x_170))).bind λe_173=>(idx l_106 x_109).bind λe_179=>(idx l_106 x_109).bind λe_185=>(idx (l_106.set (Int.toNat x_109) e_173) (IntKind.i64.wrap (x1+x_170))).bind λe_193=>some (.inl (((l_106.set (Int.toNat x_109) e_173).set (Int.toNat (IntKind.i64.wrap (x1+x_170))) e_179),(IntKind.i64.wrap (x_109+1)),y_159.2))) (some (.inr l_106))) (x0,(IntKind.i64.wrap ((IntKind.i64.wrap (x1+(IntKind.i64.wrap ((IntKind.i64.wrap (Int.tdiv (IntKind.i64.wrap (x2-x1)) 4))*2))))-1)),(IntKind.u64.wrap (IntKind.i64.wrap (x2-x1))))).bind λl_154=>some l_154) (some x0)
noncomputable def DG.order2 {α:Type}(cmp:α→α→Option Int)(x0:(List α))(x1:Int)(x2:Int)(x3_0:Int):Option (Int×Int×((List α))×Int):=
 (idx x0 x2).bind λe_1=>(idx x0 x1).bind λe_7=>(cmp e_1 e_7).bind λy_13=>cond (decide (y_13<0)) (some (x2,x1,x0,(IntKind.i64.wrap (x3_0+1)))) (some (x1,x2,x0,x3_0))
noncomputable def DG.median {α:Type}(cmp:α→α→Option Int)(x0:(List α))(x1:Int)(x2:Int)(x3:Int)(x4_0:Int):Option (Int×((List α))×Int):=
 (DG.order2 cmp x0 x1 x2 x4_0).bind λy_1=>(DG.order2 cmp y_1.2.2.1 y_1.2.1 x3 y_1.2.2.2).bind λy_10=>(DG.order2 cmp y_10.2.2.1 y_1.1 y_10.1 y_10.2.2.2).bind λy_19=>some (y_19.2.1,y_19.2.2.1,y_19.2.2.2)
noncomputable def DG.medianAdjacent {α:Type}(cmp:α→α→Option Int)(x0:(List α))(x1:Int)(x2_0:Int):Option (Int×((List α))×Int):=
 (DG.median cmp x0 (IntKind.i64.wrap (x1-1)) x1 (IntKind.i64.wrap (x1+1)) x2_0).bind λy_1=>some (y_1.1,y_1.2.1,y_1.2.2)
noncomputable def DG.choosePivot {α:Type}(cmp:α→α→Option Int)(x0:(List α))(x1:Int)(x2:Int):Option (Int×Int×((List α))):=
 cond (decide ((8:Int)≤(IntKind.i64.wrap (x2-x1)))) (((cond (decide ((50:Int)≤(IntKind.i64.wrap (x2-x1)))) ((DG.medianAdjacent cmp x0 (IntKind.i64.wrap (x1+(IntKind.i64.wrap ((IntKind.i64.wrap (Int.tdiv (IntKind.i64.wrap (x2-x1)) 4))*1)))) 0).bind λy_44=>(DG.medianAdjacent cmp y_44.2.1 (IntKind.i64.wrap (x1+(IntKind.i64.wrap ((IntKind.i64.wrap (Int.tdiv (IntKind.i64.wrap (x2-x1)) 4))*2)))) y_44.2.2).bind λy_53=>(DG.medianAdjacent cmp y_53.2.1 (IntKind.i64.wrap (x1+(IntKind.i64.wrap ((IntKind.i64.wrap (Int.tdiv (IntKind.i64.wrap (x2-x1)) 4))*3)))) y_53.2.2).bind λy_62=>some (y_62.2.1,y_44.1,y_53.1,y_62.1,y_62.2.2)) (some (x0,(IntKind.i64.wrap (x1+(IntKind.i64.wrap ((IntKind.i64.wrap (Int.tdiv (IntKind.i64.wrap (x2-x1)) 4))*1)))),(IntKind.i64.wrap (x1+(IntKind.i64.wrap ((IntKind.i64.wrap (Int.tdiv (IntKind.i64.wrap (x2-x1)) 4))*2)))),(IntKind.i64.wrap (x1+(IntKind.i64.wrap ((IntKind.i64.wrap (Int.tdiv (IntKind.i64.wrap (x2-x1)) 4))*3)))),0)):Option ((List α)×Int×Int×Int×Int))).bind fun(l_35,x_38,x_39,x_40,x_41)=>(DG.median cmp l_35 x_38 x_39 x_40 x_41).bind λy_71=>cond (y_71.2.2==0) (some (y_71.1,1,y_71.2.1)) (cond (y_71.2.2==12) (some (y_71.1,2,y_71.2.1)) (some (y_71.1,0,y_71.2.1)))) (cond ((0:Int)==0) (some ((IntKind.i64.wrap (x1+(IntKind.i64.wrap ((IntKind.i64.wrap (Int.tdiv (IntKind.i64.wrap (x2-x1)) 4))*2)))),1,x0)) (cond ((0:Int)==12) (some ((IntKind.i64.wrap (x1+(IntKind.i64.wrap ((IntKind.i64.wrap (Int.tdiv (IntKind.i64.wrap (x2-x1)) 4))*2)))),2,x0)) (some ((IntKind.i64.wrap (x1+(IntKind.i64.wrap ((IntKind.i64.wrap (Int.tdiv (IntKind.i64.wrap (x2-x1)) 4))*2)))),0,x0))))
noncomputable def DG.reverseRange {α:Type}(cmp:α→α→Option Int)(x0:(List α))(x1:Int)(x2:Int):Option (((List α))):=
 (As (σ:=(List α)×Int×Int) (ρ:=((List α))) (fun(s_65:(List α)×Int×Int)=>match s_65 with|(l_68,x_71,x_72)=>cond (decide (x_71<x_72)) ((idx l_68 x_72).bind λe_107=>(idx l_68 x_71).bind λe_113=>(idx l_68 x_71).bind λe_119=>(idx (l_68.set (Int.toNat x_71) e_107) x_72).bind λe_127=>some (.inl (((l_68.set (Int.toNat x_71) e_107).set (Int.toNat x_72) e_113),(IntKind.i64.wrap (x_71+1)),(IntKind.i64.wrap (x_72-1))))) (some (.inr l_68))) (x0,x1,(IntKind.i64.wrap (x2-1)))).bind λl_102=>some l_102
noncomputable def DG.partialInsertionSort {α:Type}(cmp:α→α→Option Int)(x0:(List α))(x1:Int)(x2:Int):Option (Bool×((List α))):=
 (As (σ:=(List α)×Int×Int) (ρ:=((List α)) ⊕ (Bool×((List α)))) (fun(s_1625:(List α)×Int×Int)=>match s_1625 with|(l_1628,x_1631,x_1632)=>cond (decide (x_1632<5)) ((As (σ:=Int) (ρ:=(Int)) (fun(x_2530:Int)=>(cond (decide (x_2530<x2)) ((idx l_1628 x_2530).bind λe_2591=>(idx l_1628 (IntKind.i64.wrap (x_2530-1))).bind λe_2597=>(cmp e_2591 e_2597).bind λy_2603=>some (!(decide (y_2603<0)))) (some false)).bind λb_2589=>cond b_2589 (some (.inl (IntKind.i64.wrap (x_2530+1)))) (some (.inr x_2530))) x_1631).bind λx_2570=>cond (x_2570==x2) (some (.inr (.inr (true,l_1628)))) (cond (decide ((IntKind.i64.wrap (x2-x1))<50)) (some (.inr (.inr (false,l_1628)))) ((idx l_1628 (IntKind.i64.wrap (x_2570-1))).bind λe_2611=>(idx l_1628 x_2570).bind λe_2617=>(idx l_1628 x_2570).bind λe_2623=>(idx (l_1628.set (Int.toNat x_2570) e_2611) (IntKind.i64.wrap (x_2570-1))).bind λe_2631=>((cond (decide ((2:Int)≤(IntKind.i64.wrap (x_2570-x1)))) ((As (σ:=(List α)×Int) (ρ:=((List α))) (fun(s_2947:(List α)×Int)=>match s_2947 with|(l_2950,x_2953)=>cond (decide ((1:Int)≤x_2953)) ((idx l_2950 x_2953).bind λe_3006=>(idx l_2950 (IntKind.i64.wrap (x_2953-1))).bind λe_3012=>(cmp e_3006 e_3012).bind λy_3018=>cond (!(decide (y_3018<0))) (some (.inr l_2950)) ((idx l_2950 (IntKind.i64.wrap (x_2953-1))).bind λe_3024=>(idx l_2950 x_2953).bind λe_3030=>(idx l_2950 x_2953).bind λe_3036=>(idx (l_2950.set (Int.toNat x_2953) e_3024) (IntKind.i64.wrap (x_2953-1))).bind λe_3044=>some (.inl (((l_2950.set (Int.toNat x_2953) e_3024).set (Int.toNat (IntKind.i64.wrap (x_2953-1))) e_3030),(IntKind.i64.wrap (x_2953-1)))))) (some (.inr l_2950))) (((l_1628.set (Int.toNat x_2570) e_2611).set (Int.toNat (IntKind.i64.wrap (x_2570-1))) e_2617),(IntKind.i64.wrap (x_2570-1)))).bind λl_3001=>some l_3001) (some ((l_1628.set (Int.toNat x_2570) e_2611).set (Int.toNat (IntKind.i64.wrap (x_2570-1))) e_2617)):Option ((List α)))).bind λl_2843=>cond (decide ((2:Int)≤(IntKind.i64.wrap (x2-x_2570)))) ((As (σ:=(List α)×Int) (ρ:=((List α))) (fun(s_3150:(List α)×Int)=>match s_3150 with|(l_3153,x_3156)=>cond (decide (x_3156<x2)) ((idx l_3153 x_3156).bind λe_3209=>(idx l_3153 (IntKind.i64.wrap (x_3156-1))).bind λe_3215=>(cmp e_3209 e_3215).bind λy_3221=>cond (!(decide (y_3221<0))) (some (.inr l_3153)) ((idx l_3153 (IntKind.i64.wrap (x_3156-1))).bind λe_3227=>(idx l_3153 x_3156).bind λe_3233=>(idx l_3153 x_3156).bind λe_3239=>(idx (l_3153.set (Int.toNat x_3156) e_3227) (IntKind.i64.wrap (x_3156-1))).bind λe_3247=>some (.inl (((l_3153.set (Int.toNat x_3156) e_3227).set (Int.toNat (IntKind.i64.wrap (x_3156-1))) e_3233),(IntKind.i64.wrap (x_3156+1)))))) (some (.inr l_3153))) (l_2843,(IntKind.i64.wrap (x_2570+1)))).bind λl_3204=>some (.inl (l_3204,x_2570,(IntKind.i64.wrap (x_1632+1))))) (some (.inl (l_2843,x_2570,(IntKind.i64.wrap (x_1632+1)))))))) (some (.inr (.inl l_1628)))) (x0,(IntKind.i64.wrap (x1+1)),0)).bind λzz=>match zz with| .inl l_2442=>(some (false,l_2442))| .inr z=>(some z)
noncomputable def DG.partitionEqual {α:Type}(cmp:α→α→Option Int)(x0:(List α))(x1:Int)(x2:Int)(x3:Int):Option (Int×((List α))):=
 (idx x0 x3).bind λe_1=>(idx x0 x1).bind λe_7=>(idx x0 x1).bind λe_13=>(idx (x0.set (Int.toNat x1) e_1) x3).bind λe_21=>(As (σ:=(List α)×Int×Int) (ρ:=((List α)×Int)) (fun(s_739:(List α)×Int×Int)=>match s_739 with|(l_742,x_745,x_746)=>(As (σ:=Int) (ρ:=(Int)) (fun(x_1188:Int)=>(cond (decide (x_1188≤x_746)) ((idx l_742 x1).bind λe_1249=>(idx l_742 x_1188).bind λe_1255=>(cmp e_1249 e_1255).bind λy_1261=>some (!(decide (y_1261<0)))) (some false)).bind λb_1247=>cond b_1247 (some (.inl (IntKind.i64.wrap (x_1188+1)))) (some (.inr x_1188))) x_745).bind λx_1228=>(As (σ:=Int) (ρ:=(Int)) (fun(x_1350:Int)=>(cond (decide (x_1228≤x_1350)) ((idx l_742 x1).bind λe_1411=>(idx l_742 x_1350).bind λe_1417=>(cmp e_1411 e_1417).bind λy_1423=>some (decide (y_1423<0))) (some false)).bind λb_1409=>cond b_1409 (some (.inl (IntKind.i64.wrap (x_1350-1)))) (some (.inr x_1350))) x_746).bind λx_1390=>cond (decide (x_1390<x_1228)) (some (.inr (l_742,x_1228))) ((idx l_742 x_1390).bind λe_1430=>(idx l_742 x_1228).bind λe_1436=>(idx l_742 x_1228).bind λe_1442=>(idx (l_742.set (Int.toNat x_1228) e_1430) x_1390).bind λe_1450=>some (.inl (((l_742.set (Int.toNat x_1228) e_1430).set (Int.toNat x_1390) e_1436),(IntKind.i64.wrap (x_1228+1)),(IntKind.i64.wrap (x_1390-1)))))) (((x0.set (Int.toNat x1) e_1).set (Int.toNat x3) e_7),(IntKind.i64.wrap (x1+1)),(IntKind.i64.wrap (x2-1)))).bind fun(l_1100,x_1103)=>some (x_1103,l_1100)
noncomputable def DG.partition {α:Type}(cmp:α→α→Option Int)(x0:(List α))(x1:Int)(x2:Int)(x3:Int):Option (Int×Bool×((List α))):=
 (idx x0 x3).bind λe_1=>(idx x0 x1).bind λe_7=>(idx x0 x1).bind λe_13=>(idx (x0.set (Int.toNat x1) e_1) x3).bind λe_21=>(As (σ:=Int) (ρ:=(Int)) (fun(x_110:Int)=>(cond (decide (x_110≤(IntKind.i64.wrap (x2-1)))) ((idx ((x0.set (Int.toNat x1) e_1).set (Int.toNat x3) e_7) x_110).bind λe_171=>(idx ((x0.set (Int.toNat x1) e_1).set (Int.toNat x3) e_7) x1).bind λe_177=>(cmp e_171 e_177).bind λy_183=>some (decide (y_183<0))) (some false)).bind λb_169=>cond b_169 (some (.inl (IntKind.i64.wrap (x_110+1)))) (some (.inr x_110))) (IntKind.i64.wrap (x1+1))).bind λx_150=>(As (σ:=Int) (ρ:=(Int)) (fun(x_272:Int)=>(cond (decide (x_150≤x_272)) ((idx ((x0.set (Int.toNat x1) e_1).set (Int.toNat x3) e_7) x_272).bind λe_333=>(idx ((x0.set (Int.toNat x1) e_1).set (Int.toNat x3) e_7) x1).bind λe_339=>(cmp e_333 e_339).bind λy_345=>some (!(decide (y_345<0)))) (some false)).bind λb_331=>cond b_331 (some (.inl (IntKind.i64.wrap (x_272-1)))) (some (.inr x_272))) (IntKind.i64.wrap (x2-1))).bind λx_312=>cond (decide (x_312<x_150)) ((idx ((x0.set (Int.toNat x1) e_1).set (Int.toNat x3) e_7) x1).bind λe_352=>(idx ((x0.set (Int.toNat x1) e_1).set (Int.toNat x3) e_7) x_312).bind λe_358=>(idx ((x0.set (Int.toNat x1) e_1).set (Int.toNat x3) e_7) x_312).bind λe_364=>(idx (((x0.set (Int.toNat x1) e_1).set (Int.toNat x3) e_7).set (Int.toNat x_312) e_352) x1).bind λe_372=>some (x_312,true,((((x0.set (Int.toNat x1) e_1).set (Int.toNat x3) e_7).set (Int.toNat x_312) e_352).set (Int.toNat x1) e_358))) ((idx ((x0.set (Int.toNat x1) e_1).set (Int.toNat x3) e_7) x_312).bind λe_378=>(idx ((x0.set (Int.toNat x1) e_1).set (Int.toNat x3) e_7) x_150).bind λe_384=>(idx ((x0.set (Int.toNat x1) e_1).set (Int.toNat x3) e_7) x_150).bind λe_390=>(idx (((x0.set (Int.toNat x1) e_1).set (Int.toNat x3) e_7).set (Int.toNat x_150) e_378) x_312).bind λe_398=>(As (σ:=(List α)×Int×Int) (ρ:=((List α)×Int)) (fun(s_1116:(List α)×Int×Int)=>match s_1116 with|(l_1119,x_1122,x_1123)=>(As (σ:=Int) (ρ:=(Int)) (fun(x_1565:Int)=>(cond (decide (x_1565≤x_1123)) ((idx l_1119 x_1565).bind λe_1626=>(idx l_1119 x1).bind λe_1632=>(cmp e_1626 e_1632).bind λy_1638=>some (decide (y_1638<0))) (some false)).bind λb_1624=>cond b_1624 (some (.inl (IntKind.i64.wrap (x_1565+1)))) (some (.inr x_1565))) x_1122).bind λx_1605=>(As (σ:=Int) (ρ:=(Int)) (fun(x_1727:Int)=>(cond (decide (x_1605≤x_1727)) ((idx l_1119 x_1727).bind λe_1788=>(idx l_1119 x1).bind λe_1794=>(cmp e_1788 e_1794).bind λy_1800=>some (!(decide (y_1800<0)))) (some false)).bind λb_1786=>cond b_1786 (some (.inl (IntKind.i64.wrap (x_1727-1)))) (some (.inr x_1727))) x_1123).bind λx_1767=>cond (decide (x_1767<x_1605)) (some (.inr (l_1119,x_1767))) ((idx l_1119 x_1767).bind λe_1807=>(idx l_1119 x_1605).bind λe_1813=>(idx l_1119 x_1605).bind λe_1819=>(idx (l_1119.set (Int.toNat x_1605) e_1807) x_1767).bind λe_1827=>some (.inl (((l_1119.set (Int.toNat x_1605) e_1807).set (Int.toNat x_1767) e_1813),(IntKind.i64.wrap (x_1605+1)),(IntKind.i64.wrap (x_1767-1)))))) (((((x0.set (Int.toNat x1) e_1).set (Int.toNat x3) e_7).set (Int.toNat x_150) e_378).set (Int.toNat x_312) e_384),(IntKind.i64.wrap (x_150+1)),(IntKind.i64.wrap (x_312-1)))).bind fun(l_1477,x_1480)=>(idx l_1477 x1).bind λe_1833=>(idx l_1477 x_1480).bind λe_1839=>(idx l_1477 x_1480).bind λe_1845=>(idx (l_1477.set (Int.toNat x_1480) e_1833) x1).bind λe_1853=>some (x_1480,false,((l_1477.set (Int.toNat x_1480) e_1833).set (Int.toNat x1) e_1839)))
noncomputable def DG.pdqsortR {α:Type}(cmp:α→α→Option Int):Nat→((List α))→Int→Int→Int→Option (((List α)))
 |0,_,_,_,_=>none
 |fuel+1,x0,x1,x2,x3=>(As (σ:=(List α)×Int×Int×Int×Bool×Bool) (ρ:=(((List α)))) (fun(s_398:(List α)×Int×Int×Int×Bool×Bool)=>match s_398 with|(l_401,x_404,x_405,x_406,b_407,b_408)=>cond (decide ((IntKind.i64.wrap (x_405-x_404))≤12)) ((DG.insertionSort cmp l_401 x_404 x_405).bind λy_411=>some (.inr y_411)) (cond (x_406==0) ((DG.heapSort cmp l_401 x_404 x_405).bind λy_421=>some (.inr y_421)) (((cond (!b_407) ((DG.breakPatterns cmp l_401 x_404 x_405).bind λy_449=>some (y_449,(IntKind.i64.wrap (x_406-1)))) (some (l_401,x_406)):Option ((List α)×Int))).bind fun(l_443,x_446)=>(DG.choosePivot cmp l_443 x_404 x_405).bind λy_458=>((cond (y_458.2.1==2) ((DG.reverseRange cmp y_458.2.2 x_404 x_405).bind λy_487=>some (y_487,(IntKind.i64.wrap ((IntKind.i64.wrap (x_405-1))-(IntKind.i64.wrap (y_458.1-x_404)))),1)) (some (y_458.2.2,y_458.1,y_458.2.1)):Option ((List α)×Int×Int))).bind fun(l_480,x_483,x_484)=>((cond ((b_407&&b_408)&&(x_484==1)) ((DG.partialInsertionSort cmp l_480 x_404 x_405).bind λy_521=>cond y_521.1 (some (.inr y_521.2)) (some (.inl y_521.2))) (some (.inl l_480)):Option (((List α)) ⊕ (((List α)))))).bind λq=>match q with| .inl l_516=>((cond (decide ((0:Int)<x_404)) ((idx l_516 (IntKind.i64.wrap (x_404-1))).bind λe_550=>(idx l_516 x_483).bind λe_556=>(cmp e_550 e_556).bind λy_562=>some (!(decide (y_562<0)))) (some false)).bind λb_548=>cond b_548 ((DG.partitionEqual cmp l_516 x_404 x_405 x_483).bind λy_568=>some (.inl (y_568.2,y_568.1,x_405,x_446,b_407,b_408))) ((DG.partition cmp l_516 x_404 x_405 x_483).bind λy_577=>cond (decide ((IntKind.i64.wrap (y_577.1-x_404))<(IntKind.i64.wrap (x_405-y_577.1)))) ((DG.pdqsortR cmp fuel y_577.2.2 x_404 y_577.1 x_446).bind λy_587=>some (.inl (y_587,(IntKind.i64.wrap (y_577.1+1)),x_405,x_446,(decide ((IntKind.i64.wrap (Int.tdiv (IntKind.i64.wrap (x_405-x_404)) 8))≤(IntKind.i64.wrap (y_577.1-x_404)))),y_577.2.1))) ((DG.pdqsortR cmp fuel y_577.2.2 (IntKind.i64.wrap (y_577.1+1)) x_405 x_446).bind λy_596=>some (.inl (y_596,x_404,y_577.1,x_446,(decide ((IntKind.i64.wrap (Int.tdiv (IntKind.i64.wrap (x_405-x_404)) 8))≤(IntKind.i64.wrap (x_405-y_577.1)))),y_577.2.1)))))| .inr q=>(some (.inr q))))) (x0,x1,x2,x3,true,true)).bind λz=>some z
noncomputable def DG.pdqsort {α:Type}(cmp:α→α→Option Int)(x0:(List α))(x1:Int)(x2:Int)(x3:Int):Option (((List α))):=DG.pdqsortR cmp BL x0 x1 x2 x3
noncomputable def DG.Sort {α:Type}(cmp:α→α→Option Int)(x0:(List α)):Option (((List α))):=
 (D.d0 (IntKind.u64.wrap (x0.length:Int))).bind λy_1=>(DG.pdqsort cmp x0 0 (x0.length:Int) y_1).bind λy_8=>some y_8
end Go.Sx

namespace Go.Sx.Gs
class Srtd (α:Type) where
 dflt:α
 key:α→Int
 good:α→Prop
 cmp:α→α→Option Int
 law:∀x y,good x→good y→∃v,cmp x y=some v∧decide (v<0)=decide (key x<key y)
variable {α : Type} [Srtd α]
def el (l:List α)(i:Int):α:=l.getD i.toNat Srtd.dflt
def at' (l:List α)(i:Int):Int:=Srtd.key (el l i)
theorem By {l:List α}{i:Int}(h0:0≤i)(h1:i<l.length):idx l i=some (el l i):=by
 unfold idx el
 rw[if_pos h0]
 have:i.toNat<l.length:=by omega
 simp[this]
theorem el_set {l:List α}{i k:Int}{x:α}(h0:0≤i)(h1:i<l.length)(hk:0≤k):el (l.set i.toNat x) k=if k=i then x else el l k:=by
 unfold el
 by_cases h:k=i
 ·subst h
  have:k.toNat<l.length:=by omega
  simp[this]
 ·rw[if_neg h]
  have:i.toNat≠k.toNat:=by omega
  simp[List.getD_eq_getElem?_getD,List.getElem?_set_ne this]
def sw (l:List α)(i j:Int):List α:=(l.set i.toNat (el l j)).set j.toNat (el l i)
theorem sw_len (l:List α)(i j:Int):(sw l i j).length=l.length:=by simp[sw]
theorem BT {l:List α}{i j k:Int}(hi:0≤i)(hi':i<l.length)(hj:0≤j)(hj':j<l.length)(hk:0≤k):
  at' (sw l i j) k=if k=j then at' l i else if k=i then at' l j else at' l k:=by
 unfold sw at'
 rw[el_set hj (by simpa using hj') hk]
 split
 ·rfl
 ·rw[el_set hi hi' hk]
  split<;>rfl
omit [Srtd α] in
theorem Dh (z:α):∀(l:List α) (j:Nat),j<l.length→List.Perm (l.set j z) (z::l.eraseIdx j)
 |[],j,h=>by simp at h
 |x::l,0,_=>by simp
 |x::l,j+1,h=>by
  simp only[List.set_cons_succ,List.eraseIdx_cons_succ]
  exact((Dh z l j (by simpa using h)).cons x).trans (List.Perm.swap _ _ _)
omit [Srtd α] in
theorem perm_erase (l:List α)(j:Nat)(h:j<l.length):List.Perm l (l[j]::l.eraseIdx j):=by
 have:=Dh l[j] l j h
 rwa [List.set_getElem_self] at this
omit [Srtd α] in
theorem set_perm :∀(l:List α) (i j:Nat) (x y:α),l[i]? =some x→l[j]? =some y→List.Perm ((l.set i y).set j x) l
 |[],i,j,x,y,h,_=>by simp at h
 |z::l,0,0,x,y,h,h'=>by simp at h h';subst h;simp
 |z::l,0,j+1,x,y,h,h'=>by
  simp at h h'
  subst h
  simp only[List.set_cons_zero,List.set_cons_succ]
  obtain⟨hj,rfl⟩:=List.getElem?_eq_some_iff.1 h'
  have h1:=Dh z l j hj
  have h2:=perm_erase l j hj
  exact((h1.cons _).trans (List.Perm.swap _ _ _)).trans (h2.symm.cons z)
 |z::l,i+1,0,x,y,h,h'=>by
  simp at h h'
  subst h'
  simp only[List.set_cons_zero,List.set_cons_succ]
  obtain⟨hj,rfl⟩:=List.getElem?_eq_some_iff.1 h
  have h1:=Dh z l i hj
  have h2:=perm_erase l i hj
  exact((h1.cons _).trans (List.Perm.swap _ _ _)).trans (h2.symm.cons z)
 |z::l,i+1,j+1,x,y,h,h'=>by
  simp at h h'
  simp only[List.set_cons_succ]
  exact(set_perm l i j x y h h').cons z
theorem sw_perm {l:List α}{i j:Int}(hi:0≤i)(hi':i<l.length)(hj:0≤j)(hj':j<l.length):List.Perm (sw l i j) l:=by
 have h1:i.toNat<l.length:=by omega
 have h2:j.toNat<l.length:=by omega
 exact set_perm l i.toNat j.toNat _ _ (by simp[el,h1]) (by simp[el,h2])
structure Rg (a b:Int)(l l':List α):Prop where
 len:l'.length=l.length
 perm:List.Perm l' l
 out:∀k,0≤k→(k<a∨b≤k)→at' l' k=at' l k
 all:∀Q:Int→Prop,(∀k,a≤k→k<b→Q (at' l k))→∀k,a≤k→k<b→Q (at' l' k)
theorem Rg.refl (a b:Int)(l:List α):Rg a b l l:=⟨rfl,List.Perm.refl _,λ_ _ _=>rfl,λ_ h=>h⟩
theorem Rg.trans {a b:Int}{l l' l'':List α}(h:Rg a b l l')(h':Rg a b l' l''):Rg a b l l'':=
 ⟨h'.len.trans h.len,h'.perm.trans h.perm,λk h0 hk=>(h'.out k h0 hk).trans (h.out k h0 hk),λQ hQ=>h'.all Q (h.all Q hQ)⟩
theorem Rg.swap {a b i j:Int}{l:List α}(ha:0≤a)(hb:b≤l.length)(hi:a≤i)(hi':i<b)(hj:a≤j)(hj':j<b):Rg a b l (sw l i j):=by
 refine⟨sw_len _ _ _,sw_perm (by omega) (by omega) (by omega) (by omega),λk h0 hk=> ?_,λQ hQ k h1 h2=> ?_⟩
 ·rw[BT (by omega) (by omega) (by omega) (by omega) h0,if_neg (by omega),if_neg (by omega)]
 ·rw[BT (by omega) (by omega) (by omega) (by omega) (by omega)]
  split
  ·exact hQ i hi hi'
  ·split
   ·exact hQ j hj hj'
   ·exact hQ k h1 h2
theorem Rg.widen {a b a' b':Int}{l l':List α}(h:Rg a b l l')(ha:a'≤a)(hb:b≤b')(h0:0≤a'):Rg a' b' l l':=by
 refine⟨h.len,h.perm,λk h0 hk=>h.out k h0 (by omega),λQ hQ k h1 h2=> ?_⟩
 by_cases hk:a≤k∧k<b
 ·exact h.all Q (λk h3 h4=>hQ k (by omega) (by omega)) k hk.1 hk.2
 ·rw[h.out k (by omega) (by omega)];exact hQ k h1 h2
def Srt (l:List α)(a b:Int):Prop:=∀i j,a≤i→i<j→j<b→at' l i≤at' l j
def Good (l:List α):Prop:=∀x∈l,Srtd.good x
theorem Rg.good {a b:Int}{l l':List α}(h:Rg a b l l')(hg:Good l):Good l':=λx hx=>hg x (h.perm.mem_iff.1 hx)
theorem Good.el {l:List α}(h:Good l){i:Int}(h0:0≤i)(h1:i<l.length):Srtd.good (el l i):=by
 unfold Gs.el
 have:i.toNat<l.length:=by omega
 rw[AD this]
 exact h _ (List.getElem_mem this)
theorem C4 {l:List α}(h:Good l){i j:Int}(h0:0≤i)(h1:i<l.length)(h2:0≤j)(h3:j<l.length):∃v,Srtd.cmp (el l i) (el l j)=some v∧decide (v<0)=decide (at' l i<at' l j):=
 Srtd.law _ _ (h.el h0 h1) (h.el h2 h3)
theorem BV {l:List α}{i j:Int}{x:α}(h0:0≤i)(h1:i<l.length):idx (l.set j.toNat x) i=some (el (l.set j.toNat x) i):=By h0 (by simpa using h1)
end Go.Sx.Gs

namespace Go.Sx.Gs
variable {α : Type} [Srtd α]
theorem E5 (l0:List α)(a b:Int)(ha:0≤a)(hab:a≤b)(hb:b≤l0.length)(hlen:l0.length≤1000000)(hG:Good l0):
  ∃l',DG.insertionSort Srtd.cmp l0 a b=some l'∧Rg a b l0 l'∧Srt l' a b:=by
 unfold DG.insertionSort
 rw[w64 (show-9223372036854775808≤a+1 by omega) (by omega)]
 refine AY (λs=>Rg a b l0 s.1∧Srt s.1 a s.2∧a+1≤s.2∧s.2≤b+1) (λs=>(b-s.2).toNat) (λr=>Rg a b l0 r∧Srt r a b) ?_ ?_ ?_
 ·rintro⟨l,i⟩ ⟨hR,hS,h1,h2⟩
  dsimp only at hR hS h1 h2 ⊢
  have hll:=hR.len
  by_cases hi:i<b
  ·simp only[hi,decide_true,cond_true]
   rw[w64 (show-9223372036854775808≤i+1 by omega) (by omega)]
   refine AY (λs=>Rg a b l0 s.1∧a≤s.2∧s.2≤i∧∀p q,a≤p→p<q→q≤i→q≠s.2→at' s.1 p≤at' s.1 q) (λs=>(s.2-a).toNat) (λr=>Rg a b l0 r∧Srt r a (i+1)) ?_ ?_ ?_
   ·rintro⟨m,j⟩ ⟨hR',g1,g2,hS'⟩
    dsimp only at hR' g1 g2 hS' ⊢
    have hml:=hR'.len
    rw[w64 (show-9223372036854775808≤j-1 by omega) (by omega)]
    by_cases hj:a<j
    ·have r1:idx m j=some (el m j):=By (by omega) (by omega)
     have r2:idx m (j-1)=some (el m (j-1)):=By (by omega) (by omega)
     have r3:∀x,idx (m.set j.toNat x) (j-1)=some (el (m.set j.toNat x) (j-1)):=λx=>BV (by omega) (by omega)
     obtain⟨v,cv,hv⟩:=C4 (hR'.good hG) (i:=j) (j:=j-1) (by omega) (by omega) (by omega) (by omega)
     by_cases hlt:at' m j<at' m (j-1)
     ·refine⟨.inl (sw m j (j-1),j-1),?_,⟨hR'.trans (Rg.swap ha (by omega) (by omega) (by omega) (by omega) (by omega)),by dsimp only;omega,by dsimp only;omega,?_⟩,by dsimp only;omega⟩
      ·simp only[r1,r2,r3,hj,cv,hv,hlt,decide_true,cond_true,bs]
       rfl
      ·intro p q k1 k2 k3 k4
       dsimp only at k4 ⊢
       rw[BT (by omega) (by omega) (by omega) (by omega) (by omega),BT (by omega) (by omega) (by omega) (by omega) (by omega)]
       by_cases c1:q=j
       ·subst c1
        rw[if_neg (show¬q=q-1 by omega),if_pos rfl]
        by_cases c2:p=q-1
        ·rw[if_pos c2];omega
        ·rw[if_neg c2,if_neg (by omega)]
         exact hS' p (q-1) k1 (by omega) (by omega) (by omega)
       ·rw[if_neg (show¬q=j-1 by omega),if_neg c1]
        by_cases c2:p=j-1
        ·rw[if_pos c2]
         exact hS' j q (by omega) (by omega) k3 c1
        ·rw[if_neg c2]
         by_cases c3:p=j
         ·rw[if_pos c3]
          exact hS' (j-1) q (by omega) (by omega) k3 c1
         ·rw[if_neg c3]
          exact hS' p q k1 k2 k3 c1
     ·refine⟨.inr m,?_,hR',?_⟩
      ·simp only[r1,r2,hj,cv,hv,hlt,decide_true,decide_false,cond_true,cond_false,bs]
      ·intro p q k1 k2 k3
       by_cases c1:q=j
       ·subst c1
        by_cases c2:p=q-1
        ·subst c2;omega
        ·have:=hS' p (q-1) k1 (by omega) (by omega) (by omega)
         omega
       ·exact hS' p q k1 k2 (by omega) c1
    ·refine⟨.inr m,?_,hR',?_⟩
     ·simp only[hj,decide_false,cond_false,bs]
     ·intro p q k1 k2 k3
      exact hS' p q k1 k2 (by omega) (by omega)
   ·exact⟨hR,by dsimp only;omega,Int.le_refl _,λp q k1 k2 k3 k4=>hS p q k1 k2 (by dsimp only at k4 ⊢;omega)⟩
   ·rintro r ⟨hR',hS'⟩
    exact⟨.inl (r,i+1),rfl,⟨hR',hS',by dsimp only;omega,by dsimp only;omega⟩,by dsimp only;omega⟩
  ·refine⟨.inr l,by simp only[hi,decide_false,cond_false],hR,?_⟩
   intro p q k1 k2 k3
   exact hS p q k1 k2 (by omega)
 ·exact⟨Rg.refl _ _ _,λp q k1 k2 k3=>by dsimp only at k3;omega,by dsimp only;omega,by dsimp only;omega⟩
 ·rintro r hr
  exact⟨r,rfl,hr⟩
end Go.Sx.Gs

namespace Go.Sx.Gs
variable {α : Type} [Srtd α]
theorem FI (l0:List α)(a b:Int)(ha:0≤a)(hab:a≤b)(hb:b≤l0.length)(hlen:l0.length≤1000000):
  ∃l',DG.reverseRange Srtd.cmp l0 a b=some l'∧Rg a b l0 l':=by
 unfold DG.reverseRange
 rw[w64 (show-9223372036854775808≤b-1 by omega) (by omega)]
 refine AY (λs=>Rg a b l0 s.1∧a≤s.2.1∧s.2.1≤b∧s.2.2<b∧a-1≤s.2.2) (λs=>(s.2.2-s.2.1).toNat) (λr=>Rg a b l0 r) ?_ ?_ ?_
 ·rintro⟨l,i,j⟩ ⟨hR,h1,h2,h3,h4⟩
  dsimp only at hR h1 h2 h3 h4 ⊢
  have hll:=hR.len
  by_cases hi:i<j
  ·have r1:idx l i=some (el l i):=By (by omega) (by omega)
   have r2:idx l j=some (el l j):=By (by omega) (by omega)
   have r3:∀x,idx (l.set i.toNat x) j=some (el (l.set i.toNat x) j):=λx=>BV (by omega) (by omega)
   rw[w64 (show-9223372036854775808≤i+1 by omega) (by omega),w64 (show-9223372036854775808≤j-1 by omega) (by omega)]
   refine⟨.inl (sw l i j,i+1,j-1),?_,⟨hR.trans (Rg.swap ha (by omega) (by omega) (by omega) (by omega) (by omega)),by dsimp only;omega,by dsimp only;omega,by dsimp only;omega,by dsimp only;omega⟩,by dsimp only;omega⟩
   simp only[r1,r2,r3,hi,decide_true,cond_true,bs]
   rfl
  ·exact⟨.inr l,by simp only[hi,decide_false,cond_false],hR⟩
 ·exact⟨Rg.refl _ _ _,by dsimp only;omega,by dsimp only;omega,by dsimp only;omega,by dsimp only;omega⟩
 ·rintro r hr
  exact⟨r,rfl,hr⟩
theorem scanUp {β:Type}{k:Int→Option β}{Q:β→Prop}(l:List α)(hG:Good l)(a hi i0:Int)(ha:0≤a)(ha':a<l.length)(h0:0≤i0)(h1:i0≤hi+1)(h2:hi<l.length)(hlen:l.length≤1000000)
  (hk:∀i,i0≤i→i≤hi+1→(∀q,i0≤q→q<i→at' l q<at' l a)→(i≤hi→¬at' l i<at' l a)→∃y,k i=some y∧Q y):
  ∃y,(As (σ:=Int) (ρ:=(Int)) (fun(x:Int)=>(cond (decide (x≤hi)) ((idx l x).bind λe=>(idx l a).bind λe'=>(Srtd.cmp e e').bind λy=>some (decide (y<0))) (some false)).bind λb=>cond b (some (.inl (IntKind.i64.wrap (x+1)))) (some (.inr x))) i0).bind k=some y∧Q y:=by
 refine AY (λi=>i0≤i∧i≤hi+1∧∀q,i0≤q→q<i→at' l q<at' l a) (λi=>(hi+1-i).toNat) (λi=>i0≤i∧i≤hi+1∧(∀q,i0≤q→q<i→at' l q<at' l a)∧(i≤hi→¬at' l i<at' l a)) ?_ ?_ ?_
 ·rintro i ⟨g1,g2,g3⟩
  by_cases hi':i≤hi
  ·have r1:idx l i=some (el l i):=By (by omega) (by omega)
   have r2:idx l a=some (el l a):=By (by omega) (by omega)
   obtain⟨v,cv,hv⟩:=C4 hG (i:=i) (j:=a) (by omega) (by omega) (by omega) (by omega)
   by_cases hlt:at' l i<at' l a
   ·refine⟨.inl (i+1),?_,⟨by omega,by omega,λq q1 q2=> ?_⟩,by dsimp only;omega⟩
    ·simp only[r1,r2,hi',cv,hv,hlt,decide_true,cond_true,bs]
     rw[w64 (by omega) (by omega)]
    ·by_cases e:q=i
     ·rw[e];exact hlt
     ·exact g3 q q1 (by omega)
   ·exact⟨.inr i,by simp only[r1,r2,hi',cv,hv,hlt,decide_true,decide_false,cond_true,cond_false,bs],g1,g2,g3,λ_=>hlt⟩
  ·exact⟨.inr i,by simp only[hi',decide_false,cond_false,bs],g1,g2,g3,λh=>absurd h hi'⟩
 ·exact⟨Int.le_refl _,h1,λq q1 q2=>by omega⟩
 ·rintro i ⟨g1,g2,g3,g4⟩
  exact hk i g1 g2 g3 g4
theorem scanDown {β:Type}{k:Int→Option β}{Q:β→Prop}(l:List α)(hG:Good l)(a lo j0:Int)(ha:0≤a)(ha':a<l.length)(h0:0≤lo)(h1:lo≤j0+1)(h2:j0<l.length)(hlen:l.length≤1000000)
  (hk:∀j,lo≤j+1→j≤j0→(∀q,j<q→q≤j0→¬at' l q<at' l a)→(lo≤j→at' l j<at' l a)→∃y,k j=some y∧Q y):
  ∃y,(As (σ:=Int) (ρ:=(Int)) (fun(x:Int)=>(cond (decide (lo≤x)) ((idx l x).bind λe=>(idx l a).bind λe'=>(Srtd.cmp e e').bind λy=>some (!(decide (y<0)))) (some false)).bind λb=>cond b (some (.inl (IntKind.i64.wrap (x-1)))) (some (.inr x))) j0).bind k=some y∧Q y:=by
 refine AY (λj=>lo≤j+1∧j≤j0∧∀q,j<q→q≤j0→¬at' l q<at' l a) (λj=>(j+1-lo).toNat) (λj=>lo≤j+1∧j≤j0∧(∀q,j<q→q≤j0→¬at' l q<at' l a)∧(lo≤j→at' l j<at' l a)) ?_ ?_ ?_
 ·rintro j ⟨g1,g2,g3⟩
  by_cases hi':lo≤j
  ·have r1:idx l j=some (el l j):=By (by omega) (by omega)
   have r2:idx l a=some (el l a):=By (by omega) (by omega)
   obtain⟨v,cv,hv⟩:=C4 hG (i:=j) (j:=a) (by omega) (by omega) (by omega) (by omega)
   by_cases hlt:at' l j<at' l a
   ·exact⟨.inr j,by simp only[r1,r2,hi',cv,hv,hlt,decide_true,Bool.not_true,cond_true,cond_false,bs],g1,g2,g3,λ_=>hlt⟩
   ·refine⟨.inl (j-1),?_,⟨by omega,by omega,λq q1 q2=> ?_⟩,by dsimp only;omega⟩
    ·simp only[r1,r2,hi',cv,hv,hlt,decide_true,decide_false,Bool.not_false,cond_true,bs]
     rw[w64 (by omega) (by omega)]
    ·by_cases e:q=j
     ·rw[e];exact hlt
     ·exact g3 q (by omega) q2
  ·exact⟨.inr j,by simp only[hi',decide_false,cond_false,bs],g1,g2,g3,λh=>absurd h hi'⟩
 ·exact⟨h1,Int.le_refl _,λq q1 q2=>by omega⟩
 ·rintro j ⟨g1,g2,g3,g4⟩
  exact hk j g1 g2 g3 g4
structure Parted (l0 l':List α)(a b mid:Int):Prop where
 rg:Rg a b l0 l'
 lo:a≤mid
 hi:mid<b
 left:∀k,a≤k→k<mid→at' l' k≤at' l' mid
 right:∀k,mid<k→k<b→at' l' mid≤at' l' k
theorem partition_spec (l0:List α)(a b p:Int)(ha:0≤a)(hb:b≤l0.length)(hlen:l0.length≤1000000)(hG:Good l0)(hp:a≤p)(hp':p<b):
  ∃y,DG.partition Srtd.cmp l0 a b p=some y∧Parted l0 y.2.2 a b y.1:=by
 unfold DG.partition
 have r1:idx l0 p=some (el l0 p):=By (by omega) (by omega)
 have r2:idx l0 a=some (el l0 a):=By (by omega) (by omega)
 have r3:∀x,idx (l0.set a.toNat x) p=some (el (l0.set a.toNat x) p):=λx=>BV (by omega) (by omega)
 simp only[r1,r2,r3,bs]
 rw[show (l0.set a.toNat (el l0 p)).set p.toNat (el l0 a)=sw l0 a p from rfl]
 have hR0:Rg a b l0 (sw l0 a p):=Rg.swap ha hb (by omega) (by omega) hp hp'
 generalize sw l0 a p=m0 at hR0 ⊢
 have hm0:=hR0.len
 rw[w64 (show-9223372036854775808≤b-1 by omega) (by omega),w64 (show-9223372036854775808≤a+1 by omega) (by omega)]
 refine scanUp m0 (hR0.good hG) a (b-1) (a+1) ha (by omega) (by omega) (by omega) (by omega) (by omega) (λi i1 i2 i3 i4=> ?_)
 refine scanDown m0 (hR0.good hG) a i (b-1) ha (by omega) (by omega) (by omega) (by omega) (by omega) (λj j1 j2 j3 j4=> ?_)
 have q1:idx m0 a=some (el m0 a):=By (by omega) (by omega)
 have q2:idx m0 j=some (el m0 j):=By (by omega) (by omega)
 by_cases hij:j<i
 ·have q3:∀x,idx (m0.set j.toNat x) a=some (el (m0.set j.toNat x) a):=λx=>BV (by omega) (by omega)
  refine⟨(j,true,sw m0 j a),?_,⟨hR0.trans (Rg.swap ha (by omega) (by omega) (by omega) (by omega) (by omega)),by dsimp only;omega,by dsimp only;omega,λk k1 k2=> ?_,λk k1 k2=> ?_⟩⟩
  ·simp only[q1,q2,q3,hij,decide_true,cond_true,bs]
   rfl
  ·dsimp only at k1 k2 ⊢
   rw[BT (by omega) (by omega) (by omega) (by omega) (by omega),BT (by omega) (by omega) (by omega) (by omega) (by omega)]
   rw[if_neg (show¬j=a by omega),if_pos rfl]
   by_cases e:k=a
   ·rw[if_pos e]
    have:=i3 j (by omega) (by omega);omega
   ·rw[if_neg e,if_neg (by omega)]
    have:=i3 k (by omega) (by omega);omega
  ·dsimp only at k1 k2 ⊢
   rw[BT (by omega) (by omega) (by omega) (by omega) (by omega),BT (by omega) (by omega) (by omega) (by omega) (by omega)]
   rw[if_neg (show¬k=a by omega),if_neg (show¬k=j by omega)]
   have hk:=j3 k (by omega) (by omega)
   by_cases e:j=a
   ·rw[if_pos e];subst e;omega
   ·rw[if_neg e,if_pos rfl];omega
 ·have q4:idx m0 i=some (el m0 i):=By (by omega) (by omega)
  have q5:∀x,idx (m0.set i.toNat x) j=some (el (m0.set i.toNat x) j):=λx=>BV (by omega) (by omega)
  simp only[q1,q2,q4,q5,hij,decide_false,cond_false,bs]
  rw[show (m0.set i.toNat (el m0 j)).set j.toNat (el m0 i)=sw m0 i j from rfl]
  have hia:=i4 (by omega)
  have hja:=j4 (by omega)
  have hne:i<j:=by
   rcases Int.lt_or_eq_of_le (show i≤j by omega) with h|h
   ·exact h
   ·subst h;exact absurd hja hia
  have hR1:Rg a b l0 (sw m0 i j):=hR0.trans (Rg.swap ha (by omega) (by omega) (by omega) (by omega) (by omega))
  have ea:at' (sw m0 i j) a=at' m0 a:=by rw[BT (by omega) (by omega) (by omega) (by omega) (by omega),if_neg (by omega),if_neg (by omega)]
  have hlo:∀q,a+1≤q→q<i+1→at' (sw m0 i j) q<at' (sw m0 i j) a:=λq h1 h2=>by
   rw[ea,BT (by omega) (by omega) (by omega) (by omega) (by omega),if_neg (by omega)]
   by_cases e:q=i
   ·rw[if_pos e];exact hja
   ·rw[if_neg e];exact i3 q h1 (by omega)
  have hhi:∀q,j-1<q→q<b→¬at' (sw m0 i j) q<at' (sw m0 i j) a:=λq h1 h2=>by
   rw[ea,BT (by omega) (by omega) (by omega) (by omega) (by omega)]
   by_cases e:q=j
   ·rw[if_pos e];exact hia
   ·rw[if_neg e,if_neg (by omega)];exact j3 q (by omega) (by omega)
  rw[w64 (show-9223372036854775808≤i+1 by omega) (by omega),w64 (show-9223372036854775808≤j-1 by omega) (by omega)]
  generalize sw m0 i j=m1 at hR1 hlo hhi ⊢
  refine AY (λs=>Rg a b l0 s.1∧a+1≤s.2.1∧s.2.1≤s.2.2+1∧s.2.2<b∧(∀q,a+1≤q→q<s.2.1→at' s.1 q<at' s.1 a)∧(∀q,s.2.2<q→q<b→¬at' s.1 q<at' s.1 a)) (λs=>(s.2.2+1-s.2.1).toNat)
   (λs=>Rg a b l0 s.1∧a≤s.2∧s.2<b∧(∀q,a+1≤q→q≤s.2→at' s.1 q<at' s.1 a)∧(∀q,s.2<q→q<b→¬at' s.1 q<at' s.1 a)) ?_ ?_ ?_
  ·rintro⟨m,u,v⟩ ⟨hR,g1,g2,g3,g4,g5⟩
   dsimp only at hR g1 g2 g3 g4 g5 ⊢
   have hml:=hR.len
   refine scanUp m (hR.good hG) a v u ha (by omega) (by omega) (by omega) (by omega) (by omega) (λi i1 i2 i3 i4=> ?_)
   refine scanDown m (hR.good hG) a i v ha (by omega) (by omega) (by omega) (by omega) (by omega) (λj j1 j2 j3 j4=> ?_)
   have f1:∀q,a+1≤q→q<i→at' m q<at' m a:=λq h1 h2=>by
    by_cases h:q<u
    ·exact g4 q h1 h
    ·exact i3 q (by omega) h2
   have f2:∀q,j<q→q<b→¬at' m q<at' m a:=λq h1 h2=>by
    by_cases h:q≤v
    ·exact j3 q h1 h
    ·exact g5 q (by omega) h2
   by_cases hij:j<i
   ·exact⟨.inr (m,j),by simp only[hij,decide_true,cond_true],hR,by dsimp only;omega,by dsimp only;omega,λq h1 h2=>f1 q h1 (by dsimp only at h2;omega),f2⟩
   ·have t1:idx m i=some (el m i):=By (by omega) (by omega)
    have t2:idx m j=some (el m j):=By (by omega) (by omega)
    have t3:∀x,idx (m.set i.toNat x) j=some (el (m.set i.toNat x) j):=λx=>BV (by omega) (by omega)
    have hia:=i4 (by omega)
    have hja:=j4 (by omega)
    have hne:i<j:=by
     rcases Int.lt_or_eq_of_le (show i≤j by omega) with h|h
     ·exact h
     ·subst h;exact absurd hja hia
    have ea:at' (sw m i j) a=at' m a:=by rw[BT (by omega) (by omega) (by omega) (by omega) (by omega),if_neg (by omega),if_neg (by omega)]
    rw[w64 (show-9223372036854775808≤i+1 by omega) (by omega),w64 (show-9223372036854775808≤j-1 by omega) (by omega)]
    refine⟨.inl (sw m i j,i+1,j-1),?_,⟨hR.trans (Rg.swap ha (by omega) (by omega) (by omega) (by omega) (by omega)),by dsimp only;omega,by dsimp only;omega,by dsimp only;omega,λq h1 h2=> ?_,λq h1 h2=> ?_⟩,by dsimp only;omega⟩
    ·simp only[t1,t2,t3,hij,decide_false,cond_false,bs]
     rfl
    ·dsimp only at h2 ⊢
     rw[ea,BT (by omega) (by omega) (by omega) (by omega) (by omega),if_neg (by omega)]
     by_cases e:q=i
     ·rw[if_pos e];exact hja
     ·rw[if_neg e];exact f1 q h1 (by omega)
    ·dsimp only at h1 ⊢
     rw[ea,BT (by omega) (by omega) (by omega) (by omega) (by omega)]
     by_cases e:q=j
     ·rw[if_pos e];exact hia
     ·rw[if_neg e,if_neg (by omega)];exact f2 q (by omega) h2
  ·exact⟨hR1,by dsimp only;omega,by dsimp only;omega,by dsimp only;omega,hlo,hhi⟩
  ·rintro⟨m,v⟩ ⟨hR,g1,g2,g3,g4⟩
   dsimp only at hR g1 g2 g3 g4 ⊢
   have hml:=hR.len
   have t1:idx m a=some (el m a):=By (by omega) (by omega)
   have t2:idx m v=some (el m v):=By (by omega) (by omega)
   have t3:∀x,idx (m.set v.toNat x) a=some (el (m.set v.toNat x) a):=λx=>BV (by omega) (by omega)
   refine⟨(v,false,sw m v a),?_,⟨hR.trans (Rg.swap ha (by omega) (by omega) (by omega) (by omega) (by omega)),g1,g2,λk k1 k2=> ?_,λk k1 k2=> ?_⟩⟩
   ·simp only[t1,t2,t3,bs]
    rfl
   ·dsimp only at k1 k2 ⊢
    rw[BT (by omega) (by omega) (by omega) (by omega) (by omega),BT (by omega) (by omega) (by omega) (by omega) (by omega)]
    rw[if_neg (show¬v=a by omega),if_pos rfl]
    by_cases e:k=a
    ·rw[if_pos e]
     have:=g3 v (by omega) (by omega);omega
    ·rw[if_neg e,if_neg (by omega)]
     have:=g3 k (by omega) (by omega);omega
   ·dsimp only at k1 k2 ⊢
    rw[BT (by omega) (by omega) (by omega) (by omega) (by omega),BT (by omega) (by omega) (by omega) (by omega) (by omega)]
    rw[if_neg (show¬k=a by omega),if_neg (show¬k=v by omega)]
    have hk:=g4 k (by omega) (by omega)
    by_cases e:v=a
    ·rw[if_pos e];subst e;omega
    ·rw[if_neg e,if_pos rfl];omega
end Go.Sx.Gs

namespace Go.Sx.Gs
variable {α : Type} [Srtd α]
theorem scanUp2 {β:Type}{k:Int→Option β}{Q:β→Prop}(l:List α)(hG:Good l)(a hi i0:Int)(ha:0≤a)(ha':a<l.length)(h0:0≤i0)(h1:i0≤hi+1)(h2:hi<l.length)(hlen:l.length≤1000000)
  (hk:∀i,i0≤i→i≤hi+1→(∀q,i0≤q→q<i→¬at' l a<at' l q)→(i≤hi→at' l a<at' l i)→∃y,k i=some y∧Q y):
  ∃y,(As (σ:=Int) (ρ:=(Int)) (fun(x:Int)=>(cond (decide (x≤hi)) ((idx l a).bind λe=>(idx l x).bind λe'=>(Srtd.cmp e e').bind λy=>some (!(decide (y<0)))) (some false)).bind λb=>cond b (some (.inl (IntKind.i64.wrap (x+1)))) (some (.inr x))) i0).bind k=some y∧Q y:=by
 refine AY (λi=>i0≤i∧i≤hi+1∧∀q,i0≤q→q<i→¬at' l a<at' l q) (λi=>(hi+1-i).toNat) (λi=>i0≤i∧i≤hi+1∧(∀q,i0≤q→q<i→¬at' l a<at' l q)∧(i≤hi→at' l a<at' l i)) ?_ ?_ ?_
 ·rintro i ⟨g1,g2,g3⟩
  by_cases hi':i≤hi
  ·have r1:idx l i=some (el l i):=By (by omega) (by omega)
   have r2:idx l a=some (el l a):=By (by omega) (by omega)
   obtain⟨v,cv,hv⟩:=C4 hG (i:=a) (j:=i) (by omega) (by omega) (by omega) (by omega)
   by_cases hlt:at' l a<at' l i
   ·exact⟨.inr i,by simp only[r1,r2,hi',cv,hv,hlt,decide_true,Bool.not_true,cond_true,cond_false,bs],g1,g2,g3,λ_=>hlt⟩
   ·refine⟨.inl (i+1),?_,⟨by omega,by omega,λq q1 q2=> ?_⟩,by dsimp only;omega⟩
    ·simp only[r1,r2,hi',cv,hv,hlt,decide_true,decide_false,Bool.not_false,cond_true,bs]
     rw[w64 (by omega) (by omega)]
    ·by_cases e:q=i
     ·rw[e];exact hlt
     ·exact g3 q q1 (by omega)
  ·exact⟨.inr i,by simp only[hi',decide_false,cond_false,bs],g1,g2,g3,λh=>absurd h hi'⟩
 ·exact⟨Int.le_refl _,h1,λq q1 q2=>by omega⟩
 ·rintro i ⟨g1,g2,g3,g4⟩
  exact hk i g1 g2 g3 g4
theorem scanDown2 {β:Type}{k:Int→Option β}{Q:β→Prop}(l:List α)(hG:Good l)(a lo j0:Int)(ha:0≤a)(ha':a<l.length)(h0:0≤lo)(h1:lo≤j0+1)(h2:j0<l.length)(hlen:l.length≤1000000)
  (hk:∀j,lo≤j+1→j≤j0→(∀q,j<q→q≤j0→at' l a<at' l q)→(lo≤j→¬at' l a<at' l j)→∃y,k j=some y∧Q y):
  ∃y,(As (σ:=Int) (ρ:=(Int)) (fun(x:Int)=>(cond (decide (lo≤x)) ((idx l a).bind λe=>(idx l x).bind λe'=>(Srtd.cmp e e').bind λy=>some (decide (y<0))) (some false)).bind λb=>cond b (some (.inl (IntKind.i64.wrap (x-1)))) (some (.inr x))) j0).bind k=some y∧Q y:=by
 refine AY (λj=>lo≤j+1∧j≤j0∧∀q,j<q→q≤j0→at' l a<at' l q) (λj=>(j+1-lo).toNat) (λj=>lo≤j+1∧j≤j0∧(∀q,j<q→q≤j0→at' l a<at' l q)∧(lo≤j→¬at' l a<at' l j)) ?_ ?_ ?_
 ·rintro j ⟨g1,g2,g3⟩
  by_cases hi':lo≤j
  ·have r1:idx l j=some (el l j):=By (by omega) (by omega)
   have r2:idx l a=some (el l a):=By (by omega) (by omega)
   obtain⟨v,cv,hv⟩:=C4 hG (i:=a) (j:=j) (by omega) (by omega) (by omega) (by omega)
   by_cases hlt:at' l a<at' l j
   ·refine⟨.inl (j-1),?_,⟨by omega,by omega,λq q1 q2=> ?_⟩,by dsimp only;omega⟩
    ·simp only[r1,r2,hi',cv,hv,hlt,decide_true,cond_true,bs]
     rw[w64 (by omega) (by omega)]
    ·by_cases e:q=j
     ·rw[e];exact hlt
     ·exact g3 q (by omega) q2
   ·exact⟨.inr j,by simp only[r1,r2,hi',cv,hv,hlt,decide_true,decide_false,cond_true,cond_false,bs],g1,g2,g3,λ_=>hlt⟩
  ·exact⟨.inr j,by simp only[hi',decide_false,cond_false,bs],g1,g2,g3,λh=>absurd h hi'⟩
 ·exact⟨h1,Int.le_refl _,λq q1 q2=>by omega⟩
 ·rintro j ⟨g1,g2,g3,g4⟩
  exact hk j g1 g2 g3 g4
theorem E3 (l0:List α)(a b p:Int)(ha:0≤a)(hb:b≤l0.length)(hlen:l0.length≤1000000)(hG:Good l0)(hp:a≤p)(hp':p<b):
  ∃y,DG.partitionEqual Srtd.cmp l0 a b p=some y∧Rg a b l0 y.2∧a<y.1∧y.1≤b∧(∀k,a≤k→k<y.1→at' y.2 k≤at' l0 p)∧(∀k,y.1≤k→k<b→at' l0 p<at' y.2 k):=by
 unfold DG.partitionEqual
 have r1:idx l0 p=some (el l0 p):=By (by omega) (by omega)
 have r2:idx l0 a=some (el l0 a):=By (by omega) (by omega)
 have r3:∀x,idx (l0.set a.toNat x) p=some (el (l0.set a.toNat x) p):=λx=>BV (by omega) (by omega)
 simp only[r1,r2,r3,bs]
 rw[show (l0.set a.toNat (el l0 p)).set p.toNat (el l0 a)=sw l0 a p from rfl]
 have hR0:Rg a b l0 (sw l0 a p):=Rg.swap ha hb (by omega) (by omega) hp hp'
 have ep:at' (sw l0 a p) a=at' l0 p:=by
  rw[BT (by omega) (by omega) (by omega) (by omega) (by omega)]
  by_cases e:a=p
  ·rw[if_pos e,e]
  ·rw[if_neg e,if_pos rfl]
 generalize sw l0 a p=m0 at hR0 ep ⊢
 rw[w64 (show-9223372036854775808≤b-1 by omega) (by omega),w64 (show-9223372036854775808≤a+1 by omega) (by omega)]
 refine AY (λs=>Rg a b l0 s.1∧a+1≤s.2.1∧s.2.1≤s.2.2+1∧s.2.2<b∧at' s.1 a=at' l0 p∧(∀q,a+1≤q→q<s.2.1→¬at' s.1 a<at' s.1 q)∧(∀q,s.2.2<q→q<b→at' s.1 a<at' s.1 q)) (λs=>(s.2.2+1-s.2.1).toNat)
  (λs=>Rg a b l0 s.1∧a+1≤s.2∧s.2≤b∧at' s.1 a=at' l0 p∧(∀q,a+1≤q→q<s.2→¬at' s.1 a<at' s.1 q)∧(∀q,s.2≤q→q<b→at' s.1 a<at' s.1 q)) ?_ ?_ ?_
 ·rintro⟨m,u,v⟩ ⟨hR,g1,g2,g3,g6,g4,g5⟩
  dsimp only at hR g1 g2 g3 g4 g5 g6 ⊢
  have hml:=hR.len
  refine scanUp2 m (hR.good hG) a v u ha (by omega) (by omega) (by omega) (by omega) (by omega) (λi i1 i2 i3 i4=> ?_)
  refine scanDown2 m (hR.good hG) a i v ha (by omega) (by omega) (by omega) (by omega) (by omega) (λj j1 j2 j3 j4=> ?_)
  have f1:∀q,a+1≤q→q<i→¬at' m a<at' m q:=λq h1 h2=>by
   by_cases h:q<u
   ·exact g4 q h1 h
   ·exact i3 q (by omega) h2
  have f2:∀q,j<q→q<b→at' m a<at' m q:=λq h1 h2=>by
   by_cases h:q≤v
   ·exact j3 q h1 h
   ·exact g5 q (by omega) h2
  by_cases hij:j<i
  ·exact⟨.inr (m,i),by simp only[hij,decide_true,cond_true],hR,by dsimp only;omega,by dsimp only;omega,g6,f1,λq h1 h2=>f2 q (by dsimp only at h1;omega) h2⟩
  ·have t1:idx m i=some (el m i):=By (by omega) (by omega)
   have t2:idx m j=some (el m j):=By (by omega) (by omega)
   have t3:∀x,idx (m.set i.toNat x) j=some (el (m.set i.toNat x) j):=λx=>BV (by omega) (by omega)
   have hia:=i4 (by omega)
   have hja:=j4 (by omega)
   have hne:i<j:=by
    rcases Int.lt_or_eq_of_le (show i≤j by omega) with h|h
    ·exact h
    ·subst h;exact absurd hia hja
   have ea:at' (sw m i j) a=at' m a:=by rw[BT (by omega) (by omega) (by omega) (by omega) (by omega),if_neg (by omega),if_neg (by omega)]
   rw[w64 (show-9223372036854775808≤i+1 by omega) (by omega),w64 (show-9223372036854775808≤j-1 by omega) (by omega)]
   refine⟨.inl (sw m i j,i+1,j-1),?_,⟨hR.trans (Rg.swap ha (by omega) (by omega) (by omega) (by omega) (by omega)),by dsimp only;omega,by dsimp only;omega,by dsimp only;omega,by dsimp only;rw[ea];exact g6,λq h1 h2=> ?_,λq h1 h2=> ?_⟩,by dsimp only;omega⟩
   ·simp only[t1,t2,t3,hij,decide_false,cond_false,bs]
    rfl
   ·dsimp only at h2 ⊢
    rw[ea,BT (by omega) (by omega) (by omega) (by omega) (by omega),if_neg (by omega)]
    by_cases e:q=i
    ·rw[if_pos e];exact hja
    ·rw[if_neg e];exact f1 q h1 (by omega)
   ·dsimp only at h1 ⊢
    rw[ea,BT (by omega) (by omega) (by omega) (by omega) (by omega)]
    by_cases e:q=j
    ·rw[if_pos e];exact hia
    ·rw[if_neg e,if_neg (by omega)];exact f2 q (by omega) h2
 ·exact⟨hR0,by dsimp only;omega,by dsimp only;omega,by dsimp only;omega,ep,λq h1 h2=>by dsimp only at h2;omega,λq h1 h2=>by dsimp only at h1;omega⟩
 ·rintro⟨m,v⟩ ⟨hR,g1,g2,g3,g4,g5⟩
  refine⟨(v,m),rfl,hR,by dsimp only at*;omega,g2,λk k1 k2=> ?_,λk k1 k2=> ?_⟩
  ·dsimp only at*
   by_cases e:k=a
   ·rw[e,g3];exact Int.le_refl _
   ·have:=g4 k (by omega) k2;omega
  ·dsimp only at*
   have:=g5 k k1 k2;omega
theorem Et (l:List α)(hG:Good l)(a b s:Int)(ha:0≤a)(ha':a<l.length)(hb:0≤b)(hb':b<l.length):
  ∃y,DG.order2 Srtd.cmp l a b s=some y∧y.2.2.1=l∧((y.1=a∧y.2.1=b)∨(y.1=b∧y.2.1=a)):=by
 have r1:idx l a=some (el l a):=By ha ha'
 have r2:idx l b=some (el l b):=By hb hb'
 unfold DG.order2
 obtain⟨v,cv,hv⟩:=C4 hG (i:=b) (j:=a) hb hb' ha ha'
 simp only[r1,r2,cv,hv,bs]
 by_cases h:at' l b<at' l a
 ·simp only[h,decide_true,cond_true];exact⟨_,rfl,rfl,.inr ⟨rfl,rfl⟩⟩
 ·simp only[h,decide_false,cond_false];exact⟨_,rfl,rfl,.inl ⟨rfl,rfl⟩⟩
theorem FS (l:List α)(hG:Good l)(a b c s:Int)(ha:0≤a)(ha':a<l.length)(hb:0≤b)(hb':b<l.length)(hc:0≤c)(hc':c<l.length):
  ∃y,DG.median Srtd.cmp l a b c s=some y∧y.2.1=l∧(y.1=a∨y.1=b∨y.1=c):=by
 unfold DG.median
 obtain⟨y1,h1,e1,c1⟩:=Et l hG a b s ha ha' hb hb'
 rw[h1,bs,e1]
 have b1:0≤y1.2.1∧y1.2.1<l.length∧0≤y1.1∧y1.1<l.length:=by rcases c1 with⟨c,d⟩|⟨c,d⟩<;>rw[c,d]<;>exact⟨by assumption,by assumption,by assumption,by assumption⟩
 obtain⟨y2,h2,e2,c2⟩:=Et l hG y1.2.1 c y1.2.2.2 b1.1 b1.2.1 hc hc'
 rw[h2,bs,e2]
 have b2:0≤y2.1∧y2.1<l.length:=by rcases c2 with⟨c,d⟩|⟨c,d⟩<;>rw[c]<;>exact⟨by omega,by omega⟩
 obtain⟨y3,h3,e3,c3⟩:=Et l hG y1.1 y2.1 y2.2.2.2 b1.2.2.1 b1.2.2.2 b2.1 b2.2
 rw[h3,bs]
 refine⟨_,rfl,e3,?_⟩
 dsimp only
 omega
theorem DK (l:List α)(hG:Good l)(p s:Int)(h0:1≤p)(h1:p+1<l.length)(hlen:l.length≤1000000):
  ∃y,DG.medianAdjacent Srtd.cmp l p s=some y∧y.2.1=l∧p-1≤y.1∧y.1≤p+1:=by
 unfold DG.medianAdjacent
 rw[w64 (show-9223372036854775808≤p-1 by omega) (by omega),w64 (show-9223372036854775808≤p+1 by omega) (by omega)]
 obtain⟨y,h,e,c⟩:=FS l hG (p-1) p (p+1) s (by omega) (by omega) (by omega) (by omega) (by omega) (by omega)
 rw[h,bs]
 exact⟨_,rfl,e,by dsimp only;omega,by dsimp only;omega⟩
theorem F3 (l:List α)(hG:Good l)(a b:Int)(ha:0≤a)(hb:b≤l.length)(h8:8≤b-a)(hlen:l.length≤1000000):
  ∃y,DG.choosePivot Srtd.cmp l a b=some y∧y.2.2=l∧a≤y.1∧y.1<b:=by
 unfold DG.choosePivot
 rw[w64 (show-9223372036854775808≤b-a by omega) (by omega)]
 have e4:(b-a).tdiv 4=(b-a)/4:=Int.tdiv_eq_ediv_of_nonneg (by omega)
 rw[e4,w64 (show-9223372036854775808≤(b-a)/4 by omega) (by omega)]
 rw[w64 (show-9223372036854775808≤(b-a)/4*1 by omega) (by omega),w64 (show-9223372036854775808≤(b-a)/4*2 by omega) (by omega),w64 (show-9223372036854775808≤(b-a)/4*3 by omega) (by omega)]
 rw[w64 (show-9223372036854775808≤a+(b-a)/4*1 by omega) (by omega),w64 (show-9223372036854775808≤a+(b-a)/4*2 by omega) (by omega),w64 (show-9223372036854775808≤a+(b-a)/4*3 by omega) (by omega)]
 simp only[h8,decide_true,cond_true]
 refine Cw (λq:List α×Int×Int×Int×Int=>q.1=l∧(a≤q.2.1∧q.2.1<b)∧(a≤q.2.2.1∧q.2.2.1<b)∧(a≤q.2.2.2.1∧q.2.2.2.1<b)) ?_ ?_
 ·by_cases h50:50≤b-a
  ·simp only[h50,decide_true,cond_true]
   obtain⟨y1,h1,e1,c1⟩:=DK l hG (a+(b-a)/4*1) 0 (by omega) (by omega) hlen
   rw[h1,bs,e1]
   obtain⟨y2,h2,e2,c2⟩:=DK l hG (a+(b-a)/4*2) y1.2.2 (by omega) (by omega) hlen
   rw[h2,bs,e2]
   obtain⟨y3,h3,e3,c3⟩:=DK l hG (a+(b-a)/4*3) y2.2.2 (by omega) (by omega) hlen
   rw[h3,bs]
   exact⟨_,rfl,e3,⟨by dsimp only;omega,by dsimp only;omega⟩,⟨by dsimp only;omega,by dsimp only;omega⟩,⟨by dsimp only;omega,by dsimp only;omega⟩⟩
  ·simp only[h50,decide_false,cond_false]
   exact⟨_,rfl,rfl,⟨by dsimp only;omega,by dsimp only;omega⟩,⟨by dsimp only;omega,by dsimp only;omega⟩,⟨by dsimp only;omega,by dsimp only;omega⟩⟩
 ·rintro⟨q,i,j,k,sw⟩ ⟨rfl,g1,g2,g3⟩
  dsimp only at g1 g2 g3 hb hlen ⊢
  obtain⟨y,h1,e1,c1⟩:=FS q hG i j k sw (by omega) (by omega) (by omega) (by omega) (by omega) (by omega)
  rw[h1,bs,e1]
  have hy:a≤y.1∧y.1<b:=by omega
  cases (y.2.2==0)
  ·cases (y.2.2==12)
   ·exact⟨_,rfl,rfl,hy⟩
   ·exact⟨_,rfl,rfl,hy⟩
  ·exact⟨_,rfl,rfl,hy⟩
end Go.Sx.Gs

namespace Go.Sx
theorem iand_small (y m:Int)(h0:0≤m)(h1:m<4294967296):0≤iand .u64 y m∧iand .u64 y m≤m:=by
 unfold iand
 have e:(BitVec.ofInt IntKind.u64.bits y&&&BitVec.ofInt IntKind.u64.bits m).toNat≤(BitVec.ofInt IntKind.u64.bits m).toNat:=by
  rw[BitVec.toNat_and];exact Nat.and_le_right
 have e2:(BitVec.ofInt IntKind.u64.bits m).toNat=m.toNat:=by
  rw[BitVec.toNat_ofInt]
  show (m%(2^64:Nat)).toNat=m.toNat
  congr 1
  omega
 rw[e2] at e
 generalize (BitVec.ofInt IntKind.u64.bits y&&&BitVec.ofInt IntKind.u64.bits m).toNat=t at e
 have:IntKind.u64.wrap (t:Int)=t:=by
  simp only[IntKind.wrap,IntKind.bits,IntKind.signed]
  simp
  omega
 rw[this]
 omega
theorem wu64 {x:Int}(h1:0≤x)(h2:x<18446744073709551616):IntKind.u64.wrap x=x:=by
 simp only[IntKind.wrap,IntKind.bits,IntKind.signed]
 simp
 omega
end Go.Sx

namespace Go.Sx.Gs
variable {α : Type} [Srtd α]
theorem Ew (l0:List α)(hG:Good l0)(a b:Int)(ha:0≤a)(hab:a<b)(hb:b≤l0.length)(hlen:l0.length≤1000000)
  (hpre:0<a→∀k,a≤k→k<b→at' l0 (a-1)≤at' l0 k):
  ∃y,DG.partialInsertionSort Srtd.cmp l0 a b=some y∧Rg a b l0 y.2∧(y.1=true→Srt y.2 a b):=by
 unfold DG.partialInsertionSort
 rw[w64 (show-9223372036854775808≤a+1 by omega) (by omega),w64 (show-9223372036854775808≤b-a by omega) (by omega)]
 refine AY (λs=>Rg a b l0 s.1∧a+1≤s.2.1∧s.2.1≤b∧Srt s.1 a s.2.1∧0≤s.2.2∧s.2.2≤5) (λs=>(5-s.2.2).toNat)
  (λr=>match r with| .inl l=>Rg a b l0 l| .inr y=>Rg a b l0 y.2∧(y.1=true→Srt y.2 a b)) ?_ ⟨Rg.refl _ _ _,by dsimp only;omega,by dsimp only;omega,λp q k1 k2 k3=>by dsimp only at k3;omega,by dsimp only;omega,by dsimp only;omega⟩ ?_
 ·rintro⟨l,i,j⟩ ⟨hR,g1,g2,g3,g4,g5⟩
  dsimp only at hR g1 g2 g3 g4 g5 ⊢
  have hll:=hR.len
  by_cases hj:j<5
  ·simp only[hj,decide_true,cond_true]
   refine AY (λi=>a+1≤i∧i≤b∧Srt l a i) (λi=>(b-i).toNat) (λi=>a+1≤i∧i≤b∧Srt l a i∧(i<b→at' l i<at' l (i-1))) ?_ ⟨g1,g2,g3⟩ ?_
   ·rintro i ⟨g1,g2,g3⟩
    by_cases hi:i<b
    ·have r1:idx l i=some (el l i):=By (by omega) (by omega)
     have r2:idx l (i-1)=some (el l (i-1)):=By (by omega) (by omega)
     have e1:IntKind.i64.wrap (i-1)=i-1:=w64 (by omega) (by omega)
     obtain⟨v,cv,hv⟩:=C4 (hR.good hG) (i:=i) (j:=i-1) (by omega) (by omega) (by omega) (by omega)
     by_cases hlt:at' l i<at' l (i-1)
     ·exact⟨.inr i,by simp only[r1,r2,e1,hi,cv,hv,hlt,decide_true,Bool.not_true,cond_true,cond_false,bs],g1,g2,g3,λ_=>hlt⟩
     ·refine⟨.inl (i+1),?_,⟨by omega,by omega,λp q k1 k2 k3=> ?_⟩,by dsimp only;omega⟩
      ·simp only[r1,r2,e1,hi,cv,hv,hlt,decide_true,decide_false,Bool.not_false,cond_true,bs]
       rw[w64 (by omega) (by omega)]
      ·by_cases e:q=i
       ·subst e
        by_cases e2:p=q-1
        ·subst e2;omega
        ·have:=g3 p (q-1) k1 (by omega) (by omega);omega
       ·exact g3 p q k1 k2 (by omega)
    ·exact⟨.inr i,by simp only[hi,decide_false,cond_false,bs],g1,g2,g3,λh=>absurd h hi⟩
   ·rintro i ⟨g1,g2,g3,g6⟩
    by_cases he:i=b
    ·have:(i==b)=true:=by simp[he]
     simp only[this,cond_true]
     exact⟨_,rfl,hR,λ_=>by rw[←he];exact g3⟩
    ·have:(i==b)=false:=by simp[he]
     simp only[this,cond_false]
     by_cases h50:b-a<50
     ·simp only[h50,decide_true,cond_true]
      exact⟨_,rfl,hR,λh=>by cases h⟩
     ·simp only[h50,decide_false,cond_false]
      have hib:i<b:=by omega
      have hlt:=g6 hib
      have e1:IntKind.i64.wrap (i-1)=i-1:=w64 (by omega) (by omega)
      have r1:idx l i=some (el l i):=By (by omega) (by omega)
      have r2:idx l (i-1)=some (el l (i-1)):=By (by omega) (by omega)
      have r3:∀x,idx (l.set i.toNat x) (i-1)=some (el (l.set i.toNat x) (i-1)):=λx=>BV (by omega) (by omega)
      simp only[e1,r1,r2,r3,bs]
      rw[show (l.set i.toNat (el l (i-1))).set (i-1).toNat (el l i)=sw l i (i-1) from rfl]
      have hR1:Rg a b l0 (sw l i (i-1)):=hR.trans (Rg.swap ha (by omega) (by omega) (by omega) (by omega) (by omega))
      have hS1:∀p q,a≤p→p<q→q≤i-1→q≠i-1→at' (sw l i (i-1)) p≤at' (sw l i (i-1)) q:=λp q k1 k2 k3 k4=>by
       rw[BT (by omega) (by omega) (by omega) (by omega) (by omega),BT (by omega) (by omega) (by omega) (by omega) (by omega)]
       rw[if_neg (by omega),if_neg (by omega),if_neg (by omega),if_neg (by omega)]
       exact g3 p q k1 k2 (by omega)
      generalize sw l i (i-1)=m at hR1 hS1 ⊢
      have hml:=hR1.len
      have hpre':∀m',Rg a b l0 m'→0<a→∀k,a≤k→k<b→at' m' (a-1)≤at' m' k:=λm' hr h0 k k1 k2=>by
       rw[hr.out (a-1) (by omega) (.inl (by omega))]
       exact hr.all (λx=>at' l0 (a-1)≤x) (hpre h0) k k1 k2
      rw[w64 (show-9223372036854775808≤i-a by omega) (by omega),w64 (show-9223372036854775808≤b-i by omega) (by omega),w64 (show-9223372036854775808≤i+1 by omega) (by omega),w64 (show-9223372036854775808≤j+1 by omega) (by omega)]
      refine Cw (λm=>Rg a b l0 m∧Srt m a i) ?_ ?_
      ·by_cases h2:2≤i-a
       ·simp only[h2,decide_true,cond_true]
        refine AY (λs=>Rg a b l0 s.1∧a≤s.2∧s.2≤i-1∧∀p q,a≤p→p<q→q≤i-1→q≠s.2→at' s.1 p≤at' s.1 q) (λs=>s.2.toNat) (λr=>Rg a b l0 r∧Srt r a i) ?_ ⟨hR1,by dsimp only;omega,Int.le_refl _,hS1⟩ (λr hr=>⟨r,rfl,hr⟩)
        rintro⟨m,j⟩ ⟨hR',q1,q2,hS'⟩
        dsimp only at hR' q1 q2 hS' ⊢
        have hml:=hR'.len
        by_cases hj1:1≤j
        ·have f1:idx m j=some (el m j):=By (by omega) (by omega)
         have f2:idx m (j-1)=some (el m (j-1)):=By (by omega) (by omega)
         have f3:∀x,idx (m.set j.toNat x) (j-1)=some (el (m.set j.toNat x) (j-1)):=λx=>BV (by omega) (by omega)
         have e2:IntKind.i64.wrap (j-1)=j-1:=w64 (by omega) (by omega)
         obtain⟨v,cv,hv⟩:=C4 (hR'.good hG) (i:=j) (j:=j-1) (by omega) (by omega) (by omega) (by omega)
         by_cases hlt:at' m j<at' m (j-1)
         ·have hja:a<j:=by
           rcases Int.lt_or_eq_of_le q1 with h|h
           ·exact h
           ·subst h
            have:=hpre' m hR' (by omega) a (Int.le_refl _) hab
            omega
          refine⟨.inl (sw m j (j-1),j-1),?_,⟨hR'.trans (Rg.swap ha (by omega) (by omega) (by omega) (by omega) (by omega)),by dsimp only;omega,by dsimp only;omega,?_⟩,by dsimp only;omega⟩
          ·simp only[hj1,decide_true,cond_true,e2,f1,f2,f3,cv,hv,hlt,Bool.not_true,cond_false,bs]
           rfl
          ·intro p q k1 k2 k3 k4
           dsimp only at k4 ⊢
           rw[BT (by omega) (by omega) (by omega) (by omega) (by omega),BT (by omega) (by omega) (by omega) (by omega) (by omega)]
           by_cases c1:q=j
           ·subst c1
            rw[if_neg (show¬q=q-1 by omega),if_pos rfl]
            by_cases c2:p=q-1
            ·rw[if_pos c2];omega
            ·rw[if_neg c2,if_neg (by omega)]
             exact hS' p (q-1) k1 (by omega) (by omega) (by omega)
           ·rw[if_neg (show¬q=j-1 by omega),if_neg c1]
            by_cases c2:p=j-1
            ·rw[if_pos c2]
             exact hS' j q (by omega) (by omega) k3 c1
            ·rw[if_neg c2]
             by_cases c3:p=j
             ·rw[if_pos c3]
              exact hS' (j-1) q (by omega) (by omega) k3 c1
             ·rw[if_neg c3]
              exact hS' p q k1 k2 k3 c1
         ·refine⟨.inr m,?_,hR',?_⟩
          ·simp only[hj1,decide_true,cond_true,e2,f1,f2,cv,hv,hlt,decide_false,Bool.not_false,bs]
          ·intro p q k1 k2 k3
           by_cases c1:q=j
           ·subst c1
            by_cases c2:p=q-1
            ·subst c2;omega
            ·have:=hS' p (q-1) k1 (by omega) (by omega) (by omega)
             omega
           ·exact hS' p q k1 k2 (by omega) c1
        ·refine⟨.inr m,?_,hR',?_⟩
         ·simp only[hj1,decide_false,cond_false]
         ·intro p q k1 k2 k3
          exact hS' p q k1 k2 (by omega) (by omega)
       ·simp only[h2,decide_false,cond_false]
        exact⟨_,rfl,hR1,λp q k1 k2 k3=>by omega⟩
      ·rintro m1 ⟨hR2,hS2⟩
       have hm1:=hR2.len
       by_cases h2:2≤b-i
       ·simp only[h2,decide_true,cond_true]
        refine AY (λs=>Rg a b l0 s.1∧Srt s.1 a i∧i+1≤s.2∧s.2≤b) (λs=>(b-s.2).toNat) (λr=>Rg a b l0 r∧Srt r a i) ?_ ⟨hR2,hS2,by dsimp only;omega,by dsimp only;omega⟩ ?_
        ·rintro⟨m,q⟩ ⟨hR',hS',q1,q2⟩
         dsimp only at hR' hS' q1 q2 ⊢
         have hml:=hR'.len
         by_cases hq:q<b
         ·have f1:idx m q=some (el m q):=By (by omega) (by omega)
          have f2:idx m (q-1)=some (el m (q-1)):=By (by omega) (by omega)
          have f3:∀x,idx (m.set q.toNat x) (q-1)=some (el (m.set q.toNat x) (q-1)):=λx=>BV (by omega) (by omega)
          have e2:IntKind.i64.wrap (q-1)=q-1:=w64 (by omega) (by omega)
          have e3:IntKind.i64.wrap (q+1)=q+1:=w64 (by omega) (by omega)
          obtain⟨v,cv,hv⟩:=C4 (hR'.good hG) (i:=q) (j:=q-1) (by omega) (by omega) (by omega) (by omega)
          by_cases hlt:at' m q<at' m (q-1)
          ·refine⟨.inl (sw m q (q-1),q+1),?_,⟨hR'.trans (Rg.swap ha (by omega) (by omega) (by omega) (by omega) (by omega)),λp r k1 k2 k3=> ?_,by dsimp only;omega,by dsimp only;omega⟩,by dsimp only;omega⟩
           ·simp only[hq,decide_true,cond_true,e2,e3,f1,f2,f3,cv,hv,hlt,Bool.not_true,cond_false,bs]
            rfl
           ·dsimp only
            rw[BT (by omega) (by omega) (by omega) (by omega) (by omega),BT (by omega) (by omega) (by omega) (by omega) (by omega)]
            rw[if_neg (by omega),if_neg (by omega),if_neg (by omega),if_neg (by omega)]
            exact hS' p r k1 k2 k3
          ·refine⟨.inr m,?_,hR',hS'⟩
           simp only[hq,decide_true,cond_true,e2,f1,f2,cv,hv,hlt,decide_false,Bool.not_false,bs]
         ·exact⟨.inr m,by simp only[hq,decide_false,cond_false],hR',hS'⟩
        ·rintro m2 ⟨hR3,hS3⟩
         exact⟨_,rfl,⟨hR3,g1,g2,hS3,by dsimp only;omega,by dsimp only;omega⟩,by dsimp only;omega⟩
       ·simp only[h2,decide_false,cond_false]
        exact⟨_,rfl,⟨hR2,g1,g2,hS2,by dsimp only;omega,by dsimp only;omega⟩,by dsimp only;omega⟩
  ·simp only[hj,decide_false,cond_false]
   exact⟨_,rfl,hR⟩
 ·rintro(l|y) h
  ·exact⟨_,rfl,h,λh=>by cases h⟩
  ·exact⟨_,rfl,h⟩
theorem FN :∀x:Nat,1≤x→x<2^64→x<2^(Lib.bitLen x)∧2^(Lib.bitLen x)≤2*x:=by
 intro x
 induction x using Nat.strongRecOn with
 |ind x ih=>
  intro h1 h2
  rw[Lib.bitLen_half x (by omega) h2]
  by_cases h:x=1
  ·subst h;decide
  ·obtain⟨a,b⟩:=ih (x/2) (by omega) (by omega) (by omega)
   rw[Nat.add_comm,Nat.pow_succ]
   generalize 2^Lib.bitLen (x/2)=p at a b
   omega
theorem pow2_spec (n:Int)(h1:8≤n)(h2:n≤1000000):∃y,D.P0 n=some y∧n<y∧y≤2*n:=by
 obtain⟨m,rfl⟩:∃m:Nat,n=(m:Int):=⟨n.toNat,by omega⟩
 obtain⟨k1,k2⟩:=FN m (by omega) (by omega)
 have hb:Lib.bitLen m<22:=by
  apply Classical.byContradiction
  intro hc
  have:2^22≤2^Lib.bitLen m:=Nat.pow_le_pow_right (by omega) (by omega)
  omega
 unfold D.P0
 rw[wu64 (by omega) (by omega)]
 unfold D.d0
 rw[if_pos (by omega),bs]
 have:decide (((Lib.bitLen m:Nat):Int)<0)=false:=by simp
 rw[Int.toNat_natCast,this,cond_false]
 have e:ishl .u64 1 ((Lib.bitLen m:Nat):Int)=((2^Lib.bitLen m:Nat):Int):=by
  show IntKind.u64.wrap (1*2^(min (((Lib.bitLen m:Nat):Int)).toNat 64))=_
  rw[Int.toNat_natCast,show min (Lib.bitLen m) 64=Lib.bitLen m by omega,Int.one_mul]
  have e':((2^Lib.bitLen m:Nat):Int)=(2:Int)^Lib.bitLen m:=by simp
  rw[←e',wu64 (by omega) (by omega)]
 rw[e]
 exact⟨_,rfl,by omega,by omega⟩
theorem E6 (l0:List α)(a b:Int)(ha:0≤a)(hb:b≤l0.length)(h8:8≤b-a)(hlen:l0.length≤1000000):
  ∃l',DG.breakPatterns Srtd.cmp l0 a b=some l'∧Rg a b l0 l':=by
 unfold DG.breakPatterns
 rw[w64 (show-9223372036854775808≤b-a by omega) (by omega)]
 have e4:(b-a).tdiv 4=(b-a)/4:=Int.tdiv_eq_ediv_of_nonneg (by omega)
 rw[e4,w64 (show-9223372036854775808≤(b-a)/4 by omega) (by omega)]
 rw[w64 (show-9223372036854775808≤(b-a)/4*2 by omega) (by omega)]
 rw[w64 (show-9223372036854775808≤a+(b-a)/4*2 by omega) (by omega)]
 rw[w64 (show-9223372036854775808≤a+(b-a)/4*2+1 by omega) (by omega),w64 (show-9223372036854775808≤a+(b-a)/4*2-1 by omega) (by omega)]
 simp only[h8,decide_true,cond_true]
 obtain⟨y,hy,g1,g2⟩:=pow2_spec (b-a) h8 (by omega)
 rw[hy,bs,wu64 (show 0≤y-1 by omega) (by omega)]
 refine AY (λs=>Rg a b l0 s.1∧a+(b-a)/4*2-1≤s.2.1∧s.2.1≤a+(b-a)/4*2+2) (λs=>(a+(b-a)/4*2+2-s.2.1).toNat) (λr=>Rg a b l0 r) ?_ ?_ ?_
 ·rintro⟨l,i,z⟩ ⟨hR,k1,k2⟩
  dsimp only at hR k1 k2 ⊢
  have hll:=hR.len
  by_cases hi:i≤a+(b-a)/4*2+1
  ·simp only[hi,decide_true,cond_true,D.N1,bs]
   obtain⟨t1,t2⟩:=iand_small (BC .u64 (BC .u64 (BC .u64 z (ishl .u64 z 13)) (Cp .u64 (BC .u64 z (ishl .u64 z 13)) 7)) (ishl .u64 (BC .u64 (BC .u64 z (ishl .u64 z 13)) (Cp .u64 (BC .u64 z (ishl .u64 z 13)) 7)) 17)) (y-1) (by omega) (by omega)
   revert t1 t2
   generalize iand .u64 (BC .u64 (BC .u64 (BC .u64 z (ishl .u64 z 13)) (Cp .u64 (BC .u64 z (ishl .u64 z 13)) 7)) (ishl .u64 (BC .u64 (BC .u64 z (ishl .u64 z 13)) (Cp .u64 (BC .u64 z (ishl .u64 z 13)) 7)) 17)) (y-1)=t
   generalize (BC .u64 (BC .u64 (BC .u64 z (ishl .u64 z 13)) (Cp .u64 (BC .u64 z (ishl .u64 z 13)) 7)) (ishl .u64 (BC .u64 (BC .u64 z (ishl .u64 z 13)) (Cp .u64 (BC .u64 z (ishl .u64 z 13)) 7)) 17))=z'
   intro t1 t2
   rw[w64 (show-9223372036854775808≤t by omega) (by omega),w64 (show-9223372036854775808≤t-(b-a) by omega) (by omega)]
   have hc:∃o,(bif decide (b-a≤t) then some (t-(b-a)) else some t)=some o∧0≤o∧o<b-a:=by
    by_cases h:b-a≤t
    ·exact⟨t-(b-a),by simp[h],by omega,by omega⟩
    ·exact⟨t,by simp[h],by omega,by omega⟩
   obtain⟨o,ho,o1,o2⟩:=hc
   rw[ho,bs,w64 (show-9223372036854775808≤a+o by omega) (by omega),w64 (show-9223372036854775808≤i+1 by omega) (by omega)]
   have r1:idx l i=some (el l i):=By (by omega) (by omega)
   have r2:idx l (a+o)=some (el l (a+o)):=By (by omega) (by omega)
   have r3:∀x,idx (l.set i.toNat x) (a+o)=some (el (l.set i.toNat x) (a+o)):=λx=>BV (by omega) (by omega)
   refine⟨.inl (sw l i (a+o),i+1,z'),?_,⟨hR.trans (Rg.swap ha (by omega) (by omega) (by omega) (by omega) (by omega)),by dsimp only;omega,by dsimp only;omega⟩,by dsimp only;omega⟩
   simp only[r1,r2,r3,bs]
   rfl
  ·exact⟨.inr l,by simp only[hi,decide_false,cond_false],hR⟩
 ·exact⟨Rg.refl _ _ _,by dsimp only;omega,by dsimp only;omega⟩
 ·rintro r hr
  exact⟨r,rfl,hr⟩
end Go.Sx.Gs

namespace Go.Sx.Gs
variable {α : Type} [Srtd α]
def kid (i c:Int):Prop:=c=2*i+1∨c=2*i+2
theorem EZ (l0:List α)(hG:Good l0)(lo hi f:Int)(h0:0≤lo)(hf:0≤f)(hlh:lo≤hi)(hb:f+hi≤l0.length)(hlen:l0.length≤1000000)
  (hH:∀i c,lo<i→kid i c→c<hi→at' l0 (f+c)≤at' l0 (f+i)):
  ∃l',DG.siftDown Srtd.cmp l0 lo hi f=some l'∧Rg (f+lo) (f+hi) l0 l'∧∀i c,lo≤i→kid i c→c<hi→at' l' (f+c)≤at' l' (f+i):=by
 unfold DG.siftDown
 refine AY (λs=>Rg (f+lo) (f+hi) l0 s.1∧lo≤s.2∧s.2≤hi∧(∀i c,lo≤i→i≠s.2→kid i c→c<hi→at' s.1 (f+c)≤at' s.1 (f+i))∧(∀p c,lo≤p→kid p s.2→kid s.2 c→c<hi→at' s.1 (f+c)≤at' s.1 (f+p)))
  (λs=>(hi-s.2).toNat)
  (λr=>match r with| .inl l'=>Rg (f+lo) (f+hi) l0 l'∧∀i c,lo≤i→kid i c→c<hi→at' l' (f+c)≤at' l' (f+i)| .inr l'=>Rg (f+lo) (f+hi) l0 l'∧∀i c,lo≤i→kid i c→c<hi→at' l' (f+c)≤at' l' (f+i)) ?_
  ⟨Rg.refl _ _ _,Int.le_refl _,hlh,λi c h1 h2 h3 h4=>hH i c (by dsimp only at h2;omega) h3 h4,λp c h1 h2 h3 h4=>by unfold kid at h2;dsimp only at h2;omega⟩ ?_
 ·rintro⟨l,r⟩ ⟨hR,g1,g2,g3,g4⟩
  dsimp only at hR g1 g2 g3 g4 ⊢
  have hll:=hR.len
  rw[w64 (show-9223372036854775808≤2*r by omega) (by omega),w64 (show-9223372036854775808≤2*r+1 by omega) (by omega)]
  rw[w64 (show-9223372036854775808≤2*r+1+1 by omega) (by omega),w64 (show-9223372036854775808≤f+(2*r+1) by omega) (by omega),w64 (show-9223372036854775808≤f+(2*r+1)+1 by omega) (by omega),w64 (show-9223372036854775808≤f+r by omega) (by omega)]
  by_cases hc:hi≤2*r+1
  ·simp only[hc,decide_true,cond_true]
   refine⟨_,rfl,hR,λi c h1 h2 h3=> ?_⟩
   by_cases e:i=r
   ·subst e;unfold kid at h2;omega
   ·exact g3 i c h1 e h2 h3
  ·simp only[hc,decide_false,cond_false]
   refine Cw (λb:Bool=>(b=true→2*r+2<hi∧at' l (f+(2*r+1))<at' l (f+(2*r+2)))∧(b=false→2*r+2<hi→at' l (f+(2*r+2))≤at' l (f+(2*r+1)))) ?_ ?_
   ·by_cases h2:2*r+1+1<hi
    ·have r1:idx l (f+(2*r+1))=some (el l (f+(2*r+1))):=By (by omega) (by omega)
     have r2:idx l (f+(2*r+1)+1)=some (el l (f+(2*r+1)+1)):=By (by omega) (by omega)
     obtain⟨v,cv,hv⟩:=C4 (hR.good hG) (i:=f+(2*r+1)) (j:=f+(2*r+1)+1) (by omega) (by omega) (by omega) (by omega)
     simp only[h2,decide_true,cond_true,r1,r2,cv,hv,bs]
     rw[show f+(2*r+1)+1=f+(2*r+2) by omega]
     refine⟨_,rfl,λh=>⟨by omega,of_decide_eq_true h⟩,λh _=> ?_⟩
     have:=of_decide_eq_false h
     omega
    ·simp only[h2,decide_false,cond_false]
     exact⟨_,rfl,(λh=>by cases h),(λ_ h=>by omega)⟩
   ·rintro b ⟨hbb,hbf⟩
    have hch:∃c,(bif b then some (2*r+1+1) else some (2*r+1))=some c∧(b=true→c=2*r+2)∧(b=false→c=2*r+1):=by
     cases b
     ·exact⟨2*r+1,rfl,by simp,by simp⟩
     ·exact⟨2*r+2,by simp;omega,by simp,by simp⟩
    obtain⟨c,ec,c1,c2⟩:=hch
    have hkc:kid r c:=by unfold kid;cases b<;>simp at c1 c2<;>omega
    have hchi:c<hi:=by
     cases b
     ·have:=c2 rfl;omega
     ·have:=c1 rfl;have:=hbb rfl;omega
    rw[ec,bs,w64 (show-9223372036854775808≤f+c by unfold kid at hkc;omega) (by omega)]
    have hcr:r<c:=by unfold kid at hkc;omega
    have t1:idx l (f+r)=some (el l (f+r)):=By (by omega) (by omega)
    have t2:idx l (f+c)=some (el l (f+c)):=By (by omega) (by omega)
    have t3:∀x,idx (l.set (f+r).toNat x) (f+c)=some (el (l.set (f+r).toNat x) (f+c)):=λx=>BV (by omega) (by omega)
    obtain⟨v,cv,hv⟩:=C4 (hR.good hG) (i:=f+r) (j:=f+c) (by omega) (by omega) (by omega) (by omega)
    have hbest:∀d,kid r d→d<hi→at' l (f+d)≤at' l (f+c):=λd hd hdh=>by
     cases b
     ·have e:=c2 rfl
      subst e
      rcases hd with rfl|rfl
      ·exact Int.le_refl _
      ·exact hbf rfl hdh
     ·have e:=c1 rfl
      subst e
      rcases hd with rfl|rfl
      ·have:=(hbb rfl).2;omega
      ·exact Int.le_refl _
    by_cases hlt:at' l (f+r)<at' l (f+c)
    ·refine⟨.inl (sw l (f+r) (f+c),c),?_,⟨hR.trans (Rg.swap (by omega) (by omega) (by omega) (by omega) (by omega) (by omega)),by dsimp only;omega,by dsimp only;omega,λi d h1 h2 h3 h4=> ?_,λp d h1 h2 h3 h4=> ?_⟩,by dsimp only;omega⟩
     ·simp only[t1,t2,t3,cv,hv,hlt,decide_true,Bool.not_true,cond_false,bs]
      rfl
     ·dsimp only at h2 ⊢
      have hd0:i<d:=by unfold kid at h3;omega
      rw[BT (by omega) (by omega) (by omega) (by omega) (by omega),BT (by omega) (by omega) (by omega) (by omega) (by omega)]
      rw[if_neg (show¬f+i=f+c by omega)]
      by_cases e:i=r
      ·subst e
       rw[if_pos rfl]
       by_cases e2:d=c
       ·subst e2;rw[if_pos rfl];omega
       ·rw[if_neg (show¬f+d=f+c by omega),if_neg (show¬f+d=f+i by omega)]
        exact hbest d h3 h4
      ·rw[if_neg (show¬f+i=f+r by omega)]
       have e2:d≠c:=λe2=>by subst e2;unfold kid at h3 hkc;omega
       rw[if_neg (show¬f+d=f+c by omega)]
       by_cases e3:d=r
       ·subst e3
        rw[if_pos rfl]
        exact g4 i c h1 h3 hkc hchi
       ·rw[if_neg (show¬f+d=f+r by omega)]
        exact g3 i d h1 e h3 h4
     ·dsimp only at h2 h3 ⊢
      have e:p=r:=by unfold kid at h2 hkc;omega
      subst e
      have hd0:c<d:=by unfold kid at h3;omega
      rw[BT (by omega) (by omega) (by omega) (by omega) (by omega),BT (by omega) (by omega) (by omega) (by omega) (by omega)]
      rw[if_neg (show¬f+d=f+c by omega),if_neg (show¬f+d=f+p by omega),if_neg (show¬f+p=f+c by omega),if_pos rfl]
      exact g3 c d (by omega) (by omega) h3 h4
    ·refine⟨.inr (.inr l),?_,hR,λi d h1 h2 h3=> ?_⟩
     ·simp only[t1,t2,cv,hv,hlt,decide_false,Bool.not_false,cond_true,bs]
     ·by_cases e:i=r
      ·subst e
       have:=hbest d h2 h3
       omega
      ·exact g3 i d h1 e h2 h3
 ·rintro(l|l) h
  ·exact⟨_,rfl,h⟩
  ·exact⟨_,rfl,h⟩
theorem heap_root {l:List α}{f hi:Int}(hH:∀i c,0≤i→kid i c→c<hi→at' l (f+c)≤at' l (f+i)):∀(n:Nat) (k:Int),k.toNat≤n→0≤k→k<hi→at' l (f+k)≤at' l (f+0):=by
 intro n
 induction n with
 |zero=>intro k h1 h2 h3;rw[show k=0 by omega];exact Int.le_refl _
 |succ n ih=>
  intro k h1 h2 h3
  by_cases h:k=0
  ·subst h;exact Int.le_refl _
  ·have hk:kid ((k-1)/2) k:=by unfold kid;omega
   have a:=hH ((k-1)/2) k (by omega) hk h3
   have b:=ih ((k-1)/2) (by omega) (by omega) (by omega)
   omega
theorem heapSort_spec (l0:List α)(hG:Good l0)(a b:Int)(ha:0≤a)(hab:a≤b)(hb:b≤l0.length)(hlen:l0.length≤1000000):
  ∃l',DG.heapSort Srtd.cmp l0 a b=some l'∧Rg a b l0 l'∧Srt l' a b:=by
 unfold DG.heapSort
 rw[w64 (show-9223372036854775808≤b-a by omega) (by omega),w64 (show-9223372036854775808≤b-a-1 by omega) (by omega)]
 have e2: -1≤(b-a-1).tdiv 2∧(b-a-1).tdiv 2≤b-a∧b-a≤2*(b-a-1).tdiv 2+2:=by
  by_cases h:1≤b-a
  ·rw[Int.tdiv_eq_ediv_of_nonneg (by omega)];omega
  ·have:b-a-1= -1:=by omega
   have e:(-1:Int).tdiv 2=0:=by decide
   rw[this,e];omega
 rw[w64 (show-9223372036854775808≤(b-a-1).tdiv 2 by omega) (by omega)]
 generalize (b-a-1).tdiv 2=st at e2
 refine AY (λs=>Rg a b l0 s.1∧-1≤s.2∧s.2≤b-a∧∀i c,s.2<i→kid i c→c<b-a→at' s.1 (a+c)≤at' s.1 (a+i)) (λs=>(s.2+1).toNat)
  (λr=>Rg a b l0 r∧∀i c,0≤i→kid i c→c<b-a→at' r (a+c)≤at' r (a+i)) ?_ ⟨Rg.refl _ _ _,by dsimp only;omega,by dsimp only;omega,λi c h1 h2 h3=>by unfold kid at h2;dsimp only at h1;omega⟩ ?_
 ·rintro⟨l,i⟩ ⟨hR,g1,g2,g3⟩
  dsimp only at hR g1 g2 g3 ⊢
  have hll:=hR.len
  by_cases hi:0≤i
  ·simp only[hi,decide_true,cond_true]
   obtain⟨l',e,r1,r2⟩:=EZ l (hR.good hG) i (b-a) a hi ha (by omega) (by omega) (by omega) g3
   rw[e,bs,w64 (show-9223372036854775808≤i-1 by omega) (by omega)]
   exact⟨_,rfl,⟨hR.trans (r1.widen (by omega) (by omega) ha),by dsimp only;omega,by dsimp only;omega,λp c h1 h2 h3=>r2 p c (by dsimp only at h1;omega) h2 h3⟩,by dsimp only;omega⟩
  ·simp only[hi,decide_false,cond_false]
   exact⟨_,rfl,hR,λp c h1 h2 h3=>g3 p c (by omega) h2 h3⟩
 ·rintro l1 ⟨hR1,hH1⟩
  refine AY (λs=>Rg a b l0 s.1∧-1≤s.2∧s.2<b-a∧(∀i c,0≤i→kid i c→c≤s.2→at' s.1 (a+c)≤at' s.1 (a+i))∧(∀p q,s.2<p→p<q→q<b-a→at' s.1 (a+p)≤at' s.1 (a+q))∧(∀p q,0≤p→p≤s.2→s.2<q→q<b-a→at' s.1 (a+p)≤at' s.1 (a+q))) (λs=>(s.2+1).toNat)
   (λr=>Rg a b l0 r∧Srt r a b) ?_ ⟨hR1,by dsimp only;omega,by dsimp only;omega,λi c h1 h2 h3=>hH1 i c h1 h2 (by dsimp only at h3;omega),λp q h1 h2 h3=>by dsimp only at h1;omega,λp q h1 h2 h3 h4=>by dsimp only at h3;omega⟩ (λr hr=>⟨r,rfl,hr⟩)
  rintro⟨l,i⟩ ⟨hR,g1,g2,g3,g4,g5⟩
  dsimp only at hR g1 g2 g3 g4 g5 ⊢
  have hll:=hR.len
  by_cases hi:0≤i
  ·rw[w64 (show-9223372036854775808≤a+i by omega) (by omega)]
   have t1:idx l a=some (el l a):=By (by omega) (by omega)
   have t2:idx l (a+i)=some (el l (a+i)):=By (by omega) (by omega)
   have t3:∀x,idx (l.set a.toNat x) (a+i)=some (el (l.set a.toNat x) (a+i)):=λx=>BV (by omega) (by omega)
   simp only[hi,decide_true,cond_true,t1,t2,t3,bs]
   rw[show (l.set a.toNat (el l (a+i))).set (a+i).toNat (el l a)=sw l a (a+i) from rfl]
   have hRs:Rg a (a+(i+1)) l (sw l a (a+i)):=Rg.swap ha (by omega) (by omega) (by omega) (by omega) (by omega)
   have sat:∀k,0≤k→at' (sw l a (a+i)) (a+k)=if k=i then at' l a else if k=0 then at' l (a+i) else at' l (a+k):=λk hk=>by
    rw[BT (by omega) (by omega) (by omega) (by omega) (by omega)]
    by_cases c1:k=i
    ·subst c1;simp
    ·rw[if_neg (show¬a+k=a+i by omega),if_neg c1]
     by_cases c2:k=0
     ·subst c2;simp
     ·rw[if_neg (show¬a+k=a by omega),if_neg c2]
   have hroot:∀k,0≤k→k≤i→at' l (a+k)≤at' l a:=λk k1 k2=>by
    have:=heap_root (hi:=i+1) (λp c h1 h2 h3=>g3 p c h1 h2 (by omega)) k.toNat k (Nat.le_refl _) k1 (by omega)
    rwa [Int.add_zero] at this
   have hsl:(sw l a (a+i)).length=l.length:=sw_len _ _ _
   obtain⟨l',e,r1,r2⟩:=EZ (sw l a (a+i)) (hRs.good (hR.good hG)) 0 i a (Int.le_refl _) ha hi (by omega) (by omega) (λp c h1 h2 h3=>by
    have hc:p<c:=by unfold kid at h2;omega
    rw[sat c (by omega),sat p (by omega),if_neg (by omega),if_neg (by omega),if_neg (by omega),if_neg (by omega)]
    exact g3 p c (by omega) h2 (by omega))
   rw[e,bs,w64 (show-9223372036854775808≤i-1 by omega) (by omega)]
   rw[Int.add_zero] at r1
   have same:∀k,i≤k→at' l' (a+k)=at' (sw l a (a+i)) (a+k):=λk hk=>r1.out (a+k) (by omega) (.inr (by omega))
   have big:∀k,i<k→k<b-a→at' l' (a+k)=at' l (a+k):=λk hk hk2=>by
    rw[same k (by omega),sat k (by omega),if_neg (by omega),if_neg (by omega)]
   have ati:at' l' (a+i)=at' l a:=by rw[same i (Int.le_refl _),sat i hi,if_pos rfl]
   have low:∀Q:Int→Prop,(∀k,0≤k→k≤i→Q (at' l (a+k)))→∀k,0≤k→k<i→Q (at' l' (a+k)):=λQ hQ k k1 k2=>
    r1.all Q (λm m1 m2=>by
     have h1:=sat (m-a) (by omega)
     rw[show a+(m-a)=m by omega] at h1
     rw[h1]
     split
     ·have:=hQ 0 (by omega) hi;rwa [Int.add_zero] at this
     ·split
      ·exact hQ i hi (Int.le_refl _)
      ·have:=hQ (m-a) (by omega) (by omega);rwa [show a+(m-a)=m by omega] at this) (a+k) (by omega) (by omega)
   refine⟨_,rfl,⟨hR.trans ((hRs.widen (Int.le_refl a) (by omega) ha).trans (r1.widen (Int.le_refl a) (by omega) ha)),by dsimp only;omega,by dsimp only;omega,λp c h1 h2 h3=> ?_,λp q h1 h2 h3=> ?_,λp q h1 h2 h3 h4=> ?_⟩,by dsimp only;omega⟩
   ·dsimp only at h3 ⊢;exact r2 p c h1 h2 (by omega)
   ·dsimp only at h1 ⊢
    by_cases c1:p=i
    ·subst c1
     rw[ati,big q h2 h3]
     have:=g5 0 q (Int.le_refl _) hi h2 h3
     rwa [Int.add_zero] at this
    ·rw[big p (by omega) (by omega),big q (by omega) h3]
     exact g4 p q (by omega) h2 h3
   ·dsimp only at h2 h3 ⊢
    by_cases c1:q=i
    ·subst c1
     rw[ati]
     exact low (λx=>x≤at' l a) hroot p h1 (by omega)
    ·rw[big q (by omega) h4]
     exact low (λx=>x≤at' l (a+q)) (λk k1 k2=>g5 k q k1 k2 (by omega) h4) p h1 (by omega)
  ·simp only[hi,decide_false,cond_false]
   refine⟨_,rfl,hR,λp q h1 h2 h3=> ?_⟩
   have:=g4 (p-a) (q-a) (by omega) (by omega) (by omega)
   rwa [show a+(p-a)=p by omega,show a+(q-a)=q by omega] at this
end Go.Sx.Gs

namespace Go.Sx.Gs
variable {α : Type} [Srtd α]
def Out (l:List α)(a0 b0 a b:Int):Prop:=∀i j,a0≤i→i<j→j<b0→¬(a≤i∧j<b)→at' l i≤at' l j
theorem Out.keep {a0 a b b0:Int}{l l':List α}(h:Rg a b l l')(h0:0≤a0)(ha:a0≤a)(hb:b≤b0)(c:Out l a0 b0 a b):Out l' a0 b0 a b:=by
 intro i j h1 h2 h3 h4
 by_cases hi:a≤i∧i<b
 ·rw[h.out j (by omega) (by omega)]
  exact h.all (λx=>x≤at' l j) (λk k1 k2=>c k j (by omega) (by omega) h3 (by omega)) i hi.1 hi.2
 ·rw[h.out i (by omega) (by omega)]
  by_cases hj:a≤j∧j<b
  ·exact h.all (λx=>at' l i≤x) (λk k1 k2=>c i k (by omega) (by omega) (by omega) (by omega)) j hj.1 hj.2
  ·rw[h.out j (by omega) (by omega)];exact c i j h1 h2 h3 h4
theorem pdqsort_spec :∀(n:Nat) (l0:List α) (a0 b0 lim:Int),0≤a0→a0≤b0→b0≤l0.length→l0.length≤1000000→Good l0→0≤lim→lim≤64→
  (0<a0→∀k,a0≤k→k<b0→at' l0 (a0-1)≤at' l0 k)→b0-a0<n→∃l',DG.pdqsortR Srtd.cmp n l0 a0 b0 lim=some l'∧Rg a0 b0 l0 l'∧Srt l' a0 b0:=by
 intro n
 induction n with
 |zero=>intro l0 a0 b0 lim h1 h2 h3 h4 hG h7 h8 h9 h10;omega
 |succ n ih=>
  intro l0 a0 b0 lim h1 h2 h3 h4 hG h7 h8 h9 h10
  unfold DG.pdqsortR
  refine AY (λs=>Rg a0 b0 l0 s.1∧Out s.1 a0 b0 s.2.1 s.2.2.1∧a0≤s.2.1∧s.2.1≤s.2.2.1∧s.2.2.1≤b0∧0≤s.2.2.2.1∧s.2.2.2.1≤64∧(0<s.2.1→∀k,s.2.1≤k→k<s.2.2.1→at' s.1 (s.2.1-1)≤at' s.1 k))
   (λs=>(s.2.2.1-s.2.1).toNat) (λr=>Rg a0 b0 l0 r∧Srt r a0 b0) ?_ ?_ ?_
  ·rintro⟨l,a,b,lm,bal,par⟩ ⟨hR,hO,g1,g2,g3,g5,g6,g7⟩
   dsimp only at hR hO g1 g2 g3 g5 g6 g7 ⊢
   have hll:=hR.len
   have fin:∀l',Rg a b l l'→Srt l' a b→Rg a0 b0 l0 l'∧Srt l' a0 b0:=λl' hr hs=>
    ⟨hR.trans (hr.widen g1 g3 h1),λi j k1 k2 k3=>by
     by_cases hc:a≤i∧j<b
     ·exact hs i j hc.1 k2 hc.2
     ·exact(hO.keep hr h1 g1 g3) i j k1 k2 k3 hc⟩
   rw[w64 (show-9223372036854775808≤b-a by omega) (by omega)]
   by_cases hs:b-a≤12
   ·obtain⟨l',e,r1,r2⟩:=E5 l a b (by omega) g2 (by omega) (by omega) (hR.good hG)
    refine⟨.inr l',?_,fin l' r1 r2⟩
    simp only[hs,decide_true,cond_true,e,bs]
   ·simp only[hs,decide_false,cond_false]
    by_cases hlm:lm=0
    ·have hl0:(lm==0)=true:=by simp[hlm]
     obtain⟨l',e,r1,r2⟩:=heapSort_spec l (hR.good hG) a b (by omega) g2 (by omega) (by omega)
     refine⟨.inr l',?_,fin l' r1 r2⟩
     simp only[hl0,cond_true,e,bs]
    have hl0:(lm==0)=false:=by simp[hlm]
    simp only[hl0,cond_false]
    refine Cw (λq:List α×Int=>Rg a b l q.1∧0≤q.2∧q.2≤64) ?_ ?_
    ·cases bal
     ·obtain⟨l1,e,r1⟩:=E6 l a b (by omega) (by omega) (by omega) (by omega)
      refine⟨(l1,lm-1),?_,r1,by dsimp only;omega,by dsimp only;omega⟩
      simp only[Bool.not_false,cond_true,e,bs]
      rw[w64 (by omega) (by omega)]
     ·exact⟨(l,lm),rfl,Rg.refl _ _ _,by dsimp only;omega,by dsimp only;omega⟩
    rintro⟨l1,lm1⟩ ⟨hr1,k2,k3⟩
    dsimp only at hr1 k2 k3 ⊢
    have hl1:=hr1.len
    obtain⟨y,ey,c1,c2,c3⟩:=F3 l1 ((hR.trans (hr1.widen g1 g3 h1)).good hG) a b (by omega) (by omega) (by omega) (by omega)
    rw[ey,bs]
    refine Cw (λq:List α×Int×Int=>Rg a b l q.1∧a≤q.2.1∧q.2.1<b) ?_ ?_
    ·cases (y.2.1==2)
     ·exact⟨_,rfl,by dsimp only;rw[c1];exact hr1,c2,c3⟩
     ·obtain⟨l2,e2,r2⟩:=FI l1 a b (by omega) (by omega) (by omega) (by omega)
      rw[c1]
      simp only[cond_true,e2,bs]
      rw[w64 (show-9223372036854775808≤b-1 by omega) (by omega),w64 (show-9223372036854775808≤y.1-a by omega) (by omega),w64 (show-9223372036854775808≤b-1-(y.1-a) by omega) (by omega)]
      exact⟨_,rfl,hr1.trans r2,by dsimp only;omega,by dsimp only;omega⟩
    rintro⟨l2,p,hint⟩ ⟨hr2,p1,p2⟩
    dsimp only at hr2 p1 p2 ⊢
    have hl2:=hr2.len
    refine Cw (λq:List α ⊕ List α=>match q with| .inl q=>Rg a b l q| .inr q=>Rg a b l q∧Srt q a b) ?_ ?_
    ·cases ((bal&&par)&&(hint==1))
     ·exact⟨.inl l2,rfl,hr2⟩
     ·obtain⟨y2,e2,d1,d2⟩:=Ew l2 ((hR.trans (hr2.widen g1 g3 h1)).good hG) a b (by omega) (by omega) (by omega) (by omega) (λha k m1 m2=>by
       rw[hr2.out (a-1) (by omega) (.inl (by omega))]
       exact hr2.all (λx=>at' l (a-1)≤x) (g7 ha) k m1 m2)
      simp only[cond_true,e2,bs]
      cases hy:y2.1
      ·exact⟨.inl y2.2,rfl,hr2.trans d1⟩
      ·exact⟨.inr y2.2,rfl,hr2.trans d1,d2 hy⟩
    rintro(q|q) hq
    case inr=>
     exact⟨.inr q,rfl,fin q hq.1 hq.2⟩
    dsimp only at hq ⊢
    clear hr2 hl2
    have hr2:Rg a b l q:=hq
    have hl2:=hr2.len
    have hGq:Good q:=(hR.trans (hr2.widen g1 g3 h1)).good hG
    have hO2:=hO.keep hr2 h1 g1 g3
    have g7':0<a→∀k,a≤k→k<b→at' q (a-1)≤at' q k:=λha k m1 m2=>by
     rw[hr2.out (a-1) (by omega) (.inl (by omega))]
     exact hr2.all (λx=>at' l (a-1)≤x) (g7 ha) k m1 m2
    refine Cw (λc:Bool=>c=true→0<a∧at' q p≤at' q (a-1)) ?_ ?_
    ·by_cases ha:0<a
     ·have r1:idx q (a-1)=some (el q (a-1)):=By (by omega) (by omega)
      have r2:idx q p=some (el q p):=By (by omega) (by omega)
      rw[w64 (show-9223372036854775808≤a-1 by omega) (by omega)]
      obtain⟨v,cv,hv⟩:=C4 hGq (i:=a-1) (j:=p) (by omega) (by omega) (by omega) (by omega)
      simp only[ha,decide_true,cond_true,r1,r2,cv,hv,bs]
      exact⟨_,rfl,λh=>⟨by trivial,by simpa using h⟩⟩
     ·simp only[ha,decide_false,cond_false]
      exact⟨_,rfl,λh=>by cases h⟩
    intro c hc
    cases c
    ·
     simp only[cond_false]
     obtain⟨⟨mid,par',l3⟩,e3,P⟩:=partition_spec q a b p (by omega) (by omega) (by omega) hGq p1 p2
     rw[e3,bs]
     obtain⟨hr3,m1,m2,m3,m4⟩:=P
     dsimp only at hr3 m1 m2 m3 m4 ⊢
     have hl3:=hr3.len
     have hO3:=hO2.keep hr3 h1 g1 g3
     have g7'':0<a→∀k,a≤k→k<b→at' l3 (a-1)≤at' l3 k:=λha k n1 n2=>by
      rw[hr3.out (a-1) (by omega) (.inl (by omega))]
      exact hr3.all (λx=>at' q (a-1)≤x) (g7' ha) k n1 n2
     have hR3:Rg a0 b0 l0 l3:=hR.trans ((hr2.trans hr3).widen g1 g3 h1)
     rw[w64 (show-9223372036854775808≤mid-a by omega) (by omega),w64 (show-9223372036854775808≤b-mid by omega) (by omega),w64 (show-9223372036854775808≤mid+1 by omega) (by omega)]
     by_cases hside:mid-a<b-mid
     ·simp only[hside,decide_true,cond_true]
      obtain⟨l4,e4,r4,s4⟩:=ih l3 a mid lm1 (by omega) m1 (by omega) (by omega) (hR3.good hG) k2 k3 (λha k n1 n2=>g7'' ha k n1 (by omega)) (by omega)
      rw[e4,bs]
      have hl4:=r4.len
      have em:∀k,mid≤k→at' l4 k=at' l3 k:=λk hk=>r4.out k (by omega) (.inr hk)
      have lf:∀k,a≤k→k<mid→at' l4 k≤at' l4 mid:=λk n1 n2=>by
       rw[em mid (Int.le_refl _)];exact r4.all (λx=>x≤at' l3 mid) m3 k n1 n2
      refine⟨.inl _,rfl,⟨hR3.trans (r4.widen g1 (by omega) h1),?_,by dsimp only;omega,by dsimp only;omega,g3,k2,k3,?_⟩,by dsimp only;omega⟩
      ·have hO4:=hO3.keep (r4.widen (Int.le_refl a) (by omega) (by omega)) h1 g1 g3
       intro i j n1 n2 n3 n4
       dsimp only at n4 ⊢
       by_cases hin:a≤i∧j<b
       ·by_cases hj:j<mid
        ·exact s4 i j hin.1 n2 hj
        ·have hi:i≤mid:=by omega
         have e1:at' l4 i≤at' l4 mid:=by
          by_cases e:i=mid
          ·rw[e];exact Int.le_refl _
          ·exact lf i hin.1 (by omega)
         have e2:at' l4 mid≤at' l4 j:=by
          by_cases e:j=mid
          ·rw[e];exact Int.le_refl _
          ·rw[em mid (Int.le_refl _),em j (by omega)];exact m4 j (by omega) hin.2
         omega
       ·exact hO4 i j n1 n2 n3 hin
      ·intro _ k n1 n2
       dsimp only at n1 n2 ⊢
       rw[show mid+1-1=mid by omega,em mid (Int.le_refl _),em k (by omega)]
       exact m4 k (by omega) n2
     ·simp only[hside,decide_false,cond_false]
      obtain⟨l4,e4,r4,s4⟩:=ih l3 (mid+1) b lm1 (by omega) (by omega) (by omega) (by omega) (hR3.good hG) k2 k3 (λ_ k n1 n2=>by rw[show mid+1-1=mid by omega];exact m4 k (by omega) n2) (by omega)
      rw[e4,bs]
      have hl4:=r4.len
      have em:∀k,0≤k→k≤mid→at' l4 k=at' l3 k:=λk h0 hk=>r4.out k h0 (.inl (by omega))
      have rt:∀k,mid<k→k<b→at' l4 mid≤at' l4 k:=λk n1 n2=>by
       rw[em mid (by omega) (Int.le_refl _)];exact r4.all (λx=>at' l3 mid≤x) (λk q1 q2=>m4 k (by omega) q2) k (by omega) n2
      refine⟨.inl _,rfl,⟨hR3.trans (r4.widen (by omega) g3 h1),?_,g1,m1,by dsimp only;omega,k2,k3,?_⟩,by dsimp only;omega⟩
      ·have hO4:=hO3.keep (r4.widen (by omega) (Int.le_refl b) (by omega)) h1 g1 g3
       intro i j n1 n2 n3 n4
       dsimp only at n4 ⊢
       by_cases hin:a≤i∧j<b
       ·by_cases hi:mid<i
        ·exact s4 i j (by omega) n2 hin.2
        ·have hj:mid≤j:=by omega
         have e1:at' l4 i≤at' l4 mid:=by
          by_cases e:i=mid
          ·rw[e];exact Int.le_refl _
          ·rw[em i (by omega) (by omega),em mid (by omega) (Int.le_refl _)];exact m3 i hin.1 (by omega)
         have e2:at' l4 mid≤at' l4 j:=by
          by_cases e:j=mid
          ·rw[e];exact Int.le_refl _
          ·exact rt j (by omega) hin.2
         omega
       ·exact hO4 i j n1 n2 n3 hin
      ·intro ha k n1 n2
       dsimp only at ha n1 n2 ⊢
       rw[em (a-1) (by omega) (by omega),em k (by omega) (by omega)]
       exact g7'' ha k n1 (by omega)
    ·
     simp only[cond_true]
     obtain⟨hc1,hc2⟩:=hc rfl
     obtain⟨⟨mid,l3⟩,e3,hr3,m1,m2,m3,m4⟩:=E3 q a b p (by omega) (by omega) (by omega) hGq p1 p2
     rw[e3,bs]
     dsimp only at hr3 m1 m2 m3 m4 ⊢
     have hl3:=hr3.len
     have hO3:=hO2.keep hr3 h1 g1 g3
     have lw:∀k,a≤k→k<b→at' q p≤at' l3 k:=λk n1 n2=>
      hr3.all (λx=>at' q p≤x) (λk q1 q2=>Int.le_trans hc2 (g7' hc1 k q1 q2)) k n1 n2
     refine⟨.inl _,rfl,⟨hR.trans ((hr2.trans hr3).widen g1 g3 h1),?_,by dsimp only;omega,m2,g3,k2,k3,?_⟩,by dsimp only;omega⟩
     ·intro i j n1 n2 n3 n4
      dsimp only at n4 ⊢
      by_cases hin:a≤i∧j<b
      ·have:=m3 i hin.1 (by omega)
       have:=lw j (by omega) hin.2
       omega
      ·exact hO3 i j n1 n2 n3 hin
     ·intro _ k n1 n2
      dsimp only at n1 n2 ⊢
      have:=m3 (mid-1) (by omega) (by omega)
      have:=m4 k n1 n2
      omega
  ·exact⟨Rg.refl _ _ _,λi j n1 n2 n3 n4=>by dsimp only at n4;omega,Int.le_refl _,h2,Int.le_refl _,h7,h8,h9⟩
  ·rintro r hr
   exact⟨r,rfl,hr⟩
theorem sort_spec (l:List α)(hG:Good l)(hlen:l.length≤1000000):∃l',DG.Sort Srtd.cmp l=some l'∧List.Perm l' l∧Srt l' 0 l'.length:=by
 unfold DG.Sort
 rw[wu64 (by omega) (by omega)]
 unfold D.d0
 rw[if_pos (by omega),bs]
 have hb:Lib.bitLen l.length≤64:=by
  by_cases h:1≤l.length
  ·obtain⟨_,k2⟩:=FN l.length h (by omega)
   apply Classical.byContradiction
   intro hc
   have:2^22≤2^Lib.bitLen l.length:=Nat.pow_le_pow_right (by omega) (by omega)
   omega
  ·have:l.length=0:=by omega
   rw[this];decide
 have hf:=Eu
 obtain⟨l',e,r,s⟩:=pdqsort_spec BL l 0 (l.length:Int) ((Lib.bitLen l.length:Nat):Int) (Int.le_refl _) (by omega) (Int.le_refl _) (by omega) hG (by omega) (by omega) (λh=>by omega) (by omega)
 unfold DG.pdqsort
 rw[Int.toNat_natCast,e]
 refine⟨l',rfl,r.perm,?_⟩
 rw[r.len];exact s
end Go.Sx.Gs

namespace Go.Sx
theorem F4 :D.e2=DG.insertionSort (λa b:Value×LI=>D.b a.2 b.2):=by kernel_rfl
theorem st_heapSort :D.a2=DG.heapSort (λa b:Value×LI=>D.b a.2 b.2):=by kernel_rfl
theorem F2 :D.Q1=DG.breakPatterns (λa b:Value×LI=>D.b a.2 b.2):=by kernel_rfl
theorem st_choosePivot :D.o2=DG.choosePivot (λa b:Value×LI=>D.b a.2 b.2):=by kernel_rfl
theorem F9 :D.p2=DG.reverseRange (λa b:Value×LI=>D.b a.2 b.2):=by kernel_rfl
theorem Eh :D.m2=DG.partialInsertionSort (λa b:Value×LI=>D.b a.2 b.2):=by kernel_rfl
theorem FH :D.g2=DG.partitionEqual (λa b:Value×LI=>D.b a.2 b.2):=by kernel_rfl
theorem st_partition :D.q2=DG.partition (λa b:Value×LI=>D.b a.2 b.2):=by kernel_rfl
theorem st_pdqsort :∀(n:Nat) x a b c,D.e0 n x a b c=DG.pdqsortR (λa b:Value×LI=>D.b a.2 b.2) n x a b c
 |0,_,_,_,_=>rfl
 |n+1,x,a,b,c=>by
  unfold D.e0 DG.pdqsortR
  rw[F4,st_heapSort,F2,st_choosePivot,F9,Eh,FH,st_partition,funext (λx=>funext λa=>funext λb=>funext λc=>st_pdqsort n x a b c)]
  kernel_rfl
theorem st_Sort (x):D.h0 x=DG.Sort (λa b:Value×LI=>D.b a.2 b.2) x:=by
 unfold D.h0 DG.Sort D.x DG.pdqsort
 simp only[st_pdqsort]
theorem isNaN_no (x:Int):D.I0 x=some false:=by unfold D.I0;simp
theorem cmp64 (x y:Int):D.l1 x y=some (if x<y then-1 else if y<x then 1 else 0):=by
 unfold D.l1
 simp only[isNaN_no,bs,cond_false]
 by_cases h:x<y
 ·simp[h]
 ·by_cases h':y<x
  ·simp[h,h']
  ·simp[h,h']
theorem list2 {l:LI}(h:l.length=2):∃a b,l=[a,b]:=by
 match l,h with
 |[a,b],_=>exact⟨a,b,rfl⟩
theorem compare2 (a b c d:Int):D.b [a,b] [c,d]=some (if a<c then-1 else if c<a then 1 else if b<d then-1 else if d<b then 1 else 0):=by
 unfold D.b
 have i0:∀x y:Int,idx [x,y] 0=some x:=λx y=>by unfold idx;simp
 have i1:∀x y:Int,idx [x,y] 1=some y:=λx y=>by unfold idx;simp
 have w1:IntKind.i64.wrap 1=1:=by decide
 have w2:IntKind.i64.wrap 2=2:=by decide
 by_cases h1:a<c
 ·rw[Bd (r:= .inr (-1)) (by simp[i0,cmp64,h1])];simp[h1]
 ·by_cases h2:c<a
  ·rw[Bd (r:= .inr 1) (by simp[i0,cmp64,h1,h2])];simp[h1,h2]
  ·rw[BF (s':=1) (by simp[i0,cmp64,h1,h2,w1])]
   by_cases h3:b<d
   ·rw[Bd (r:= .inr (-1)) (by simp[i1,cmp64,h3])];simp[h1,h2,h3]
   ·by_cases h4:d<b
    ·rw[Bd (r:= .inr 1) (by simp[i1,cmp64,h3,h4])];simp[h1,h2,h3,h4]
    ·rw[BF (s':=2) (by simp[i1,cmp64,h3,h4,w2]),Bd (r:= .inl ()) (by simp)];simp[h1,h2,h3,h4]
noncomputable abbrev byRow :Gs.Srtd (Value×LI) where
 dflt:=(.bool false,[])
 key:=λz=>Bt z.2
 good:=λz=>Co z.2
 cmp:=λa b=>D.b a.2 b.2
 law:=by
  rintro⟨v,x⟩ ⟨u,y⟩ ⟨h1,h2,h3,h4,h5⟩ ⟨k1,k2,k3,k4,k5⟩
  obtain⟨a,b,rfl⟩:=list2 h1
  obtain⟨c,d,rfl⟩:=list2 k1
  refine⟨_,compare2 a b c d,?_⟩
  simp only[List.getD_cons_zero,List.getD_cons_succ] at*
  rw[decide_eq_decide]
  unfold Bt
  simp only[List.getD_cons_zero,List.getD_cons_succ]
  repeat' split
  all_goals constructor<;>intro _<;>omega
theorem row_inj {x y:LI}(hx:Co x)(hy:Co y)(h:Bt x=Bt y):x=y:=by
 obtain⟨h1,h2,h3,h4,h5⟩:=hx
 obtain⟨k1,k2,k3,k4,k5⟩:=hy
 obtain⟨a,b,rfl⟩:=list2 h1
 obtain⟨c,d,rfl⟩:=list2 k1
 unfold Bt at h
 simp only[List.getD_cons_zero,List.getD_cons_succ] at*
 have:a=c:=by omega
 subst this
 have:b=d:=by omega
 subst this
 rfl
theorem Fp {xs ys:LL}(hp:xs.Perm ys)(hg:∀x∈ys,Co x)(h1:xs.Pairwise (λa b=>Bt a≤Bt b))(h2:ys.Pairwise (λa b=>Bt a≤Bt b)):xs=ys:=by
 refine hp.eq_of_pairwise (λa b ha hb k1 k2=> ?_) h1 h2
 exact row_inj (hg a (hp.mem_iff.1 ha)) (hg b hb) (by omega)
theorem BU (xs:LL):(xs.mergeSort B5).Perm xs:=List.mergeSort_perm _ _
theorem DB (xs:LL):(xs.mergeSort B5).Pairwise (λa b=>Bt a≤Bt b):=by
 have:=List.pairwise_mergeSort (le:=B5) (λa b c=>by unfold B5;simp only[decide_eq_true_eq];omega) (λa b=>by unfold B5;rw[Bool.or_eq_true,decide_eq_true_eq,decide_eq_true_eq];omega) xs
 exact this.imp (λh=>by unfold B5 at h;exact of_decide_eq_true h)
theorem sortRows_ok {xs ys:LL}(hl:xs.length≤1000000)(hg:∀x∈xs,Co x)(hp:ys.Perm xs)(hs:ys.Pairwise (λa b=>Bt a≤Bt b)):CO xs=some ys:=by
 unfold CO
 rw[if_pos ⟨hl,hg⟩]
 congr 1
 exact Fp ((BU xs).trans hp.symm) (λx hx=>hg x (hp.mem_iff.1 hx)) (DB xs) hs
theorem BB {xs ys:LL}(h:CO xs=some ys){Z:List (Value×LI)}(hZ:Z.map (·.2)=xs):
  ∃zs,D.h0 Z=some zs∧zs.Perm Z∧zs.map (·.2)=ys:=by
 unfold CO at h
 split at h
 ·rename_i hc
  obtain rfl:=Option.some.inj h
  obtain⟨hl,hg⟩:=hc
  have hgZ:∀z∈Z,Co z.2:=λz hz=>hg _ (by rw[←hZ];exact List.mem_map.2 ⟨z,hz,rfl⟩)
  obtain⟨zs,e,hp,hs⟩:= @Gs.sort_spec (Value×LI) byRow Z hgZ (by rw[←hZ] at hl;simpa using hl)
  refine⟨zs,by rw[st_Sort];exact e,hp,?_⟩
  refine Fp (((hp.map (·.2)).trans (by rw[hZ])).trans (BU xs).symm) (λx hx=>hg x ((BU xs).mem_iff.1 hx)) ?_ (DB xs)
  rw[List.pairwise_iff_getElem]
  intro i j hi hj hij
  have:=hs i j (by omega) (by omega) (by simp at hj;omega)
  simp only[List.length_map] at hi hj
  unfold Gs.at' Gs.el at this
  simp only[Int.toNat_natCast,List.getD_eq_getElem?_getD,List.getElem?_eq_getElem hi,List.getElem?_eq_getElem hj,Option.getD_some] at this
  have e:Bt zs[i].2≤Bt zs[j].2:=this
  simpa using e
 ·cases h
theorem RSl.notNil {α:Type}{R:Rep α}{G:GH}{v:Value}{xs:List α}{u:Unit}(h:RSl R G v xs)(hx:nonE xs=some u):C7 v=xs.isEmpty:=by
 obtain⟨vs,hA,h2⟩:=h
 cases xs with
 |nil=>cases hx
 |cons x xs=>
  rcases h2 with⟨_,h4⟩|⟨a,c,h3,h4⟩
  ·simp at h4
  ·rw[h3];rfl
end Go.Sx

set_option maxRecDepth 100000
namespace Go.Proofs.YtkoehcencogjpaaGreatDoor
open Go Go.Sx
open Go.Proofs.Tryz Go.Proofs.YtkoehcencogjpaaGreatDoor.Tryz IntKind
variable {W w : World} {G : GH} {H : List Itm}
theorem AM :prog.follows .mixedOrders=true:=by kernel_rfl
theorem Pl2 :B4 prog 2:=isAgg2
theorem T26 :SlT prog 26 2 1 8 (iv 0):=⟨underlying26,Tryz.t2,by kernel_rfl,by kernel_rfl,by kernel_rfl,by kernel_rfl⟩
theorem Pl5 :B4 prog 5:=isAgg5
theorem Pl163 :B4 prog 163:=isAgg163
theorem T22 :SlT prog 22 26 1 24 sn:=⟨underlying22,Tryz.t26,by kernel_rfl,by kernel_rfl,by kernel_rfl,by kernel_rfl⟩
theorem T61 :SlT prog 61 74 1 4 (.int .u32 0):=⟨underlying61,Tryz.t74,by kernel_rfl,by kernel_rfl,by kernel_rfl,by kernel_rfl⟩
theorem AT :B4 prog 26:=isAgg26
theorem C3 :B4 prog 74:=isAgg74
theorem Wk.f2 {v0:Value}{x0:LI}{x1:Int}(m:Mem W G w (H))(h0:R1 G v0 x0){y:Int}(hd:D.f2 x0 x1=some y):
  Calls prog 121 #[v0,(iv x1)] w (Res W G H (λ_ Ho v=>Ho=[]∧v=(iv y))):=by
 refine Ar (args:=[v0,(iv x1)]) (N:=19) [.tmp 4] func121 Z Z (lb Z) Z λa f=> ?_
 unfold D.f2 at hd
 refine Ae ?_
 refine Ac f Z λa f=>Aa (Ag (Ae ?_))
 refine Ab f Z λa f=>AO underlying26 f Z Z h0 λa f=>Ab f Z λa f=>Aa ?_
 have⟨aa,ab,hd⟩:=bind_some hd
 refine AH (λa w=>∃q_19':Unit,aa= .inl q_19'∧∃(ac:GH),GLe G ac∧Fr a 19 []∧Mem W ac w (H)) ?_ ?_
 ·refine Ak ?_
  refine AC (λad a w=>∃ae:Int,ae=ad∧∃(af:GH),GLe G af∧Fr a 19 [(0,v0),(1,(iv x1)),(7,(iv (x0.length:Int))),(8,(iv ae))]∧Mem W af w (H)) ab ⟨_,Z,_,gr,f.k Z,m⟩ ?_
  clear ab f m
  rintro ad ag ah ai a w ⟨ae,rfl,af,aj,f,m⟩
  have h0:=rd1 aj h0
  refine Ae ?_
  refine Ai f Z Z AE λa f=>Aa (Ag ?_)
  rcases Af ah with⟨ak,ah⟩|⟨ak,ah⟩
  ·refine Al f Z ak ?_
   refine Am ?_
   refine Ag (Ak (Ae ?_))
   refine Ab f Z λa f=>Ac f Z λa f=>Ay ?_
   refine Ab f Z λa f=>Ab f Z λa f=>Ab f Z λa f=> ?_
   have⟨al,am,ah⟩:=bind_some ah
   refine A2 T26 f Z Z Z h0 am λan ao a ap aq f=> ?_
   subst aq
   refine Ax m Pl2 f Z Z ap λa f=>Ai f Z Z BS λa f=>Aa ?_
   rcases Af ah with⟨ar,ah⟩|⟨ar,ah⟩
   ·refine Al f Z ar ?_
    refine Ae ?_
    refine Ab f Z λa f=>Ac f Z λa f=>Aa ?_
    refine Aq ?_
    obtain rfl:=sj ah
    obtain rfl:=ai _ rfl
    obtain rfl:=sj hd
    exact⟨[(iv ae)],f.g Z,f.d,_,[],aj,m,Z,Z⟩
   ·refine Ah f Z ar ?_
    refine Am ?_
    refine Aj ?_
    refine Ai f Z Z Aw λa f=>Ab f Z λa f=>Aa ?_
    obtain rfl:=sj ah
    exact⟨_,Z,_,Z,_,aj,f.k Z,m⟩
  ·refine Ah f Z ak ?_
   refine AA Z ?_
   obtain rfl:=sj ah
   obtain rfl:=ai _ rfl
   exact⟨_,Z,_,aj,f.weak trivial,m⟩
 ·rintro a w ⟨_,rfl,ac,au,f,m⟩
  refine Ae ?_
  refine Ac f Z λa f=>Aa ?_
  refine Aq ?_
  obtain rfl:=sj hd
  exact⟨[(iv (-1))],f.g Z,f.d,_,[],au,m,Z,Z⟩
theorem Wk.E0 {v0:Value}{x0:LI}{x1:Int}(m:Mem W G w (H))(h0:R1 G v0 x0){y:Bool}(hd:D.E0 x0 x1=some y):
  Calls prog 78 #[v0,(iv x1)] w (Res W G H (λ_ Ho v=>Ho=[]∧v=(.bool y))):=by
 refine Ar (args:=[v0,(iv x1)]) (N:=9) [.tmp 4] func78 Z Z (lb Z) Z λa f=> ?_
 unfold D.E0 at hd
 refine Ae ?_
 refine Ac f Z λa f=>Ay ?_
 refine Ab f Z λa f=>Ab f Z λa f=> ?_
 have⟨aa,ab,hd⟩:=bind_some hd
 refine A6 f Z call121 (Wk.f2 m h0 ab) λac w ad m a f=>Ai f Z Z Cs λa f=>Ac f Z λa f=>Aa ?_
 refine Aq ?_
 obtain rfl:=sj hd
 exact⟨[(.bool (decide ((0:Int)≤aa)))],f.g Z,f.d,_,[],ad,m,Z,Z⟩
theorem Wk.T1 {x0:Int}(hW:Cr W)(m:Mem W G w (H)){y:Int}(hd:D.T1 x0=some y):
  Calls prog 132 #[(.int .u32 x0)] w (Res W G H (λ_ Ho v=>Ho=[]∧v=(iv y))):=by
 refine Ar (args:=[(.int .u32 x0)]) (N:=14) [.tmp 2] func132 Z Z (lb Z) Z λa f=> ?_
 unfold D.T1 at hd
 refine Ae ?_
 refine Ac f Z λa f=>Aa (Ag (Ae ?_))
 refine Ab f Z λa f=>Ai f Z Z BS λa f=>Aa ?_
 rcases Af hd with⟨aa,hd⟩|⟨aa,hd⟩
 ·refine Al f Z aa ?_
  refine Ae ?_
  refine Ac f Z λa f=>Aa ?_
  refine Aq ?_
  obtain rfl:=sj hd
  exact⟨[(iv 32)],f.g Z,f.d,_,[],gr,m,Z,Z⟩
 ·refine Ah f Z aa ?_
  refine Am ?_
  refine Ae ?_
  refine Ab f Z λa f=>Ab f Z λa f=>l_o f (r_neg (f.e Z)) λa f=>Ai f Z Z DO λa f=>Ai f Z Z DX λa f=>l_o f (r_shr (f.e Z) (f.e Z) (by decide)) λa f=> ?_
  have⟨ab,ac,hd⟩:=bind_some hd
  refine l_tab hW m underlying161 sizeOf5 f Z Z ac λad a ae f=>Ax m Pl5 f Z Z ae λa f=>l_o f (Ez (f.e Z) ⟨_,underlying5⟩ underlying3) λa f=>Ac f Z λa f=>Aa ?_
  refine Aq ?_
  obtain rfl:=sj hd
  exact⟨[(iv (i64.wrap ab))],f.g Z,f.d,_,[],gr,m,Z,Z⟩
theorem Wk.a1 {x0:Int}(m:Mem W G w (H)){y:Int}(hd:D.a1 x0=some y):
  Calls prog 153 #[(.int .u32 x0)] w (Res W G H (λ_ Ho v=>Ho=[]∧v=(iv y))):=by
 refine Ar (args:=[(.int .u32 x0)]) (N:=21) [.tmp 2] func153 Z Z (lb Z) Z λa f=> ?_
 unfold D.a1 at hd
 refine Ae ?_
 refine Ac f Z λa f=>Aa (Ag ?_)
 refine A3 19 AM (by kernel_rfl) m ?_
 refine Ao 0 19 Z f Z λa f=>q_p 1 19 Z f (λ_=>r_shr (f.e Z) (f.e Z) (by decide)) λa f=> ?_
 have⟨aa,ab,hd⟩:=bind_some hd
 refine q_p 2 19 Z f (λ_=>Fz (f.e Z) (f.e Z) underlying9 ab) λa f=>Ao 3 19 Z f Z λa f=>q_p 4 19 Z f (λ_=>r_shr (f.e Z) (f.e Z) (by decide)) λa f=>q_p 5 19 Z f (λ_=>AV (f.e Z) (f.e Z) DO) λa f=> ?_
 have⟨ac,ad,hd⟩:=bind_some hd
 refine q_p 6 19 Z f (λ_=>Fz (f.e Z) (f.e Z) underlying9 ad) λa f=>q_p 7 19 Z f (λ_=>AV (f.e Z) (f.e Z) Aw) λa f=>Ao 8 19 Z f Z λa f=>q_p 9 19 Z f (λ_=>r_shr (f.e Z) (f.e Z) (by decide)) λa f=>q_p 10 19 Z f (λ_=>AV (f.e Z) (f.e Z) DO) λa f=> ?_
 have⟨ae,af,hd⟩:=bind_some hd
 refine q_p 11 19 Z f (λ_=>Fz (f.e Z) (f.e Z) underlying9 af) λa f=>q_p 12 19 Z f (λ_=>AV (f.e Z) (f.e Z) Aw) λa f=>Ao 13 19 Z f Z λa f=>q_p 14 19 Z f (λ_=>AV (f.e Z) (f.e Z) DO) λa f=> ?_
 have⟨ag,ah,hd⟩:=bind_some hd
 refine q_p 15 19 Z f (λ_=>Fz (f.e Z) (f.e Z) underlying9 ah) λa f=>q_p 16 19 Z f (λ_=>AV (f.e Z) (f.e Z) Aw) λa f=>q_p 17 19 Z f (λ_=>Ez (f.e Z) ⟨_,underlying5⟩ underlying3) λa f=>q_p 18 19 Z f (λ_=>Br (f.e Z)) λa f=>AU λai w aj m=>Aa ?_
 refine Aq ?_
 obtain rfl:=sj hd
 exact⟨[(iv (i64.wrap (IntKind.u8.wrap ((IntKind.u8.wrap ((IntKind.u8.wrap (aa+ac))+ae))+ag))))],f.g Z,f.d,_,[],aj,m,Z,Z⟩
theorem Wk.P0 {x0:Int}(m:Mem W G w (H)){y:Int}(hd:D.P0 x0=some y):
  Calls prog 156 #[(iv x0)] w (Res W G H (λ_ Ho v=>Ho=[]∧v=(.int .u64 y))):=by
 refine Ar (args:=[(iv x0)]) (N:=7) [.tmp 2] func156 Z Z (lb Z) Z λa f=> ?_
 unfold D.P0 at hd
 refine Ae ?_
 refine Ac f Z λa f=>Ay ?_
 refine Ab f Z λa f=>l_o f (Ez (f.e Z) ⟨_,underlying3⟩ underlying136) λa f=> ?_
 have⟨aa,ab,hd⟩:=bind_some hd
 refine AL f Z call123 (Wk.d0 m ab) λac ad ae w af m ag a f=> ?_
 obtain⟨rfl,rfl⟩:=ag
 obtain⟨ah,hd⟩:=Fh hd
 refine l_o f (r_shl (f.e Z) (f.e Z) ah) λa f=>Ac f Z λa f=>Aa ?_
 refine Aq ?_
 obtain rfl:=sj hd
 exact⟨[(.int .u64 (ishl .u64 1 aa))],f.g Z,f.d,_,[],af,m,Z,Z⟩
theorem Wk.N1 {b0:Nat}{aa:Int}(m:Mem W G w (ib b0 163 [(.int .u64 aa)]::H)){y:Int×Int}(hd:D.N1 aa=some y):
  Calls prog 157 #[(pb b0)] w (Res W G H (λ_ Ho v=>Ho=[ib b0 163 [(.int .u64 y.2)]]∧v=(.int .u64 y.1))):=by
 refine Ar (args:=[(pb b0)]) (N:=33) [.tmp 2] func157 Z Z (lb Z) Z λa f=> ?_
 unfold D.N1 at hd
 refine Ae ?_
 refine Ac f Z λa f=>Aa (Ag ?_)
 refine A3 9 AM (by kernel_rfl) m ?_
 refine Ao 0 9 Z f Z λa f=>q_p 1 9 Z f (λ_=>BQ (f.e Z)) λa f=>BK 2 9 0 Pl163 Z Z Z f Z λa f=>Ao 3 9 Z f Z λa f=>q_p 4 9 Z f (λ_=>BQ (f.e Z)) λa f=>BK 5 9 0 Pl163 Z Z Z f Z λa f=>q_p 6 9 Z f (λ_=>r_shl (f.e Z) (f.e Z) (by decide)) λa f=>q_p 7 9 Z f (λ_=>AV (f.e Z) (f.e Z) b_xor) λa f=>q_p 8 9 Z f (λ_=>BQ (f.e Z)) λa f=>AU λab w ac m=>Az 0 0 (ds:=[(.int .u64 (BC .u64 aa (ishl .u64 aa 13)))]) m sizeOf163 f Z Z Z (An Z AK) Z (lb Z) Z λw m=>Aa (Ag ?_)
 refine A3 9 AM (by kernel_rfl) m ?_
 refine Ao 0 9 Z f Z λa f=>q_p 1 9 Z f (λ_=>BQ (f.e Z)) λa f=>BK 2 9 0 Pl163 Z Z Z f Z λa f=>Ao 3 9 Z f Z λa f=>q_p 4 9 Z f (λ_=>BQ (f.e Z)) λa f=>BK 5 9 0 Pl163 Z Z Z f Z λa f=>q_p 6 9 Z f (λ_=>r_shr (f.e Z) (f.e Z) (by decide)) λa f=>q_p 7 9 Z f (λ_=>AV (f.e Z) (f.e Z) b_xor) λa f=>q_p 8 9 Z f (λ_=>BQ (f.e Z)) λa f=>AU λad w ae m=>Az 0 0 (ds:=[(.int .u64 (BC .u64 (BC .u64 aa (ishl .u64 aa 13)) (Cp .u64 (BC .u64 aa (ishl .u64 aa 13)) 7)))]) m sizeOf163 f Z Z Z (An Z AK) Z (lb Z) Z λw m=>Aa (Ag ?_)
 refine A3 9 AM (by kernel_rfl) m ?_
 refine Ao 0 9 Z f Z λa f=>q_p 1 9 Z f (λ_=>BQ (f.e Z)) λa f=>BK 2 9 0 Pl163 Z Z Z f Z λa f=>Ao 3 9 Z f Z λa f=>q_p 4 9 Z f (λ_=>BQ (f.e Z)) λa f=>BK 5 9 0 Pl163 Z Z Z f Z λa f=>q_p 6 9 Z f (λ_=>r_shl (f.e Z) (f.e Z) (by decide)) λa f=>q_p 7 9 Z f (λ_=>AV (f.e Z) (f.e Z) b_xor) λa f=>q_p 8 9 Z f (λ_=>BQ (f.e Z)) λa f=>AU λaf w ag m=>Az 0 0 (ds:=[(.int .u64 (BC .u64 (BC .u64 (BC .u64 aa (ishl .u64 aa 13)) (Cp .u64 (BC .u64 aa (ishl .u64 aa 13)) 7)) (ishl .u64 (BC .u64 (BC .u64 aa (ishl .u64 aa 13)) (Cp .u64 (BC .u64 aa (ishl .u64 aa 13)) 7)) 17)))]) m sizeOf163 f Z Z Z (An Z AK) Z (lb Z) Z λw m=>Ay ?_
 refine Ab f Z λa f=>l_o f (BQ (f.e Z)) λa f=>AJ 0 0 m Pl163 f Z Z Z Z λa f=>Ac f Z λa f=>Aa ?_
 refine Aq ?_
 obtain rfl:=sj hd
 exact⟨[(.int .u64 (BC .u64 (BC .u64 (BC .u64 aa (ishl .u64 aa 13)) (Cp .u64 (BC .u64 aa (ishl .u64 aa 13)) 7)) (ishl .u64 (BC .u64 (BC .u64 aa (ishl .u64 aa 13)) (Cp .u64 (BC .u64 aa (ishl .u64 aa 13)) 7)) 17)))],f.g Z,f.d,_,[ib b0 163 [(.int .u64 (BC .u64 (BC .u64 (BC .u64 aa (ishl .u64 aa 13)) (Cp .u64 (BC .u64 aa (ishl .u64 aa 13)) 7)) (ishl .u64 (BC .u64 (BC .u64 aa (ishl .u64 aa 13)) (Cp .u64 (BC .u64 aa (ishl .u64 aa 13)) 7)) 17)))]],(gt ac (gt ae ag)),m,Z,Z⟩
theorem Wk.I0 {x0:Int}(m:Mem W G w (H)){y:Bool}(hd:D.I0 x0=some y):
  Calls prog 152 #[(iv x0)] w (Res W G H (λ_ Ho v=>Ho=[]∧v=(.bool y))):=by
 refine Ar (args:=[(iv x0)]) (N:=6) [.tmp 2] func152 Z Z (lb Z) Z λa f=> ?_
 unfold D.I0 at hd
 refine Ae ?_
 refine Ac f Z λa f=>Ay ?_
 refine Ab f Z λa f=>Ab f Z λa f=>Ai f Z Z B8 λa f=>Ac f Z λa f=>Aa ?_
 refine Aq ?_
 obtain rfl:=sj hd
 exact⟨[(.bool (x0 !=x0))],f.g Z,f.d,_,[],gr,m,Z,Z⟩
theorem Wk.l1 {x0 x1:Int}(m:Mem W G w (H)){y:Int}(hd:D.l1 x0 x1=some y):
  Calls prog 124 #[(iv x0),(iv x1)] w (Res W G H (λ_ Ho v=>Ho=[]∧v=(iv y))):=by
 refine Ar (args:=[(iv x0),(iv x1)]) (N:=20) [.tmp 4] func124 Z Z (lb Z) Z λa f=> ?_
 unfold D.l1 at hd
 refine Ae ?_
 refine Ac f Z λa f=>Ay ?_
 refine Ab f Z λa f=> ?_
 have⟨aa,ab,hd⟩:=bind_some hd
 refine A6 f Z call152 (Wk.I0 m ab) λac w ad m a f=>Ac f Z λa f=>Ay ?_
 refine Ab f Z λa f=> ?_
 have⟨ae,af,hd⟩:=bind_some hd
 refine A6 f Z call152 (Wk.I0 m af) λag w ah m a f=>Ac f Z λa f=>Aa (Ag (Ae ?_))
 refine Ab f Z λa f=>Aa ?_
 rcases Af hd with⟨ai,hd⟩|⟨ai,hd⟩
 ·refine Al f Z ai ?_
  refine Ag (Ae ?_)
  refine Ab f Z λa f=>Aa ?_
  rcases Af hd with⟨aj,hd⟩|⟨aj,hd⟩
  ·refine Al f Z aj ?_
   refine Ae ?_
   refine Ac f Z λa f=>Aa ?_
   refine Aq ?_
   obtain rfl:=sj hd
   exact⟨[(iv 0)],f.g Z,f.d,_,[],(gt ad ah),m,Z,Z⟩
  ·refine Ah f Z aj ?_
   refine Am ?_
   refine Ae ?_
   refine Ac f Z λa f=>Aa ?_
   refine Aq ?_
   obtain rfl:=sj hd
   exact⟨[(iv (-1))],f.g Z,f.d,_,[],(gt ad ah),m,Z,Z⟩
 ·refine Ah f Z ai ?_
  refine Am ?_
  refine Ag (Ae ?_)
  refine Ab f Z λa f=>Aa ?_
  rcases Af hd with⟨ak,hd⟩|⟨ak,hd⟩
  ·refine Al f Z ak ?_
   refine Ae ?_
   refine Ac f Z λa f=>Aa ?_
   refine Aq ?_
   obtain rfl:=sj hd
   exact⟨[(iv 1)],f.g Z,f.d,_,[],(gt ad ah),m,Z,Z⟩
  ·refine Ah f Z ak ?_
   refine Am ?_
   refine Ag (Ae ?_)
   refine Ab f Z λa f=>Ab f Z λa f=>Ai f Z Z AE λa f=>Aa ?_
   rcases Af hd with⟨al,hd⟩|⟨al,hd⟩
   ·refine Al f Z al ?_
    refine Ae ?_
    refine Ac f Z λa f=>Aa ?_
    refine Aq ?_
    obtain rfl:=sj hd
    exact⟨[(iv (-1))],f.g Z,f.d,_,[],(gt ad ah),m,Z,Z⟩
   ·refine Ah f Z al ?_
    refine Am ?_
    refine Ag (Ae ?_)
    refine Ab f Z λa f=>Ab f Z λa f=>Ai f Z Z Cf λa f=>Aa ?_
    rcases Af hd with⟨am,hd⟩|⟨am,hd⟩
    ·refine Al f Z am ?_
     refine Ae ?_
     refine Ac f Z λa f=>Aa ?_
     refine Aq ?_
     obtain rfl:=sj hd
     exact⟨[(iv 1)],f.g Z,f.d,_,[],(gt ad ah),m,Z,Z⟩
    ·refine Ah f Z am ?_
     refine Am ?_
     refine Ae ?_
     refine Ac f Z λa f=>Aa ?_
     refine Aq ?_
     obtain rfl:=sj hd
     exact⟨[(iv 0)],f.g Z,f.d,_,[],(gt ad ah),m,Z,Z⟩
theorem Wk.b {v0 v1:Value}{x0 x1:LI}(m:Mem W G w (H))(h0:R1 G v0 x0)(h1:R1 G v1 x1){y:Int}(hd:D.b x0 x1=some y):
  Calls prog 83 #[v0,v1] w (Res W G H (λ_ Ho v=>Ho=[]∧v=(iv y))):=by
 refine Ar (args:=[v0,v1]) (N:=36) [.tmp 4] func83 Z Z (lb Z) Z λa f=> ?_
 unfold D.b at hd
 refine Ae ?_
 refine Ac f Z λa f=>Aa (Ag (Ae ?_))
 refine Ab f Z λa f=>AO underlying26 f Z Z h0 λa f=>Ab f Z λa f=>Aa ?_
 have⟨aa,ab,hd⟩:=bind_some hd
 refine AH (λa w=>∃q_47':Unit,aa= .inl q_47'∧∃(ac:GH),GLe G ac∧Fr a 36 [(0,v0),(1,v1)]∧Mem W ac w (H)) ?_ ?_
 ·refine Ak ?_
  refine AC (λad a w=>∃ae:Int,ae=ad∧∃(af:GH),GLe G af∧Fr a 36 [(0,v0),(1,v1),(9,v0),(10,(iv (x0.length:Int))),(11,(iv ae))]∧Mem W af w (H)) ab ⟨_,Z,_,gr,f.k Z,m⟩ ?_
  clear ab f m
  rintro ad ag ah ai a w ⟨ae,rfl,af,aj,f,m⟩
  have h0:=rd1 aj h0
  have h1:=rd1 aj h1
  refine Ae ?_
  refine Ai f Z Z AE λa f=>Aa (Ag ?_)
  rcases Af ah with⟨ak,ah⟩|⟨ak,ah⟩
  ·refine Al f Z ak ?_
   refine Am ?_
   refine Ag (Ak (Ae ?_))
   refine Ab f Z λa f=> ?_
   have⟨al,am,ah⟩:=bind_some ah
   refine A2 T26 f Z Z Z h0 am λan ao a ap aq f=> ?_
   subst aq
   refine Ax m Pl2 f Z Z ap λa f=>Ac f Z λa f=>Ac f Z λa f=>Aa (Ag (Ae ?_))
   refine Ab f Z λa f=>Ab f Z λa f=>AO underlying26 f Z Z h1 λa f=>Ai f Z Z Cs λa f=>Aa ?_
   rcases Af ah with⟨ar,ah⟩|⟨ar,ah⟩
   ·refine Al f Z ar ?_
    refine Ae ?_
    refine Ac f Z λa f=>Aa ?_
    refine Aq ?_
    obtain rfl:=sj ah
    obtain rfl:=ai _ rfl
    obtain rfl:=sj hd
    exact⟨[(iv 1)],f.g Z,f.d,_,[],aj,m,Z,Z⟩
   ·refine Ah f Z ar ?_
    refine Am ?_
    refine Ae ?_
    refine Ab f Z λa f=>Ab f Z λa f=> ?_
    have⟨au,av,ah⟩:=bind_some ah
    refine A2 T26 f Z Z Z h1 av λaw ax a ay az f=> ?_
    subst az
    refine Ax m Pl2 f Z Z ay λa f=>Ac f Z λa f=>Ay ?_
    refine Ab f Z λa f=>Ab f Z λa f=> ?_
    have⟨aA,aB,ah⟩:=bind_some ah
    refine A6 f Z call124 (Wk.l1 m aB) λaC w aD m a f=>Ac f Z λa f=>Ay ?_
    refine Ab f Z λa f=>Ai f Z Z B8 λa f=>Aa ?_
    rcases Af ah with⟨aE,ah⟩|⟨aE,ah⟩
    ·refine Al f Z aE ?_
     refine Ae ?_
     refine Ab f Z λa f=>Ac f Z λa f=>Aa ?_
     refine Aq ?_
     obtain rfl:=sj ah
     obtain rfl:=ai _ rfl
     obtain rfl:=sj hd
     exact⟨[(iv aA)],f.g Z,f.d,_,[],(gt aj aD),m,Z,Z⟩
    ·refine Ah f Z aE ?_
     refine Am ?_
     refine Aj ?_
     refine Ai f Z Z Aw λa f=>Ab f Z λa f=>Aa ?_
     obtain rfl:=sj ah
     exact⟨_,Z,_,Z,_,(gt aj aD),f.k Z,m⟩
  ·refine Ah f Z ak ?_
   refine AA Z ?_
   obtain rfl:=sj ah
   obtain rfl:=ai _ rfl
   exact⟨_,Z,_,aj,f.k Z,m⟩
 ·rintro a w ⟨_,rfl,ac,aF,f,m⟩
  have h0:=rd1 aF h0
  have h1:=rd1 aF h1
  refine Ag (Ae ?_)
  refine Ab f Z λa f=>AO underlying26 f Z Z h0 λa f=>Ab f Z λa f=>AO underlying26 f Z Z h1 λa f=>Ai f Z Z AE λa f=>Aa ?_
  rcases Af hd with⟨aG,hd⟩|⟨aG,hd⟩
  ·refine Al f Z aG ?_
   refine Ae ?_
   refine Ac f Z λa f=>Aa ?_
   refine Aq ?_
   obtain rfl:=sj hd
   exact⟨[(iv (-1))],f.g Z,f.d,_,[],aF,m,Z,Z⟩
  ·refine Ah f Z aG ?_
   refine Am ?_
   refine Ae ?_
   refine Ac f Z λa f=>Aa ?_
   refine Aq ?_
   obtain rfl:=sj hd
   exact⟨[(iv 0)],f.g Z,f.d,_,[],aF,m,Z,Z⟩
theorem Wk.h2 {v0:Value}{x0:LL}(m:Mem W G w (H))(h0:R2 G v0 x0){y:(LL)}(hd:D.h2 x0=some y):
  Calls prog 81 #[v0] w (Res W G H (λG' Ho v=>∃r0:Value,∃i0:Itm,Ho=[i0]∧r0=v∧Ow R1 26 G' i0 r0 y)):=by
 refine Ar (args:=[v0]) (N:=8) [.tmp 2] func81 Z Z (lb Z) Z λa f=> ?_
 unfold D.h2 at hd
 refine Ae ?_
 refine Ac f Z λa f=>Aa (Ag (Ae ?_))
 refine Ab f Z λa f=>l_o f (Fc (f.e Z) (f.e Z) h0.hdr underlying22 Z) λa f=>Aa ?_
 rcases Bool.eq_false_or_eq_true (C7 v0) with aa|aa
 ·have hz:=h0.nil_inv aa
  subst hz
  replace hd:some ([]:LL)=some _:=hd
  refine Al f Z aa ?_
  refine Ae ?_
  refine Ac f Z λa f=>Aa ?_
  refine Aq ?_
  obtain⟨ab,m,ac⟩:=Ow.nil R1 26 m
  obtain rfl:=sj hd
  exact⟨[sn],f.g Z,f.d,_,[ab],gr,m,_,_,Z,Z,ac⟩
 ·refine Ah f Z aa ?_
  refine Am ?_
  refine Ae ?_
  refine AP (R:=R1) (xs:=([]:LL)) (RSl.one _) m T22 f Z Z Z (by decide) (All2.nil _) λad ae w a m af f=>Ab f Z λa f=> ?_
  have⟨ag,ah,hd⟩:=bind_some hd
  refine AW (RSl.one _) 0 m af Z T22 Z (by decide) f Z Z Z (h0.src m) ah λai aj w a m ak f=>Ac f Z λa f=>Aa ?_
  refine Aq ?_
  obtain rfl:=sj hd
  exact⟨[aj],f.g Z,f.d,_,[ai],gr,m,_,_,Z,Z,ak⟩
theorem Wk.L {v0:Value}{x0:LI}(m:Mem W G w (H))(h0:RSl (RI .u32) G v0 x0){y:(LI)}(hd:D.L x0=some y):
  Calls prog 101 #[v0] w (Res W G H (λG' Ho v=>∃r0:Value,∃i0:Itm,Ho=[i0]∧r0=v∧Ow (RI .u32) 74 G' i0 r0 y)):=by
 refine Ar (args:=[v0]) (N:=8) [.tmp 2] func101 Z Z (lb Z) Z λa f=> ?_
 unfold D.L at hd
 refine Ae ?_
 refine Ac f Z λa f=>Aa (Ag (Ae ?_))
 refine Ab f Z λa f=>l_o f (Fc (f.e Z) (f.e Z) h0.hdr underlying61 Z) λa f=>Aa ?_
 rcases Bool.eq_false_or_eq_true (C7 v0) with aa|aa
 ·have hz:=h0.nil_inv aa
  subst hz
  replace hd:some ([]:LI)=some _:=hd
  refine Al f Z aa ?_
  refine Ae ?_
  refine Ac f Z λa f=>Aa ?_
  refine Aq ?_
  obtain⟨ab,m,ac⟩:=Ow.nil (RI .u32) 74 m
  obtain rfl:=sj hd
  exact⟨[sn],f.g Z,f.d,_,[ab],gr,m,_,_,Z,Z,ac⟩
 ·refine Ah f Z aa ?_
  refine Am ?_
  refine Ae ?_
  refine AP (R:=(RI .u32)) (xs:=([]:LI)) (RI.one _) m T61 f Z Z Z (by decide) (All2.nil _) λad ae w a m af f=>Ab f Z λa f=> ?_
  have⟨ag,ah,hd⟩:=bind_some hd
  refine AW (RI.one _) 0 m af Z T61 Z (by decide) f Z Z Z (h0.src m) ah λai aj w a m ak f=>Ac f Z λa f=>Aa ?_
  refine Aq ?_
  obtain rfl:=sj hd
  exact⟨[aj],f.g Z,f.d,_,[ai],gr,m,_,_,Z,Z,ak⟩
theorem Wk.U1 {v0:Value}{it0:Itm}{x0:LI}{x1 x2:Int}(m:Mem W G w (it0::H))(o0:Ow (RI .u32) 74 G it0 v0 x0){y:LI}(hd:D.U1 x0 x1 x2=some y):
  Calls prog 126 #[v0,(iv x1),(iv x2)] w (Res W G H (λG' Ho v=>∃r0:Value,∃i0:Itm,Ho=[i0]∧r0=v∧Ow (RI .u32) 74 G' i0 r0 y)):=by
 unfold D.U1 delD at hd
 split at hd
 next hg=>
  obtain⟨g0,g1,g2⟩:=hg
  obtain rfl:=sj hd
  obtain⟨b,c,rfl,gc⟩:=o0.block m (by omega)
  refine Ar (args:=[(.slice (some ⟨b,0,none⟩) x0.length c),(iv x1),(iv x2)]) (N:=33) [.tmp 6] func126 Z Z (lb Z) Z λa f=>Ae ?_
  refine Ac f Z λa f=>Ay ?_
  refine Ab f Z λa f=>Ab f Z λa f=>Ab f Z λa f=>Ab f Z λa f=>l_o f (DW (f.e Z) underlying61) λa f=>l_slice3 T61 f Z Z Z Z Z g0 (Int.le_of_lt g1) g2 (Int.ofNat_le.2 gc) λv3 a f=>Aa (Ag (Ae ?_))
  refine Ab f Z λa f=>Ab f Z λa f=>Ai f Z Z BS λa f=>Aa ?_
  refine Ah f Z (beq_eq_false_iff_ne.2 (by omega)) ?_
  refine Am ?_
  refine Ae ?_
  refine Ab f Z λa f=>l_o f (DW (f.e Z) underlying61) λa f=>Ac f Z λa f=>Aa (Ag ?_)
  refine A3 6 AM (by kernel_rfl) m ?_
  refine Ao 0 6 Z f Z λa f=>Ao 1 6 Z f Z λa f=>q_p 2 6 Z f (λ_=>r_slice_lo T61 (f.e Z) (f.e Z) g0 (by omega)) λa f=>Ao 3 6 Z f Z λa f=>Ao 4 6 Z f Z λa f=>q_p 5 6 Z f (λ_=>r_slice_hi T61 (f.e Z) (f.e Z) (by omega) g2 gc) λa f=>AU λG1 w hl m=> ?_
  have o0:=od1 hl o0
  refine l_del (RI.one _) m o0 T61 f Z g0 g1 g2 Z Z Z (λhp=>if_neg (by omega)) λit1 w a m o1 f=>Ac f Z λa f=>Ay ?_
  refine Ab f Z λa f=>Ab f Z λa f=>l_o f (DW (f.e Z) underlying61) λa f=>Ab f Z λa f=>l_o f (r_slice_mid T61 (f.e Z) (f.e Z) (f.e Z) (by rw[List.length_append,List.length_take,List.length_drop];omega) gc) λa f=>l_wipe m o1 T61 Z Z f Z (Nat.le_refl _) (by rw[List.length_append,List.length_take,List.length_drop];omega) λw m=>Ay ?_
  refine Ab f Z λa f=>Ac f Z λa f=>Aa ?_
  refine Aq ?_
  exact⟨[_],f.g Z,f.d,_,[it1],hl,m,_,_,Z,Z,o1⟩
 next=>cases hd
theorem Wk.F1 {v0:Value}{x0:LI}(m:Mem W G w (H))(h0:R1 G v0 x0){y:(LI)}(hd:D.F1 x0=some y):
  Calls prog 85 #[v0] w (Res W G H (λG' Ho v=>∃r0:Value,∃i0:Itm,Ho=[i0]∧r0=v∧Ow R0 2 G' i0 r0 y)):=by
 refine Ar (args:=[v0]) (N:=8) [.tmp 2] func85 Z Z (lb Z) Z λa f=> ?_
 unfold D.F1 at hd
 refine Ae ?_
 refine Ac f Z λa f=>Aa (Ag (Ae ?_))
 refine Ab f Z λa f=>l_o f (Fc (f.e Z) (f.e Z) h0.hdr underlying26 Z) λa f=>Aa ?_
 rcases Bool.eq_false_or_eq_true (C7 v0) with aa|aa
 ·have hz:=h0.nil_inv aa
  subst hz
  replace hd:some ([]:LI)=some _:=hd
  refine Al f Z aa ?_
  refine Ae ?_
  refine Ac f Z λa f=>Aa ?_
  refine Aq ?_
  obtain⟨ab,m,ac⟩:=Ow.nil R0 2 m
  obtain rfl:=sj hd
  exact⟨[sn],f.g Z,f.d,_,[ab],gr,m,_,_,Z,Z,ac⟩
 ·refine Ah f Z aa ?_
  refine Am ?_
  refine Ae ?_
  refine AP (R:=R0) (xs:=([]:LI)) (RI.one _) m T26 f Z Z Z (by decide) (All2.nil _) λad ae w a m af f=>Ab f Z λa f=> ?_
  have⟨ag,ah,hd⟩:=bind_some hd
  refine AW (RI.one _) 0 m af Z T26 Z (by decide) f Z Z Z (h0.src m) ah λai aj w a m ak f=>Ac f Z λa f=>Aa ?_
  refine Aq ?_
  obtain rfl:=sj hd
  exact⟨[aj],f.g Z,f.d,_,[ai],gr,m,_,_,Z,Z,ak⟩
theorem Wk.b2 {x0:Int}(m:Mem W G w H){y:LI}(hd:D.b2 x0=some y):
  Calls prog 131 #[sn,(iv x0)] w (Res W G H (λG' Ho v=>∃r0:Value,∃i0:Itm,Ho=[i0]∧r0=v∧Ow R0 2 G' i0 r0 y)):=by
 unfold D.b2 growD at hd
 split at hd
 next hg=>
  obtain⟨g0,g1⟩:=hg
  obtain rfl:=sj hd
  refine Ar (args:=[sn,(iv x0)]) (N:=27) [.tmp 4] func131 Z Z (lb Z) Z λa f=>Ae ?_
  refine Ac f Z λa f=>Aa (Ag (Ae ?_))
  refine Ab f Z λa f=>Ai f Z Z AE λa f=>Aa ?_
  refine Ah f Z (decide_eq_false (by omega)) ?_
  refine Am ?_
  refine Ag (Ae ?_)
  refine Ab f Z λa f=>Ab f Z λa f=>l_o f (r_cap (f.e Z) underlying26) λa f=>Ab f Z λa f=>l_o f (DW (f.e Z) underlying26) λa f=>Ai f Z Z b_sub0 λa f=>Ai f Z Z (b_subn g0 g1) λa f=>Ac f Z λa f=>Ay ?_
  refine Ab f Z λa f=>Ai f Z Z Cf λa f=>Aa ?_
  by_cases gz:0<x0
  ·refine Al f Z (decide_eq_true gz) ?_
   refine Aj ?_
   refine Ab f Z λa f=>Ab f Z λa f=>l_o f (r_cap (f.e Z) underlying26) λa f=>l_o f (r_slice_none T26 (f.e Z) (f.e Z)) λa f=>Ab f Z λa f=>l_zeros m T26 underlying3 Z (by decide) f Z Z Z gz g1 λb c w a m f=>Ab f Z λa f=>l_o f (DW (f.e Z) underlying26) λa f=>l_o f (r_slice_lo T26 (f.e Z) (f.e Z) (Int.le_refl _) (Int.natCast_nonneg _)) λa f=>Ac f Z λa f=>Ay ?_
   refine Ab f Z λa f=>Ac f Z λa f=>Aa ?_
   refine Aq ?_
   exact⟨[_],f.g Z,f.d,_,[_],gr,m,_,_,Z,Z,[],Z,All2.nil _⟩
  ·refine Ah f Z (decide_eq_false gz) ?_
   refine Am ?_
   refine Ae ?_
   refine Ab f Z λa f=>Ac f Z λa f=>Aa ?_
   refine Aq ?_
   obtain⟨it,m,o⟩:=Ow.nil R0 2 m
   exact⟨[_],f.g Z,f.d,_,[it],gr,m,_,_,Z,Z,o⟩
 next=>cases hd
theorem Wk.W0 {v0:Value}{x0:LL}(m:Mem W G w (H))(h0:R2 G v0 x0){y:(LI)}(hd:D.W0 x0=some y):
  Calls prog 94 #[v0] w (Res W G H (λG' Ho v=>∃r0:Value,∃i0:Itm,Ho=[i0]∧r0=v∧Ow R0 2 G' i0 r0 y)):=by
 refine Ar (args:=[v0]) (N:=36) [.tmp 2] func94 Z Z (lb Z) Z λa f=> ?_
 unfold D.W0 at hd
 refine Ae ?_
 refine Ac f Z λa f=>Ay ?_
 refine Ac f Z λa f=>Aa (Ag (Ae ?_))
 refine Ab f Z λa f=>AO underlying22 f Z Z h0 λa f=>Ab f Z λa f=>Aa ?_
 have⟨aa,ab,hd⟩:=bind_some hd
 refine AH (λa w=>∃ac:Int,ac=aa∧∃(ad:GH),GLe G ad∧Fr a 36 [(0,v0),(3,(iv ac))]∧Mem W ad w (H)) ?_ ?_
 ·refine Ak ?_
  refine AC (λae a w=>∃af:Int,∃ag:Int,(af,ag)=ae∧∃(ah:GH),GLe G ah∧Fr a 36 [(0,v0),(3,(iv af)),(9,v0),(10,(iv (x0.length:Int))),(11,(iv ag))]∧Mem W ah w (H)) ab ⟨_,_,Z,_,gr,f.k Z,m⟩ ?_
  clear ab f m
  rintro ae ai aj ak a w ⟨af,ag,rfl,ah,al,f,m⟩
  have h0:=rd2 al h0
  refine Ae ?_
  refine Ai f Z Z AE λa f=>Aa (Ag ?_)
  rcases Af aj with⟨am,aj⟩|⟨am,aj⟩
  ·refine Al f Z am ?_
   refine Am ?_
   refine Ag (Ak (Ae ?_))
   have⟨an,ao,aj⟩:=bind_some aj
   refine A2 T22 f Z Z Z h0 ao λap aq a ar au f=>Ax m AT f Z Z ar λa f=>Ac f Z λa f=>Ay ?_
   refine Ab f Z λa f=>Ab f Z λa f=>AO underlying26 f Z Z au λa f=>Ai f Z Z Aw λa f=>Ac f Z λa f=>Ay ?_
   refine Ab f Z λa f=>Ai f Z Z AE λa f=>Aa ?_
   rcases Af aj with⟨av,aj⟩|⟨av,aj⟩
   ·refine Al f Z av ?_
    cases aj
   ·refine Ah f Z av ?_
    refine Am ?_
    refine Aj ?_
    refine Ai f Z Z Aw λa f=>Ab f Z λa f=>Aa ?_
    obtain rfl:=sj aj
    exact⟨_,Z,_,_,Z,_,al,f.k Z,m⟩
  ·refine Ah f Z am ?_
   refine AA Z ?_
   obtain rfl:=sj aj
   obtain rfl:=ak _ rfl
   exact⟨_,Z,_,al,f.k Z,m⟩
 ·rintro a w ⟨ac,rfl,ad,aw,f,m⟩
  have h0:=rd2 aw h0
  refine Ae ?_
  refine Ab f Z λa f=> ?_
  have⟨ax,ay,hd⟩:=bind_some hd
  refine AL f Z call131 (Wk.b2 m ay) λaz aA aB w aC m aD a f=> ?_
  obtain⟨aE,aF,rfl,rfl,aG⟩:=aD
  have h0:=rd2 aC h0
  refine Ac f Z λa f=>Aa (Ag (Ae ?_))
  refine Ab f Z λa f=>AO underlying22 f Z Z h0 λa f=>Ab f Z λa f=>Aa ?_
  have⟨aH,aI,hd⟩:=bind_some hd
  refine AH (λa w=>∃aJ:LI,aJ=aH∧∃(aK:GH) (aL:Value) (aM:Itm),GLe aA aK∧Fr a 36 [(6,aL)]∧Mem W aK w (aM::H)∧Ow R0 2 aK aM aL aJ) ?_ ?_
  ·refine Ak ?_
   refine AC (λaN a w=>∃aO:LI,∃aP:Int,(aO,aP)=aN∧∃(aQ:GH) (aR:Value) (aS:Itm),GLe aA aQ∧Fr a 36 [(6,aR),(25,v0),(26,(iv (x0.length:Int))),(27,(iv aP))]∧Mem W aQ w (aS::H)∧Ow R0 2 aQ aS aR aO) aI ⟨_,_,Z,_,aE,aF,gr,f.k Z,m,aG⟩ ?_
   clear aI f m
   rintro aN aT aU aV a w ⟨aO,aP,rfl,aQ,aR,aS,aW,f,m,aX⟩
   have h0:=rd2 aW h0
   refine Ae ?_
   refine Ai f Z Z AE λa f=>Aa (Ag ?_)
   rcases Af aU with⟨aY,aU⟩|⟨aY,aU⟩
   ·refine Al f Z aY ?_
    refine Am ?_
    refine Ag (Ak (Ae ?_))
    have⟨aZ,a0,aU⟩:=bind_some aU
    refine A2 T22 f Z Z Z h0 a0 λa1 a2 a a3 a4 f=>Ax m AT f Z Z a3 λa f=>Ac f Z λa f=>Aa (Aj ?_)
    refine Ab f Z λa f=>Ab f Z λa f=> ?_
    have⟨a5,a6,aU⟩:=bind_some aU
    refine AW (RI.one _) 0 m aX Z T26 Z (by decide) f Z Z Z (a4.src m) a6 λa7 a8 w a m a9 f=>Ac f Z λa f=>Aa (Aj ?_)
    refine Ai f Z Z Aw λa f=>Ab f Z λa f=>Aa ?_
    obtain rfl:=sj aU
    exact⟨_,Z,_,_,Z,_,a8,a7,aW,f.k Z,m,a9⟩
   ·refine Ah f Z aY ?_
    refine AA Z ?_
    obtain rfl:=sj aU
    obtain rfl:=aV _ rfl
    exact⟨_,Z,_,aR,aS,aW,f.k Z,m,aX⟩
  ·rintro a w ⟨aJ,rfl,aK,aL,aM,ba,f,m,bb⟩
   refine Ae ?_
   refine Ab f Z λa f=>Ac f Z λa f=>Aa ?_
   refine Aq ?_
   obtain rfl:=sj hd
   exact⟨[aL],f.g Z,f.d,_,[aM],(gt aw (gt aC ba)),m,_,_,Z,Z,bb⟩
theorem Wk.O1 {v0:Value}{x0:LI}{x1:Int}(m:Mem W G w (H))(h0:RSl (RI .u32) G v0 x0){y:Int}(hd:D.O1 x0 x1=some y):
  Calls prog 102 #[v0,(.int .u32 x1)] w (Res W G H (λ_ Ho v=>Ho=[]∧v=(iv y))):=by
 refine Ar (args:=[v0,(.int .u32 x1)]) (N:=19) [.tmp 4] func102 Z Z (lb Z) Z λa f=> ?_
 unfold D.O1 at hd
 refine Ae ?_
 refine Ac f Z λa f=>Aa (Ag (Ae ?_))
 refine Ab f Z λa f=>AO underlying61 f Z Z h0 λa f=>Ab f Z λa f=>Aa ?_
 have⟨aa,ab,hd⟩:=bind_some hd
 refine AH (λa w=>∃q_19':Unit,aa= .inl q_19'∧∃(ac:GH),GLe G ac∧Fr a 19 []∧Mem W ac w (H)) ?_ ?_
 ·refine Ak ?_
  refine AC (λad a w=>∃ae:Int,ae=ad∧∃(af:GH),GLe G af∧Fr a 19 [(0,v0),(1,(.int .u32 x1)),(7,(iv (x0.length:Int))),(8,(iv ae))]∧Mem W af w (H)) ab ⟨_,Z,_,gr,f.k Z,m⟩ ?_
  clear ab f m
  rintro ad ag ah ai a w ⟨ae,rfl,af,aj,f,m⟩
  have h0:=rd1 aj h0
  refine Ae ?_
  refine Ai f Z Z AE λa f=>Aa (Ag ?_)
  rcases Af ah with⟨ak,ah⟩|⟨ak,ah⟩
  ·refine Al f Z ak ?_
   refine Am ?_
   refine Ag (Ak (Ae ?_))
   refine Ab f Z λa f=>Ac f Z λa f=>Ay ?_
   refine Ab f Z λa f=>Ab f Z λa f=>Ab f Z λa f=> ?_
   have⟨al,am,ah⟩:=bind_some ah
   refine A2 T61 f Z Z Z h0 am λan ao a ap aq f=> ?_
   subst aq
   refine Ax m C3 f Z Z ap λa f=>Ai f Z Z BS λa f=>Aa ?_
   rcases Af ah with⟨ar,ah⟩|⟨ar,ah⟩
   ·refine Al f Z ar ?_
    refine Ae ?_
    refine Ab f Z λa f=>Ac f Z λa f=>Aa ?_
    refine Aq ?_
    obtain rfl:=sj ah
    obtain rfl:=ai _ rfl
    obtain rfl:=sj hd
    exact⟨[(iv ae)],f.g Z,f.d,_,[],aj,m,Z,Z⟩
   ·refine Ah f Z ar ?_
    refine Am ?_
    refine Aj ?_
    refine Ai f Z Z Aw λa f=>Ab f Z λa f=>Aa ?_
    obtain rfl:=sj ah
    exact⟨_,Z,_,Z,_,aj,f.k Z,m⟩
  ·refine Ah f Z ak ?_
   refine AA Z ?_
   obtain rfl:=sj ah
   obtain rfl:=ai _ rfl
   exact⟨_,Z,_,aj,f.weak trivial,m⟩
 ·rintro a w ⟨_,rfl,ac,au,f,m⟩
  refine Ae ?_
  refine Ac f Z λa f=>Aa ?_
  refine Aq ?_
  obtain rfl:=sj hd
  exact⟨[(iv (-1))],f.g Z,f.d,_,[],au,m,Z,Z⟩
theorem Wk.J1 {v0:Value}{x0:LI}{x1:Int}(m:Mem W G w (H))(h0:RSl (RI .u32) G v0 x0){y:Bool}(hd:D.J1 x0 x1=some y):
  Calls prog 59 #[v0,(.int .u32 x1)] w (Res W G H (λ_ Ho v=>Ho=[]∧v=(.bool y))):=by
 refine Ar (args:=[v0,(.int .u32 x1)]) (N:=9) [.tmp 4] func59 Z Z (lb Z) Z λa f=> ?_
 unfold D.J1 at hd
 refine Ae ?_
 refine Ac f Z λa f=>Ay ?_
 refine Ab f Z λa f=>Ab f Z λa f=> ?_
 have⟨aa,ab,hd⟩:=bind_some hd
 refine A6 f Z call102 (Wk.O1 m h0 ab) λac w ad m a f=>Ai f Z Z Cs λa f=>Ac f Z λa f=>Aa ?_
 refine Aq ?_
 obtain rfl:=sj hd
 exact⟨[(.bool (decide ((0:Int)≤aa)))],f.g Z,f.d,_,[],ad,m,Z,Z⟩
end Go.Proofs.YtkoehcencogjpaaGreatDoor
