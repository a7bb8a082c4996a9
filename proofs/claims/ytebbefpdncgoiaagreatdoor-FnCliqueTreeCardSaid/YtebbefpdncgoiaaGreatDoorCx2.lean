/- Parts. -/
import Derived.Test.YtebbefpdncgoiaaGreatDoorCx1
import Derived.Maps.AppendAt
import Derived.Shelf.Small.Bits
import Derived.Test.YtebbefpdncgoiaaGreatDoorProg
import Derived.RangeFuncBox
import Derived.RangeFuncLeaves
import Derived.Shelf.Abstract
import Derived.WalkKit
import Derived.OwnWalkIn
import Derived.TacticsInMore
import Derived.LoopNIn
import Derived.LoopIn
import Derived.KernelRfl
set_option linter.unusedVariables false
set_option linter.unusedSimpArgs false
namespace Go.Sx
open IntKind
noncomputable section
def D.b1 (f:LL)(b:LI):Option LL:=
 (D.t1 f).bind λh=>(D.a f).bind λg=>(Dv (false:Bool) g g).bind λi=>(Aq (σ:=(List Bool)×Int×LL) (ρ:=LL) (fun(c,a,d)=>cond (decide (a<(b.length:Int))) ((idx b a).bind λe=>(idx c e).bind λo=>(idx b a).bind λk=>(D.V d k (c.set (Int.toNat e) true)).bind λl=>(D.P0 d l).bind λm=>some (.inl ((c.set (Int.toNat e) true),(i64.wrap (a+1)),m))) (some (.inr d))) (i,0,h)).bind λn=>some n
def D.a0 (a:LL)(b:LI):Option (LL×Bool):=
 (D.O0 a b).bind λc=>cond (!c) (some (([]:LL),false)) ((D.b1 a b).bind λd=>some (d,true))
def D.S (e:LI)(f g:Int):Option (LL×LI×Int×Int):=
 (D.I0 e f g).bind λa=>(D.v a.2.1 a.2.2.1 a.2.2.2 2).bind λb=>cond b.1 ((D.i0 b.2.1 b.2.2.1 b.2.2.2 a.1).bind λc=>(D.a0 a.1 c.1).bind λd=>cond d.2 (some (d.1,c.2.1,c.2.2.1,c.2.2.2)) (some (a.1,c.2.1,c.2.2.1,c.2.2.2))) (some (a.1,b.2.1,b.2.2.1,b.2.2.2))
def D.L2 (a:LL):Option LL:=
 (D.Q a).bind λb=>cond (!b) (some ([]:LL)) ((D.F a).bind λc=>(D.t0 c).bind λd=>(D.Y d).bind λe=>some e)
def D.m0 :Nat→LL→LI→LI→LI→Option LL
 |0,_,_,_,_=>none
 |fuel+1,c,e,a,f=>cond (((a.length:Int)==0)&&((f.length:Int)==0)) (some ([e]:LL)) ((Aq (σ:=LL×Int) (ρ:=LL) (fun(g,b)=>cond (decide (b<(a.length:Int))) ((idx a b).bind λd=>(((Co a (i64.wrap (b+1)) (a.length:Int)).bind λi=>(idx c d).bind λj=>(Co a 0 b).bind λk=>(idx c d).bind λl=>(D.g e).bind λm=>(AS m ([d]:LI)).bind λn=>(D.s i j).bind λo=>(D.g f).bind λp=>(AS p k).bind λq=>(D.s q l).bind λr=>(D.m0 fuel c n o r).bind λs=>some s:Option LL)).bind λt=>(AS g t).bind λu=>some (.inl (u,(i64.wrap (b+1))))) (some (.inr g))) (([]:LL),0)).bind λv=>some v)
def D.o (a:LL)(b c d:LI):Option LL:=D.m0 Cf a b c d
def D.v0 (a:LL):Option LL:=
 (D.J a).bind λb=>cond (!b) (some ([]:LL)) ((((D.a a).bind λc=>(D.A c).bind λd=>(D.o a ([]:LI) d ([]:LI)).bind λe=>some e:Option LL)).bind λf=>some f)
def D.N0 (b c:LL):Option (Bool):=
 cond ((b.length:Int) !=(c.length:Int)) (some false) ((Aq (σ:=Int) (ρ:=(Unit) ⊕ (Bool)) (fun(a:Int)=>cond (decide (a<(b.length:Int))) ((idx b a).bind λd=>(idx c a).bind λe=>(D.q1 d e).bind λf=>cond (!f) (some (.inr (.inr false))) (some (.inl (i64.wrap (a+1))))) (some (.inr (.inl ())))) 0).bind λzz=>match zz with| .inl _=>(some true)| .inr z=>(some z))
end
end Go.Sx

namespace Go.Sx
noncomputable def D.L (b:LI)(a c:Int):Option LI:=
 (idx b a).bind λd=>(D.e c).bind λe=>(idx b a).bind λh=>(idx (b.set (Int.toNat a) (ior .u32 d e)) c).bind λf=>(D.e a).bind λg=>(idx (b.set (Int.toNat a) (ior .u32 d e)) c).bind λi=>some ((b.set (Int.toNat a) (ior .u32 d e)).set (Int.toNat c) (ior .u32 f g))
section
variable {W w : World} {G : GH} {H : List Itm}
theorem Dj {v:Value}{t1 t2:TypeId}{rows:List (Value×List Value)}{k i:Nat}{h:Itm}(hi:((parts v t1 t2 rows).eraseIdx k)[i]? =some h):h.foot=h.foot0∧∀w,h.ok w↔h.ok0 w:=by
 rw[List.getElem?_eraseIdx] at hi
 split at hi
 ·exact Cz hi
 ·exact Cz hi
theorem Mem.hole {v:Value}{t1 t2:TypeId}{rows:List (Value×List Value)}{k:Nat}:Mem W G w (.hole v t1 t2 rows k::H)↔Mem W G w ((parts v t1 t2 rows).eraseIdx (k+1)++H):=by
 refine Mem.group (λx=> ?_) ?_
 ·show x∈((parts v t1 t2 rows).eraseIdx (k+1)).flatMap Itm.foot0↔_
  rw[List.mem_flatMap]
  constructor
  ·rintro⟨h,hh,hx⟩
   obtain⟨i,hi,he⟩:=List.getElem_of_mem hh
   have hi':((parts v t1 t2 rows).eraseIdx (k+1))[i]? =some h:=by rw[List.getElem?_eq_getElem hi,he]
   exact⟨i,h,hi',by rw[(Dj hi').1];exact hx⟩
  ·rintro⟨i,h,hi,hx⟩
   exact⟨h,List.mem_of_getElem? hi,by rw[←(Dj hi).1];exact hx⟩
 ·constructor
  ·rintro⟨h1,h2⟩
   exact⟨λi h hi=>((Dj hi).2 w).2 (h1 i h hi),λi j a b hij ha hb=>by rw[(Dj ha).1,(Dj hb).1];exact h2 i j a b hij ha hb⟩
  ·rintro⟨h1,h2⟩
   exact⟨λi h hi=>((Dj hi).2 w).1 (h1 i h hi),λi j a b hij ha hb=>by rw[←(Dj ha).1,←(Dj hb).1];exact h2 i j a b hij ha hb⟩
end
def OwH {α:Type}(R:Rep α)(t1 t2:TypeId)(i:Int)(G:GH)(it:Itm)(v:Value)(xs:List (List α)):Prop:=
 ∃rows:List (Value×List Value),it= .hole v t1 t2 rows i.toNat∧0≤i∧i.toNat<xs.length∧rows.length=xs.length∧∀(k:Nat) (r:Value×List Value) (x:List α),k≠i.toNat→rows[k]? =some r→xs[k]? =some x→All2 (R G) r.2 x
section
variable {α : Type} {R : Rep α} {t1 t2 : TypeId} {W w : World} {G : GH} {it : Itm} {H : List Itm} {v c : Value} {xs : List (List α)} {e : List α} {i : Int}
theorem OwH.mono (hR:CY R){G':GH}(hG:GLe G G')(h:OwH R t1 t2 i G it v xs):OwH R t1 t2 i G' it v xs:=by
 obtain⟨rows,h1,h2,h3,h4,h5⟩:=h
 exact⟨rows,h1,h2,h3,h4,λk r x hk hr hx=>(h5 k r x hk hr hx).mono (λv x=>hR G G' v x hG)⟩
theorem Ow2.out (h:Ow2 R t1 t2 G it v xs)(m:Mem W G w (it::H))(hi:idx xs i=some e)(hc:Head it i c):
  ∃it' inn,Mem W G w (it'::inn::H)∧OwH R t1 t2 i G it' v xs∧Ow R t2 G inn c e:=by
 obtain⟨rows,rfl,hl,hA⟩:=h
 obtain⟨v0,s1,s2,rows0,r,e0,hr,rfl⟩:=hc
 cases e0
 obtain⟨g0,g1,g2⟩:=CU hi
 have hlt:i.toNat<rows.length:=by omega
 have m2:=Mem.deep.1 m
 have hpl:i.toNat+1<(parts v t1 t2 rows).length:=by simp[parts];omega
 have hp:(parts v t1 t2 rows++H)[i.toNat+1]? =some (BL t2 r):=by
  rw[List.getElem?_append_left hpl];simp[parts,hr]
 have m3:=m2.front (i.toNat+1) hp
 rw[DY hpl] at m3
 have m4:Mem W G w ((parts v t1 t2 rows).eraseIdx (i.toNat+1)++(BL t2 r::H)):=by
  have hll:(((parts v t1 t2 rows).eraseIdx (i.toNat+1))).length≤((parts v t1 t2 rows).eraseIdx (i.toNat+1)++H).length:=by simp
  have:=m3.back _ hll
  rwa [List.take_left,List.drop_left] at this
 have hAr:=hA _ r e hr g2
 exact⟨_,_,Mem.hole.2 m4,⟨rows,rfl,g0,by omega,hl,λk r x _ hr hx=>hA k r x hr hx⟩,⟨r.2,by simp[BL,hAr.1],hAr⟩⟩
end
section
variable {P : Program} {ops : Array Oper} {rest : List Oper} {n r : Bo} {x : List (Nat × Bo)} {a : Act} {w W : World} {G : GH} {H : List Itm} {N : Nat} {L : Bx}
variable {d : Nat} {t : TypeId} {pos : String} {af : Array Edge} {α : Type} {R : Rep α} {t1 t2 : TypeId} {xs : List (List α)} {v : Value}
theorem heads_hole {v:Value}{rows:List (Value×List Value)}{k:Nat}(m:Mem W G w ((parts v t1 t2 rows).eraseIdx (k+1)++H)):w.ownsRow 0 t1 1 v rows.length (rows.map (·.1)):=by
 have:=m.items 0 (.row v t1 1 rows.length (rows.map (·.1))) (by simp[parts])
 exact this
theorem Dk {it:Itm}{u e bytes:Nat}{z:Value}{xo io:Operand}{k:IntKind}{i ii:Int}{y:List α}(j:Nat)(m:Mem W G w H)(h:OwH R t1 t2 ii G it v xs)(hj:H[j]? =some it)
  (hu:SlT P u e 1 bytes z) (f:Fr a N L) (hN:Nat.blt d N=true) (hx:AX L xo=some v) (hi:AX L io=some (.int k i)) (he:idx xs i=some y)
  (q:∀p a',DN v p i→Fr a' N ((d,p)::L)→wpList P ops (Qk n x r) rest a' w):
  wpList P ops (Qk n x r) (⟨some d,.indexAddr u xo io,t,pos,af,none⟩::rest) a w:=by
 obtain⟨g0,g1,_⟩:=CU he
 obtain⟨rows,rfl,_,_,hl,_⟩:=h
 have m2:=Mem.hole.1 (m.front j hj)
 have hr:=heads_hole m2
 have hlt:i.toNat<rows.length:=by omega
 rcases hr.2 with⟨_,e2⟩|⟨g,cap,cur,e1,_,eh,e2,e3,e4,e5⟩
 ·omega
 ·subst e1
  refine CC f rfl rfl hN (DM (f.eval hx) (f.eval hi) hu g0 (by omega)) λa' f'=> ?_
  exact q _ a' ⟨g,_,cap,rfl,by rw[BW,Nat.mul_one,Nat.zero_add]⟩ f'
theorem CB {u:Nat}{dp inn:Itm}{p h:Value}{e:List α}{i:Int}{xo yo:Operand}(m:Mem W G w (dp::inn::H))(hd:OwH R t1 t2 i G dp v xs)(hi:Ow R t2 G inn h e)
  (hz:∀w,(sizeOf u).run P w= .ok 1 w) (f:Fr a N L) (hx:AX L xo=some p) (hy:AX L yo=some h) (ha:DN v p i)
  (q:∀dp' w',Mem W G w' (dp'::H)→Ow2 R t1 t2 G dp' v (xs.set i.toNat e)→wpList P ops (Qk n x r) rest a w'):
  wpList P ops (Qk n x r) (⟨none,.store u xo yo,t,pos,af,none⟩::rest) a w:=by
 obtain⟨rows,rfl,hi0,hil,hl,hA⟩:=hd
 have h1:h.cells= #[h]:=Ow.cells 1 m hi rfl
 have h2:h.oneCell'=true:=Ow.one1 1 m hi rfl
 obtain⟨vs,rfl,hiA⟩:=inner_of hi
 have m2:=Mem.hole.1 m
 have hro:=heads_hole m2
 have g1':i.toNat<rows.length:=by omega
 obtain⟨b,mm,cc,e1,rfl⟩:=ha
 subst e1
 rcases hro.2 with⟨hn,_⟩|⟨g,cap,cur,e1,_,eh,e2,e3,e4,e5⟩
 ·cases hn
 ·cases e1
  simp only[Nat.mul_one] at e4 e5
  have hr:=r_store (P:=P) (ρ:=a.eval) (w:=w) (d:=none) (t:=t) (pos:=pos) (af:=af) (gd:=none) (u:=u) (off:=i.toNat) (f.eval hx) (f.eval hy) (by rw[h1];exact hz) eh (by rw[h1];simp;omega) (by rw[h1];simpa using h2)
  refine l_void rfl rfl hr ?_
  rw[h1]
  simp only[List.size_toArray,List.length_cons,List.length_nil,Nat.zero_add]
  have hset:cur.toList.take i.toNat++[h]++cur.toList.drop (i.toNat+1)=cur.toList.set i.toNat h:=by
   rw[List.set_eq_take_append_cons_drop,if_pos (by simp;omega)];simp
  rw[hset]
  have m3:=m2.changeAt (h:= .row (.slice (some ⟨b,0,none⟩) rows.length cc) t1 1 rows.length (rows.map (·.1))) (h':= .row (.slice (some ⟨b,0,none⟩) rows.length cc) t1 1 rows.length ((rows.map (·.1)).set i.toNat h)) (w':=w.setRow b ((cur.toList.set i.toNat h).toArray)) 0 (by simp[parts]) rfl rfl rfl (λz _ hz'=>setRow_other w b z _ (by simpa [Itm.foot,Value.ownBlock] using hz'))
   ⟨by simp,.inr ⟨b,cc,_,rfl,Nat.zero_le _,setRow_heap w b cur _ t1 _ eh,e2,e3,by simp[e4],by simp only[Nat.mul_one];rw[←e5,List.take_set]⟩⟩ (λz hz'=> .inl hz')
  have e6:((parts (.slice (some ⟨b,0,none⟩) rows.length cc) t1 t2 rows).eraseIdx (i.toNat+1)++BL t2 (h,vs)::H).set 0 (.row (.slice (some ⟨b,0,none⟩) rows.length cc) t1 1 rows.length ((rows.map (·.1)).set i.toNat h))
    =(.row (.slice (some ⟨b,0,none⟩) rows.length cc) t1 1 rows.length ((rows.map (·.1)).set i.toNat h)::(rows.map (BL t2)).eraseIdx i.toNat)++BL t2 (h,vs)::H:=by
   simp[parts]
  rw[e6] at m3
  have m4:=m3.front ((rows.map (BL t2)).eraseIdx i.toNat).length.succ (x:=BL t2 (h,vs)) (by rw[List.getElem?_append_right (by simp)];simp)
  rw[List.eraseIdx_append_of_length_le (by simp)] at m4
  simp only[List.length_cons,Nat.succ_eq_add_one,Nat.sub_self,List.eraseIdx_cons_zero] at m4
  have m5:=m4.back (i.toNat+1) (by simp[List.length_eraseIdx,g1'];omega)
  have e7:((Itm.row (.slice (some ⟨b,0,none⟩) rows.length cc) t1 1 rows.length ((rows.map (·.1)).set i.toNat h)::(rows.map (BL t2)).eraseIdx i.toNat)++H).take (i.toNat+1)++BL t2 (h,vs)::
    ((Itm.row (.slice (some ⟨b,0,none⟩) rows.length cc) t1 1 rows.length ((rows.map (·.1)).set i.toNat h)::(rows.map (BL t2)).eraseIdx i.toNat)++H).drop (i.toNat+1)=parts (.slice (some ⟨b,0,none⟩) rows.length cc) t1 t2 (rows.set i.toNat (h,vs))++H:=by
   have e8:(Itm.row (.slice (some ⟨b,0,none⟩) rows.length cc) t1 1 rows.length ((rows.map (·.1)).set i.toNat h)::(rows.map (BL t2)).eraseIdx i.toNat)++H=((Itm.row (.slice (some ⟨b,0,none⟩) rows.length cc) t1 1 rows.length ((rows.map (·.1)).set i.toNat h)::rows.map (BL t2))++H).eraseIdx (i.toNat+1):=by
    rw[DY (by simp;omega)];rfl
   rw[e8,DB _ _ _ (by simp;omega),List.set_append,if_pos (by simp;omega)]
   congr 1
   simp[parts,List.map_set]
  rw[e7] at m5
  refine q _ _ (Mem.deep.2 m5) ⟨_,by simp only at*;first|rfl|(rw[hl]),by simp[hl],λk r0 x0 hr hx0=> ?_⟩
  rw[List.getElem?_set] at hr hx0
  by_cases hk:i.toNat=k
  ·subst hk
   simp[g1'] at hr
   rw[if_pos rfl,if_pos hil] at hx0
   subst hr;cases hx0
   exact hiA
  ·rw[if_neg hk] at hr hx0
   exact hA k r0 x0 (λe=>hk e.symm) hr hx0
end
theorem F4 {P : Program} {id : Nat} {l : List Oper} {nn r : Bo} {x : List (Nat × Bo)} {a : Act} {w W : World} {G : GH} (E H : List Itm) (n : Nat) (hm : P.follows .mixedOrders = true) (hb : DH l.toArray n [] = true) (m : Mem W G w (E ++ H))
    (h : AnyB W P l.toArray (Qk nn x r) (fun a w => wpList P l.toArray (Qk nn x r) (l.drop n) a w) H n G E (Array.replicate l.length false) a) : (Code.region id l.toArray true).wp P (Qk nn x r) a w := by
  have hn := (Dn hb).2.1
  refine wp_region_any hm ?_
  have hcl : Cl W G (E ++ H) { w with drawn := w.drawn + 1 } := ⟨G, GLe.refl G, m.congr rfl rfl rfl rfl⟩
  have hzero : ∀ k, (Array.replicate l.length false).getD k true = if k < l.length then false else true := fun k => by
    by_cases hk : k < l.length
    · simp [hk]
    · simp [hk]
  have hun : ∀ k, k ≤ l.length → unl (Array.replicate l.length false) k = k := by
    intro k
    induction k with
    | zero => intro _; rfl
    | succ k ih => intro hk; simp only [unl, ih (by omega), hzero]; rw [if_pos (show k < l.length from by omega)]; rfl
  have L : Lst l.toArray n [] n (Array.replicate l.length false) := ⟨by simp, by simp, hun n (by simpa using hn), fun t _ h2 => by rw [hzero, if_pos (by simpa using h2)], fun j hj hl => by
    rw [hzero, if_pos (by have : n ≤ l.length := by simpa using hn
                          omega)] at hl; cases hl⟩
  have := AnyB.sound (P := P) (W := W) (Q := Qk nn x r) hb (l.toArray.size - n) (T := fun a w => wpList P l.toArray (Qk nn x r) (l.drop n) a w) (fun listed a w L h =>
    FT hb (l.toArray.size - n) n listed a w (Nat.le_refl _) rfl hn L.size (unl_zero L.count) L.tail (by simpa using h)) n G E _ a _ L hcl h
  have e : n + (l.toArray.size - n) = l.toArray.size := by omega
  rw [e] at this
  simpa using this
end Go.Sx

namespace Go.Sx
structure Rec (α:Type) where
 m:Nat
 enc:α→List Value
 len:∀x,(enc x).length=m
 pos:0<m
 one:∀x c,c∈enc x→c.oneCell'=true
section
variable {α : Type} (E : Rec α)
theorem Rec.size (xs:List α):(xs.flatMap E.enc).length=xs.length*E.m:=by
 induction xs with
 |nil=>simp
 |cons x xs ih=>rw[List.flatMap_cons,List.length_append,ih,E.len,List.length_cons,Nat.succ_mul];omega
theorem Rec.get :∀(xs:List α) (i:Nat) (x:α) (j:Nat) (c:Value),xs[i]? =some x→(E.enc x)[j]? =some c→(xs.flatMap E.enc)[i*E.m+j]? =some c
 |[],i,x,j,c,hx,_=>by simp at hx
 |y::xs,0,x,j,c,hx,hc=>by
  simp at hx;subst hx
  have hj:=(List.getElem?_eq_some_iff.1 hc).1
  rw[List.flatMap_cons,Nat.zero_mul,Nat.zero_add,List.getElem?_append_left hj];exact hc
 |y::xs,i+1,x,j,c,hx,hc=>by
  simp at hx
  have ih:=Rec.get xs i x j c hx hc
  rw[List.flatMap_cons,List.getElem?_append_right (by rw[E.len,Nat.succ_mul];omega),E.len,Nat.succ_mul]
  rwa [show i*E.m+E.m+j-E.m=i*E.m+j by omega]
theorem Rec.put :∀(xs:List α) (i:Nat) (x y:α) (f:Nat) (ds:List Value),xs[i]? =some x→f+ds.length≤E.m→E.enc y=(E.enc x).take f++ds++(E.enc x).drop (f+ds.length)→
  (xs.flatMap E.enc).take (i*E.m+f)++ds++(xs.flatMap E.enc).drop (i*E.m+f+ds.length)=(xs.set i y).flatMap E.enc
 |[],i,x,y,f,ds,hx,_,_=>by simp at hx
 |z::xs,0,x,y,f,ds,hx,hf,hE=>by
  simp at hx;subst hx
  have hl:=E.len z
  rw[List.flatMap_cons,Nat.zero_mul,Nat.zero_add,List.set_cons_zero,List.flatMap_cons,hE,List.take_append_of_le_length (by omega),List.drop_append_of_le_length (by omega)]
  simp
 |z::xs,i+1,x,y,f,ds,hx,hf,hE=>by
  simp at hx
  have ih:=Rec.put xs i x y f ds hx hf hE
  have hl:=E.len z
  rw[List.flatMap_cons,List.set_cons_succ,List.flatMap_cons,←ih,Nat.succ_mul]
  have e1:i*E.m+E.m+f=(E.enc z).length+(i*E.m+f):=by omega
  have e2:i*E.m+E.m+f+ds.length=(E.enc z).length+(i*E.m+f+ds.length):=by omega
  rw[e1,List.take_length_add_append,←e1,e2,List.drop_length_add_append]
  simp
end
def RSr {α:Type}(E:Rec α):Rep (List α):=λG v xs=>
 (v= .slice none 0 0∧xs=[])∨∃a cap,v= .slice (some a) xs.length cap∧xs.length≤cap∧cap≤maxLen∧
  ∀(k:Nat) (c:Value),(xs.flatMap E.enc)[k]? =some c→a.spot=Option.none∧Cell G a.block (a.off+k) c
section
variable {α : Type} {E : Rec α}
theorem RSr.mono (_:True):CY (RSr E):=by
 rintro G G' v xs hG (h|⟨a,cap,h1,h2,h3,h4⟩)
 ·exact .inl h
 ·exact .inr ⟨a,cap,h1,h2,h3,λk c hc=>⟨(h4 k c hc).1,(h4 k c hc).2.mono hG⟩⟩
theorem RSr.nil (E:Rec α)(G:GH):RSr E G (.slice none 0 0) []:= .inl ⟨rfl,rfl⟩
theorem RSr.len {G:GH}{v:Value}{xs:List α}(h:RSr E G v xs):∃a c,v= .slice a xs.length c∧xs.length≤c∧c≤maxLen:=by
 rcases h with⟨rfl,rfl⟩|⟨a,cap,rfl,h1,h2,_⟩
 ·exact⟨none,0,rfl,by simp,by simp[maxLen]⟩
 ·exact⟨_,cap,rfl,h1,h2⟩
theorem RSr.cells {G:GH}{v:Value}{xs:List α}(h:RSr E G v xs):v.cells= #[v]:=by obtain⟨a,c,rfl,_⟩:=h.len;rfl
theorem RSr.one1 {G:GH}{v:Value}{xs:List α}(h:RSr E G v xs):v.oneCell'=true:=by obtain⟨a,c,rfl,_⟩:=h.len;rfl
def AtR (E:Rec α)(G:GH)(p:Value)(x:α):Prop:=∃b o,p= .pointer (some ⟨b,o,none⟩)∧∀(j:Nat) (c:Value),(E.enc x)[j]? =some c→Cell G b (o+j) c
theorem AtR.mono {G G':GH}(h:GLe G G'){p:Value}{x:α}(k:AtR E G p x):AtR E G' p x:=by
 obtain⟨b,o,e,hc⟩:=k
 exact⟨b,o,e,λj c hj=>(hc j c hj).mono h⟩
theorem RSr.at {G:GH}{v:Value}{xs:List α}(h:RSr E G v xs){i:Int}{x:α}(he:idx xs i=some x):
  ∃b off n c,v= .slice (some ⟨b,off,none⟩) n c∧0≤i∧i<n∧∀(j:Nat) (c:Value),(E.enc x)[j]? =some c→Cell G b (off+i.toNat*E.m+j) c:=by
 obtain⟨h0,h1,h2⟩:=CU he
 rcases h with⟨_,rfl⟩|⟨⟨b,off,sp⟩,cap,rfl,_,_,h4⟩
 ·simp at h2
 ·have hl0:0<(E.enc x).length:=by rw[E.len];exact E.pos
  have hs:=(h4 _ _ (E.get xs _ x 0 (E.enc x)[0] h2 (by simp[hl0]))).1
  dsimp only at hs h4
  subst hs
  refine⟨b,off,_,cap,rfl,h0,h1,λj c hc=> ?_⟩
  rw[Nat.add_assoc]
  exact(h4 _ c (E.get xs _ x j c h2 hc)).2
def OwR (E:Rec α)(t:TypeId)(_:GH)(it:Itm)(v:Value)(xs:List α):Prop:=it= .row v t E.m xs.length (xs.flatMap E.enc)
theorem OwR.mono (_:True){t:TypeId}{G G':GH}{it:Itm}{v:Value}{xs:List α}(_:GLe G G')(h:OwR E t G it v xs):OwR E t G' it v xs:=h
theorem OwR.free (_:True){t:TypeId}{G:GH}(G':GH){it:Itm}{v:Value}{xs:List α}(h:OwR E t G it v xs):OwR E t G' it v xs:=h
theorem OwR.has {t:TypeId}{W w:World}{G G':GH}{it:Itm}{H:List Itm}{v:Value}{xs:List α}(h:OwR E t G it v xs)(m:Mem W G' w H){j:Nat}(hj:H[j]? =some it):w.ownsRow 0 t E.m v xs.length (xs.flatMap E.enc):=by
 subst h;exact m.items j _ hj
theorem OwR.len {t:TypeId}{W w:World}{G G':GH}{it:Itm}{H:List Itm}{v:Value}{xs:List α}(h:OwR E t G it v xs)(m:Mem W G' w H){j:Nat}(hj:H[j]? =some it):
  ∃a c,v= .slice a xs.length c∧xs.length≤c∧c≤maxLen:=by
 rcases(h.has m hj).2 with⟨h1,h2⟩|⟨g,cap,cur,h1,_,_,h2,h3,_⟩
 ·exact⟨none,0,by rw[h1,h2],by omega,by simp[maxLen]⟩
 ·exact⟨_,cap,h1,h2,h3⟩
theorem OwR.cells {t:TypeId}{W w:World}{G:GH}{it:Itm}{H:List Itm}{v:Value}{xs:List α}(j:Nat)(m:Mem W G w H)(h:OwR E t G it v xs)(hj:H[j]? =some it):v.cells= #[v]:=by
 obtain⟨a,c,rfl,_⟩:=h.len m hj;rfl
theorem OwR.one1 {t:TypeId}{W w:World}{G:GH}{it:Itm}{H:List Itm}{v:Value}{xs:List α}(j:Nat)(m:Mem W G w H)(h:OwR E t G it v xs)(hj:H[j]? =some it):v.oneCell'=true:=by
 obtain⟨a,c,rfl,_⟩:=h.len m hj;rfl
theorem OwR.nil (E:Rec α)(t:TypeId){W w:World}{G:GH}{H:List Itm}(m:Mem W G w H):∃it,Mem W G w (it::H)∧OwR E t G it (.slice none 0 0) []:=
 ⟨_,m.nilrow t E.m,by simp[OwR]⟩
theorem OwR.reads {t:TypeId}{w:World}{G':GH}{it:Itm}{v:Value}{xs:List α}(h:it= .row v t E.m xs.length (xs.flatMap E.enc))(hok:it.ok w)(hG:∀x∈it.foot,G' x=w.heap[x]?):RSr E G' v xs:=by
 subst h
 have this:w.ownsRow 0 t E.m v xs.length (xs.flatMap E.enc):=hok
 rcases this.2 with⟨e1,e2⟩|⟨g,cap,cur,e1,_,eh,e2,e3,e4,e5⟩
 ·exact .inl ⟨e1,List.eq_nil_of_length_eq_zero e2⟩
 ·refine .inr ⟨⟨g,0,none⟩,cap,e1,e2,e3,λk c hc=>⟨rfl,cur,t,(0,0),?_,?_⟩⟩
  ·rw[hG g (by rw[e1];simp[Itm.foot,Value.ownBlock]),eh]
  ·rw[←e5,List.getElem?_take] at hc
   split at hc
   ·simpa using hc
   ·cases hc
theorem OwR.stamp (_:True){t:TypeId}{W w:World}{G:GH}{it:Itm}{H:List Itm}{v:Value}{xs:List α}(h:OwR E t G it v xs)(m:Mem W G w (it::H)):
  ∃G',GLe G G'∧Mem W G' w H∧RSr E G' v xs:=by
 obtain⟨G',h1,h2,h3,_⟩:=m.stamp
 exact⟨G',h1,h2,OwR.reads h (m.items 0 it (by simp)) h3⟩
theorem OwR.lend {t:TypeId}{W w:World}{G:GH}{it:Itm}{H:List Itm}{v:Value}{xs:List α}(h:OwR E t G it v xs)(m:Mem W G w (it::H)):
  ∃G',GLe G G'∧Mem W G' w H∧RSr E G' v xs∧
   ∀G'' w' H',GLe G' G''→Mem W G'' w' H'→∃G₃,GLe G G₃∧Mem W G₃ w' (it::H')∧OwR E t G₃ it v xs:=by
 obtain⟨G',h1,h2,h3,h4⟩:=m.stamp
 have hok:it.ok w:=m.items 0 it (by simp)
 have hap:∀x∈it.foot,G x=none:=m.apart 0 it (by simp)
 have hlt:=Itm.lt hok
 refine⟨G',h1,h2,OwR.reads h hok h3,λG'' w' H' hle m'=> ?_⟩
 have hx:∀x∈it.foot,G'' x=w.heap[x]? :=λx hx=>by
  have hl:=hlt x hx
  have:G' x=some w.heap[x]:=by rw[h3 x hx];simp[hl]
  rw[hle x _ this];simp[hl]
 refine⟨_,λb o k=> ?_,m'.unstamp hx hok (λi z hz x hxz hxi=> ?_) (λx hxi=> ?_),h⟩
 ·have:b∉it.foot:=λhx=>by rw[hap b hx] at k;cases k
  simp[this,hle b o (h1 b o k)]
 ·have h5:=m'.apart i z hz x hxz
  have hl:=hlt x hxi
  rw[hx x hxi] at h5
  simp[hl] at h5
 ·cases hg:W.heap[x]? with
  |none=>rfl
  |some o=>have h5:=m.base x o hg;rw[hap x hxi] at h5;cases h5
theorem OwR.lendCall {P:Program}{g:FuncId}{args:Array Value}(_:True){t:TypeId}{W w:World}{G:GH}{it:Itm}{H:List Itm}{v:Value}{xs:List α}{Q:GH→List Itm→Value→Prop}(j:Nat)
  (h:OwR E t G it v xs) (m:Mem W G w H) (hj:H[j]? =some it)
  (hc:∀G₁,GLe G G₁→Mem W G₁ w (H.eraseIdx j)→RSr E G₁ v xs→Calls P g args w (Res W G₁ (H.eraseIdx j) Q)) (hQ:∀G G' Ho v,Q G Ho v→Q G' Ho v):Calls P g args w (Res W G H Q):=by
 obtain⟨G₁,h1,m1,h2,back⟩:=h.lend (m.front j hj)
 refine(hc G₁ h1 m1 h2).mono λe w' ⟨r,he,G₂,Ho,h3,m2,hq⟩=> ?_
 obtain⟨G₃,h4,m3,_⟩:=back G₂ w' _ h3 m2
 refine⟨r,he,G₃,Ho,h4,?_,hQ _ _ _ _ hq⟩
 have hl:j<H.length:=(List.getElem?_eq_some_iff.1 hj).1
 have m4:=m3.back (Ho.length+j) (by simp[List.length_eraseIdx,hl];omega)
 have e:(Ho++H.eraseIdx j).take (Ho.length+j)++it::(Ho++H.eraseIdx j).drop (Ho.length+j)=Ho++H:=by
  rw[List.take_length_add_append,List.drop_length_add_append,List.append_assoc]
  congr 1
  rw[DB H j it hl]
  apply List.ext_getElem?
  intro k
  rw[List.getElem?_set]
  split
  ·rename_i e;subst e;simp[hl] at hj ⊢;exact hj.symm
  ·rfl
 rwa [e] at m4
end
section
variable {P : Program} {ops : Array Oper} {rest : List Oper} {n r : Bo} {x : List (Nat × Bo)} {a : Act} {w : World} {N : Nat} {L : Bx}
variable {d : Nat} {t : TypeId} {pos : String} {af : Array Edge} {W : World} {G : GH} {H : List Itm} {α : Type} {E : Rec α}
theorem AtR.cell {p:Value}{y:α}(h:AtR E G p y){fo:Nat}{c:Value}(hc:(E.enc y)[fo]? =some c):∃b o,p= .pointer (some ⟨b,o,none⟩)∧Cell G b (o+fo) c:=by
 obtain⟨b,o,e,hh⟩:=h
 exact⟨b,o,e,hh fo c hc⟩
end
section
variable {P : Program} {ops : Array Oper} {nn r : Bo} {x : List (Nat × Bo)} {T : Act → World → Prop} {W : World} {G : GH} {E H : List Itm} {N : Nat} {L : Bx} {a : Act} {fuel : Nat} {listed listed' : Array Bool}
variable {t : TypeId} {pos : String} {af : Array Edge} {gd : Option (Nat × Bool)} {d i : Nat} {α : Type} {C : Rec α}
end
end Go.Sx

namespace Go.Sx
def RTg {α:Type}(R:Rep α):Rep (Value×List α):=λG v x=>v=x.1∧RSl R G v x.2
theorem RTg.mono {α:Type}{R:Rep α}(hR:CY R):CY (RTg R):=λ_ _ _ _ hG h=>⟨h.1,RSl.mono hR _ _ _ _ hG h.2⟩
theorem RTg.one {α:Type}(R:Rep α):One (RTg R):=λ_ _ _ h=>RSl.one R _ _ _ h.2
theorem RTg.cells {α:Type}{R:Rep α}{G:GH}{v:Value}{x:Value×List α}(h:RTg R G v x):v.cells= #[v]:=h.2.cells
theorem RTg.one1 {α:Type}{R:Rep α}{G:GH}{v:Value}{x:Value×List α}(h:RTg R G v x):v.oneCell'=true:=h.2.one1
section
variable {W w : World} {G : GH} {H : List Itm}
theorem Mem.flip {A:List Itm}{x y:Itm}(m:Mem W G w (A++x::y::H)):Mem W G w (A++y::x::H):=by
 refine m.inj (λk=>if k=A.length then A.length+1 else if k=A.length+1 then A.length else k) (by intro a b;split<;>split<;>(repeat' split)<;>omega) ?_
 intro k z hz
 by_cases h1:k=A.length
 ·subst h1;simp at hz ⊢;exact hz
 ·by_cases h2:k=A.length+1
  ·subst h2
   simp only[Nat.succ_ne_self,if_false,if_true]
   rw[List.getElem?_append_right (by omega)] at hz
   simp at hz ⊢;exact hz
  ·simp only[h1,h2,if_false]
   by_cases h3:k<A.length
   ·rw[List.getElem?_append_left h3] at hz ⊢;exact hz
   ·rw[List.getElem?_append_right (by omega)] at hz ⊢
    obtain⟨q,hq⟩:∃q,k-A.length=q+2:=⟨k-A.length-2,by omega⟩
    rw[hq] at hz ⊢;exact hz
theorem Mem.perm {L L':List Itm}(p:L.Perm L'):∀(A H:List Itm),Mem W G w (A++L++H)→Mem W G w (A++L'++H):=by
 induction p with
 |nil=>exact λ_ _ m=>m
 |cons x _ ih=>intro A H m;have:=ih (A++[x]) H (by simpa using m);simpa using this
 |swap x y l=>intro A H m;have:=Mem.flip (A:=A) (H:=l++H) (x:=y) (y:=x) (by simpa using m);simpa using this
 |trans _ _ i1 i2=>exact λA H m=>i2 A H (i1 A H m)
theorem Mem.stamps :∀(L:List Itm) {G:GH},Mem W G w (L++H)→∃G',GLe G G'∧Mem W G' w H∧(∀it∈L,∀x∈it.foot,G' x=w.heap[x]?)∧∀x,(∀it∈L,x∉it.foot)→G' x=G x
 |[],G,m=>⟨G,GLe.refl G,m,by simp,λ_ _=>rfl⟩
 |it::L,G,m=>by
  obtain⟨G1,h1,m1,h2,h3⟩:=Mem.stamp (h:=it) m
  obtain⟨G2,k1,m2,k2,k3⟩:=Mem.stamps L m1
  refine⟨G2,h1.trans k1,m2,λz hz x hx=> ?_,λx hx=> ?_⟩
  ·rcases List.mem_cons.1 hz with rfl|hz
   ·have e1:=h2 x hx
    have hlt:=Itm.lt (m.items 0 _ rfl) x hx
    have e:w.heap[x]? =some w.heap[x]:=by simp[hlt]
    rw[e] at e1 ⊢;exact k1 x _ e1
   ·exact k2 z hz x hx
  ·rw[k3 x (λz hz=>hx z (List.mem_cons_of_mem _ hz)),h3 x (hx it (by simp))]
theorem Mem.unstamps {w0:World}:∀(L:List Itm) {G:GH},Mem W G w H→(∀it∈L,∀x∈it.foot,G x=w0.heap[x]?)→(∀it∈L,it.ok w0)→(∀it∈L,∀x∈it.foot,W.heap[x]? =none)→
  L.Pairwise (λa b=>∀x∈a.foot,x∉b.foot)→∃G',Mem W G' w (L++H)∧∀x,(∀it∈L,x∉it.foot)→G' x=G x
 |[],G,m,_,_,_,_=>⟨G,m,λ_ _=>rfl⟩
 |it::L,G,m,hx,hok,hW,hp=>by
  obtain⟨p1,p2⟩:=List.pairwise_cons.1 hp
  obtain⟨G1,m1,k⟩:=Mem.unstamps L m (λz hz=>hx z (List.mem_cons_of_mem _ hz)) (λz hz=>hok z (List.mem_cons_of_mem _ hz)) (λz hz=>hW z (List.mem_cons_of_mem _ hz)) p2
  have hx1:∀x∈it.foot,G1 x=w0.heap[x]? :=λx hxi=>by
   rw[k x (λz hz hxz=>p1 z hz x hxi hxz),hx it (by simp) x hxi]
  refine⟨_,m1.unstamp hx1 (hok it (by simp)) (λi z hz x hxz hxi=> ?_) (hW it (by simp)),λx hxl=> ?_⟩
  ·have e1:=m1.apart i z hz x hxz
   rw[hx1 x hxi] at e1
   have hlt:=Itm.lt (hok it (by simp)) x hxi
   simp[hlt] at e1
  ·simp only[hxl it (by simp),if_false]
   exact k x (λz hz=>hxl z (List.mem_cons_of_mem _ hz))
end
theorem perm_of_map {α β:Type}(f:α→β){zs ws:List β}(p:zs.Perm ws):∀l:List α,l.map f=ws→∃l':List α,l'.Perm l∧l'.map f=zs:=by
 induction p with
 |nil=>intro l h;exact⟨l,List.Perm.refl _,h⟩
 |cons x _ ih=>
  intro l h
  match l,h with
  |a::l,h=>
   simp at h
   obtain⟨l',p',e⟩:=ih l h.2
   exact⟨a::l',p'.cons a,by simp[e,h.1]⟩
 |swap x y s=>
  intro l h
  match l,h with
  |a::b::l,h=>
   simp at h
   exact⟨b::a::l,List.Perm.swap a b l,by simp[h.1,h.2.1,h.2.2]⟩
 |trans _ _ i1 i2=>
  intro l h
  obtain⟨l1,p1,e1⟩:=i2 l h
  obtain⟨l2,p2,e2⟩:=i1 l1 e1
  exact⟨l2,p2.trans p1,e2⟩
section
variable {P : Program} {g : FuncId} {args : Array Value} {α : Type} {R : Rep α} {t1 t2 : TypeId} {W w : World} {G : GH} {it : Itm} {H : List Itm} {v : Value} {xs ys : List (List α)}
theorem Ow2.sortCall (hF:Free R)(h:Ow2 R t1 t2 G it v xs)(m:Mem W G w (it::H))
  (k:∀Z:List (Value×List α),Z.map (·.2)=xs→∃zs:List (Value×List α),zs.Perm Z∧zs.map (·.2)=ys∧∀G₁ it₁,Mem W G₁ w (it₁::H)→Ow (RTg R) t1 G₁ it₁ v Z→
   Calls P g args w (Res W G₁ H (λG' Ho _=>∃it',Ho=[it']∧Ow (RTg R) t1 G' it' v zs))):
  Calls P g args w (Res W G H (λG' Ho _=>∃it',Ho=[it']∧Ow2 R t1 t2 G' it' v ys)):=by
 obtain⟨rows,rfl,hl,hA⟩:=h
 have m2:Mem W G w (Itm.row v t1 1 rows.length (rows.map (·.1))::(rows.map (BL t2)++H)):=by simpa [parts] using Mem.deep.1 m
 have m3:Mem W G w (rows.map (BL t2)++(Itm.row v t1 1 rows.length (rows.map (·.1))::H)):=by
  have:=m2.back (rows.map (BL t2)).length (by simp)
  simpa using this
 obtain⟨G1,h1,m4,h2,h3⟩:=Mem.stamps _ m3
 let T:=rows.zip xs
 let f:(Value×List Value)×List α→Value×List α:=λp=>(p.1.1,p.2)
 have hT1:T.map (·.1)=rows:=List.map_fst_zip (by omega)
 have hT2:T.map (·.2)=xs:=List.map_snd_zip (by omega)
 have hZ:(T.map f).map (·.2)=xs:=by rw[List.map_map];exact hT2
 obtain⟨zs,hp,he,kk⟩:=k (T.map f) hZ
 have hTl:T.length=rows.length:=by rw[←hT1];simp
 have hok:∀z∈rows.map (BL t2),z.ok w:=λz hz=>by
  obtain⟨i,hi,e⟩:=List.getElem_of_mem hz
  exact m3.items i z (by rw[List.getElem?_append_left hi,List.getElem?_eq_getElem hi,e])
 have o1:Ow (RTg R) t1 G1 (.row v t1 1 rows.length (rows.map (·.1))) v (T.map f):=by
  refine⟨rows.map (·.1),by simp[hTl],by simp[hTl],λi c x hc hx=> ?_⟩
  rw[List.getElem?_map] at hc hx
  cases hr:rows[i]? with
  |none=>simp[hr] at hc
  |some r=>
   simp[hr] at hc;subst hc
   cases hx0:xs[i]? with
   |none=>
    have:=(List.getElem?_eq_some_iff.1 hr).1
    simp at hx0;omega
   |some x0=>
    have e:T[i]? =some (r,x0):=by simp[T,List.getElem?_zip_eq_some,hr,hx0]
    rw[e] at hx;simp at hx;subst hx
    have hA':=hA i r x0 hr hx0
    have hm:BL t2 r∈rows.map (BL t2):=List.mem_map.2 ⟨r,List.mem_of_getElem? hr,rfl⟩
    refine⟨rfl,Fv hA'.1 (hok _ hm) (λy hy=>h2 _ hm y hy) (hA'.mono λv x=>hF G G1 v x)⟩
 refine(kk G1 _ m4 o1).mono λe w' ⟨r,hr,G2,Ho,h5,m5,it',e1,o2⟩=> ?_
 subst e1
 have hap:∀z∈rows.map (BL t2),∀x∈z.foot,G x=none:=λz hz=>by
  obtain⟨i,hi,e⟩:=List.getElem_of_mem hz
  exact m3.apart i z (by rw[List.getElem?_append_left hi,List.getElem?_eq_getElem hi,e])
 obtain⟨G3,m6,h6⟩:=Mem.unstamps (w0:=w) (rows.map (BL t2)) m5
  (λz hz x hx=>by
   have e1:=h2 z hz x hx
   have hlt:=Itm.lt (hok z hz) x hx
   have e:w.heap[x]? =some w.heap[x]:=by simp[hlt]
   rw[e] at e1 ⊢;exact h5 x _ e1)
  hok
  (λz hz x hx=>by
   cases hg:W.heap[x]? with
   |none=>rfl
   |some o=>have:=m3.base x o hg;rw[hap z hz x hx] at this;cases this)
  (by
   rw[List.pairwise_iff_getElem]
   intro i j hi hj hij x hx
   exact m3.disj i j _ _ (by omega) (by rw[List.getElem?_append_left hi,List.getElem?_eq_getElem hi]) (by rw[List.getElem?_append_left hj,List.getElem?_eq_getElem hj]) x hx)
 obtain⟨T',hT,rfl⟩:=perm_of_map f hp T rfl
 obtain⟨vs,rfl,hvs⟩:=o2
 have hv:vs=(T'.map (·.1)).map (·.1):=by
  apply List.ext_getElem
  ·rw[hvs.1];simp
  ·intro i h7 h8
   have:=(hvs.2 i vs[i] ((T'.map f)[i]'(by simpa using h8)) (by simp[h7]) (by simp at h8;simp[h8])).1
   rw[this];simp[f]
 subst hv
 have hperm:(rows.map (BL t2)).Perm ((T'.map (·.1)).map (BL t2)):=by
  have:=((hT.map (·.1)).map (BL t2)).symm
  rwa [hT1] at this
 have m7:=Mem.perm hperm [] _ (by simpa using m6)
 have m8:=Mem.front m7 ((T'.map (·.1)).map (BL t2)).length (by simp only[List.nil_append];rw[List.getElem?_append_right (by omega)];simp;rfl)
 refine⟨r,hr,G3,[.deep v t1 t2 (T'.map (·.1))],λb o hb=> ?_,Mem.deep.2 ?_,_,rfl,T'.map (·.1),rfl,by rw[←he];simp,λi r0 x0 hr0 hx0=> ?_⟩
 ·rw[h6 b (λz hz hbz=>by rw[hap z hz b hbz] at hb;cases hb)]
  exact h5 b o (h1 b o hb)
 ·rw[List.nil_append,List.eraseIdx_append_of_length_le (by omega),Nat.sub_self] at m8
  simpa [parts] using m8
 ·rw[←he] at hx0
  rw[List.getElem?_map] at hr0
  cases ht:T'[i]? with
  |none=>simp[ht] at hr0
  |some p=>
   simp[ht] at hr0 hx0
   subst hr0
   have hm:p∈T:=hT.mem_iff.1 (List.mem_of_getElem? ht)
   obtain⟨q,hq,e⟩:=List.getElem_of_mem hm
   have e2:T[q]? =some p:=by simp[hq,e]
   have e3:=List.getElem?_zip_eq_some.1 e2
   have hx1:x0=p.2:=by simpa [f] using hx0.symm
   rw[hx1]
   exact(hA q p.1 p.2 e3.1 e3.2).mono λv x=>hF G G3 v x
theorem Ow.sortCall (h:Ow (RSl R) t1 G it v xs)(m:Mem W G w (it::H))
  (k:∀Z:List (Value×List α),Z.map (·.2)=xs→∃zs:List (Value×List α),zs.Perm Z∧zs.map (·.2)=ys∧∀G₁ it₁,Mem W G₁ w (it₁::H)→Ow (RTg R) t1 G₁ it₁ v Z→
   Calls P g args w (Res W G₁ H (λG' Ho _=>∃it',Ho=[it']∧Ow (RTg R) t1 G' it' v zs))):
  Calls P g args w (Res W G H (λG' Ho _=>∃it',Ho=[it']∧Ow (RSl R) t1 G' it' v ys)):=by
 obtain⟨vs,rfl,hA⟩:=h
 have hl:=hA.1
 obtain⟨zs,hp,he,kk⟩:=k (vs.zip xs) (List.map_snd_zip (by omega))
 have o1:Ow (RTg R) t1 G (.row v t1 1 xs.length vs) v (vs.zip xs):=by
  refine⟨vs,by simp[hl],by simp[hl],λi c x hc hx=> ?_⟩
  obtain⟨e1,e2⟩:=List.getElem?_zip_eq_some.1 hx
  rw[hc] at e1;cases e1
  exact⟨rfl,hA.2 i _ _ hc e2⟩
 refine(kk G _ m o1).mono λe w' ⟨r,hr,G2,Ho,h5,m5,it',e1,o2⟩=> ?_
 obtain⟨us,rfl,hB⟩:=o2
 refine⟨r,hr,G2,Ho,h5,m5,_,e1,us,by rw[←he];simp,by rw[←he,hB.1];simp,λi c x hc hx=> ?_⟩
 rw[←he,List.getElem?_map] at hx
 cases hz:zs[i]? with
 |none=>simp[hz] at hx
 |some z=>simp[hz] at hx;subst hx;exact(hB.2 i c z hc hz).2
end
end Go.Sx

namespace Go.Sx
def Bn (l:LI):Int:=l.getD 0 0*1048576+l.getD 1 0
def Cv (l:LI):Prop:=l.length=2∧0≤l.getD 0 0∧l.getD 0 0<1048576∧0≤l.getD 1 0∧l.getD 1 0<1048576
def B4 (a b:LI):Bool:=decide (Bn a≤Bn b)
open Classical in
noncomputable def CH (xs:LL):Option LL:=if xs.length≤1000000∧∀x∈xs,Cv x then some (xs.mergeSort B4) else none
end Go.Sx

namespace Go.Sx
open IntKind
noncomputable section
def D.y1 (a b:Int):Option (Int):=
 (D.O a).bind λd=>(D.O b).bind λc=>cond d (cond c (some 0) (some (-1))) (cond c (some 1) (cond (decide (a<b)) (some (-1)) (cond (decide (b<a)) (some 1) (some 0))))
def D.c (b c:LI):Option (Int):=
 (Aq (σ:=Int) (ρ:=(Unit) ⊕ (Int)) (fun(a:Int)=>cond (decide (a<(b.length:Int))) ((idx b a).bind λe=>cond (decide ((c.length:Int)≤a)) (some (.inr (.inr 1))) ((idx c a).bind λf=>(D.y1 e f).bind λd=>cond (d !=0) (some (.inr (.inr d))) (some (.inl (i64.wrap (a+1)))))) (some (.inr (.inl ())))) 0).bind λzz=>match zz with| .inl _=>(cond (decide ((b.length:Int)<(c.length:Int))) (some (-1)) (some 0))| .inr z=>(some z)
def D.J1 (b c:LI):Option (Bool):=
 cond ((b.length:Int) !=(c.length:Int)) (some (decide ((b.length:Int)<(c.length:Int)))) ((Aq (σ:=Int) (ρ:=(Unit) ⊕ (Bool)) (fun(a:Int)=>cond (decide (a<(b.length:Int))) ((idx b a).bind λd=>(idx c a).bind λe=>cond (d !=e) ((idx b a).bind λf=>(idx c a).bind λg=>some (.inr (.inr (decide (f<g))))) (some (.inl (i64.wrap (a+1))))) (some (.inr (.inl ())))) 0).bind λzz=>match zz with| .inl _=>(some false)| .inr z=>(some z))
def D.L0 (c:LL)(f g:Int):Option LL:=
 (D.k0 f g).bind λi=>(D.x2 f g).bind λj=>(Aq (σ:=LI×LL×Bool×Int) (ρ:=(LI×LL×Bool)) (fun(b,d,e,a)=>cond (decide (a<(c.length:Int))) ((cond (!e) ((idx c a).bind λl=>(D.J1 b l).bind λm=>some m) (some false)).bind λn=>cond n ((AS d ([b]:LL)).bind λo=>(idx c a).bind λp=>(AS o ([p]:LL)).bind λq=>some (.inl (b,q,true,(i64.wrap (a+1))))) ((idx c a).bind λr=>(AS d ([r]:LL)).bind λs=>some (.inl (b,s,e,(i64.wrap (a+1)))))) (some (.inr (b,d,e)))) (([i,j]:LI),([]:LL),false,0)).bind fun(t,h,u)=>cond (!u) ((AS h ([t]:LL)).bind λv=>some v) (some h)
def D.F1 (g:(List (Value×LI)))(d h:Int):Option (((List (Value×LI)))):=
 (Aq (σ:=(List (Value×LI))×Int) (ρ:=((List (Value×LI)))) (fun(i:(List (Value×LI))×Int)=>match i with|(e,c)=>cond (decide (c<h)) ((Aq (σ:=(List (Value×LI))×Int) (ρ:=((List (Value×LI)))) (fun(j:(List (Value×LI))×Int)=>match j with|(b,a)=>(cond (decide (d<a)) ((idx b a).bind λk=>(idx b (i64.wrap (a-1))).bind λl=>(D.c k.2 l.2).bind λm=>some (decide (m<0))) (some false)).bind λn=>cond n ((idx b (i64.wrap (a-1))).bind λf=>(idx b a).bind λo=>(idx b a).bind λr=>(idx (b.set (Int.toNat a) f) (i64.wrap (a-1))).bind λs=>some (.inl (((b.set (Int.toNat a) f).set (Int.toNat (i64.wrap (a-1))) o),(i64.wrap (a-1))))) (some (.inr b))) (e,c)).bind λp=>some (.inl (p,(i64.wrap (c+1))))) (some (.inr e))) (g,(i64.wrap (d+1)))).bind λq=>some q
def D.W0 (g:(List (Value×LI)))(h e a:Int):Option (((List (Value×LI)))):=
 (Aq (σ:=(List (Value×LI))×Int) (ρ:=((List (Value×LI))) ⊕ (((List (Value×LI))))) (fun(i:(List (Value×LI))×Int)=>match i with|(b,c)=>cond (decide (e≤(i64.wrap ((i64.wrap (2*c))+1)))) (some (.inr (.inl b))) ((cond (decide ((i64.wrap ((i64.wrap ((i64.wrap (2*c))+1))+1))<e)) ((idx b (i64.wrap (a+(i64.wrap ((i64.wrap (2*c))+1))))).bind λj=>(idx b (i64.wrap ((i64.wrap (a+(i64.wrap ((i64.wrap (2*c))+1))))+1))).bind λk=>(D.c j.2 k.2).bind λl=>some (decide (l<0))) (some false)).bind λm=>((cond m (some (i64.wrap ((i64.wrap ((i64.wrap (2*c))+1))+1))) (some (i64.wrap ((i64.wrap (2*c))+1))):Option (Int))).bind λd=>(idx b (i64.wrap (a+c))).bind λn=>(idx b (i64.wrap (a+d))).bind λo=>(D.c n.2 o.2).bind λp=>cond (!(decide (p<0))) (some (.inr (.inr b))) ((idx b (i64.wrap (a+d))).bind λf=>(idx b (i64.wrap (a+c))).bind λq=>(idx b (i64.wrap (a+c))).bind λs=>(idx (b.set (Int.toNat (i64.wrap (a+c))) f) (i64.wrap (a+d))).bind λt=>some (.inl (((b.set (Int.toNat (i64.wrap (a+c))) f).set (Int.toNat (i64.wrap (a+d))) q),d))))) (g,h)).bind λzz=>match zz with| .inl r=>(some r)| .inr z=>(some z)
def D.b2 (h:(List (Value×LI)))(a d:Int):Option (((List (Value×LI)))):=
 (Aq (σ:=(List (Value×LI))×Int) (ρ:=((List (Value×LI)))) (fun(i:(List (Value×LI))×Int)=>match i with|(f,e)=>cond (decide ((0:Int)≤e)) ((D.W0 f e (i64.wrap (d-a)) a).bind λj=>some (.inl (j,(i64.wrap (e-1))))) (some (.inr f))) (h,(i64.wrap (Int.tdiv (i64.wrap ((i64.wrap (d-a))-1)) 2)))).bind λk=>(Aq (σ:=(List (Value×LI))×Int) (ρ:=((List (Value×LI)))) (fun(l:(List (Value×LI))×Int)=>match l with|(b,c)=>cond (decide ((0:Int)≤c)) ((idx b (i64.wrap (a+c))).bind λg=>(idx b a).bind λm=>(idx b a).bind λp=>(idx (b.set (Int.toNat a) g) (i64.wrap (a+c))).bind λq=>(D.W0 ((b.set (Int.toNat a) g).set (Int.toNat (i64.wrap (a+c))) m) 0 c a).bind λn=>some (.inl (n,(i64.wrap (c-1))))) (some (.inr b))) (k,(i64.wrap ((i64.wrap (d-a))-1)))).bind λo=>some o
def D.Q1 (h:(List (Value×LI)))(a b:Int):Option (((List (Value×LI)))):=
 cond (decide ((8:Int)≤(i64.wrap (b-a)))) ((D.I (i64.wrap (b-a))).bind λf=>(Aq (σ:=(List (Value×LI))×Int×Int) (ρ:=((List (Value×LI)))) (fun(j:(List (Value×LI))×Int×Int)=>match j with|(c,d,k)=>cond (decide (d≤(i64.wrap ((i64.wrap (a+(i64.wrap ((i64.wrap (Int.tdiv (i64.wrap (b-a)) 4))*2))))+1)))) ((D.b0 k).bind λe=>((cond (decide ((i64.wrap (b-a))≤(i64.wrap (iand .u64 e.1 (IntKind.u64.wrap (f-1)))))) (some (i64.wrap ((i64.wrap (iand .u64 e.1 (IntKind.u64.wrap (f-1))))-(i64.wrap (b-a))))) (some (i64.wrap (iand .u64 e.1 (IntKind.u64.wrap (f-1))))):Option (Int))).bind λg=>(idx c (i64.wrap (a+g))).bind λi=>(idx c d).bind λl=>(idx c d).bind λn=>(idx (c.set (Int.toNat d) i) (i64.wrap (a+g))).bind λo=>some (.inl (((c.set (Int.toNat d) i).set (Int.toNat (i64.wrap (a+g))) l),(i64.wrap (d+1)),e.2))) (some (.inr c))) (h,(i64.wrap ((i64.wrap (a+(i64.wrap ((i64.wrap (Int.tdiv (i64.wrap (b-a)) 4))*2))))-1)),(IntKind.u64.wrap (i64.wrap (b-a))))).bind λm=>some m) (some h)
def D.C0 (a:(List (Value×LI)))(b c d:Int):Option (Int×Int×((List (Value×LI)))×Int):=
 (idx a c).bind λe=>(idx a b).bind λf=>(D.c e.2 f.2).bind λg=>cond (decide (g<0)) (some (c,b,a,(i64.wrap (d+1)))) (some (b,c,a,d))
def D.w1 (d:(List (Value×LI)))(e f:Int)(g h:Int):Option (Int×((List (Value×LI)))×Int):=
 (D.C0 d e f h).bind λa=>(D.C0 a.2.2.1 a.2.1 g a.2.2.2).bind λb=>(D.C0 b.2.2.1 a.1 b.1 b.2.2.2).bind λc=>some (c.2.1,c.2.2.1,c.2.2.2)
def D.r0 (c:(List (Value×LI)))(a d:Int):Option (Int×((List (Value×LI)))×Int):=
 (D.w1 c (i64.wrap (a-1)) a (i64.wrap (a+1)) d).bind λb=>some (b.1,b.2.1,b.2.2)
def D.Y1 (d:(List (Value×LI)))(a b:Int):Option (Int×Int×((List (Value×LI)))):=
 cond (decide ((8:Int)≤(i64.wrap (b-a)))) (((cond (decide ((50:Int)≤(i64.wrap (b-a)))) ((D.r0 d (i64.wrap (a+(i64.wrap ((i64.wrap (Int.tdiv (i64.wrap (b-a)) 4))*1)))) 0).bind λe=>(D.r0 e.2.1 (i64.wrap (a+(i64.wrap ((i64.wrap (Int.tdiv (i64.wrap (b-a)) 4))*2)))) e.2.2).bind λf=>(D.r0 f.2.1 (i64.wrap (a+(i64.wrap ((i64.wrap (Int.tdiv (i64.wrap (b-a)) 4))*3)))) f.2.2).bind λg=>some (g.2.1,e.1,f.1,g.1,g.2.2)) (some (d,(i64.wrap (a+(i64.wrap ((i64.wrap (Int.tdiv (i64.wrap (b-a)) 4))*1)))),(i64.wrap (a+(i64.wrap ((i64.wrap (Int.tdiv (i64.wrap (b-a)) 4))*2)))),(i64.wrap (a+(i64.wrap ((i64.wrap (Int.tdiv (i64.wrap (b-a)) 4))*3)))),0)):Option ((List (Value×LI))×Int×Int×Int×Int))).bind fun(h,i,j,k,l)=>(D.w1 h i j k l).bind λc=>cond (c.2.2==0) (some (c.1,1,c.2.1)) (cond (c.2.2==12) (some (c.1,2,c.2.1)) (some (c.1,0,c.2.1)))) (cond ((0:Int)==0) (some ((i64.wrap (a+(i64.wrap ((i64.wrap (Int.tdiv (i64.wrap (b-a)) 4))*2)))),1,d)) (cond ((0:Int)==12) (some ((i64.wrap (a+(i64.wrap ((i64.wrap (Int.tdiv (i64.wrap (b-a)) 4))*2)))),2,d)) (some ((i64.wrap (a+(i64.wrap ((i64.wrap (Int.tdiv (i64.wrap (b-a)) 4))*2)))),0,d))))
def D.V1 (e:(List (Value×LI)))(f g:Int):Option (((List (Value×LI)))):=
 (Aq (σ:=(List (Value×LI))×Int×Int) (ρ:=((List (Value×LI)))) (fun(h:(List (Value×LI))×Int×Int)=>match h with|(a,b,c)=>cond (decide (b<c)) ((idx a c).bind λd=>(idx a b).bind λi=>(idx a b).bind λk=>(idx (a.set (Int.toNat b) d) c).bind λl=>some (.inl (((a.set (Int.toNat b) d).set (Int.toNat c) i),(i64.wrap (b+1)),(i64.wrap (c-1))))) (some (.inr a))) (e,f,(i64.wrap (g-1)))).bind λj=>some j
def D.g2 (p:(List (Value×LI)))(i g:Int):Option (Bool×((List (Value×LI)))):=
 (Aq (σ:=(List (Value×LI))×Int×Int) (ρ:=((List (Value×LI))) ⊕ (Bool×((List (Value×LI))))) (fun(q:(List (Value×LI))×Int×Int)=>match q with|(b,r,j)=>cond (decide (j<5)) ((Aq (σ:=Int) (ρ:=(Int)) (fun(h:Int)=>(cond (decide (h<g)) ((idx b h).bind λs=>(idx b (i64.wrap (h-1))).bind λt=>(D.c s.2 t.2).bind λu=>some (!(decide (u<0)))) (some false)).bind λv=>cond v (some (.inl (i64.wrap (h+1)))) (some (.inr h))) r).bind λa=>cond (a==g) (some (.inr (.inr (true,b)))) (cond (decide ((i64.wrap (g-i))<50)) (some (.inr (.inr (false,b)))) ((idx b (i64.wrap (a-1))).bind λk=>(idx b a).bind λl=>(idx b a).bind λak=>(idx (b.set (Int.toNat a) k) (i64.wrap (a-1))).bind λal=>((cond (decide ((2:Int)≤(i64.wrap (a-i)))) ((Aq (σ:=(List (Value×LI))×Int) (ρ:=((List (Value×LI)))) (fun(w:(List (Value×LI))×Int)=>match w with|(e,c)=>cond (decide ((1:Int)≤c)) ((idx e c).bind λx=>(idx e (i64.wrap (c-1))).bind λy=>(D.c x.2 y.2).bind λaa=>cond (!(decide (aa<0))) (some (.inr e)) ((idx e (i64.wrap (c-1))).bind λm=>(idx e c).bind λab=>(idx e c).bind λam=>(idx (e.set (Int.toNat c) m) (i64.wrap (c-1))).bind λan=>some (.inl (((e.set (Int.toNat c) m).set (Int.toNat (i64.wrap (c-1))) ab),(i64.wrap (c-1)))))) (some (.inr e))) (((b.set (Int.toNat a) k).set (Int.toNat (i64.wrap (a-1))) l),(i64.wrap (a-1)))).bind λac=>some ac) (some ((b.set (Int.toNat a) k).set (Int.toNat (i64.wrap (a-1))) l)):Option ((List (Value×LI))))).bind λn=>cond (decide ((2:Int)≤(i64.wrap (g-a)))) ((Aq (σ:=(List (Value×LI))×Int) (ρ:=((List (Value×LI)))) (fun(ad:(List (Value×LI))×Int)=>match ad with|(f,d)=>cond (decide (d<g)) ((idx f d).bind λae=>(idx f (i64.wrap (d-1))).bind λaf=>(D.c ae.2 af.2).bind λag=>cond (!(decide (ag<0))) (some (.inr f)) ((idx f (i64.wrap (d-1))).bind λo=>(idx f d).bind λah=>(idx f d).bind λao=>(idx (f.set (Int.toNat d) o) (i64.wrap (d-1))).bind λap=>some (.inl (((f.set (Int.toNat d) o).set (Int.toNat (i64.wrap (d-1))) ah),(i64.wrap (d+1)))))) (some (.inr f))) (n,(i64.wrap (a+1)))).bind λai=>some (.inl (ai,a,(i64.wrap (j+1))))) (some (.inl (n,a,(i64.wrap (j+1)))))))) (some (.inr (.inl b)))) (p,(i64.wrap (i+1)),0)).bind λzz=>match zz with| .inl aj=>(some (false,aj))| .inr z=>(some z)
def D.H1 (d:(List (Value×LI)))(c l h:Int):Option (Int×((List (Value×LI)))):=
 (idx d h).bind λi=>(idx d c).bind λm=>(idx d c).bind λaa=>(idx (d.set (Int.toNat c) i) h).bind λab=>(Aq (σ:=(List (Value×LI))×Int×Int) (ρ:=((List (Value×LI))×Int)) (fun(n:(List (Value×LI))×Int×Int)=>match n with|(a,o,j)=>(Aq (σ:=Int) (ρ:=(Int)) (fun(f:Int)=>(cond (decide (f≤j)) ((idx a c).bind λp=>(idx a f).bind λq=>(D.c p.2 q.2).bind λr=>some (!(decide (r<0)))) (some false)).bind λs=>cond s (some (.inl (i64.wrap (f+1)))) (some (.inr f))) o).bind λb=>(Aq (σ:=Int) (ρ:=(Int)) (fun(g:Int)=>(cond (decide (b≤g)) ((idx a c).bind λt=>(idx a g).bind λu=>(D.c t.2 u.2).bind λv=>some (decide (v<0))) (some false)).bind λw=>cond w (some (.inl (i64.wrap (g-1)))) (some (.inr g))) j).bind λe=>cond (decide (e<b)) (some (.inr (a,b))) ((idx a e).bind λk=>(idx a b).bind λx=>(idx a b).bind λac=>(idx (a.set (Int.toNat b) k) e).bind λad=>some (.inl (((a.set (Int.toNat b) k).set (Int.toNat e) x),(i64.wrap (b+1)),(i64.wrap (e-1)))))) (((d.set (Int.toNat c) i).set (Int.toNat h) m),(i64.wrap (c+1)),(i64.wrap (l-1)))).bind fun(y,z)=>some (z,y)
def D.E1 (b:(List (Value×LI)))(a q c:Int):Option (Int×Bool×((List (Value×LI)))):=
 (idx b c).bind λd=>(idx b a).bind λe=>(idx b a).bind λau=>(idx (b.set (Int.toNat a) d) c).bind λav=>(Aq (σ:=Int) (ρ:=(Int)) (fun(m:Int)=>(cond (decide (m≤(i64.wrap (q-1)))) ((idx ((b.set (Int.toNat a) d).set (Int.toNat c) e) m).bind λw=>(idx ((b.set (Int.toNat a) d).set (Int.toNat c) e) a).bind λx=>(D.c w.2 x.2).bind λy=>some (decide (y<0))) (some false)).bind λz=>cond z (some (.inl (i64.wrap (m+1)))) (some (.inr m))) (i64.wrap (a+1))).bind λh=>(Aq (σ:=Int) (ρ:=(Int)) (fun(n:Int)=>(cond (decide (h≤n)) ((idx ((b.set (Int.toNat a) d).set (Int.toNat c) e) n).bind λaa=>(idx ((b.set (Int.toNat a) d).set (Int.toNat c) e) a).bind λab=>(D.c aa.2 ab.2).bind λac=>some (!(decide (ac<0)))) (some false)).bind λad=>cond ad (some (.inl (i64.wrap (n-1)))) (some (.inr n))) (i64.wrap (q-1))).bind λf=>cond (decide (f<h)) ((idx ((b.set (Int.toNat a) d).set (Int.toNat c) e) a).bind λr=>(idx ((b.set (Int.toNat a) d).set (Int.toNat c) e) f).bind λae=>(idx ((b.set (Int.toNat a) d).set (Int.toNat c) e) f).bind λaw=>(idx (((b.set (Int.toNat a) d).set (Int.toNat c) e).set (Int.toNat f) r) a).bind λax=>some (f,true,((((b.set (Int.toNat a) d).set (Int.toNat c) e).set (Int.toNat f) r).set (Int.toNat a) ae))) ((idx ((b.set (Int.toNat a) d).set (Int.toNat c) e) f).bind λs=>(idx ((b.set (Int.toNat a) d).set (Int.toNat c) e) h).bind λaf=>(idx ((b.set (Int.toNat a) d).set (Int.toNat c) e) h).bind λay=>(idx (((b.set (Int.toNat a) d).set (Int.toNat c) e).set (Int.toNat h) s) f).bind λaz=>(Aq (σ:=(List (Value×LI))×Int×Int) (ρ:=((List (Value×LI))×Int)) (fun(ag:(List (Value×LI))×Int×Int)=>match ag with|(g,ah,t)=>(Aq (σ:=Int) (ρ:=(Int)) (fun(o:Int)=>(cond (decide (o≤t)) ((idx g o).bind λai=>(idx g a).bind λaj=>(D.c ai.2 aj.2).bind λak=>some (decide (ak<0))) (some false)).bind λal=>cond al (some (.inl (i64.wrap (o+1)))) (some (.inr o))) ah).bind λi=>(Aq (σ:=Int) (ρ:=(Int)) (fun(p:Int)=>(cond (decide (i≤p)) ((idx g p).bind λam=>(idx g a).bind λan=>(D.c am.2 an.2).bind λao=>some (!(decide (ao<0)))) (some false)).bind λap=>cond ap (some (.inl (i64.wrap (p-1)))) (some (.inr p))) t).bind λj=>cond (decide (j<i)) (some (.inr (g,j))) ((idx g j).bind λu=>(idx g i).bind λaq=>(idx g i).bind λa0=>(idx (g.set (Int.toNat i) u) j).bind λa1=>some (.inl (((g.set (Int.toNat i) u).set (Int.toNat j) aq),(i64.wrap (i+1)),(i64.wrap (j-1)))))) (((((b.set (Int.toNat a) d).set (Int.toNat c) e).set (Int.toNat h) s).set (Int.toNat f) af),(i64.wrap (h+1)),(i64.wrap (f-1)))).bind fun(k,l)=>(idx k a).bind λv=>(idx k l).bind λar=>(idx k l).bind λa2=>(idx (k.set (Int.toNat l) v) a).bind λa3=>some (l,false,((k.set (Int.toNat l) v).set (Int.toNat a) ar)))
def D.h0 :Nat→((List (Value×LI)))→Int→Int→Int→Option (((List (Value×LI))))
 |0,_,_,_,_=>none
 |fuel+1,o,p,r,s=>(Aq (σ:=(List (Value×LI))×Int×Int×Int×Bool×Bool) (ρ:=(((List (Value×LI))))) (fun(t:(List (Value×LI))×Int×Int×Int×Bool×Bool)=>match t with|(f,a,b,h,i,l)=>cond (decide ((i64.wrap (b-a))≤12)) ((D.F1 f a b).bind λu=>some (.inr u)) (cond (h==0) ((D.b2 f a b).bind λv=>some (.inr v)) (((cond (!i) ((D.Q1 f a b).bind λw=>some (w,(i64.wrap (h-1)))) (some (f,h)):Option ((List (Value×LI))×Int))).bind fun(x,e)=>(D.Y1 x a b).bind λd=>((cond (d.2.1==2) ((D.V1 d.2.2 a b).bind λy=>some (y,(i64.wrap ((i64.wrap (b-1))-(i64.wrap (d.1-a)))),1)) (some (d.2.2,d.1,d.2.1)):Option ((List (Value×LI))×Int×Int))).bind fun(m,j,aa)=>((cond ((i&&l)&&(aa==1)) ((D.g2 m a b).bind λk=>cond k.1 (some (.inr k.2)) (some (.inl k.2))) (some (.inl m)):Option (((List (Value×LI))) ⊕ (((List (Value×LI))))))).bind λq=>match q with| .inl g=>((cond (decide ((0:Int)<a)) ((idx g (i64.wrap (a-1))).bind λab=>(idx g j).bind λac=>(D.c ab.2 ac.2).bind λad=>some (!(decide (ad<0)))) (some false)).bind λae=>cond ae ((D.H1 g a b j).bind λn=>some (.inl (n.2,n.1,b,e,i,l))) ((D.E1 g a b j).bind λc=>cond (decide ((i64.wrap (c.1-a))<(i64.wrap (b-c.1)))) ((D.h0 fuel c.2.2 a c.1 e).bind λaf=>some (.inl (af,(i64.wrap (c.1+1)),b,e,(decide ((i64.wrap (Int.tdiv (i64.wrap (b-a)) 8))≤(i64.wrap (c.1-a)))),c.2.1))) ((D.h0 fuel c.2.2 (i64.wrap (c.1+1)) b e).bind λag=>some (.inl (ag,a,c.1,e,(decide ((i64.wrap (Int.tdiv (i64.wrap (b-a)) 8))≤(i64.wrap (b-c.1)))),c.2.1)))))| .inr q=>(some (.inr q))))) (o,p,r,s,true,true)).bind λz=>some z
def D.x (a:(List (Value×LI)))(b c d:Int):Option (((List (Value×LI)))):=D.h0 Cf a b c d
def D.B0 (a:(List (Value×LI))):Option (((List (Value×LI)))):=
 (D.E (IntKind.u64.wrap (a.length:Int))).bind λb=>(D.x a 0 (a.length:Int) b).bind λc=>some c
end
end Go.Sx

namespace Go.Sx
def DO :Value→Bool
 | .slice none _ _=>true
 |_=>false
section
variable {P : Program} {ρ : Operand → Value} {w : World} {d : Option Tmp} {t : TypeId} {pos : String} {af : Array Edge} {gd : Option (Nat × Bool)}
theorem run_eq_nil_aux (dd:Nat){u e:TypeId}{v:Value}(hu:P.underlying u=some (.slice e))(hv:∃a l c,v= .slice a l c):(Op.equalIn (dd+1) u v (.slice none 0 0)).run P w= .ok (DO v) w:=by
 obtain⟨a,l,c,rfl⟩:=hv
 cases a<;>simp[Op.equalIn,run_underlying hu,DO]
theorem run_eq_nil {u e:TypeId}{v:Value}(hu:P.underlying u=some (.slice e))(hv:∃a l c,v= .slice a l c):(Op.equal u v (.slice none 0 0)).run P w= .ok (DO v) w:=run_eq_nil_aux 9999 hu hv
theorem FK {u u' e:TypeId}{x y:Operand}{v:Value}{b:Bool}(hx:ρ x=v)(hy:ρ y= .slice none 0 0)(hv:∃a l c,v= .slice a l c)(hu:P.underlying u=some (.slice e))(hb:DO v=b):
  (execOp ρ ⟨d,.binOp .eql u x y u',t,pos,af,gd⟩).run P w= .ok (.value (.bool b)) w:=by
 have hg:(eqGuard .eql u x y v (.slice none 0 0)).run P w= .ok () w:=by
  obtain⟨a,l,c,rfl⟩:=hv
  unfold eqGuard;rfl
 have e1:(binOp .eql u v (.slice none 0 0)).run P w= .ok (.bool b) w:=by
  rw[←hb]
  have:=run_eq_nil (w:=w) hu hv
  obtain⟨a,l,c,rfl⟩:=hv
  simp[binOp,this]
 simp[execOp,hx,hy,hg,e1]
theorem r_nil_neq {u u' e:TypeId}{x y:Operand}{v:Value}{b:Bool}(hx:ρ x=v)(hy:ρ y= .slice none 0 0)(hv:∃a l c,v= .slice a l c)(hu:P.underlying u=some (.slice e))(hb:DO v=b):
  (execOp ρ ⟨d,.binOp .neq u x y u',t,pos,af,gd⟩).run P w= .ok (.value (.bool (!b))) w:=by
 have hg:(eqGuard .neq u x y v (.slice none 0 0)).run P w= .ok () w:=by
  obtain⟨a,l,c,rfl⟩:=hv
  unfold eqGuard;rfl
 have e1:(binOp .neq u v (.slice none 0 0)).run P w= .ok (.bool (!b)) w:=by
  rw[←hb]
  have:=run_eq_nil (w:=w) hu hv
  obtain⟨a,l,c,rfl⟩:=hv
  simp[binOp,this]
 simp[execOp,hx,hy,hg,e1]
end
theorem RSl.hdr {α:Type}{R:Rep α}{G:GH}{v:Value}{xs:List α}(h:RSl R G v xs):∃a l c,v= .slice a l c:=by
 obtain⟨a,c,rfl,_⟩:=h.len;exact⟨_,_,_,rfl⟩
theorem RSl.nil_inv {α:Type}{R:Rep α}{G:GH}{v:Value}{xs:List α}(h:RSl R G v xs)(hn:DO v=true):xs=[]:=by
 obtain⟨vs,hA,h⟩:=h
 rcases h with⟨rfl,h⟩|⟨a,c,rfl,h1,h2,h3⟩
 ·exact h
 ·simp[DO] at hn
theorem Ow.hdr {α:Type}{R:Rep α}{t:TypeId}{W w:World}{G:GH}{it:Itm}{H:List Itm}{v:Value}{xs:List α}(j:Nat)(m:Mem W G w H)(h:Ow R t G it v xs)(hj:H[j]? =some it):∃a l c,v= .slice a l c:=by
 obtain⟨a,c,rfl,_⟩:=h.len (m.front j hj);exact⟨_,_,_,rfl⟩
def nonE {α:Type}:List α→Option Unit
 |[]=>none
 |_=>some ()
theorem Ow.notNil {α:Type}{R:Rep α}{t:TypeId}{W w:World}{G:GH}{it:Itm}{H:List Itm}{v:Value}{xs:List α}{u:Unit}(j:Nat)(m:Mem W G w H)(h:Ow R t G it v xs)(hj:H[j]? =some it)(hx:nonE xs=some u):DO v=xs.isEmpty:=by
 obtain⟨vs,rfl,hA⟩:=h
 have ok:=m.items j _ hj
 have:xs≠[]:=by rintro rfl;simp[nonE] at hx
 rcases ok.2 with⟨rfl,e⟩|⟨g,cap,cur,rfl,_⟩
 ·exact absurd (List.eq_nil_of_length_eq_zero e) this
 ·cases xs with
  |nil=>exact absurd rfl this
  |cons x t=>rfl
section
variable {P : Program} {ops : Array Oper} {rest : List Oper} {n r : Bo} {x : List (Nat × Bo)} {a : Act} {w : World} {N : Nat} {L : Bx} {d : Nat} {t : TypeId} {pos : String} {af : Array Edge}
theorem l_makeFunc {fn:Fn}{fs cs:List Operand}{vs us:List Value}(f:Fr a N L)(hN:Nat.blt d N=true)(hf:evalAll L fs=some vs)(hc:evalAll L cs=some us)
  (k:∀a',Fr a' N ((d,.func fn vs.toArray us.toArray)::L)→wpList P ops (Qk n x r) rest a' w):
  wpList P ops (Qk n x r) (⟨some d,.makeFunc fn fs.toArray cs.toArray,t,pos,af,none⟩::rest) a w:=by
 refine CC f rfl rfl hN (r_makeFunc (v:= .func fn vs.toArray us.toArray) ?_) k
 rw[List.map_toArray,List.map_toArray,f.evalAll hf,f.evalAll hc]
 rfl
end
end Go.Sx

namespace Go.Sx
def delD {α:Type}(xs:List α)(i j:Int):Option (List α):=if 0≤i∧i<j∧j≤xs.length then some (xs.take i.toNat++xs.drop j.toNat) else none
section
variable {P : Program} {ops : Array Oper} {rest : List Oper} {n r : Bo} {x : List (Nat × Bo)} {a : Act} {w w' W : World} {G : GH} {H : List Itm} {N : Nat} {L : Bx}
variable {d : Nat} {t : TypeId} {pos : String} {af : Array Edge}
theorem l_op0 {o:Oper}{v:Value}(hg:o.guard=none)(hd:o.dst=none)(hr:(execOp a.eval o).run P w= .ok (.value v) w')(k:wpList P ops (Qk n x r) rest a w'):
  wpList P ops (Qk n x r) (o::rest) a w:=by
 refine wpList_plain hg λK hK=> ?_
 unfold Oper.wp
 rw[hr]
 simp only[Oper.upon,hd]
 exact hK _ _ k
theorem r_slice3 {ρ:Operand→Value}{u e sz bytes:Nat}{z:Value}{xo o1 o2 o3:Operand}{av:Option Addr}{nn c:Nat}{i j q:Int}{k1 k2 k3:IntKind}{dd:Option Tmp}{gd:Option (Nat×Bool)}(hu:SlT P u e sz bytes z)
  (hx:ρ xo= .slice av nn c) (h1:ρ o1= .int k1 i) (h2:ρ o2= .int k2 j) (h3:ρ o3= .int k3 q) (g0:0≤i) (g1:i≤j) (g2:j≤q) (g3:q≤c):
  ∃v,(execOp ρ ⟨dd,.slice u xo (some o1) (some o2) (some o3),t,pos,af,gd⟩).run P w= .ok (.value v) w:=by
 obtain⟨ti,hi1,hi2,hi3,hi4⟩:=hu.info
 have hj0:0≤j:=by omega
 have hq0:0≤q:=by omega
 have ej:(j.toNat:Int)=j:=by omega
 have eq:(q.toNat:Int)=q:=by omega
 simp[execOp,hx,h1,h2,h3,Instr.sliceAt,Instr.slice,run_underlying hu.und,Instr.sliceBounds,Instr.sliceBound,asIntOf,g0,g1,g2,g3,hj0,hq0,ej,eq,sizeOf,typeInfo,hi1,hi2]
theorem l_slice3 {u e sz bytes:Nat}{z:Value}{xo o1 o2 o3:Operand}{av:Option Addr}{nn c:Nat}{i j q:Int}{k1 k2 k3:IntKind}(hu:SlT P u e sz bytes z)(f:Fr a N L)(hN:Nat.blt d N=true)
  (hx:AX L xo=some (.slice av nn c)) (h1:AX L o1=some (.int k1 i)) (h2:AX L o2=some (.int k2 j)) (h3:AX L o3=some (.int k3 q)) (g0:0≤i) (g1:i≤j) (g2:j≤q) (g3:q≤c)
  (k:∀v a',Fr a' N ((d,v)::L)→wpList P ops (Qk n x r) rest a' w):
  wpList P ops (Qk n x r) (⟨some d,.slice u xo (some o1) (some o2) (some o3),t,pos,af,none⟩::rest) a w:=by
 obtain⟨v,hv⟩:=r_slice3 (P:=P) (w:=w) (t:=t) (pos:=pos) (af:=af) (dd:=some d) (gd:=none) hu (f.eval hx) (f.eval h1) (f.eval h2) (f.eval h3) g0 g1 g2 g3
 exact CC f rfl rfl hN hv (λa' f'=>k v a' f')
theorem Ow.block {α:Type}{R:Rep α}{tt:TypeId}{it:Itm}{v:Value}{xs:List α}(m:Mem W G w (it::H))(o:Ow R tt G it v xs)(hx:0<xs.length):∃b c,v= .slice (some ⟨b,0,none⟩) xs.length c∧xs.length≤c:=by
 obtain⟨vs,rfl,hA⟩:=o
 have ok:=m.items 0 _ rfl
 rcases ok.2 with⟨rfl,e⟩|⟨g,cap,cur,rfl,_,_,e2,_⟩
 ·omega
 ·exact⟨g,cap,rfl,e2⟩
theorem r_slice_lo {ρ:Operand→Value}{u e bytes:Nat}{z:Value}{xo o2:Operand}{b nn c:Nat}{j:Int}{k2:IntKind}{dd:Option Tmp}{gd:Option (Nat×Bool)}(hu:SlT P u e 1 bytes z)
  (hx:ρ xo= .slice (some ⟨b,0,none⟩) nn c) (h2:ρ o2= .int k2 j) (g0:0≤j) (g1:j≤c):
  (execOp ρ ⟨dd,.slice u xo none (some o2) none,t,pos,af,gd⟩).run P w= .ok (.value (.slice (some ⟨b,0,none⟩) j.toNat c)) w:=by
 have:=Fe (P:=P) (w:=w) (t:=t) (pos:=pos) (af:=af) (dd:=dd) (gd:=gd) (lo:=none) (hi:=some o2) (i:=0) (j:=j) hu hx (.inl ⟨rfl,rfl⟩) (.inr ⟨o2,k2,rfl,h2⟩) (by omega) g0 g1
 rw[this]
 have e:(if c=(0:Int).toNat then some (⟨b,0,none⟩:Addr) else(some ⟨b,0,none⟩:Option Addr).map (·.add ((0:Int).toNat*1)))=some ⟨b,0,none⟩:=by
  split
  ·rfl
  ·simp[Addr.add]
 rw[e];simp
theorem r_slice_hi {ρ:Operand→Value}{u e bytes:Nat}{z:Value}{xo o1:Operand}{b nn c:Nat}{i:Int}{k1:IntKind}{dd:Option Tmp}{gd:Option (Nat×Bool)}(hu:SlT P u e 1 bytes z)
  (hx:ρ xo= .slice (some ⟨b,0,none⟩) nn c) (h1:ρ o1= .int k1 i) (g0:0≤i) (g1:i≤nn) (g2:nn≤c):
  (execOp ρ ⟨dd,.slice u xo (some o1) none none,t,pos,af,gd⟩).run P w= .ok (.value (.slice (some ⟨b,(if c=i.toNat then 0 else i.toNat),none⟩) (nn-i.toNat) (c-i.toNat))) w:=by
 have:=Fe (P:=P) (w:=w) (t:=t) (pos:=pos) (af:=af) (dd:=dd) (gd:=gd) (lo:=some o1) (hi:=none) (i:=i) (j:=nn) hu hx (.inr ⟨o1,k1,rfl,h1⟩) (.inl ⟨rfl,rfl⟩) g0 g1 (by omega)
 rw[this]
 have e:(if c=i.toNat then some (⟨b,0,none⟩:Addr) else(some ⟨b,0,none⟩:Option Addr).map (·.add (i.toNat*1)))=some ⟨b,(if c=i.toNat then 0 else i.toNat),none⟩:=by
  split
  ·rfl
  ·show some ((⟨b,0,none⟩:Addr).add (i.toNat*1))=_
   rw[BW];simp
 rw[e];simp
theorem r_slice_mid {ρ:Operand→Value}{u e bytes:Nat}{z:Value}{xo o1 o2:Operand}{b nn c l h:Nat}{k1 k2:IntKind}{dd:Option Tmp}{gd:Option (Nat×Bool)}(hu:SlT P u e 1 bytes z)
  (hx:ρ xo= .slice (some ⟨b,0,none⟩) nn c) (h1:ρ o1= .int k1 (l:Int)) (h2:ρ o2= .int k2 (h:Int)) (g1:l<h) (g2:h≤c):
  (execOp ρ ⟨dd,.slice u xo (some o1) (some o2) none,t,pos,af,gd⟩).run P w= .ok (.value (.slice (some ⟨b,l,none⟩) (h-l) (c-l))) w:=by
 have:=Fe (P:=P) (w:=w) (t:=t) (pos:=pos) (af:=af) (dd:=dd) (gd:=gd) (lo:=some o1) (hi:=some o2) (i:=(l:Int)) (j:=(h:Int)) hu hx (.inr ⟨o1,k1,rfl,h1⟩) (.inr ⟨o2,k2,rfl,h2⟩) (by omega) (by omega) (by omega)
 rw[this]
 have e:(if c=((l:Int)).toNat then some (⟨b,0,none⟩:Addr) else(some ⟨b,0,none⟩:Option Addr).map (·.add (((l:Int)).toNat*1)))=some ⟨b,l,none⟩:=by
  rw[if_neg (by omega)]
  show some ((⟨b,0,none⟩:Addr).add (((l:Int)).toNat*1))=_
  rw[BW];simp
 rw[e];simp
theorem l_del {α:Type}{R:Rep α}(hO:One R){tt u bytes:Nat}{z:Value}{it:Itm}{b c q mm c2:Nat}{i j:Int}{xs:List α}{s xo:Operand}(m:Mem W G w (it::H))(h:Ow R tt G it (.slice (some ⟨b,0,none⟩) xs.length c) xs)
  (hu:SlT P u tt 1 bytes z) (f:Fr a N L) (hN:Nat.blt d N=true) (g0:0≤i) (g1:i<j) (g2:j≤xs.length)
  (hs:AX L s=some (.slice (some ⟨b,0,none⟩) i.toNat c)) (hx:AX L xo=some (.slice (some ⟨b,q,none⟩) mm c2)) (hm:mm=xs.length-j.toNat) (hq:0<mm→q=j.toNat)
  (k:∀it' w' a',Mem W G w' (it'::H)→Ow R tt G it' (.slice (some ⟨b,0,none⟩) (xs.take i.toNat++xs.drop j.toNat).length c) (xs.take i.toNat++xs.drop j.toNat)→Fr a' N ((d,.slice (some ⟨b,0,none⟩) (xs.take i.toNat++xs.drop j.toNat).length c)::L)→wpList P ops (Qk n x r) rest a' w'):
  wpList P ops (Qk n x r) (⟨some d,.call {callee:= .builtin .append,args:= #[s,xo],argTypes:= #[u,u]},t,pos,af,none⟩::rest) a w:=by
 have hlen':(xs.take i.toNat++xs.drop j.toNat).length=i.toNat+mm:=by
  rw[List.length_append,List.length_take,List.length_drop];omega
 rw[hlen'] at k
 obtain⟨vs,rfl,hA⟩:=h
 obtain⟨ti,hi1,hi2,hi3,hi4⟩:=hu.info
 have ok:w.ownsRow 0 tt 1 (.slice (some ⟨b,0,none⟩) xs.length c) xs.length vs:=m.items 0 _ rfl
 have hl0:vs.length=xs.length:=hA.1
 have hcells:=World.ownsRow.cells ok (g:=b) rfl
 rcases ok.2 with⟨e,_⟩|⟨g,cap,cur,e1,_,eh,e2,e3,e4,e5⟩
 ·cases e
 ·cases e1
  simp only[Nat.mul_one] at e4 e5
  have hnews:∀(jj:Nat) v,(vs.drop j.toNat)[jj]? =some v→w.cell? ((⟨b,q,none⟩:Addr).add jj)=some v:=λjj v hv=>by
   have hpos:0<mm:=by
    have:=(List.getElem?_eq_some_iff.1 hv).1
    simp at this;omega
   rw[hq hpos]
   rw[List.getElem?_drop] at hv
   have:=hcells _ _ hv
   rw[BW] at this ⊢
   rwa [Nat.zero_add] at this
  have h1:∀v∈vs.drop j.toNat,v.oneCell'=true:=λv hv=>hA.ones hO v (List.mem_of_mem_drop hv)
  have hr:=run_append_room (P:=P) w u t tt ti hu.und hi1 b i.toNat c cur eh ⟨b,q,none⟩ mm c2 (vs.drop j.toNat) (by rw[hi2,List.length_drop];omega) hnews h1 (by omega) (by rw[hi2,List.length_drop];omega)
  refine CC f rfl rfl hN (r_append (f.eval hs) (f.eval hx) hr) (λa' f'=>k (.row (.slice (some ⟨b,0,none⟩) (i.toNat+mm) c) tt 1 (xs.take i.toNat++xs.drop j.toNat).length (vs.take i.toNat++vs.drop j.toNat)) _ a' ?_ ⟨_,rfl,(hA.take _).append (hA.drop _)⟩ f')
  have hlen:(xs.take i.toNat++xs.drop j.toNat).length=i.toNat+mm:=by
   rw[List.length_append,List.length_take,List.length_drop];omega
  have hcur:cur.toList.take i.toNat=vs.take i.toNat:=by
   rw[←e5,List.take_take];congr 1;omega
  refine m.changeAt 0 rfl rfl rfl rfl (λy _ hy=>setRow_other w b y _ (λe=>hy (by simp[Itm.foot,Value.ownBlock,e])))
   ⟨by rw[hlen,List.length_append,List.length_take,List.length_drop];omega,.inr ⟨b,c,_,by rw[hlen],Nat.zero_le _,setRow_heap w b cur _ tt _ eh,by omega,e3,?_,?_⟩⟩ (λy hy=> .inl (by simpa [Itm.foot,Value.ownBlock] using hy))
  ·simp only[List.size_toArray,List.length_append,List.length_take,List.length_drop,Array.length_toList,hi2]
   omega
  ·simp only[hi2,Nat.mul_one]
   rw[hcur,hlen]
   have:(vs.take i.toNat++vs.drop j.toNat).length=i.toNat+mm:=by
    rw[List.length_append,List.length_take,List.length_drop];omega
   rw[←this]
   exact List.take_left
theorem l_wipe {α:Type}{R:Rep α}{tt u bytes:Nat}{z:Value}{it:Itm}{b c q mm c2:Nat}{xs:List α}{xo:Operand}(m:Mem W G w (it::H))(h:Ow R tt G it (.slice (some ⟨b,0,none⟩) xs.length c) xs)
  (hu:SlT P u tt 1 bytes z) (hz:z.cells= #[z]) (hz1:z.oneCell'=true) (f:Fr a N L) (hx:AX L xo=some (.slice (some ⟨b,q,none⟩) mm c2)) (hq:xs.length≤q) (hmm:q+mm≤c)
  (k:∀w',Mem W G w' (it::H)→wpList P ops (Qk n x r) rest a w'):
  wpList P ops (Qk n x r) (⟨none,.call {callee:= .builtin .clear,args:= #[xo],argTypes:= #[u]},t,pos,af,none⟩::rest) a w:=by
 obtain⟨vs,rfl,hA⟩:=h
 obtain⟨ti,hi1,hi2,hi3,hi4⟩:=hu.info
 have ok:w.ownsRow 0 tt 1 (.slice (some ⟨b,0,none⟩) xs.length c) xs.length vs:=m.items 0 _ rfl
 have hl0:vs.length=xs.length:=hA.1
 rcases ok.2 with⟨e,_⟩|⟨g,cap,cur,e1,_,eh,e2,e3,e4,e5⟩
 ·cases e
 ·cases e1
  simp only[Nat.mul_one] at e4 e5
  have hz0:(zeroValue tt).run P w= .ok z w:=by simp[zeroValue,typeInfo,hi1,hi4]
  by_cases hm:mm=0
  ·subst hm
   refine l_op0 (v:= .tuple #[]) (w':=w) rfl rfl ?_ (k w m)
   simp[execOp,resolve,invoke,builtin,Builtin.clear_,run_underlying hu.und,f.eval hx]
  ·have hmem:∀v∈(Builtin.zeroCells z.cells mm).toList,v.oneCell'=true:=λv hv=>by
    rw[hz] at hv
    simp[Builtin.zeroCells] at hv
    obtain⟨_,_,rfl⟩:=hv
    rw[Nat.mod_one];simpa using hz1
   have hsz:(Builtin.zeroCells z.cells mm).toList.length=mm:=by
    rw[Array.length_toList,size_zeroCells,hz];simp
   have hst:=run_storeCells_at P b q tt (Builtin.zeroCells z.cells mm).toList 0 cur w eh (by rw[hsz];omega) hmem
   refine l_op0 (v:= .tuple #[]) (w':=w.setRow b (cur.toList.take (q+0)++(Builtin.zeroCells z.cells mm).toList++cur.toList.drop (q+0+(Builtin.zeroCells z.cells mm).toList.length)).toArray) rfl rfl ?_ (k _ ?_)
   ·obtain⟨m',rfl⟩:∃m',mm=m'+1:=⟨mm-1,by omega⟩
    simp[execOp,resolve,invoke,builtin,Builtin.clear_,run_underlying hu.und,f.eval hx,hz0,hst]
   ·have hm2:=m.changeAt (w':=w.setRow b (cur.toList.take (q+0)++(Builtin.zeroCells z.cells mm).toList++cur.toList.drop (q+0+(Builtin.zeroCells z.cells mm).toList.length)).toArray) (h':= .row (.slice (some ⟨b,0,none⟩) xs.length c) tt 1 xs.length vs) 0 rfl rfl rfl rfl (λy _ hy=>setRow_other w b y _ (λe=>hy (by simp[Itm.foot,Value.ownBlock,e])))
     ⟨ok.1,.inr ⟨b,c,_,rfl,Nat.zero_le _,setRow_heap w b cur _ tt _ eh,e2,e3,?_,?_⟩⟩ (λy hy=> .inl hy)
    ·exact hm2
    ·simp only[List.size_toArray,List.length_append,List.length_take,List.length_drop,Array.length_toList,size_zeroCells,hz]
     simp
     omega
    ·simp only[Nat.mul_one,Nat.add_zero]
     rw[List.append_assoc,List.take_append_of_le_length (by simp;omega),List.take_take,show min xs.length q=xs.length by omega]
     exact e5
end
end Go.Sx

namespace Go.Sx
open IntKind
noncomputable section
def D.a2 (a:LL):Option LL:=
 (AS ([]:LL) a).bind λb=>some b
def D.P1 (a:LI):Option LI:=
 (AS ([]:LI) a).bind λb=>some b
def D.C1 (a:LI)(b c:Int):Option LI:=
 delD a b c
def D.Q0 (a:LI):Option LI:=
 (AS ([]:LI) a).bind λb=>some b
def D.M2 (d b:LL):Option (LL×LL):=
 (Aq (σ:=Int×LL) (ρ:=LL) (fun(c,e)=>cond (decide (c<(d.length:Int))) ((idx d c).bind λh=>(D.g h).bind λi=>(AS e ([i]:LL)).bind λj=>some (.inl ((i64.wrap (c+1)),j))) (some (.inr e))) (0,([]:LL))).bind λk=>(Aq (σ:=Int×LL) (ρ:=LL) (fun(a,f)=>cond (decide (a<(b.length:Int))) ((idx b a).bind λm=>(idx m 0).bind λn=>(idx b a).bind λo=>(idx o 1).bind λp=>(D.L0 f n p).bind λq=>some (.inl ((i64.wrap (a+1)),q))) (some (.inr f))) (0,([]:LL))).bind λr=>some (k,r)
def D.p2 (a e:LL):Option (Int×Int):=
 (Aq (σ:=Int) (ρ:=(Unit) ⊕ (Int×Int)) (fun(b:Int)=>cond (decide (b<(e.length:Int))) ((idx e b).bind λf=>(idx f 0).bind λc=>(idx e b).bind λg=>(idx g 1).bind λd=>(idx a d).bind λh=>(idx a c).bind λi=>(D.N h i).bind λj=>cond j (some (.inr (.inr (d,c)))) ((idx a c).bind λk=>(idx a d).bind λl=>(D.N k l).bind λm=>cond m (some (.inr (.inr (c,d)))) (some (.inl (i64.wrap (b+1)))))) (some (.inr (.inl ())))) 0).bind λzz=>match zz with| .inl _=>(some ((-1),(-1)))| .inr z=>(some z)
def D.q2 (a:Bool):Option (Int):=
 cond a (some 1) (some 0)
def D.n2 (i d:LL)(a j:Int):Option (LL×LL):=
 (Aq (σ:=Int×LL) (ρ:=LL) (fun(b,e)=>cond (decide (b<(i.length:Int))) (cond (b !=a) ((idx i b).bind λn=>(D.g n).bind λo=>(AS e ([o]:LL)).bind λp=>some (.inl ((i64.wrap (b+1)),p))) (some (.inl ((i64.wrap (b+1)),e)))) (some (.inr e))) (0,([]:LL))).bind λq=>(Aq (σ:=Int×LL) (ρ:=LL) (fun(c,f)=>cond (decide (c<(d.length:Int))) ((idx d c).bind λs=>(idx s 0).bind λk=>(idx d c).bind λt=>(idx t 1).bind λl=>((cond (k==a) (some j) (some k):Option (Int))).bind λg=>((cond (l==a) (some j) (some l):Option (Int))).bind λh=>cond (g !=h) ((D.q2 (decide (a<g))).bind λu=>(D.q2 (decide (a<h))).bind λv=>(D.L0 f (i64.wrap (g-u)) (i64.wrap (h-v))).bind λw=>some (.inl ((i64.wrap (c+1)),w))) (some (.inl ((i64.wrap (c+1)),f)))) (some (.inr f))) (0,([]:LL))).bind λx=>some (q,x)
def D.m1 (a:LI)(b:Int):Option (Bool):=
 (cond ((a.length:Int) !=2) (some true) ((D.M a b).bind λc=>some (!c))).bind λd=>some d
def D.e2 (b:LL)(c:Int):Option (Int):=
 (Aq (σ:=Int) (ρ:=(Unit) ⊕ (Int)) (fun(a:Int)=>cond (decide (a<(b.length:Int))) ((idx b a).bind λd=>(D.m1 d c).bind λe=>cond e (some (.inr (.inr a))) (some (.inl (i64.wrap (a+1))))) (some (.inr (.inl ())))) 0).bind λzz=>match zz with| .inl _=>(some (-1))| .inr z=>(some z)
def D.S1 (a:LL)(b:Int):Option (Bool):=
 (D.e2 a b).bind λc=>some (decide ((0:Int)≤c))
def D.t (a:LL)(b:Int):Option (Bool):=
 (D.S1 a b).bind λc=>some (!c)
def D.c1 (b c:LL):Option LI:=
 (Dv (0:Int) (b.length:Int) (b.length:Int)).bind λf=>(Aq (σ:=LI×Int) (ρ:=LI) (fun(d,a)=>cond (decide (a<(c.length:Int))) ((idx c a).bind λe=>(idx e 0).bind λh=>(idx e 1).bind λi=>(D.L d h i).bind λj=>some (.inl (j,(i64.wrap (a+1))))) (some (.inr d))) (f,0)).bind λk=>some k
def D.K (f:LI)(g h:Int):Option (Int):=
 (D.e g).bind λi=>(Aq (σ:=Int) (ρ:=(Int)) (fun(a:Int)=>(D.l a).bind λc=>(Aq (σ:=Int×Int) (ρ:=(Int)) (fun(d,b)=>cond (decide (b<(c.length:Int))) ((idx c b).bind λk=>(idx f k).bind λl=>some (.inl ((ior .u32 d (iand .u32 l h)),(i64.wrap (b+1))))) (some (.inr d))) (a,0)).bind λe=>cond (e==a) (some (.inr a)) (some (.inl e))) i).bind λz=>some z
def D.A0 (b:LI)(a:Int):Option (Bool):=
 (cond (a !=0) ((D.e0 a).bind λc=>(D.K b c a).bind λd=>some (d==a)) (some false)).bind λe=>some e
def D.z1 (c a d:LL):Option (Bool):=
 (D.Q c).bind λj=>(cond ((((!j)||(decide ((a.length:Int)<1)))||(decide ((16:Int)<(a.length:Int))))||((d.length:Int) !=(i64.wrap ((a.length:Int)-1)))) (some true) ((D.t d (a.length:Int)).bind λk=>some (!k))).bind λl=>cond l (some false) ((Aq (σ:=Int) (ρ:=(Unit) ⊕ (Bool)) (fun(e:Int)=>cond (decide (e<(a.length:Int))) ((idx a e).bind λm=>(D.M m (c.length:Int)).bind λn=>cond (!n) (some (.inr (.inr false))) (some (.inl (i64.wrap (e+1))))) (some (.inr (.inl ())))) 0).bind λzz=>match zz with| .inl _=>((D.c1 a d).bind λf=>(D.E0 a).bind λg=>(D.r f).bind λo=>(D.A0 f o).bind λp=>(cond (!p) (some true) ((D.F c).bind λq=>(D.U0 q g).bind λr=>some (!r))).bind λs=>cond s (some false) ((Aq (σ:=Int) (ρ:=(Unit) ⊕ (Bool)) (fun(h:Int)=>cond (decide (h<(c.length:Int))) ((Aq (σ:=Int×Int) (ρ:=(Int)) (fun(i,b)=>cond (decide (b<(g.length:Int))) ((idx g b).bind λu=>(D.j u h).bind λv=>cond v ((D.e b).bind λw=>some (.inl ((ior .u32 i w),(i64.wrap (b+1))))) (some (.inl (i,(i64.wrap (b+1)))))) (some (.inr i))) (0,0)).bind λx=>(D.A0 f x).bind λy=>cond (!y) (some (.inr (.inr false))) (some (.inl (i64.wrap (h+1))))) (some (.inr (.inl ())))) 0).bind λzz=>match zz with| .inl _=>(some true)| .inr z=>(some z)))| .inr z=>(some z))
def D.q0 (a b c:Int):Option (Int):=
 cond (a==b) (cond (decide (b<c)) (some (i64.wrap (c-1))) (some c)) (cond (decide (b<a)) (some (i64.wrap (a-1))) (some a))
def D.k (i:LI)(d:LL)(a e:Int):Option (LI×LL):=
 (Aq (σ:=LL×Int) (ρ:=LL) (fun(c,b)=>cond (decide (b<(d.length:Int))) ((idx d b).bind λf=>(idx f 0).bind λk=>(idx f 1).bind λl=>(D.q0 k a e).bind λg=>(D.q0 l a e).bind λh=>cond (g !=h) ((D.R g h).bind λm=>(AS c ([m]:LL)).bind λn=>some (.inl (n,(i64.wrap (b+1))))) (some (.inl (c,(i64.wrap (b+1)))))) (some (.inr c))) (([]:LL),0)).bind λo=>(CH o).bind λp=>(D.P1 i).bind λq=>(D.C1 q a (i64.wrap (a+1))).bind λr=>some (r,p)
def D.Y0 (l m:LL):Option (LL×LL):=
 (D.E0 l).bind λn=>(D.a2 m).bind λo=>(CH o).bind λp=>(Aq (σ:=LI×LL×Bool) (ρ:=(LI×LL)) (fun(a,b,r)=>cond r ((Aq (σ:=Int) (ρ:=(LI×LL×Bool)) (fun(e:Int)=>cond (decide (e<(b.length:Int))) ((idx b e).bind λg=>(idx g 0).bind λc=>(idx g 1).bind λd=>(idx a d).bind λs=>(idx a c).bind λt=>cond ((iandNot .u32 s t)==0) ((D.k a b d c).bind λh=>some (.inr (h.1,h.2,true))) ((idx a c).bind λu=>(idx a d).bind λv=>cond ((iandNot .u32 u v)==0) ((D.k a b c d).bind λi=>some (.inr (i.1,i.2,true))) (some (.inl (i64.wrap (e+1)))))) (some (.inr (a,b,false)))) 0).bind fun(w,x,y)=>some (.inl (w,x,y))) (some (.inr (a,b)))) (n,p,true)).bind fun(z,j)=>(D.Y z).bind λaa=>(Aq (σ:=Int×LL) (ρ:=LL) (fun(f,k)=>cond (decide (f<(j.length:Int))) ((idx j f).bind λac=>(D.Q0 ac).bind λad=>(AS k [ad]).bind λae=>some (.inl ((i64.wrap (f+1)),ae))) (some (.inr k))) (0,([]:LL))).bind λaf=>some (aa,af)
def D.k1 (d a b:LL):Option (LL×LL×Bool):=
 (D.z1 d a b).bind λe=>cond (!e) (some (([]:LL),([]:LL),false)) ((D.Y0 a b).bind λc=>some (c.1,c.2,true))
def D.U1 (f g:LL)(h i:Int):Option (Bool):=
 (Aq (σ:=LI×Int) (ρ:=LI) (fun(b,d)=>cond (decide (d<(b.length:Int))) ((idx b d).bind λk=>(D.u0 f g k).bind λe=>(Aq (σ:=LI×Int) (ρ:=LI) (fun(c,a)=>cond (decide (a<(e.length:Int))) ((idx e a).bind λm=>(D.i c m).bind λn=>cond (!n) ((idx e a).bind λo=>(AS c ([o]:LI)).bind λp=>some (.inl (p,(i64.wrap (a+1))))) (some (.inl (c,(i64.wrap (a+1)))))) (some (.inr c))) (b,0)).bind λq=>some (.inl (q,(i64.wrap (d+1))))) (some (.inr b))) (([h]:LI),0)).bind λr=>(D.i r i).bind λs=>some s
def D.k2 (f:LL):Option (LL×LL×Bool):=
 (D.v0 f).bind λa=>(D.T f).bind λi=>cond ((!i)||(decide ((16:Int)<(a.length:Int)))) (some (([]:LL),([]:LL),false)) ((Aq (σ:=Int×LL) (ρ:=LL) (fun(e,g)=>cond (decide ((0:Int)≤e)) ((Aq (σ:=Int×LL) (ρ:=LL) (fun(b,h)=>cond (decide (b<(a.length:Int))) ((Aq (σ:=Int×LL) (ρ:=LL) (fun(c,d)=>cond (decide (c<(a.length:Int))) ((idx a b).bind λm=>(idx a c).bind λn=>(D.s m n).bind λo=>(cond ((o.length:Int)==e) ((D.U1 a d b c).bind λp=>some (!p)) (some false)).bind λq=>cond q ((D.L0 d b c).bind λr=>some (.inl ((i64.wrap (c+1)),r))) (some (.inl ((i64.wrap (c+1)),d)))) (some (.inr d))) ((i64.wrap (b+1)),h)).bind λs=>some (.inl ((i64.wrap (b+1)),s))) (some (.inr h))) (0,g)).bind λt=>some (.inl ((i64.wrap (e-1)),t))) (some (.inr g))) (16,([]:LL))).bind λu=>some (a,u,true))
def D.K1 (b:LI):Option LI:=
 (D.r b).bind λi=>(Aq (σ:=LI×Int) (ρ:=LI ⊕ LI) (fun(e,a)=>cond (a !=0) ((D.l a).bind λf=>(Aq (σ:=Int) (ρ:=(Int)) (fun(c:Int)=>cond (decide (c<(f.length:Int))) ((idx f c).bind λg=>(idx b g).bind λk=>(D.F0 b (iand .u32 k a)).bind λl=>cond (l==0) (some (.inr g)) (some (.inl (i64.wrap (c+1))))) (some (.inr (-1)))) 0).bind λd=>cond (decide (d<0)) (some (.inr (.inr ([]:LI)))) ((D.e d).bind λm=>(AS e ([d]:LI)).bind λn=>some (.inl (n,(iandNot .u32 a m))))) (some (.inr (.inl e)))) (([]:LI),i)).bind λzz=>match zz with| .inl h=>((nonE h).bind λ_=>some h)| .inr z=>(some z)
def D.H0 (a:LL):Option (Bool):=
 (D.Q a).bind λb=>(cond b ((D.F a).bind λc=>(D.K1 c).bind λd=>some (!d.isEmpty)) (some false)).bind λe=>some e
def D.d0 (g:LL):Option (LL×LL×Bool):=
 (D.H0 g).bind λk=>cond (!k) (some (([]:LL),([]:LL),false)) ((D.F g).bind λl=>(D.t0 l).bind λa=>cond (decide ((16:Int)<(a.length:Int))) (some (([]:LL),([]:LL),false)) ((Dv (0:Int) (a.length:Int) (a.length:Int)).bind λm=>(Aq (σ:=LI×LL×Int) (ρ:=LL) (fun(o,h,e)=>cond (decide ((0:Int)≤e)) ((Aq (σ:=LI×LL×Int) (ρ:=(LI×LL)) (fun(i,j,b)=>cond (decide (b<(a.length:Int))) ((Aq (σ:=LI×LL×Int) (ρ:=(LI×LL)) (fun(d,f,c)=>cond (decide (c<(a.length:Int))) ((idx a b).bind λr=>(idx a c).bind λs=>(D.P (iand .u32 r s)).bind λt=>(cond (t==e) ((D.r d).bind λu=>(D.K d b u).bind λv=>(D.j v c).bind λw=>some (!w)) (some false)).bind λx=>cond x ((D.L d b c).bind λy=>(D.R b c).bind λz=>(AS f [z]).bind λaa=>some (.inl (y,aa,(i64.wrap (c+1))))) (some (.inl (d,f,(i64.wrap (c+1)))))) (some (.inr (d,f)))) (i,j,(i64.wrap (b+1)))).bind fun(ab,ac)=>some (.inl (ab,ac,(i64.wrap (b+1))))) (some (.inr (i,j)))) (o,h,0)).bind fun(ad,ae)=>some (.inl (ad,ae,(i64.wrap (e-1))))) (some (.inr h))) (m,([]:LL),16)).bind λaf=>(CH af).bind λag=>(D.Y a).bind λah=>some (ah,ag,true)))
end
end Go.Sx

namespace Go.Sx
end Go.Sx

namespace Go.Sx
end Go.Sx

namespace Go.Sx
section
variable {P : Program} {ops : Array Oper} {rest : List Oper} {n r : Bo} {x : List (Nat × Bo)} {a : Act} {w : World} {N : Nat} {L : Bx}
variable {d : Nat} {t : TypeId} {pos : String} {af : Array Edge} {W : World} {G : GH} {H : List Itm} {α : Type} {E : Rec α}
end
end Go.Sx

namespace Go.Sx
end Go.Sx

namespace Go.Sx
open IntKind
noncomputable def D.Q2 (c:LI)(d a:Int):Option (Int):=
 (D.e a).bind λg=>(D.K c a (ior .u32 d g)).bind λh=>(D.l h).bind λe=>(Aq (σ:=Int×Int) (ρ:=(Int)) (fun(f,b)=>cond (decide (b<(e.length:Int))) ((idx e b).bind λj=>(idx c j).bind λk=>some (.inl ((ior .u32 f k),(i64.wrap (b+1))))) (some (.inr f))) (0,0)).bind λl=>(D.e a).bind λm=>some (iandNot .u32 (iandNot .u32 l d) m)
end Go.Sx

namespace Go.Sx
end Go.Sx

namespace Go.Sx
end Go.Sx

namespace Go.Sx
section
variable {P : Program} {ops : Array Oper} {nn r : Bo} {x : List (Nat × Bo)} {a : Act} {W : World} {T : Act → World → Prop} {H E : List Itm} {G : GH} {N fuel : Nat} {L : Bx} {listed listed' : Array Bool}
variable {t : TypeId} {pos : String} {af : Array Edge} {gd : Option (Nat × Bool)} {d i : Nat}
theorem q_own2_len {α:Type}{R:Rep α}{t1 t2:TypeId}{it:Itm}{v:Value}{xs:List (List α)}{u e:Nat}{xo:Operand}{w₀:World}{G₀:GH}{H₀:List Itm}(n:Nat)(j:Nat)(m:Mem W G₀ w₀ H₀)(h:Ow2 R t1 t2 G it v xs)(hj:H₀[j]? =some it)(hu:P.underlying u=some (.slice e))
  (hi:ops[i]? =some ⟨some d,.call {callee:= .builtin .len,args:= #[xo],argTypes:= #[u]},t,pos,af,gd⟩) (hck:B3 ops n fuel listed i=true) (hl:listed.setIfInBounds i true=listed') (f:Fr a N L)
  (hw:Region.wanted ⟨some d,.call {callee:= .builtin .len,args:= #[xo],argTypes:= #[u]},t,pos,af,gd⟩ (yielded ops a.tmps)=true) (hN:Nat.blt d N=true) (hx:AX L xo=some v)
  (k:∀a',Fr a' N ((d,.int .i64 (xs.length:Int))::L)→AnyB W P ops (Qk nn x r) T H fuel G E listed' a'):AnyB W P ops (Qk nn x r) T H (fuel+1) G E listed a:=by
 obtain⟨b,c,rfl,_⟩:=h.len m hj
 exact Eo n hi hck hl f hw rfl hN (λ_ _ _ _ _=>E4 (f.eval hx) hu) k
end
end Go.Sx

namespace Go.Sx
noncomputable def D.s1 (a b:LL):Option (Bool):=
 (cond (((decide ((1:Int)≤(a.length:Int)))&&(decide ((a.length:Int)≤16)))&&(decide ((b.length:Int)≤16))) ((D.t b (a.length:Int)).bind λc=>some c) (some false)).bind λd=>some d
end Go.Sx

namespace Go.Sx
open IntKind
noncomputable section
def D.o1 (a:LI):Option (Int):=
 cond (decide ((a.length:Int)<1)) none ((idx a 0).bind λe=>(Aq (σ:=Int×Int) (ρ:=(Int)) (fun(b,c)=>cond (decide (c<(a.length:Int))) ((idx a c).bind λd=>some (.inl ((if b<d then d else b),(i64.wrap (c+1))))) (some (.inr b))) (e,1)).bind λg=>some g)
def D.h2 (h:LI)(i j:Int):Option (LL×LI×Int×Int):=
 (D.I0 h i j).bind λa=>(D.v a.2.1 a.2.2.1 a.2.2.2 2).bind λb=>cond b.1 ((((D.i0 b.2.1 b.2.2.1 b.2.2.2 a.1).bind λc=>(D.a0 a.1 c.1).bind λd=>some (d.1,d.2,a.1,c.2.1,c.2.2.1,c.2.2.2):Option (LL×Bool×LL×LI×Int×Int))).bind fun(k,l,m,e,f,g)=>cond l (some (k,e,f,g)) (some (m,e,f,g))) (some (a.1,b.2.1,b.2.2.1,b.2.2.2))
def D.M0 (b:LI):Option LL:=
 (D.r1 b).bind λa=>(D.h2 a.1 a.2.1 a.2.2).bind λc=>some c.1
def D.p1 (c d:LL):Option (Bool):=
 (D.s1 c d).bind λi=>cond (!i) (some false) ((Dv (0:Int) (c.length:Int) (c.length:Int)).bind λj=>(Aq (σ:=LI×Int) (ρ:=LI) (fun(a,e)=>cond (decide (e<(d.length:Int))) ((idx d e).bind λh=>(idx h 0).bind λb=>(idx a b).bind λf=>(idx a b).bind λo=>(idx h 1).bind λg=>(idx (a.set (Int.toNat b) (i64.wrap (f+1))) g).bind λl=>(idx (a.set (Int.toNat b) (i64.wrap (f+1))) g).bind λp=>some (.inl (((a.set (Int.toNat b) (i64.wrap (f+1))).set (Int.toNat g) (i64.wrap (l+1))),(i64.wrap (e+1))))) (some (.inr a))) (j,0)).bind λm=>(D.o1 m).bind λn=>some (decide (n≤2)))
def D.Z0 (e b:LL):Option (Bool):=
 (D.g0 e b).bind λf=>cond (!f) (some false) ((Aq (σ:=Int) (ρ:=(Unit) ⊕ (Bool)) (fun(c:Int)=>cond (decide (c<(e.length:Int))) ((Aq (σ:=Int×Int) (ρ:=(Int)) (fun(d,a)=>cond (decide (a<(b.length:Int))) ((idx b a).bind λh=>(D.i h c).bind λi=>cond i (some (.inl ((i64.wrap (d+1)),(i64.wrap (a+1))))) (some (.inl (d,(i64.wrap (a+1)))))) (some (.inr d))) (0,0)).bind λj=>cond (decide ((2:Int)<j)) (some (.inr (.inr false))) (some (.inl (i64.wrap (c+1))))) (some (.inr (.inl ())))) 0).bind λzz=>match zz with| .inl _=>(some true)| .inr z=>(some z))
def D.A1 (c:LI):Option (Bool):=
 (D.O1 c).bind λe=>cond e (some true) ((D.M0 c).bind λb=>(D.d0 b).bind λa=>(D.T b).bind λf=>cond (a.2.2 !=f) (some false) (cond (!a.2.2) (some ((a.1.length:Int)==0)) ((D.k1 b a.1 a.2.1).bind λd=>(D.f1 b a.1 a.2.1).bind λg=>cond ((g&&d.2.2)&&((d.1.length:Int)==(a.1.length:Int))) ((D.v0 b).bind λh=>(D.N0 a.1 h).bind λi=>(cond i ((D.p1 a.1 a.2.1).bind λj=>(D.Z0 a.1 a.2.1).bind λk=>some (j==k)) (some false)).bind λl=>some l) (some false))))
end
end Go.Sx

namespace Go.Sx
end Go.Sx

namespace Go.Sx
end Go.Sx

namespace Go.Sx
end Go.Sx

namespace Go.Sx
end Go.Sx

namespace Go.Sx
end Go.Sx

namespace Go.Sx
end Go.Sx

namespace Go.Proofs
open Go.Shelf
def Tryz.lays125_ren :Go.Shelf.Ren:=⟨fun|125=>122|128=>162|129=>163|n=>n,fun|46=>135|3=>3|51=>75|53=>58|4=>4|5=>5|9=>9|n=>n,fun|n=>n⟩
theorem Tryz.lays125 :Go.Proofs.Lays.n125 Tryz.prog Tryz.lays125_ren:={
 mixed:=by kernel_rfl
 f125:=Tryz.func122.trans (congrArg some (by kernel_rfl))
 f128:=Tryz.func162.trans (congrArg some (by kernel_rfl))
 f129:=Tryz.func163.trans (congrArg some (by kernel_rfl))
 t3:=Tryz.underlying3
 a3:=Tryz.isAgg3
 z3:=Tryz.sizeOf3
 v3:=Tryz.zeroValue3
 t4:=Tryz.underlying4
 a4:=Tryz.isAgg4
 z4:=Tryz.sizeOf4
 v4:=Tryz.zeroValue4
 t5:=Tryz.underlying5
 a5:=Tryz.isAgg5
 z5:=Tryz.sizeOf5
 v5:=Tryz.zeroValue5
 t9:=Tryz.underlying9
 a9:=Tryz.isAgg9
 z9:=Tryz.sizeOf9
 v9:=Tryz.zeroValue9
 t46:=Tryz.underlying135
 a46:=Tryz.isAgg135
 z46:=Tryz.sizeOf135
 v46:=Tryz.zeroValue135
 t51:=Tryz.underlying75
 a51:=Tryz.isAgg75
 z51:=Tryz.sizeOf75
 v51:=Tryz.zeroValue75
 t53:=Tryz.underlying58
 a53:=Tryz.isAgg58
 z53:=Tryz.sizeOf58
 v53:=Tryz.zeroValue58}
theorem Tryz.bits_Len (x:Int)(w:World)(h0:0≤x)(h1:x≤18446744073709551615):
  Calls Tryz.prog 122 #[.int .u64 x] w λe w'=>e= .returned (.int .i64 (Lib.bitLen x.toNat))∧w'=w:=Any.bits_Len Tryz.lays125 x w h0 h1
end Go.Proofs
namespace Go.Proofs.YtebbefpdncgoiaaGreatDoor
open Go Go.Sx
theorem Wk.E {W w:World}{G:GH}{H:List Itm}{x0:Int}(m:Mem W G w H){y:Int}(hd:D.E x0=some y):
  Calls Tryz.prog 122 #[(.int .u64 x0)] w (Res W G H (λ_ Ho v=>Ho=[]∧v=(.int .i64 y))):=by
 unfold D.E at hd
 split at hd
 ·rename_i h
  obtain rfl:=Option.some.inj hd
  exact(Tryz.bits_Len x0 w h.1 h.2).mono (λe w' ⟨he,hw⟩=>by subst hw;exact⟨_,he,G,[],GLe.refl G,m,rfl,rfl⟩)
 ·cases hd
end Go.Proofs.YtebbefpdncgoiaaGreatDoor

namespace Go.Proofs
open Go.RowKit Go.Shelf
attribute [local go_sem] Oper.semAt_some
namespace YtebbefpdncgoiaaGreatDoor
def Ints (n₀:Nat)(W:World)(sv:Value)(zs:List Int):Prop:=
 ((∃a c,sv= .slice a 0 c)∧zs=[])∨∃b off cap,sv= .slice (some ⟨b,off,none⟩) zs.length cap∧(zs.length=0∨b<n₀)∧∀j,j<zs.length→W.cell? ⟨b,off+j,none⟩=some (.int .i64 (zs[j]?.getD 0))
theorem Ints.below {n₀:Nat}{A B:World}(h:Below n₀ A B){sv:Value}{zs:List Int}:Ints n₀ A sv zs→Ints n₀ B sv zs
 | .inl e=> .inl e
 | .inr ⟨b,off,cap,e,hb,hc⟩=> .inr ⟨b,off,cap,e,hb,λj hj=>(h.cell (p:=⟨b,off+j,none⟩) (hb.resolve_left (by omega))).trans (hc j hj)⟩
end YtebbefpdncgoiaaGreatDoor
end Go.Proofs

namespace Go.Sx
theorem w64 {x:Int}(h1: -9223372036854775808≤x)(h2:x<9223372036854775808):IntKind.i64.wrap x=x:=by
 simp only[IntKind.wrap,IntKind.bits,IntKind.signed]
 have e:(2:Int)^64=18446744073709551616:=by decide
 have e':(2:Int)^(64-1)=9223372036854775808:=by decide
 simp
 omega
theorem dlt {i n:Nat}(h:i<n):decide ((i:Int)<(n:Int))=true:=by simp;omega
theorem Bc {n:Nat}:decide ((n:Int)<(n:Int))=false:=by simp
theorem AB {α:Type}{xs:List α}{i:Nat}(h:i<xs.length):idx xs (i:Int)=some xs[i]:=by
 unfold idx;rw[if_pos (by omega)];simp[h]
theorem E7 {α:Type}{xs:List α}{i:Int}(h0:0≤i)(h:i<xs.length):idx xs i=some (xs[i.toNat]'(by omega)):=by
 unfold idx;rw[if_pos h0];simp
theorem wi {i:Nat}(h:i<4611686018427387904):IntKind.i64.wrap ((i:Int)+1)=((i+1:Nat):Int):=by
 rw[w64 (by omega) (by omega)];rfl
theorem wi' {i n:Nat}(h:i<n)(hn:n≤4611686018427387904):IntKind.i64.wrap ((i:Int)+1)=((i+1:Nat):Int):=wi (by omega)
theorem Az {α:Type}{xs:List α}{i:Nat}(h:i<xs.length)(d:α):xs.getD i d=xs[i]:=by simp[h]
theorem A9 {α:Type}{xs ys:List α}(h:xs.length+ys.length≤4294967296):AS xs ys=some (xs++ys):=by
 unfold AS;rw[if_pos h]
theorem Et {α:Type}{xs:List α}{i:Nat}(h:i≤xs.length):Co xs 0 (i:Int)=some (xs.take i):=by
 unfold Co;rw[if_pos ⟨by omega,by omega,by omega⟩];simp
theorem E5 {α:Type}{xs:List α}{i:Nat}(h:i≤xs.length):Co xs (i:Int) (xs.length:Int)=some (xs.drop i):=by
 unfold Co;rw[if_pos ⟨by omega,by omega,by omega⟩];simp
theorem DV {α:Type}{z:α}{n:Nat}{c:Int}(h:(n:Int)≤c)(h2:c≤4294967296):Dv z (n:Int) c=some (List.replicate n z):=by
 unfold Dv;rw[if_pos ⟨by omega,h,h2⟩];simp
theorem makeD_zero {α:Type}{z:α}{c:Int}(h:0≤c)(h2:c≤4294967296):Dv z 0 c=some []:=by
 unfold Dv;rw[if_pos ⟨by omega,h,h2⟩];simp
def Stp {σ ρ:Type}(I:σ→Prop)(μ:σ→Nat)(Post:ρ→Prop)(s:σ):σ ⊕ ρ→Prop
 | .inl s'=>I s'∧μ s'<μ s
 | .inr r=>Post r
theorem AP {σ ρ β:Type}{step:σ→Option (σ ⊕ ρ)}{s:σ}{k:ρ→Option β}{Q:β→Prop}(I:σ→Prop)(μ:σ→Nat)(Post:ρ→Prop)
  (hstep:∀s,I s→∃y,step s=some y∧Stp I μ Post s y) (h0:I s) (hk:∀r,Post r→∃y,k r=some y∧Q y):∃y,(Aq step s).bind k=some y∧Q y:=by
 obtain⟨r,hr,hp⟩:=loopF_inv (step:=step) I μ Post (λs hs=>by
  obtain⟨y,hy,hq⟩:=hstep s hs
  cases y with
  |inl s'=>exact .inl ⟨s',hy,hq.1,hq.2⟩
  |inr r=>exact .inr ⟨r,hy,hq⟩) s h0
 rw[hr]
 exact hk r hp
theorem BO {α β:Type}{e:Option α}{k:α→Option β}{Q:β→Prop}(R:α→Prop)(h:∃x,e=some x∧R x)(hk:∀x,R x→∃y,k x=some y∧Q y):∃y,e.bind k=some y∧Q y:=by
 obtain⟨x,rfl,hx⟩:=h
 exact hk x hx
theorem bind_eq {α β:Type}{e:Option α}{k:α→Option β}{Q:β→Prop}{x:α}(h:e=some x)(hk:∃y,k x=some y∧Q y):∃y,e.bind k=some y∧Q y:=by
 subst h;exact hk
theorem loop_steps {S ρ:Type}{step:S→Option (S ⊕ ρ)}(st:Nat→S)(n:Nat)(h:∀i,i<n→step (st i)=some (.inl (st (i+1)))):Aq step (st 0)=Aq step (st n):=by
 have key:∀k,k≤n→Aq step (st 0)=Aq step (st k):=by
  intro k
  induction k with
  |zero=>intro _;rfl
  |succ k ih=>intro hk;rw[ih (by omega),BB (h k (by omega))]
 exact key n (Nat.le_refl n)
theorem B8 {S ρ β:Type}{step:S→Option (S ⊕ ρ)}{k:ρ→Option β}{s0:S}(st:Nat→S)(n:Nat)(r:ρ)(h0:st 0=s0)(h:∀i,i<n→step (st i)=some (.inl (st (i+1))))(he:step (st n)=some (.inr r)):
  (Aq step s0).bind k=k r:=by
 rw[←h0,loop_steps st n h,Be he];rfl
theorem loop_list {α σ S ρ:Type}{step:S→Option (S ⊕ ρ)}(xs:List α)(enc:σ→Int→S)(f:σ→α→σ)(fin:σ→ρ)(I:σ→Prop)(s0:σ)
  (h0:I s0) (hstep:∀s (i:Nat) (h:i<xs.length),I s→step (enc s i)=some (.inl (enc (f s xs[i]) ((i+1:Nat):Int)))∧I (f s xs[i]))
  (hend:∀s,I s→step (enc s xs.length)=some (.inr (fin s))):Aq step (enc s0 0)=some (fin (xs.foldl f s0))∧I (xs.foldl f s0):=by
 have key:∀(k i:Nat) (s:σ),i+k=xs.length→I s→Aq step (enc s i)=some (fin ((xs.drop i).foldl f s))∧I ((xs.drop i).foldl f s):=by
  intro k
  induction k with
  |zero=>
   intro i s hk hs
   obtain rfl:i=xs.length:=by omega
   simp only[List.drop_length,List.foldl_nil]
   exact⟨Be (hend s hs),hs⟩
  |succ k ih=>
   intro i s hk hs
   have hi:i<xs.length:=by omega
   obtain⟨h1,h2⟩:=hstep s i hi hs
   rw[BB h1,List.drop_eq_getElem_cons hi,List.foldl_cons]
   exact ih (i+1) _ (by omega) h2
 have:=key xs.length 0 s0 (by omega) h0
 simpa using this
theorem loop_listb {α σ S ρ β:Type}{step:S→Option (S ⊕ ρ)}{k:ρ→Option β}(xs:List α)(enc:σ→Int→S)(f:σ→α→σ)(fin:σ→ρ)(I:σ→Prop)(s0:σ)
  (h0:I s0) (hstep:∀s (i:Nat) (h:i<xs.length),I s→step (enc s i)=some (.inl (enc (f s xs[i]) ((i+1:Nat):Int)))∧I (f s xs[i]))
  (hend:∀s,I s→step (enc s xs.length)=some (.inr (fin s))):(Aq step (enc s0 0)).bind k=k (fin (xs.foldl f s0)):=by
 rw[(loop_list xs enc f fin I s0 h0 hstep hend).1];rfl
theorem DW {α β γ S:Type}{step:S→Option (S ⊕ List β)}{k:List β→Option γ}(xs:List α)(enc:List β→Int→S)(f:α→β)(hx:xs.length≤4294967296)
  (hstep:∀s (i:Nat) (h:i<xs.length),s.length=i→step (enc s i)=(AS s [f xs[i]]).bind λl=>some (.inl (enc l ((i+1:Nat):Int))))
  (hend:∀s,step (enc s xs.length)=some (.inr s)):(Aq step (enc [] 0)).bind k=k (xs.map f):=by
 have key:∀i,i≤xs.length→Aq step (enc [] 0)=Aq step (enc ((xs.take i).map f) i):=by
  intro i
  induction i with
  |zero=>intro _;simp
  |succ i ih=>
   intro hi
   rw[ih (by omega)]
   have h1:=hstep ((xs.take i).map f) i (by omega) (by simp;omega)
   have h2:AS ((xs.take i).map f) [f xs[i]]=some ((xs.take (i+1)).map f):=by
    unfold AS
    rw[if_pos (by simp;omega)]
    rw[List.take_succ_eq_append_getElem (show i<xs.length by omega),List.map_append];rfl
   rw[h2] at h1
   rw[BB h1]
 rw[key xs.length (Nat.le_refl _),List.take_length,Be (hend _)];rfl
theorem loop_nat {σ S ρ:Type}{step:S→Option (S ⊕ ρ)}(n:Nat)(enc:σ→Int→S)(f:σ→Nat→σ)(fin:σ→ρ)(I:Nat→σ→Prop)(s0:σ)
  (h0:I 0 s0) (hstep:∀s (i:Nat),i<n→I i s→step (enc s i)=some (.inl (enc (f s i) ((i+1:Nat):Int)))∧I (i+1) (f s i))
  (hend:∀s,I n s→step (enc s n)=some (.inr (fin s))):Aq step (enc s0 0)=some (fin ((List.range n).foldl f s0))∧I n ((List.range n).foldl f s0):=by
 have key:∀k,k≤n→Aq step (enc s0 0)=Aq step (enc ((List.range k).foldl f s0) k)∧I k ((List.range k).foldl f s0):=by
  intro k
  induction k with
  |zero=>intro _;exact⟨rfl,h0⟩
  |succ k ih=>
   intro hk
   obtain⟨h1,h2⟩:=ih (by omega)
   obtain⟨h3,h4⟩:=hstep _ k (by omega) h2
   rw[List.range_succ,List.foldl_append,List.foldl_cons,List.foldl_nil]
   exact⟨by rw[h1,BB h3],h4⟩
 obtain⟨h1,h2⟩:=key n (Nat.le_refl n)
 exact⟨by rw[h1,Be (hend _ h2)],h2⟩
theorem Di {ρ : Type} {step : Int → Option (Int ⊕ ρ)} (n : Nat) (c : Nat → Option ρ) (fin : ρ)
    (hstep : ∀ i, i < n → step (i : Int) = match c i with | some r => some (.inr r) | none => some (.inl ((i + 1 : Nat) : Int)))
    (hend : step (n : Int) = some (.inr fin)) : Aq step 0 = some (((List.range n).findSome? c).getD fin) := by
  have key : ∀ (k i : Nat), i + k = n → Aq step (i : Int) = some (((List.range' i k).findSome? c).getD fin) := by
    intro k
    induction k with
    | zero => intro i h; obtain rfl : i = n := by omega
              simpa using Be hend
    | succ k ih =>
      intro i h
      have h1 := hstep i (by omega)
      rw [List.range'_succ, List.findSome?_cons]
      cases hc : c i with
      | some r => rw [hc] at h1; simpa using Be h1
      | none => rw [hc] at h1; rw [BB h1]; exact ih (i + 1) (by omega)
  have := key n 0 (by omega)
  simpa [List.range_eq_range'] using this
theorem C3 {β:Type}{step:Int→Option (Int ⊕ (Unit ⊕ β))}{k:Unit ⊕ β→Option Bool}(n:Nat)(c:Nat→Bool)(bad:β)
  (hstep:∀i,i<n→step (i:Int)=if c i then some (.inl ((i+1:Nat):Int)) else some (.inr (.inr bad)))
  (hend:step (n:Int)=some (.inr (.inl ()))) (hk1:k (.inl ())=some true) (hk2:k (.inr bad)=some false):
  (Aq step 0).bind k=some ((List.range n).all c):=by
 rw[Di n (λi=>if c i then none else some (.inr bad)) (.inl ()) (λi hi=>by rw[hstep i hi];cases c i<;>rfl) hend]
 simp only[bs]
 cases h:(List.range n).all c with
 |true=>
  rw[List.findSome?_eq_none_iff.2 (λx hx=>by rw[if_pos (List.all_eq_true.1 h x hx)])]
  exact hk1
 |false=>
  cases h2:(List.range n).findSome? (λi=>if c i then none else some (Sum.inr bad)) with
  |none=>
   rw[List.findSome?_eq_none_iff] at h2
   have:(List.range n).all c=true:=List.all_eq_true.2 λx hx=>by
    have:=h2 x hx
    cases hc:c x
    ·rw[hc] at this;cases this
    ·rfl
   rw[this] at h;cases h
  |some r=>
   obtain⟨x,_,hx⟩:=List.exists_of_findSome?_eq_some h2
   cases hc:c x
   ·rw[hc] at hx;simp at hx;subst hx;exact hk2
   ·rw[hc] at hx;simp at hx
theorem Ee {ρ β:Type}{step:Int→Option (Int ⊕ ρ)}{k:ρ→Option β}(n:Nat)(c:Nat→Bool)(fine bad:ρ)
  (hstep:∀i,i<n→step (i:Int)=if c i then some (.inl ((i+1:Nat):Int)) else some (.inr bad))
  (hend:step (n:Int)=some (.inr fine)):(Aq step 0).bind k=cond ((List.range n).all c) (k fine) (k bad):=by
 rw[Di n (λi=>if c i then none else some bad) fine (λi hi=>by rw[hstep i hi];cases c i<;>rfl) hend]
 simp only[bs]
 cases h:(List.range n).all c with
 |true=>
  rw[List.findSome?_eq_none_iff.2 (λx hx=>by rw[if_pos (List.all_eq_true.1 h x hx)])]
  rfl
 |false=>
  cases h2:(List.range n).findSome? (λi=>if c i then none else some bad) with
  |none=>
   rw[List.findSome?_eq_none_iff] at h2
   have:(List.range n).all c=true:=List.all_eq_true.2 λx hx=>by
    have:=h2 x hx
    cases hc:c x
    ·rw[hc] at this;cases this
    ·rfl
   rw[this] at h;cases h
  |some r=>
   obtain⟨x,_,hx⟩:=List.exists_of_findSome?_eq_some h2
   cases hc:c x
   ·rw[hc] at hx;simp at hx;subst hx;rfl
   ·rw[hc] at hx;simp at hx
theorem loop_anyb {β:Type}{step:Int→Option (Int ⊕ (Unit ⊕ β))}{k:Unit ⊕ β→Option Bool}(n:Nat)(c:Nat→Bool)(good:β)
  (hstep:∀i,i<n→step (i:Int)=if c i then some (.inr (.inr good)) else some (.inl ((i+1:Nat):Int)))
  (hend:step (n:Int)=some (.inr (.inl ()))) (hk1:k (.inl ())=some false) (hk2:k (.inr good)=some true):
  (Aq step 0).bind k=some ((List.range n).any c):=by
 rw[Di n (λi=>if c i then some (.inr good) else none) (.inl ()) (λi hi=>by rw[hstep i hi];cases c i<;>rfl) hend]
 simp only[bs]
 cases h:(List.range n).any c with
 |false=>
  rw[List.findSome?_eq_none_iff.2 (λx hx=>by
   have:c x=false:=by
    cases hc:c x
    ·rfl
    ·rw[List.any_eq_true.2 ⟨x,hx,hc⟩] at h;cases h
   rw[this];rfl)]
  exact hk1
 |true=>
  obtain⟨x,hx,hc⟩:=List.any_eq_true.1 h
  cases h2:(List.range n).findSome? (λi=>if c i then some (Sum.inr good) else none) with
  |none=>
   rw[List.findSome?_eq_none_iff] at h2
   have:=h2 x hx
   rw[hc] at this;cases this
  |some r=>
   obtain⟨y,_,hy⟩:=List.exists_of_findSome?_eq_some h2
   cases hc:c y
   ·rw[hc] at hy;simp at hy
   ·rw[hc] at hy;simp at hy;subst hy;exact hk2
theorem CR {α:Type}(xs:List α)(p:α→Bool)(c:Nat→Bool)(h:∀i (hi:i<xs.length),c i=p xs[i]):(List.range xs.length).all c=xs.all p:=by
 rw[Bool.eq_iff_iff,List.all_eq_true,List.all_eq_true]
 constructor
 ·intro hh x hx
  obtain⟨i,hi,rfl⟩:=List.getElem_of_mem hx
  rw[←h i hi];exact hh i (List.mem_range.2 hi)
 ·intro hh i hi
  have hi':=List.mem_range.1 hi
  rw[h i hi'];exact hh _ (List.getElem_mem _)
theorem E9 {α:Type}(xs:List α)(p:α→Bool)(c:Nat→Bool)(h:∀i (hi:i<xs.length),c i=p xs[i]):(List.range xs.length).any c=xs.any p:=by
 rw[Bool.eq_iff_iff,List.any_eq_true,List.any_eq_true]
 constructor
 ·rintro⟨i,hi,hc⟩
  have hi':=List.mem_range.1 hi
  exact⟨_,List.getElem_mem hi',by rw[←h i hi'];exact hc⟩
 ·rintro⟨x,hx,hc⟩
  obtain⟨i,hi,rfl⟩:=List.getElem_of_mem hx
  exact⟨i,List.mem_range.2 hi,by rw[h i hi];exact hc⟩
theorem Do (n:Nat)(c:Nat→Bool):(List.range n).all c=true↔∀i,i<n→c i=true:=by
 rw[List.all_eq_true]
 exact⟨λh i hi=>h i (List.mem_range.2 hi),λh i hi=>h i (List.mem_range.1 hi)⟩
end Go.Sx



namespace Go.Sx
noncomputable def DG.insertionSort {α:Type}(cmp:α→α→Option Int)(x0:(List α))(x1:Int)(x2:Int):Option (((List α))):=
 (Aq (σ:=(List α)×Int) (ρ:=((List α))) (fun(s_560:(List α)×Int)=>match s_560 with|(l_563,x_566)=>cond (decide (x_566<x2)) ((Aq (σ:=(List α)×Int) (ρ:=((List α))) (fun(s_984:(List α)×Int)=>match s_984 with|(l_987,x_990)=>(cond (decide (x1<x_990)) ((idx l_987 x_990).bind λe_1079=>(idx l_987 (IntKind.i64.wrap (x_990-1))).bind λe_1085=>(cmp e_1079 e_1085).bind λy_1091=>some (decide (y_1091<0))) (some false)).bind λb_1077=>cond b_1077 ((idx l_987 (IntKind.i64.wrap (x_990-1))).bind λe_1097=>(idx l_987 x_990).bind λe_1103=>(idx l_987 x_990).bind λe_1109=>(idx (l_987.set (Int.toNat x_990) e_1097) (IntKind.i64.wrap (x_990-1))).bind λe_1117=>some (.inl (((l_987.set (Int.toNat x_990) e_1097).set (Int.toNat (IntKind.i64.wrap (x_990-1))) e_1103),(IntKind.i64.wrap (x_990-1))))) (some (.inr l_987))) (l_563,x_566)).bind λl_1056=>some (.inl (l_1056,(IntKind.i64.wrap (x_566+1))))) (some (.inr l_563))) (x0,(IntKind.i64.wrap (x1+1)))).bind λl_844=>some l_844
noncomputable def DG.siftDown {α:Type}(cmp:α→α→Option Int)(x0:(List α))(x1:Int)(x2:Int)(x3:Int):Option (((List α))):=
 (Aq (σ:=(List α)×Int) (ρ:=((List α)) ⊕ (((List α)))) (fun(s_186:(List α)×Int)=>match s_186 with|(l_189,x_192)=>cond (decide (x2≤(IntKind.i64.wrap ((IntKind.i64.wrap (2*x_192))+1)))) (some (.inr (.inl l_189))) ((cond (decide ((IntKind.i64.wrap ((IntKind.i64.wrap ((IntKind.i64.wrap (2*x_192))+1))+1))<x2)) ((idx l_189 (IntKind.i64.wrap (x3+(IntKind.i64.wrap ((IntKind.i64.wrap (2*x_192))+1))))).bind λe_307=>(idx l_189 (IntKind.i64.wrap ((IntKind.i64.wrap (x3+(IntKind.i64.wrap ((IntKind.i64.wrap (2*x_192))+1))))+1))).bind λe_313=>(cmp e_307 e_313).bind λy_319=>some (decide (y_319<0))) (some false)).bind λb_305=>((cond b_305 (some (IntKind.i64.wrap ((IntKind.i64.wrap ((IntKind.i64.wrap (2*x_192))+1))+1))) (some (IntKind.i64.wrap ((IntKind.i64.wrap (2*x_192))+1))):Option (Int))).bind λx_328=>(idx l_189 (IntKind.i64.wrap (x3+x_192))).bind λe_331=>(idx l_189 (IntKind.i64.wrap (x3+x_328))).bind λe_337=>(cmp e_331 e_337).bind λy_343=>cond (!(decide (y_343<0))) (some (.inr (.inr l_189))) ((idx l_189 (IntKind.i64.wrap (x3+x_328))).bind λe_349=>(idx l_189 (IntKind.i64.wrap (x3+x_192))).bind λe_355=>(idx l_189 (IntKind.i64.wrap (x3+x_192))).bind λe_361=>(idx (l_189.set (Int.toNat (IntKind.i64.wrap (x3+x_192))) e_349) (IntKind.i64.wrap (x3+x_328))).bind λe_369=>some (.inl (((l_189.set (Int.toNat (IntKind.i64.wrap (x3+x_192))) e_349).set (Int.toNat (IntKind.i64.wrap (x3+x_328))) e_355),x_328))))) (x0,x1)).bind λzz=>match zz with| .inl l_283=>(some l_283)| .inr z=>(some z)
noncomputable def DG.heapSort {α:Type}(cmp:α→α→Option Int)(x0:(List α))(x1:Int)(x2:Int):Option (((List α))):=
 (Aq (σ:=(List α)×Int) (ρ:=((List α))) (fun(s_30:(List α)×Int)=>match s_30 with|(l_33,x_36)=>cond (decide ((0:Int)≤x_36)) ((DG.siftDown cmp l_33 x_36 (IntKind.i64.wrap (x2-x1)) x1).bind λy_54=>some (.inl (y_54,(IntKind.i64.wrap (x_36-1))))) (some (.inr l_33))) (x0,(IntKind.i64.wrap (Int.tdiv (IntKind.i64.wrap ((IntKind.i64.wrap (x2-x1))-1)) 2)))).bind λl_49=>(Aq (σ:=(List α)×Int) (ρ:=((List α))) (fun(s_144:(List α)×Int)=>match s_144 with|(l_147,x_150)=>cond (decide ((0:Int)≤x_150)) ((idx l_147 (IntKind.i64.wrap (x1+x_150))).bind λe_194=>(idx l_147 x1).bind λe_200=>(idx l_147 x1).bind λe_206=>(idx (l_147.set (Int.toNat x1) e_194) (IntKind.i64.wrap (x1+x_150))).bind λe_214=>(DG.siftDown cmp ((l_147.set (Int.toNat x1) e_194).set (Int.toNat (IntKind.i64.wrap (x1+x_150))) e_200) 0 x_150 x1).bind λy_220=>some (.inl (y_220,(IntKind.i64.wrap (x_150-1))))) (some (.inr l_147))) (l_49,(IntKind.i64.wrap ((IntKind.i64.wrap (x2-x1))-1)))).bind λl_189=>some l_189
noncomputable def DG.breakPatterns {α:Type}(cmp:α→α→Option Int)(x0:(List α))(x1:Int)(x2:Int):Option (((List α))):=
 cond (decide ((8:Int)≤(IntKind.i64.wrap (x2-x1)))) ((D.I (IntKind.i64.wrap (x2-x1))).bind λy_4=>(Aq (σ:=(List α)×Int×Int) (ρ:=((List α))) (fun(s_103:(List α)×Int×Int)=>match s_103 with|(l_106,x_109,x_110)=>cond (decide (x_109≤(IntKind.i64.wrap ((IntKind.i64.wrap (x1+(IntKind.i64.wrap ((IntKind.i64.wrap (Int.tdiv (IntKind.i64.wrap (x2-x1)) 4))*2))))+1)))) ((D.b0 x_110).bind λy_159=>((cond (decide ((IntKind.i64.wrap (x2-x1))≤(IntKind.i64.wrap (iand .u64 y_159.1 (IntKind.u64.wrap (y_4-1)))))) (some (IntKind.i64.wrap ((IntKind.i64.wrap (iand .u64 y_159.1 (IntKind.u64.wrap (y_4-1))))-(IntKind.i64.wrap (x2-x1))))) (some (IntKind.i64.wrap (iand .u64 y_159.1 (IntKind.u64.wrap (y_4-1))))):Option (Int))).bind λx_170=>(idx l_106 (IntKind.i64.wrap (x1+x_170))).bind λe_173=>(idx l_106 x_109).bind λe_179=>(idx l_106 x_109).bind λe_185=>(idx (l_106.set (Int.toNat x_109) e_173) (IntKind.i64.wrap (x1+x_170))).bind λe_193=>some (.inl (((l_106.set (Int.toNat x_109) e_173).set (Int.toNat (IntKind.i64.wrap (x1+x_170))) e_179),(IntKind.i64.wrap (x_109+1)),y_159.2))) (some (.inr l_106))) (x0,(IntKind.i64.wrap ((IntKind.i64.wrap (x1+(IntKind.i64.wrap ((IntKind.i64.wrap (Int.tdiv (IntKind.i64.wrap (x2-x1)) 4))*2))))-1)),(IntKind.u64.wrap (IntKind.i64.wrap (x2-x1))))).bind λl_154=>some l_154) (some x0)
noncomputable def DG.order2 {α:Type}(cmp:α→α→Option Int)(x0:(List α))(x1:Int)(x2:Int)(x3_0:Int):Option (Int×Int×((List α))×Int):=
 (idx x0 x2).bind λe_1=>(idx x0 x1).bind λe_7=>(cmp e_1 e_7).bind λy_13=>cond (decide (y_13<0)) (some (x2,x1,x0,(IntKind.i64.wrap (x3_0+1)))) (some (x1,x2,x0,x3_0))
noncomputable def DG.median {α:Type}(cmp:α→α→Option Int)(x0:(List α))(x1:Int)(x2:Int)(x3:Int)(x4_0:Int):Option (Int×((List α))×Int):=
 (DG.order2 cmp x0 x1 x2 x4_0).bind λy_1=>(DG.order2 cmp y_1.2.2.1 y_1.2.1 x3 y_1.2.2.2).bind λy_10=>(DG.order2 cmp y_10.2.2.1 y_1.1 y_10.1 y_10.2.2.2).bind λy_19=>some (y_19.2.1,y_19.2.2.1,y_19.2.2.2)
noncomputable def DG.medianAdjacent {α:Type}(cmp:α→α→Option Int)(x0:(List α))(x1:Int)(x2_0:Int):Option (Int×((List α))×Int):=
 (DG.median cmp x0 (IntKind.i64.wrap (x1-1)) x1 (IntKind.i64.wrap (x1+1)) x2_0).bind λy_1=>some (y_1.1,y_1.2.1,y_1.2.2)
noncomputable def DG.choosePivot {α:Type}(cmp:α→α→Option Int)(x0:(List α))(x1:Int)(x2:Int):Option (Int×Int×((List α))):=
 cond (decide ((8:Int)≤(IntKind.i64.wrap (x2-x1)))) (((cond (decide ((50:Int)≤(IntKind.i64.wrap (x2-x1)))) ((DG.medianAdjacent cmp x0 (IntKind.i64.wrap (x1+(IntKind.i64.wrap ((IntKind.i64.wrap (Int.tdiv (IntKind.i64.wrap (x2-x1)) 4))*1)))) 0).bind λy_44=>(DG.medianAdjacent cmp y_44.2.1 (IntKind.i64.wrap (x1+(IntKind.i64.wrap ((IntKind.i64.wrap (Int.tdiv (IntKind.i64.wrap (x2-x1)) 4))*2)))) y_44.2.2).bind λy_53=>(DG.medianAdjacent cmp y_53.2.1 (IntKind.i64.wrap (x1+(IntKind.i64.wrap ((IntKind.i64.wrap (Int.tdiv (IntKind.i64.wrap (x2-x1)) 4))*3)))) y_53.2.2).bind λy_62=>some (y_62.2.1,y_44.1,y_53.1,y_62.1,y_62.2.2)) (some (x0,(IntKind.i64.wrap (x1+(IntKind.i64.wrap ((IntKind.i64.wrap (Int.tdiv (IntKind.i64.wrap (x2-x1)) 4))*1)))),(IntKind.i64.wrap (x1+(IntKind.i64.wrap ((IntKind.i64.wrap (Int.tdiv (IntKind.i64.wrap (x2-x1)) 4))*2)))),(IntKind.i64.wrap (x1+(IntKind.i64.wrap ((IntKind.i64.wrap (Int.tdiv (IntKind.i64.wrap (x2-x1)) 4))*3)))),0)):Option ((List α)×Int×Int×Int×Int))).bind fun(l_35,x_38,x_39,x_40,x_41)=>(DG.median cmp l_35 x_38 x_39 x_40 x_41).bind λy_71=>cond (y_71.2.2==0) (some (y_71.1,1,y_71.2.1)) (cond (y_71.2.2==12) (some (y_71.1,2,y_71.2.1)) (some (y_71.1,0,y_71.2.1)))) (cond ((0:Int)==0) (some ((IntKind.i64.wrap (x1+(IntKind.i64.wrap ((IntKind.i64.wrap (Int.tdiv (IntKind.i64.wrap (x2-x1)) 4))*2)))),1,x0)) (cond ((0:Int)==12) (some ((IntKind.i64.wrap (x1+(IntKind.i64.wrap ((IntKind.i64.wrap (Int.tdiv (IntKind.i64.wrap (x2-x1)) 4))*2)))),2,x0)) (some ((IntKind.i64.wrap (x1+(IntKind.i64.wrap ((IntKind.i64.wrap (Int.tdiv (IntKind.i64.wrap (x2-x1)) 4))*2)))),0,x0))))
noncomputable def DG.reverseRange {α:Type}(cmp:α→α→Option Int)(x0:(List α))(x1:Int)(x2:Int):Option (((List α))):=
 (Aq (σ:=(List α)×Int×Int) (ρ:=((List α))) (fun(s_65:(List α)×Int×Int)=>match s_65 with|(l_68,x_71,x_72)=>cond (decide (x_71<x_72)) ((idx l_68 x_72).bind λe_107=>(idx l_68 x_71).bind λe_113=>(idx l_68 x_71).bind λe_119=>(idx (l_68.set (Int.toNat x_71) e_107) x_72).bind λe_127=>some (.inl (((l_68.set (Int.toNat x_71) e_107).set (Int.toNat x_72) e_113),(IntKind.i64.wrap (x_71+1)),(IntKind.i64.wrap (x_72-1))))) (some (.inr l_68))) (x0,x1,(IntKind.i64.wrap (x2-1)))).bind λl_102=>some l_102
noncomputable def DG.partialInsertionSort {α:Type}(cmp:α→α→Option Int)(x0:(List α))(x1:Int)(x2:Int):Option (Bool×((List α))):=
 (Aq (σ:=(List α)×Int×Int) (ρ:=((List α)) ⊕ (Bool×((List α)))) (fun(s_1625:(List α)×Int×Int)=>match s_1625 with|(l_1628,x_1631,x_1632)=>cond (decide (x_1632<5)) ((Aq (σ:=Int) (ρ:=(Int)) (fun(x_2530:Int)=>(cond (decide (x_2530<x2)) ((idx l_1628 x_2530).bind λe_2591=>(idx l_1628 (IntKind.i64.wrap (x_2530-1))).bind λe_2597=>(cmp e_2591 e_2597).bind λy_2603=>some (!(decide (y_2603<0)))) (some false)).bind λb_2589=>cond b_2589 (some (.inl (IntKind.i64.wrap (x_2530+1)))) (some (.inr x_2530))) x_1631).bind λx_2570=>cond (x_2570==x2) (some (.inr (.inr (true,l_1628)))) (cond (decide ((IntKind.i64.wrap (x2-x1))<50)) (some (.inr (.inr (false,l_1628)))) ((idx l_1628 (IntKind.i64.wrap (x_2570-1))).bind λe_2611=>(idx l_1628 x_2570).bind λe_2617=>(idx l_1628 x_2570).bind λe_2623=>(idx (l_1628.set (Int.toNat x_2570) e_2611) (IntKind.i64.wrap (x_2570-1))).bind λe_2631=>((cond (decide ((2:Int)≤(IntKind.i64.wrap (x_2570-x1)))) ((Aq (σ:=(List α)×Int) (ρ:=((List α))) (fun(s_2947:(List α)×Int)=>match s_2947 with|(l_2950,x_2953)=>cond (decide ((1:Int)≤x_2953)) ((idx l_2950 x_2953).bind λe_3006=>(idx l_2950 (IntKind.i64.wrap (x_2953-1))).bind λe_3012=>(cmp e_3006 e_3012).bind λy_3018=>cond (!(decide (y_3018<0))) (some (.inr l_2950)) ((idx l_2950 (IntKind.i64.wrap (x_2953-1))).bind λe_3024=>(idx l_2950 x_2953).bind λe_3030=>(idx l_2950 x_2953).bind λe_3036=>(idx (l_2950.set (Int.toNat x_2953) e_3024) (IntKind.i64.wrap (x_2953-1))).bind λe_3044=>some (.inl (((l_2950.set (Int.toNat x_2953) e_3024).set (Int.toNat (IntKind.i64.wrap (x_2953-1))) e_3030),(IntKind.i64.wrap (x_2953-1)))))) (some (.inr l_2950))) (((l_1628.set (Int.toNat x_2570) e_2611).set (Int.toNat (IntKind.i64.wrap (x_2570-1))) e_2617),(IntKind.i64.wrap (x_2570-1)))).bind λl_3001=>some l_3001) (some ((l_1628.set (Int.toNat x_2570) e_2611).set (Int.toNat (IntKind.i64.wrap (x_2570-1))) e_2617)):Option ((List α)))).bind λl_2843=>cond (decide ((2:Int)≤(IntKind.i64.wrap (x2-x_2570)))) ((Aq (σ:=(List α)×Int) (ρ:=((List α))) (fun(s_3150:(List α)×Int)=>match s_3150 with|(l_3153,x_3156)=>cond (decide (x_3156<x2)) ((idx l_3153 x_3156).bind λe_3209=>(idx l_3153 (IntKind.i64.wrap (x_3156-1))).bind λe_3215=>(cmp e_3209 e_3215).bind λy_3221=>cond (!(decide (y_3221<0))) (some (.inr l_3153)) ((idx l_3153 (IntKind.i64.wrap (x_3156-1))).bind λe_3227=>(idx l_3153 x_3156).bind λe_3233=>(idx l_3153 x_3156).bind λe_3239=>(idx (l_3153.set (Int.toNat x_3156) e_3227) (IntKind.i64.wrap (x_3156-1))).bind λe_3247=>some (.inl (((l_3153.set (Int.toNat x_3156) e_3227).set (Int.toNat (IntKind.i64.wrap (x_3156-1))) e_3233),(IntKind.i64.wrap (x_3156+1)))))) (some (.inr l_3153))) (l_2843,(IntKind.i64.wrap (x_2570+1)))).bind λl_3204=>some (.inl (l_3204,x_2570,(IntKind.i64.wrap (x_1632+1))))) (some (.inl (l_2843,x_2570,(IntKind.i64.wrap (x_1632+1)))))))) (some (.inr (.inl l_1628)))) (x0,(IntKind.i64.wrap (x1+1)),0)).bind λzz=>match zz with| .inl l_2442=>(some (false,l_2442))| .inr z=>(some z)
noncomputable def DG.partitionEqual {α:Type}(cmp:α→α→Option Int)(x0:(List α))(x1:Int)(x2:Int)(x3:Int):Option (Int×((List α))):=
 (idx x0 x3).bind λe_1=>(idx x0 x1).bind λe_7=>(idx x0 x1).bind λe_13=>(idx (x0.set (Int.toNat x1) e_1) x3).bind λe_21=>(Aq (σ:=(List α)×Int×Int) (ρ:=((List α)×Int)) (fun(s_739:(List α)×Int×Int)=>match s_739 with|(l_742,x_745,x_746)=>(Aq (σ:=Int) (ρ:=(Int)) (fun(x_1188:Int)=>(cond (decide (x_1188≤x_746)) ((idx l_742 x1).bind λe_1249=>(idx l_742 x_1188).bind λe_1255=>(cmp e_1249 e_1255).bind λy_1261=>some (!(decide (y_1261<0)))) (some false)).bind λb_1247=>cond b_1247 (some (.inl (IntKind.i64.wrap (x_1188+1)))) (some (.inr x_1188))) x_745).bind λx_1228=>(Aq (σ:=Int) (ρ:=(Int)) (fun(x_1350:Int)=>(cond (decide (x_1228≤x_1350)) ((idx l_742 x1).bind λe_1411=>(idx l_742 x_1350).bind λe_1417=>(cmp e_1411 e_1417).bind λy_1423=>some (decide (y_1423<0))) (some false)).bind λb_1409=>cond b_1409 (some (.inl (IntKind.i64.wrap (x_1350-1)))) (some (.inr x_1350))) x_746).bind λx_1390=>cond (decide (x_1390<x_1228)) (some (.inr (l_742,x_1228))) ((idx l_742 x_1390).bind λe_1430=>(idx l_742 x_1228).bind λe_1436=>(idx l_742 x_1228).bind λe_1442=>(idx (l_742.set (Int.toNat x_1228) e_1430) x_1390).bind λe_1450=>some (.inl (((l_742.set (Int.toNat x_1228) e_1430).set (Int.toNat x_1390) e_1436),(IntKind.i64.wrap (x_1228+1)),(IntKind.i64.wrap (x_1390-1)))))) (((x0.set (Int.toNat x1) e_1).set (Int.toNat x3) e_7),(IntKind.i64.wrap (x1+1)),(IntKind.i64.wrap (x2-1)))).bind fun(l_1100,x_1103)=>some (x_1103,l_1100)
noncomputable def DG.partition {α:Type}(cmp:α→α→Option Int)(x0:(List α))(x1:Int)(x2:Int)(x3:Int):Option (Int×Bool×((List α))):=
 (idx x0 x3).bind λe_1=>(idx x0 x1).bind λe_7=>(idx x0 x1).bind λe_13=>(idx (x0.set (Int.toNat x1) e_1) x3).bind λe_21=>(Aq (σ:=Int) (ρ:=(Int)) (fun(x_110:Int)=>(cond (decide (x_110≤(IntKind.i64.wrap (x2-1)))) ((idx ((x0.set (Int.toNat x1) e_1).set (Int.toNat x3) e_7) x_110).bind λe_171=>(idx ((x0.set (Int.toNat x1) e_1).set (Int.toNat x3) e_7) x1).bind λe_177=>(cmp e_171 e_177).bind λy_183=>some (decide (y_183<0))) (some false)).bind λb_169=>cond b_169 (some (.inl (IntKind.i64.wrap (x_110+1)))) (some (.inr x_110))) (IntKind.i64.wrap (x1+1))).bind λx_150=>(Aq (σ:=Int) (ρ:=(Int)) (fun(x_272:Int)=>(cond (decide (x_150≤x_272)) ((idx ((x0.set (Int.toNat x1) e_1).set (Int.toNat x3) e_7) x_272).bind λe_333=>(idx ((x0.set (Int.toNat x1) e_1).set (Int.toNat x3) e_7) x1).bind λe_339=>(cmp e_333 e_339).bind λy_345=>some (!(decide (y_345<0)))) (some false)).bind λb_331=>cond b_331 (some (.inl (IntKind.i64.wrap (x_272-1)))) (some (.inr x_272))) (IntKind.i64.wrap (x2-1))).bind λx_312=>cond (decide (x_312<x_150)) ((idx ((x0.set (Int.toNat x1) e_1).set (Int.toNat x3) e_7) x1).bind λe_352=>(idx ((x0.set (Int.toNat x1) e_1).set (Int.toNat x3) e_7) x_312).bind λe_358=>(idx ((x0.set (Int.toNat x1) e_1).set (Int.toNat x3) e_7) x_312).bind λe_364=>(idx (((x0.set (Int.toNat x1) e_1).set (Int.toNat x3) e_7).set (Int.toNat x_312) e_352) x1).bind λe_372=>some (x_312,true,((((x0.set (Int.toNat x1) e_1).set (Int.toNat x3) e_7).set (Int.toNat x_312) e_352).set (Int.toNat x1) e_358))) ((idx ((x0.set (Int.toNat x1) e_1).set (Int.toNat x3) e_7) x_312).bind λe_378=>(idx ((x0.set (Int.toNat x1) e_1).set (Int.toNat x3) e_7) x_150).bind λe_384=>(idx ((x0.set (Int.toNat x1) e_1).set (Int.toNat x3) e_7) x_150).bind λe_390=>(idx (((x0.set (Int.toNat x1) e_1).set (Int.toNat x3) e_7).set (Int.toNat x_150) e_378) x_312).bind λe_398=>(Aq (σ:=(List α)×Int×Int) (ρ:=((List α)×Int)) (fun(s_1116:(List α)×Int×Int)=>match s_1116 with|(l_1119,x_1122,x_1123)=>(Aq (σ:=Int) (ρ:=(Int)) (fun(x_1565:Int)=>(cond (decide (x_1565≤x_1123)) ((idx l_1119 x_1565).bind λe_1626=>(idx l_1119 x1).bind λe_1632=>(cmp e_1626 e_1632).bind λy_1638=>some (decide (y_1638<0))) (some false)).bind λb_1624=>cond b_1624 (some (.inl (IntKind.i64.wrap (x_1565+1)))) (some (.inr x_1565))) x_1122).bind λx_1605=>(Aq (σ:=Int) (ρ:=(Int)) (fun(x_1727:Int)=>(cond (decide (x_1605≤x_1727)) ((idx l_1119 x_1727).bind λe_1788=>(idx l_1119 x1).bind λe_1794=>(cmp e_1788 e_1794).bind λy_1800=>some (!(decide (y_1800<0)))) (some false)).bind λb_1786=>cond b_1786 (some (.inl (IntKind.i64.wrap (x_1727-1)))) (some (.inr x_1727))) x_1123).bind λx_1767=>cond (decide (x_1767<x_1605)) (some (.inr (l_1119,x_1767))) ((idx l_1119 x_1767).bind λe_1807=>(idx l_1119 x_1605).bind λe_1813=>(idx l_1119 x_1605).bind λe_1819=>(idx (l_1119.set (Int.toNat x_1605) e_1807) x_1767).bind λe_1827=>some (.inl (((l_1119.set (Int.toNat x_1605) e_1807).set (Int.toNat x_1767) e_1813),(IntKind.i64.wrap (x_1605+1)),(IntKind.i64.wrap (x_1767-1)))))) (((((x0.set (Int.toNat x1) e_1).set (Int.toNat x3) e_7).set (Int.toNat x_150) e_378).set (Int.toNat x_312) e_384),(IntKind.i64.wrap (x_150+1)),(IntKind.i64.wrap (x_312-1)))).bind fun(l_1477,x_1480)=>(idx l_1477 x1).bind λe_1833=>(idx l_1477 x_1480).bind λe_1839=>(idx l_1477 x_1480).bind λe_1845=>(idx (l_1477.set (Int.toNat x_1480) e_1833) x1).bind λe_1853=>some (x_1480,false,((l_1477.set (Int.toNat x_1480) e_1833).set (Int.toNat x1) e_1839)))
noncomputable def DG.pdqsortR {α:Type}(cmp:α→α→Option Int):Nat→((List α))→Int→Int→Int→Option (((List α)))
 |0,_,_,_,_=>none
 |fuel+1,x0,x1,x2,x3=>(Aq (σ:=(List α)×Int×Int×Int×Bool×Bool) (ρ:=(((List α)))) (fun(s_398:(List α)×Int×Int×Int×Bool×Bool)=>match s_398 with|(l_401,x_404,x_405,x_406,b_407,b_408)=>cond (decide ((IntKind.i64.wrap (x_405-x_404))≤12)) ((DG.insertionSort cmp l_401 x_404 x_405).bind λy_411=>some (.inr y_411)) (cond (x_406==0) ((DG.heapSort cmp l_401 x_404 x_405).bind λy_421=>some (.inr y_421)) (((cond (!b_407) ((DG.breakPatterns cmp l_401 x_404 x_405).bind λy_449=>some (y_449,(IntKind.i64.wrap (x_406-1)))) (some (l_401,x_406)):Option ((List α)×Int))).bind fun(l_443,x_446)=>(DG.choosePivot cmp l_443 x_404 x_405).bind λy_458=>((cond (y_458.2.1==2) ((DG.reverseRange cmp y_458.2.2 x_404 x_405).bind λy_487=>some (y_487,(IntKind.i64.wrap ((IntKind.i64.wrap (x_405-1))-(IntKind.i64.wrap (y_458.1-x_404)))),1)) (some (y_458.2.2,y_458.1,y_458.2.1)):Option ((List α)×Int×Int))).bind fun(l_480,x_483,x_484)=>((cond ((b_407&&b_408)&&(x_484==1)) ((DG.partialInsertionSort cmp l_480 x_404 x_405).bind λy_521=>cond y_521.1 (some (.inr y_521.2)) (some (.inl y_521.2))) (some (.inl l_480)):Option (((List α)) ⊕ (((List α)))))).bind λq=>match q with| .inl l_516=>((cond (decide ((0:Int)<x_404)) ((idx l_516 (IntKind.i64.wrap (x_404-1))).bind λe_550=>(idx l_516 x_483).bind λe_556=>(cmp e_550 e_556).bind λy_562=>some (!(decide (y_562<0)))) (some false)).bind λb_548=>cond b_548 ((DG.partitionEqual cmp l_516 x_404 x_405 x_483).bind λy_568=>some (.inl (y_568.2,y_568.1,x_405,x_446,b_407,b_408))) ((DG.partition cmp l_516 x_404 x_405 x_483).bind λy_577=>cond (decide ((IntKind.i64.wrap (y_577.1-x_404))<(IntKind.i64.wrap (x_405-y_577.1)))) ((DG.pdqsortR cmp fuel y_577.2.2 x_404 y_577.1 x_446).bind λy_587=>some (.inl (y_587,(IntKind.i64.wrap (y_577.1+1)),x_405,x_446,(decide ((IntKind.i64.wrap (Int.tdiv (IntKind.i64.wrap (x_405-x_404)) 8))≤(IntKind.i64.wrap (y_577.1-x_404)))),y_577.2.1))) ((DG.pdqsortR cmp fuel y_577.2.2 (IntKind.i64.wrap (y_577.1+1)) x_405 x_446).bind λy_596=>some (.inl (y_596,x_404,y_577.1,x_446,(decide ((IntKind.i64.wrap (Int.tdiv (IntKind.i64.wrap (x_405-x_404)) 8))≤(IntKind.i64.wrap (x_405-y_577.1)))),y_577.2.1)))))| .inr q=>(some (.inr q))))) (x0,x1,x2,x3,true,true)).bind λz=>some z
noncomputable def DG.pdqsort {α:Type}(cmp:α→α→Option Int)(x0:(List α))(x1:Int)(x2:Int)(x3:Int):Option (((List α))):=DG.pdqsortR cmp Cf x0 x1 x2 x3
noncomputable def DG.Sort {α:Type}(cmp:α→α→Option Int)(x0:(List α)):Option (((List α))):=
 (D.E (IntKind.u64.wrap (x0.length:Int))).bind λy_1=>(DG.pdqsort cmp x0 0 (x0.length:Int) y_1).bind λy_8=>some y_8
end Go.Sx

namespace Go.Sx.Gs
class Srtd (α:Type) where
 dflt:α
 key:α→Int
 good:α→Prop
 cmp:α→α→Option Int
 law:∀x y,good x→good y→∃v,cmp x y=some v∧decide (v<0)=decide (key x<key y)
variable {α : Type} [Srtd α]
def el (l:List α)(i:Int):α:=l.getD i.toNat Srtd.dflt
def at' (l:List α)(i:Int):Int:=Srtd.key (el l i)
theorem AW {l:List α}{i:Int}(h0:0≤i)(h1:i<l.length):idx l i=some (el l i):=by
 unfold idx el
 rw[if_pos h0]
 have:i.toNat<l.length:=by omega
 simp[this]
theorem el_set {l:List α}{i k:Int}{x:α}(h0:0≤i)(h1:i<l.length)(hk:0≤k):el (l.set i.toNat x) k=if k=i then x else el l k:=by
 unfold el
 by_cases h:k=i
 ·subst h
  have:k.toNat<l.length:=by omega
  simp[this]
 ·rw[if_neg h]
  have:i.toNat≠k.toNat:=by omega
  simp[List.getD_eq_getElem?_getD,List.getElem?_set_ne this]
def sw (l:List α)(i j:Int):List α:=(l.set i.toNat (el l j)).set j.toNat (el l i)
theorem sw_len (l:List α)(i j:Int):(sw l i j).length=l.length:=by simp[sw]
theorem Bk {l:List α}{i j k:Int}(hi:0≤i)(hi':i<l.length)(hj:0≤j)(hj':j<l.length)(hk:0≤k):
  at' (sw l i j) k=if k=j then at' l i else if k=i then at' l j else at' l k:=by
 unfold sw at'
 rw[el_set hj (by simpa using hj') hk]
 split
 ·rfl
 ·rw[el_set hi hi' hk]
  split<;>rfl
omit [Srtd α] in
theorem Ca (z:α):∀(l:List α) (j:Nat),j<l.length→List.Perm (l.set j z) (z::l.eraseIdx j)
 |[],j,h=>by simp at h
 |x::l,0,_=>by simp
 |x::l,j+1,h=>by
  simp only[List.set_cons_succ,List.eraseIdx_cons_succ]
  exact((Ca z l j (by simpa using h)).cons x).trans (List.Perm.swap _ _ _)
omit [Srtd α] in
theorem Ea (l:List α)(j:Nat)(h:j<l.length):List.Perm l (l[j]::l.eraseIdx j):=by
 have:=Ca l[j] l j h
 rwa [List.set_getElem_self] at this
omit [Srtd α] in
theorem EH :∀(l:List α) (i j:Nat) (x y:α),l[i]? =some x→l[j]? =some y→List.Perm ((l.set i y).set j x) l
 |[],i,j,x,y,h,_=>by simp at h
 |z::l,0,0,x,y,h,h'=>by simp at h h';subst h;simp
 |z::l,0,j+1,x,y,h,h'=>by
  simp at h h'
  subst h
  simp only[List.set_cons_zero,List.set_cons_succ]
  obtain⟨hj,rfl⟩:=List.getElem?_eq_some_iff.1 h'
  have h1:=Ca z l j hj
  have h2:=Ea l j hj
  exact((h1.cons _).trans (List.Perm.swap _ _ _)).trans (h2.symm.cons z)
 |z::l,i+1,0,x,y,h,h'=>by
  simp at h h'
  subst h'
  simp only[List.set_cons_zero,List.set_cons_succ]
  obtain⟨hj,rfl⟩:=List.getElem?_eq_some_iff.1 h
  have h1:=Ca z l i hj
  have h2:=Ea l i hj
  exact((h1.cons _).trans (List.Perm.swap _ _ _)).trans (h2.symm.cons z)
 |z::l,i+1,j+1,x,y,h,h'=>by
  simp at h h'
  simp only[List.set_cons_succ]
  exact(EH l i j x y h h').cons z
theorem sw_perm {l:List α}{i j:Int}(hi:0≤i)(hi':i<l.length)(hj:0≤j)(hj':j<l.length):List.Perm (sw l i j) l:=by
 have h1:i.toNat<l.length:=by omega
 have h2:j.toNat<l.length:=by omega
 exact EH l i.toNat j.toNat _ _ (by simp[el,h1]) (by simp[el,h2])
structure Rg (a b:Int)(l l':List α):Prop where
 len:l'.length=l.length
 perm:List.Perm l' l
 out:∀k,0≤k→(k<a∨b≤k)→at' l' k=at' l k
 all:∀Q:Int→Prop,(∀k,a≤k→k<b→Q (at' l k))→∀k,a≤k→k<b→Q (at' l' k)
theorem Rg.refl (a b:Int)(l:List α):Rg a b l l:=⟨rfl,List.Perm.refl _,λ_ _ _=>rfl,λ_ h=>h⟩
theorem Rg.trans {a b:Int}{l l' l'':List α}(h:Rg a b l l')(h':Rg a b l' l''):Rg a b l l'':=
 ⟨h'.len.trans h.len,h'.perm.trans h.perm,λk h0 hk=>(h'.out k h0 hk).trans (h.out k h0 hk),λQ hQ=>h'.all Q (h.all Q hQ)⟩
theorem Rg.swap {a b i j:Int}{l:List α}(ha:0≤a)(hb:b≤l.length)(hi:a≤i)(hi':i<b)(hj:a≤j)(hj':j<b):Rg a b l (sw l i j):=by
 refine⟨sw_len _ _ _,sw_perm (by omega) (by omega) (by omega) (by omega),λk h0 hk=> ?_,λQ hQ k h1 h2=> ?_⟩
 ·rw[Bk (by omega) (by omega) (by omega) (by omega) h0,if_neg (by omega),if_neg (by omega)]
 ·rw[Bk (by omega) (by omega) (by omega) (by omega) (by omega)]
  split
  ·exact hQ i hi hi'
  ·split
   ·exact hQ j hj hj'
   ·exact hQ k h1 h2
theorem Rg.widen {a b a' b':Int}{l l':List α}(h:Rg a b l l')(ha:a'≤a)(hb:b≤b')(h0:0≤a'):Rg a' b' l l':=by
 refine⟨h.len,h.perm,λk h0 hk=>h.out k h0 (by omega),λQ hQ k h1 h2=> ?_⟩
 by_cases hk:a≤k∧k<b
 ·exact h.all Q (λk h3 h4=>hQ k (by omega) (by omega)) k hk.1 hk.2
 ·rw[h.out k (by omega) (by omega)];exact hQ k h1 h2
def Srt (l:List α)(a b:Int):Prop:=∀i j,a≤i→i<j→j<b→at' l i≤at' l j
def Good (l:List α):Prop:=∀x∈l,Srtd.good x
theorem Rg.good {a b:Int}{l l':List α}(h:Rg a b l l')(hg:Good l):Good l':=λx hx=>hg x (h.perm.mem_iff.1 hx)
theorem Good.el {l:List α}(h:Good l){i:Int}(h0:0≤i)(h1:i<l.length):Srtd.good (el l i):=by
 unfold Gs.el
 have:i.toNat<l.length:=by omega
 rw[Az this]
 exact h _ (List.getElem_mem this)
theorem Dp {l:List α}(h:Good l){i j:Int}(h0:0≤i)(h1:i<l.length)(h2:0≤j)(h3:j<l.length):∃v,Srtd.cmp (el l i) (el l j)=some v∧decide (v<0)=decide (at' l i<at' l j):=
 Srtd.law _ _ (h.el h0 h1) (h.el h2 h3)
theorem Br {l:List α}{i j:Int}{x:α}(h0:0≤i)(h1:i<l.length):idx (l.set j.toNat x) i=some (el (l.set j.toNat x) i):=AW h0 (by simpa using h1)
end Go.Sx.Gs

namespace Go.Sx.Gs
variable {α : Type} [Srtd α]
theorem DC (l0:List α)(a b:Int)(ha:0≤a)(hab:a≤b)(hb:b≤l0.length)(hlen:l0.length≤1000000)(hG:Good l0):
  ∃l',DG.insertionSort Srtd.cmp l0 a b=some l'∧Rg a b l0 l'∧Srt l' a b:=by
 unfold DG.insertionSort
 rw[w64 (show-9223372036854775808≤a+1 by omega) (by omega)]
 refine AP (λs=>Rg a b l0 s.1∧Srt s.1 a s.2∧a+1≤s.2∧s.2≤b+1) (λs=>(b-s.2).toNat) (λr=>Rg a b l0 r∧Srt r a b) ?_ ?_ ?_
 ·rintro⟨l,i⟩ ⟨hR,hS,h1,h2⟩
  dsimp only at hR hS h1 h2 ⊢
  have hll:=hR.len
  by_cases hi:i<b
  ·simp only[hi,decide_true,cond_true]
   rw[w64 (show-9223372036854775808≤i+1 by omega) (by omega)]
   refine AP (λs=>Rg a b l0 s.1∧a≤s.2∧s.2≤i∧∀p q,a≤p→p<q→q≤i→q≠s.2→at' s.1 p≤at' s.1 q) (λs=>(s.2-a).toNat) (λr=>Rg a b l0 r∧Srt r a (i+1)) ?_ ?_ ?_
   ·rintro⟨m,j⟩ ⟨hR',g1,g2,hS'⟩
    dsimp only at hR' g1 g2 hS' ⊢
    have hml:=hR'.len
    rw[w64 (show-9223372036854775808≤j-1 by omega) (by omega)]
    by_cases hj:a<j
    ·have r1:idx m j=some (el m j):=AW (by omega) (by omega)
     have r2:idx m (j-1)=some (el m (j-1)):=AW (by omega) (by omega)
     have r3:∀x,idx (m.set j.toNat x) (j-1)=some (el (m.set j.toNat x) (j-1)):=λx=>Br (by omega) (by omega)
     obtain⟨v,cv,hv⟩:=Dp (hR'.good hG) (i:=j) (j:=j-1) (by omega) (by omega) (by omega) (by omega)
     by_cases hlt:at' m j<at' m (j-1)
     ·refine⟨.inl (sw m j (j-1),j-1),?_,⟨hR'.trans (Rg.swap ha (by omega) (by omega) (by omega) (by omega) (by omega)),by dsimp only;omega,by dsimp only;omega,?_⟩,by dsimp only;omega⟩
      ·simp only[r1,r2,r3,hj,cv,hv,hlt,decide_true,cond_true,bs]
       rfl
      ·intro p q k1 k2 k3 k4
       dsimp only at k4 ⊢
       rw[Bk (by omega) (by omega) (by omega) (by omega) (by omega),Bk (by omega) (by omega) (by omega) (by omega) (by omega)]
       by_cases c1:q=j
       ·subst c1
        rw[if_neg (show¬q=q-1 by omega),if_pos rfl]
        by_cases c2:p=q-1
        ·rw[if_pos c2];omega
        ·rw[if_neg c2,if_neg (by omega)]
         exact hS' p (q-1) k1 (by omega) (by omega) (by omega)
       ·rw[if_neg (show¬q=j-1 by omega),if_neg c1]
        by_cases c2:p=j-1
        ·rw[if_pos c2]
         exact hS' j q (by omega) (by omega) k3 c1
        ·rw[if_neg c2]
         by_cases c3:p=j
         ·rw[if_pos c3]
          exact hS' (j-1) q (by omega) (by omega) k3 c1
         ·rw[if_neg c3]
          exact hS' p q k1 k2 k3 c1
     ·refine⟨.inr m,?_,hR',?_⟩
      ·simp only[r1,r2,hj,cv,hv,hlt,decide_true,decide_false,cond_true,cond_false,bs]
      ·intro p q k1 k2 k3
       by_cases c1:q=j
       ·subst c1
        by_cases c2:p=q-1
        ·subst c2;omega
        ·have:=hS' p (q-1) k1 (by omega) (by omega) (by omega)
         omega
       ·exact hS' p q k1 k2 (by omega) c1
    ·refine⟨.inr m,?_,hR',?_⟩
     ·simp only[hj,decide_false,cond_false,bs]
     ·intro p q k1 k2 k3
      exact hS' p q k1 k2 (by omega) (by omega)
   ·exact⟨hR,by dsimp only;omega,Int.le_refl _,λp q k1 k2 k3 k4=>hS p q k1 k2 (by dsimp only at k4 ⊢;omega)⟩
   ·rintro r ⟨hR',hS'⟩
    exact⟨.inl (r,i+1),rfl,⟨hR',hS',by dsimp only;omega,by dsimp only;omega⟩,by dsimp only;omega⟩
  ·refine⟨.inr l,by simp only[hi,decide_false,cond_false],hR,?_⟩
   intro p q k1 k2 k3
   exact hS p q k1 k2 (by omega)
 ·exact⟨Rg.refl _ _ _,λp q k1 k2 k3=>by dsimp only at k3;omega,by dsimp only;omega,by dsimp only;omega⟩
 ·rintro r hr
  exact⟨r,rfl,hr⟩
end Go.Sx.Gs

namespace Go.Sx.Gs
variable {α : Type} [Srtd α]
theorem DL (l0:List α)(a b:Int)(ha:0≤a)(hab:a≤b)(hb:b≤l0.length)(hlen:l0.length≤1000000):
  ∃l',DG.reverseRange Srtd.cmp l0 a b=some l'∧Rg a b l0 l':=by
 unfold DG.reverseRange
 rw[w64 (show-9223372036854775808≤b-1 by omega) (by omega)]
 refine AP (λs=>Rg a b l0 s.1∧a≤s.2.1∧s.2.1≤b∧s.2.2<b∧a-1≤s.2.2) (λs=>(s.2.2-s.2.1).toNat) (λr=>Rg a b l0 r) ?_ ?_ ?_
 ·rintro⟨l,i,j⟩ ⟨hR,h1,h2,h3,h4⟩
  dsimp only at hR h1 h2 h3 h4 ⊢
  have hll:=hR.len
  by_cases hi:i<j
  ·have r1:idx l i=some (el l i):=AW (by omega) (by omega)
   have r2:idx l j=some (el l j):=AW (by omega) (by omega)
   have r3:∀x,idx (l.set i.toNat x) j=some (el (l.set i.toNat x) j):=λx=>Br (by omega) (by omega)
   rw[w64 (show-9223372036854775808≤i+1 by omega) (by omega),w64 (show-9223372036854775808≤j-1 by omega) (by omega)]
   refine⟨.inl (sw l i j,i+1,j-1),?_,⟨hR.trans (Rg.swap ha (by omega) (by omega) (by omega) (by omega) (by omega)),by dsimp only;omega,by dsimp only;omega,by dsimp only;omega,by dsimp only;omega⟩,by dsimp only;omega⟩
   simp only[r1,r2,r3,hi,decide_true,cond_true,bs]
   rfl
  ·exact⟨.inr l,by simp only[hi,decide_false,cond_false],hR⟩
 ·exact⟨Rg.refl _ _ _,by dsimp only;omega,by dsimp only;omega,by dsimp only;omega,by dsimp only;omega⟩
 ·rintro r hr
  exact⟨r,rfl,hr⟩
theorem scanUp {β:Type}{k:Int→Option β}{Q:β→Prop}(l:List α)(hG:Good l)(a hi i0:Int)(ha:0≤a)(ha':a<l.length)(h0:0≤i0)(h1:i0≤hi+1)(h2:hi<l.length)(hlen:l.length≤1000000)
  (hk:∀i,i0≤i→i≤hi+1→(∀q,i0≤q→q<i→at' l q<at' l a)→(i≤hi→¬at' l i<at' l a)→∃y,k i=some y∧Q y):
  ∃y,(Aq (σ:=Int) (ρ:=(Int)) (fun(x:Int)=>(cond (decide (x≤hi)) ((idx l x).bind λe=>(idx l a).bind λe'=>(Srtd.cmp e e').bind λy=>some (decide (y<0))) (some false)).bind λb=>cond b (some (.inl (IntKind.i64.wrap (x+1)))) (some (.inr x))) i0).bind k=some y∧Q y:=by
 refine AP (λi=>i0≤i∧i≤hi+1∧∀q,i0≤q→q<i→at' l q<at' l a) (λi=>(hi+1-i).toNat) (λi=>i0≤i∧i≤hi+1∧(∀q,i0≤q→q<i→at' l q<at' l a)∧(i≤hi→¬at' l i<at' l a)) ?_ ?_ ?_
 ·rintro i ⟨g1,g2,g3⟩
  by_cases hi':i≤hi
  ·have r1:idx l i=some (el l i):=AW (by omega) (by omega)
   have r2:idx l a=some (el l a):=AW (by omega) (by omega)
   obtain⟨v,cv,hv⟩:=Dp hG (i:=i) (j:=a) (by omega) (by omega) (by omega) (by omega)
   by_cases hlt:at' l i<at' l a
   ·refine⟨.inl (i+1),?_,⟨by omega,by omega,λq q1 q2=> ?_⟩,by dsimp only;omega⟩
    ·simp only[r1,r2,hi',cv,hv,hlt,decide_true,cond_true,bs]
     rw[w64 (by omega) (by omega)]
    ·by_cases e:q=i
     ·rw[e];exact hlt
     ·exact g3 q q1 (by omega)
   ·exact⟨.inr i,by simp only[r1,r2,hi',cv,hv,hlt,decide_true,decide_false,cond_true,cond_false,bs],g1,g2,g3,λ_=>hlt⟩
  ·exact⟨.inr i,by simp only[hi',decide_false,cond_false,bs],g1,g2,g3,λh=>absurd h hi'⟩
 ·exact⟨Int.le_refl _,h1,λq q1 q2=>by omega⟩
 ·rintro i ⟨g1,g2,g3,g4⟩
  exact hk i g1 g2 g3 g4
theorem EF {β:Type}{k:Int→Option β}{Q:β→Prop}(l:List α)(hG:Good l)(a lo j0:Int)(ha:0≤a)(ha':a<l.length)(h0:0≤lo)(h1:lo≤j0+1)(h2:j0<l.length)(hlen:l.length≤1000000)
  (hk:∀j,lo≤j+1→j≤j0→(∀q,j<q→q≤j0→¬at' l q<at' l a)→(lo≤j→at' l j<at' l a)→∃y,k j=some y∧Q y):
  ∃y,(Aq (σ:=Int) (ρ:=(Int)) (fun(x:Int)=>(cond (decide (lo≤x)) ((idx l x).bind λe=>(idx l a).bind λe'=>(Srtd.cmp e e').bind λy=>some (!(decide (y<0)))) (some false)).bind λb=>cond b (some (.inl (IntKind.i64.wrap (x-1)))) (some (.inr x))) j0).bind k=some y∧Q y:=by
 refine AP (λj=>lo≤j+1∧j≤j0∧∀q,j<q→q≤j0→¬at' l q<at' l a) (λj=>(j+1-lo).toNat) (λj=>lo≤j+1∧j≤j0∧(∀q,j<q→q≤j0→¬at' l q<at' l a)∧(lo≤j→at' l j<at' l a)) ?_ ?_ ?_
 ·rintro j ⟨g1,g2,g3⟩
  by_cases hi':lo≤j
  ·have r1:idx l j=some (el l j):=AW (by omega) (by omega)
   have r2:idx l a=some (el l a):=AW (by omega) (by omega)
   obtain⟨v,cv,hv⟩:=Dp hG (i:=j) (j:=a) (by omega) (by omega) (by omega) (by omega)
   by_cases hlt:at' l j<at' l a
   ·exact⟨.inr j,by simp only[r1,r2,hi',cv,hv,hlt,decide_true,Bool.not_true,cond_true,cond_false,bs],g1,g2,g3,λ_=>hlt⟩
   ·refine⟨.inl (j-1),?_,⟨by omega,by omega,λq q1 q2=> ?_⟩,by dsimp only;omega⟩
    ·simp only[r1,r2,hi',cv,hv,hlt,decide_true,decide_false,Bool.not_false,cond_true,bs]
     rw[w64 (by omega) (by omega)]
    ·by_cases e:q=j
     ·rw[e];exact hlt
     ·exact g3 q (by omega) q2
  ·exact⟨.inr j,by simp only[hi',decide_false,cond_false,bs],g1,g2,g3,λh=>absurd h hi'⟩
 ·exact⟨h1,Int.le_refl _,λq q1 q2=>by omega⟩
 ·rintro j ⟨g1,g2,g3,g4⟩
  exact hk j g1 g2 g3 g4
structure Parted (l0 l':List α)(a b mid:Int):Prop where
 rg:Rg a b l0 l'
 lo:a≤mid
 hi:mid<b
 left:∀k,a≤k→k<mid→at' l' k≤at' l' mid
 right:∀k,mid<k→k<b→at' l' mid≤at' l' k
theorem Ed (l0:List α)(a b p:Int)(ha:0≤a)(hb:b≤l0.length)(hlen:l0.length≤1000000)(hG:Good l0)(hp:a≤p)(hp':p<b):
  ∃y,DG.partition Srtd.cmp l0 a b p=some y∧Parted l0 y.2.2 a b y.1:=by
 unfold DG.partition
 have r1:idx l0 p=some (el l0 p):=AW (by omega) (by omega)
 have r2:idx l0 a=some (el l0 a):=AW (by omega) (by omega)
 have r3:∀x,idx (l0.set a.toNat x) p=some (el (l0.set a.toNat x) p):=λx=>Br (by omega) (by omega)
 simp only[r1,r2,r3,bs]
 rw[show (l0.set a.toNat (el l0 p)).set p.toNat (el l0 a)=sw l0 a p from rfl]
 have hR0:Rg a b l0 (sw l0 a p):=Rg.swap ha hb (by omega) (by omega) hp hp'
 generalize sw l0 a p=m0 at hR0 ⊢
 have hm0:=hR0.len
 rw[w64 (show-9223372036854775808≤b-1 by omega) (by omega),w64 (show-9223372036854775808≤a+1 by omega) (by omega)]
 refine scanUp m0 (hR0.good hG) a (b-1) (a+1) ha (by omega) (by omega) (by omega) (by omega) (by omega) (λi i1 i2 i3 i4=> ?_)
 refine EF m0 (hR0.good hG) a i (b-1) ha (by omega) (by omega) (by omega) (by omega) (by omega) (λj j1 j2 j3 j4=> ?_)
 have q1:idx m0 a=some (el m0 a):=AW (by omega) (by omega)
 have q2:idx m0 j=some (el m0 j):=AW (by omega) (by omega)
 by_cases hij:j<i
 ·have q3:∀x,idx (m0.set j.toNat x) a=some (el (m0.set j.toNat x) a):=λx=>Br (by omega) (by omega)
  refine⟨(j,true,sw m0 j a),?_,⟨hR0.trans (Rg.swap ha (by omega) (by omega) (by omega) (by omega) (by omega)),by dsimp only;omega,by dsimp only;omega,λk k1 k2=> ?_,λk k1 k2=> ?_⟩⟩
  ·simp only[q1,q2,q3,hij,decide_true,cond_true,bs]
   rfl
  ·dsimp only at k1 k2 ⊢
   rw[Bk (by omega) (by omega) (by omega) (by omega) (by omega),Bk (by omega) (by omega) (by omega) (by omega) (by omega)]
   rw[if_neg (show¬j=a by omega),if_pos rfl]
   by_cases e:k=a
   ·rw[if_pos e]
    have:=i3 j (by omega) (by omega);omega
   ·rw[if_neg e,if_neg (by omega)]
    have:=i3 k (by omega) (by omega);omega
  ·dsimp only at k1 k2 ⊢
   rw[Bk (by omega) (by omega) (by omega) (by omega) (by omega),Bk (by omega) (by omega) (by omega) (by omega) (by omega)]
   rw[if_neg (show¬k=a by omega),if_neg (show¬k=j by omega)]
   have hk:=j3 k (by omega) (by omega)
   by_cases e:j=a
   ·rw[if_pos e];subst e;omega
   ·rw[if_neg e,if_pos rfl];omega
 ·have q4:idx m0 i=some (el m0 i):=AW (by omega) (by omega)
  have q5:∀x,idx (m0.set i.toNat x) j=some (el (m0.set i.toNat x) j):=λx=>Br (by omega) (by omega)
  simp only[q1,q2,q4,q5,hij,decide_false,cond_false,bs]
  rw[show (m0.set i.toNat (el m0 j)).set j.toNat (el m0 i)=sw m0 i j from rfl]
  have hia:=i4 (by omega)
  have hja:=j4 (by omega)
  have hne:i<j:=by
   rcases Int.lt_or_eq_of_le (show i≤j by omega) with h|h
   ·exact h
   ·subst h;exact absurd hja hia
  have hR1:Rg a b l0 (sw m0 i j):=hR0.trans (Rg.swap ha (by omega) (by omega) (by omega) (by omega) (by omega))
  have ea:at' (sw m0 i j) a=at' m0 a:=by rw[Bk (by omega) (by omega) (by omega) (by omega) (by omega),if_neg (by omega),if_neg (by omega)]
  have hlo:∀q,a+1≤q→q<i+1→at' (sw m0 i j) q<at' (sw m0 i j) a:=λq h1 h2=>by
   rw[ea,Bk (by omega) (by omega) (by omega) (by omega) (by omega),if_neg (by omega)]
   by_cases e:q=i
   ·rw[if_pos e];exact hja
   ·rw[if_neg e];exact i3 q h1 (by omega)
  have hhi:∀q,j-1<q→q<b→¬at' (sw m0 i j) q<at' (sw m0 i j) a:=λq h1 h2=>by
   rw[ea,Bk (by omega) (by omega) (by omega) (by omega) (by omega)]
   by_cases e:q=j
   ·rw[if_pos e];exact hia
   ·rw[if_neg e,if_neg (by omega)];exact j3 q (by omega) (by omega)
  rw[w64 (show-9223372036854775808≤i+1 by omega) (by omega),w64 (show-9223372036854775808≤j-1 by omega) (by omega)]
  generalize sw m0 i j=m1 at hR1 hlo hhi ⊢
  refine AP (λs=>Rg a b l0 s.1∧a+1≤s.2.1∧s.2.1≤s.2.2+1∧s.2.2<b∧(∀q,a+1≤q→q<s.2.1→at' s.1 q<at' s.1 a)∧(∀q,s.2.2<q→q<b→¬at' s.1 q<at' s.1 a)) (λs=>(s.2.2+1-s.2.1).toNat)
   (λs=>Rg a b l0 s.1∧a≤s.2∧s.2<b∧(∀q,a+1≤q→q≤s.2→at' s.1 q<at' s.1 a)∧(∀q,s.2<q→q<b→¬at' s.1 q<at' s.1 a)) ?_ ?_ ?_
  ·rintro⟨m,u,v⟩ ⟨hR,g1,g2,g3,g4,g5⟩
   dsimp only at hR g1 g2 g3 g4 g5 ⊢
   have hml:=hR.len
   refine scanUp m (hR.good hG) a v u ha (by omega) (by omega) (by omega) (by omega) (by omega) (λi i1 i2 i3 i4=> ?_)
   refine EF m (hR.good hG) a i v ha (by omega) (by omega) (by omega) (by omega) (by omega) (λj j1 j2 j3 j4=> ?_)
   have f1:∀q,a+1≤q→q<i→at' m q<at' m a:=λq h1 h2=>by
    by_cases h:q<u
    ·exact g4 q h1 h
    ·exact i3 q (by omega) h2
   have f2:∀q,j<q→q<b→¬at' m q<at' m a:=λq h1 h2=>by
    by_cases h:q≤v
    ·exact j3 q h1 h
    ·exact g5 q (by omega) h2
   by_cases hij:j<i
   ·exact⟨.inr (m,j),by simp only[hij,decide_true,cond_true],hR,by dsimp only;omega,by dsimp only;omega,λq h1 h2=>f1 q h1 (by dsimp only at h2;omega),f2⟩
   ·have t1:idx m i=some (el m i):=AW (by omega) (by omega)
    have t2:idx m j=some (el m j):=AW (by omega) (by omega)
    have t3:∀x,idx (m.set i.toNat x) j=some (el (m.set i.toNat x) j):=λx=>Br (by omega) (by omega)
    have hia:=i4 (by omega)
    have hja:=j4 (by omega)
    have hne:i<j:=by
     rcases Int.lt_or_eq_of_le (show i≤j by omega) with h|h
     ·exact h
     ·subst h;exact absurd hja hia
    have ea:at' (sw m i j) a=at' m a:=by rw[Bk (by omega) (by omega) (by omega) (by omega) (by omega),if_neg (by omega),if_neg (by omega)]
    rw[w64 (show-9223372036854775808≤i+1 by omega) (by omega),w64 (show-9223372036854775808≤j-1 by omega) (by omega)]
    refine⟨.inl (sw m i j,i+1,j-1),?_,⟨hR.trans (Rg.swap ha (by omega) (by omega) (by omega) (by omega) (by omega)),by dsimp only;omega,by dsimp only;omega,by dsimp only;omega,λq h1 h2=> ?_,λq h1 h2=> ?_⟩,by dsimp only;omega⟩
    ·simp only[t1,t2,t3,hij,decide_false,cond_false,bs]
     rfl
    ·dsimp only at h2 ⊢
     rw[ea,Bk (by omega) (by omega) (by omega) (by omega) (by omega),if_neg (by omega)]
     by_cases e:q=i
     ·rw[if_pos e];exact hja
     ·rw[if_neg e];exact f1 q h1 (by omega)
    ·dsimp only at h1 ⊢
     rw[ea,Bk (by omega) (by omega) (by omega) (by omega) (by omega)]
     by_cases e:q=j
     ·rw[if_pos e];exact hia
     ·rw[if_neg e,if_neg (by omega)];exact f2 q (by omega) h2
  ·exact⟨hR1,by dsimp only;omega,by dsimp only;omega,by dsimp only;omega,hlo,hhi⟩
  ·rintro⟨m,v⟩ ⟨hR,g1,g2,g3,g4⟩
   dsimp only at hR g1 g2 g3 g4 ⊢
   have hml:=hR.len
   have t1:idx m a=some (el m a):=AW (by omega) (by omega)
   have t2:idx m v=some (el m v):=AW (by omega) (by omega)
   have t3:∀x,idx (m.set v.toNat x) a=some (el (m.set v.toNat x) a):=λx=>Br (by omega) (by omega)
   refine⟨(v,false,sw m v a),?_,⟨hR.trans (Rg.swap ha (by omega) (by omega) (by omega) (by omega) (by omega)),g1,g2,λk k1 k2=> ?_,λk k1 k2=> ?_⟩⟩
   ·simp only[t1,t2,t3,bs]
    rfl
   ·dsimp only at k1 k2 ⊢
    rw[Bk (by omega) (by omega) (by omega) (by omega) (by omega),Bk (by omega) (by omega) (by omega) (by omega) (by omega)]
    rw[if_neg (show¬v=a by omega),if_pos rfl]
    by_cases e:k=a
    ·rw[if_pos e]
     have:=g3 v (by omega) (by omega);omega
    ·rw[if_neg e,if_neg (by omega)]
     have:=g3 k (by omega) (by omega);omega
   ·dsimp only at k1 k2 ⊢
    rw[Bk (by omega) (by omega) (by omega) (by omega) (by omega),Bk (by omega) (by omega) (by omega) (by omega) (by omega)]
    rw[if_neg (show¬k=a by omega),if_neg (show¬k=v by omega)]
    have hk:=g4 k (by omega) (by omega)
    by_cases e:v=a
    ·rw[if_pos e];subst e;omega
    ·rw[if_neg e,if_pos rfl];omega
end Go.Sx.Gs

namespace Go.Sx.Gs
variable {α : Type} [Srtd α]
theorem scanUp2 {β:Type}{k:Int→Option β}{Q:β→Prop}(l:List α)(hG:Good l)(a hi i0:Int)(ha:0≤a)(ha':a<l.length)(h0:0≤i0)(h1:i0≤hi+1)(h2:hi<l.length)(hlen:l.length≤1000000)
  (hk:∀i,i0≤i→i≤hi+1→(∀q,i0≤q→q<i→¬at' l a<at' l q)→(i≤hi→at' l a<at' l i)→∃y,k i=some y∧Q y):
  ∃y,(Aq (σ:=Int) (ρ:=(Int)) (fun(x:Int)=>(cond (decide (x≤hi)) ((idx l a).bind λe=>(idx l x).bind λe'=>(Srtd.cmp e e').bind λy=>some (!(decide (y<0)))) (some false)).bind λb=>cond b (some (.inl (IntKind.i64.wrap (x+1)))) (some (.inr x))) i0).bind k=some y∧Q y:=by
 refine AP (λi=>i0≤i∧i≤hi+1∧∀q,i0≤q→q<i→¬at' l a<at' l q) (λi=>(hi+1-i).toNat) (λi=>i0≤i∧i≤hi+1∧(∀q,i0≤q→q<i→¬at' l a<at' l q)∧(i≤hi→at' l a<at' l i)) ?_ ?_ ?_
 ·rintro i ⟨g1,g2,g3⟩
  by_cases hi':i≤hi
  ·have r1:idx l i=some (el l i):=AW (by omega) (by omega)
   have r2:idx l a=some (el l a):=AW (by omega) (by omega)
   obtain⟨v,cv,hv⟩:=Dp hG (i:=a) (j:=i) (by omega) (by omega) (by omega) (by omega)
   by_cases hlt:at' l a<at' l i
   ·exact⟨.inr i,by simp only[r1,r2,hi',cv,hv,hlt,decide_true,Bool.not_true,cond_true,cond_false,bs],g1,g2,g3,λ_=>hlt⟩
   ·refine⟨.inl (i+1),?_,⟨by omega,by omega,λq q1 q2=> ?_⟩,by dsimp only;omega⟩
    ·simp only[r1,r2,hi',cv,hv,hlt,decide_true,decide_false,Bool.not_false,cond_true,bs]
     rw[w64 (by omega) (by omega)]
    ·by_cases e:q=i
     ·rw[e];exact hlt
     ·exact g3 q q1 (by omega)
  ·exact⟨.inr i,by simp only[hi',decide_false,cond_false,bs],g1,g2,g3,λh=>absurd h hi'⟩
 ·exact⟨Int.le_refl _,h1,λq q1 q2=>by omega⟩
 ·rintro i ⟨g1,g2,g3,g4⟩
  exact hk i g1 g2 g3 g4
theorem FS {β:Type}{k:Int→Option β}{Q:β→Prop}(l:List α)(hG:Good l)(a lo j0:Int)(ha:0≤a)(ha':a<l.length)(h0:0≤lo)(h1:lo≤j0+1)(h2:j0<l.length)(hlen:l.length≤1000000)
  (hk:∀j,lo≤j+1→j≤j0→(∀q,j<q→q≤j0→at' l a<at' l q)→(lo≤j→¬at' l a<at' l j)→∃y,k j=some y∧Q y):
  ∃y,(Aq (σ:=Int) (ρ:=(Int)) (fun(x:Int)=>(cond (decide (lo≤x)) ((idx l a).bind λe=>(idx l x).bind λe'=>(Srtd.cmp e e').bind λy=>some (decide (y<0))) (some false)).bind λb=>cond b (some (.inl (IntKind.i64.wrap (x-1)))) (some (.inr x))) j0).bind k=some y∧Q y:=by
 refine AP (λj=>lo≤j+1∧j≤j0∧∀q,j<q→q≤j0→at' l a<at' l q) (λj=>(j+1-lo).toNat) (λj=>lo≤j+1∧j≤j0∧(∀q,j<q→q≤j0→at' l a<at' l q)∧(lo≤j→¬at' l a<at' l j)) ?_ ?_ ?_
 ·rintro j ⟨g1,g2,g3⟩
  by_cases hi':lo≤j
  ·have r1:idx l j=some (el l j):=AW (by omega) (by omega)
   have r2:idx l a=some (el l a):=AW (by omega) (by omega)
   obtain⟨v,cv,hv⟩:=Dp hG (i:=a) (j:=j) (by omega) (by omega) (by omega) (by omega)
   by_cases hlt:at' l a<at' l j
   ·refine⟨.inl (j-1),?_,⟨by omega,by omega,λq q1 q2=> ?_⟩,by dsimp only;omega⟩
    ·simp only[r1,r2,hi',cv,hv,hlt,decide_true,cond_true,bs]
     rw[w64 (by omega) (by omega)]
    ·by_cases e:q=j
     ·rw[e];exact hlt
     ·exact g3 q (by omega) q2
   ·exact⟨.inr j,by simp only[r1,r2,hi',cv,hv,hlt,decide_true,decide_false,cond_true,cond_false,bs],g1,g2,g3,λ_=>hlt⟩
  ·exact⟨.inr j,by simp only[hi',decide_false,cond_false,bs],g1,g2,g3,λh=>absurd h hi'⟩
 ·exact⟨h1,Int.le_refl _,λq q1 q2=>by omega⟩
 ·rintro j ⟨g1,g2,g3,g4⟩
  exact hk j g1 g2 g3 g4
theorem Ds (l0:List α)(a b p:Int)(ha:0≤a)(hb:b≤l0.length)(hlen:l0.length≤1000000)(hG:Good l0)(hp:a≤p)(hp':p<b):
  ∃y,DG.partitionEqual Srtd.cmp l0 a b p=some y∧Rg a b l0 y.2∧a<y.1∧y.1≤b∧(∀k,a≤k→k<y.1→at' y.2 k≤at' l0 p)∧(∀k,y.1≤k→k<b→at' l0 p<at' y.2 k):=by
 unfold DG.partitionEqual
 have r1:idx l0 p=some (el l0 p):=AW (by omega) (by omega)
 have r2:idx l0 a=some (el l0 a):=AW (by omega) (by omega)
 have r3:∀x,idx (l0.set a.toNat x) p=some (el (l0.set a.toNat x) p):=λx=>Br (by omega) (by omega)
 simp only[r1,r2,r3,bs]
 rw[show (l0.set a.toNat (el l0 p)).set p.toNat (el l0 a)=sw l0 a p from rfl]
 have hR0:Rg a b l0 (sw l0 a p):=Rg.swap ha hb (by omega) (by omega) hp hp'
 have ep:at' (sw l0 a p) a=at' l0 p:=by
  rw[Bk (by omega) (by omega) (by omega) (by omega) (by omega)]
  by_cases e:a=p
  ·rw[if_pos e,e]
  ·rw[if_neg e,if_pos rfl]
 generalize sw l0 a p=m0 at hR0 ep ⊢
 rw[w64 (show-9223372036854775808≤b-1 by omega) (by omega),w64 (show-9223372036854775808≤a+1 by omega) (by omega)]
 refine AP (λs=>Rg a b l0 s.1∧a+1≤s.2.1∧s.2.1≤s.2.2+1∧s.2.2<b∧at' s.1 a=at' l0 p∧(∀q,a+1≤q→q<s.2.1→¬at' s.1 a<at' s.1 q)∧(∀q,s.2.2<q→q<b→at' s.1 a<at' s.1 q)) (λs=>(s.2.2+1-s.2.1).toNat)
  (λs=>Rg a b l0 s.1∧a+1≤s.2∧s.2≤b∧at' s.1 a=at' l0 p∧(∀q,a+1≤q→q<s.2→¬at' s.1 a<at' s.1 q)∧(∀q,s.2≤q→q<b→at' s.1 a<at' s.1 q)) ?_ ?_ ?_
 ·rintro⟨m,u,v⟩ ⟨hR,g1,g2,g3,g6,g4,g5⟩
  dsimp only at hR g1 g2 g3 g4 g5 g6 ⊢
  have hml:=hR.len
  refine scanUp2 m (hR.good hG) a v u ha (by omega) (by omega) (by omega) (by omega) (by omega) (λi i1 i2 i3 i4=> ?_)
  refine FS m (hR.good hG) a i v ha (by omega) (by omega) (by omega) (by omega) (by omega) (λj j1 j2 j3 j4=> ?_)
  have f1:∀q,a+1≤q→q<i→¬at' m a<at' m q:=λq h1 h2=>by
   by_cases h:q<u
   ·exact g4 q h1 h
   ·exact i3 q (by omega) h2
  have f2:∀q,j<q→q<b→at' m a<at' m q:=λq h1 h2=>by
   by_cases h:q≤v
   ·exact j3 q h1 h
   ·exact g5 q (by omega) h2
  by_cases hij:j<i
  ·exact⟨.inr (m,i),by simp only[hij,decide_true,cond_true],hR,by dsimp only;omega,by dsimp only;omega,g6,f1,λq h1 h2=>f2 q (by dsimp only at h1;omega) h2⟩
  ·have t1:idx m i=some (el m i):=AW (by omega) (by omega)
   have t2:idx m j=some (el m j):=AW (by omega) (by omega)
   have t3:∀x,idx (m.set i.toNat x) j=some (el (m.set i.toNat x) j):=λx=>Br (by omega) (by omega)
   have hia:=i4 (by omega)
   have hja:=j4 (by omega)
   have hne:i<j:=by
    rcases Int.lt_or_eq_of_le (show i≤j by omega) with h|h
    ·exact h
    ·subst h;exact absurd hia hja
   have ea:at' (sw m i j) a=at' m a:=by rw[Bk (by omega) (by omega) (by omega) (by omega) (by omega),if_neg (by omega),if_neg (by omega)]
   rw[w64 (show-9223372036854775808≤i+1 by omega) (by omega),w64 (show-9223372036854775808≤j-1 by omega) (by omega)]
   refine⟨.inl (sw m i j,i+1,j-1),?_,⟨hR.trans (Rg.swap ha (by omega) (by omega) (by omega) (by omega) (by omega)),by dsimp only;omega,by dsimp only;omega,by dsimp only;omega,by dsimp only;rw[ea];exact g6,λq h1 h2=> ?_,λq h1 h2=> ?_⟩,by dsimp only;omega⟩
   ·simp only[t1,t2,t3,hij,decide_false,cond_false,bs]
    rfl
   ·dsimp only at h2 ⊢
    rw[ea,Bk (by omega) (by omega) (by omega) (by omega) (by omega),if_neg (by omega)]
    by_cases e:q=i
    ·rw[if_pos e];exact hja
    ·rw[if_neg e];exact f1 q h1 (by omega)
   ·dsimp only at h1 ⊢
    rw[ea,Bk (by omega) (by omega) (by omega) (by omega) (by omega)]
    by_cases e:q=j
    ·rw[if_pos e];exact hia
    ·rw[if_neg e,if_neg (by omega)];exact f2 q (by omega) h2
 ·exact⟨hR0,by dsimp only;omega,by dsimp only;omega,by dsimp only;omega,ep,λq h1 h2=>by dsimp only at h2;omega,λq h1 h2=>by dsimp only at h1;omega⟩
 ·rintro⟨m,v⟩ ⟨hR,g1,g2,g3,g4,g5⟩
  refine⟨(v,m),rfl,hR,by dsimp only at*;omega,g2,λk k1 k2=> ?_,λk k1 k2=> ?_⟩
  ·dsimp only at*
   by_cases e:k=a
   ·rw[e,g3];exact Int.le_refl _
   ·have:=g4 k (by omega) k2;omega
  ·dsimp only at*
   have:=g5 k k1 k2;omega
theorem C6 (l:List α)(hG:Good l)(a b s:Int)(ha:0≤a)(ha':a<l.length)(hb:0≤b)(hb':b<l.length):
  ∃y,DG.order2 Srtd.cmp l a b s=some y∧y.2.2.1=l∧((y.1=a∧y.2.1=b)∨(y.1=b∧y.2.1=a)):=by
 have r1:idx l a=some (el l a):=AW ha ha'
 have r2:idx l b=some (el l b):=AW hb hb'
 unfold DG.order2
 obtain⟨v,cv,hv⟩:=Dp hG (i:=b) (j:=a) hb hb' ha ha'
 simp only[r1,r2,cv,hv,bs]
 by_cases h:at' l b<at' l a
 ·simp only[h,decide_true,cond_true];exact⟨_,rfl,rfl,.inr ⟨rfl,rfl⟩⟩
 ·simp only[h,decide_false,cond_false];exact⟨_,rfl,rfl,.inl ⟨rfl,rfl⟩⟩
theorem Ei (l:List α)(hG:Good l)(a b c s:Int)(ha:0≤a)(ha':a<l.length)(hb:0≤b)(hb':b<l.length)(hc:0≤c)(hc':c<l.length):
  ∃y,DG.median Srtd.cmp l a b c s=some y∧y.2.1=l∧(y.1=a∨y.1=b∨y.1=c):=by
 unfold DG.median
 obtain⟨y1,h1,e1,c1⟩:=C6 l hG a b s ha ha' hb hb'
 rw[h1,bs,e1]
 have b1:0≤y1.2.1∧y1.2.1<l.length∧0≤y1.1∧y1.1<l.length:=by rcases c1 with⟨c,d⟩|⟨c,d⟩<;>rw[c,d]<;>exact⟨by assumption,by assumption,by assumption,by assumption⟩
 obtain⟨y2,h2,e2,c2⟩:=C6 l hG y1.2.1 c y1.2.2.2 b1.1 b1.2.1 hc hc'
 rw[h2,bs,e2]
 have b2:0≤y2.1∧y2.1<l.length:=by rcases c2 with⟨c,d⟩|⟨c,d⟩<;>rw[c]<;>exact⟨by omega,by omega⟩
 obtain⟨y3,h3,e3,c3⟩:=C6 l hG y1.1 y2.1 y2.2.2.2 b1.2.2.1 b1.2.2.2 b2.1 b2.2
 rw[h3,bs]
 refine⟨_,rfl,e3,?_⟩
 dsimp only
 omega
theorem Ef (l:List α)(hG:Good l)(p s:Int)(h0:1≤p)(h1:p+1<l.length)(hlen:l.length≤1000000):
  ∃y,DG.medianAdjacent Srtd.cmp l p s=some y∧y.2.1=l∧p-1≤y.1∧y.1≤p+1:=by
 unfold DG.medianAdjacent
 rw[w64 (show-9223372036854775808≤p-1 by omega) (by omega),w64 (show-9223372036854775808≤p+1 by omega) (by omega)]
 obtain⟨y,h,e,c⟩:=Ei l hG (p-1) p (p+1) s (by omega) (by omega) (by omega) (by omega) (by omega) (by omega)
 rw[h,bs]
 exact⟨_,rfl,e,by dsimp only;omega,by dsimp only;omega⟩
theorem DT (l:List α)(hG:Good l)(a b:Int)(ha:0≤a)(hb:b≤l.length)(h8:8≤b-a)(hlen:l.length≤1000000):
  ∃y,DG.choosePivot Srtd.cmp l a b=some y∧y.2.2=l∧a≤y.1∧y.1<b:=by
 unfold DG.choosePivot
 rw[w64 (show-9223372036854775808≤b-a by omega) (by omega)]
 have e4:(b-a).tdiv 4=(b-a)/4:=Int.tdiv_eq_ediv_of_nonneg (by omega)
 rw[e4,w64 (show-9223372036854775808≤(b-a)/4 by omega) (by omega)]
 rw[w64 (show-9223372036854775808≤(b-a)/4*1 by omega) (by omega),w64 (show-9223372036854775808≤(b-a)/4*2 by omega) (by omega),w64 (show-9223372036854775808≤(b-a)/4*3 by omega) (by omega)]
 rw[w64 (show-9223372036854775808≤a+(b-a)/4*1 by omega) (by omega),w64 (show-9223372036854775808≤a+(b-a)/4*2 by omega) (by omega),w64 (show-9223372036854775808≤a+(b-a)/4*3 by omega) (by omega)]
 simp only[h8,decide_true,cond_true]
 refine BO (λq:List α×Int×Int×Int×Int=>q.1=l∧(a≤q.2.1∧q.2.1<b)∧(a≤q.2.2.1∧q.2.2.1<b)∧(a≤q.2.2.2.1∧q.2.2.2.1<b)) ?_ ?_
 ·by_cases h50:50≤b-a
  ·simp only[h50,decide_true,cond_true]
   obtain⟨y1,h1,e1,c1⟩:=Ef l hG (a+(b-a)/4*1) 0 (by omega) (by omega) hlen
   rw[h1,bs,e1]
   obtain⟨y2,h2,e2,c2⟩:=Ef l hG (a+(b-a)/4*2) y1.2.2 (by omega) (by omega) hlen
   rw[h2,bs,e2]
   obtain⟨y3,h3,e3,c3⟩:=Ef l hG (a+(b-a)/4*3) y2.2.2 (by omega) (by omega) hlen
   rw[h3,bs]
   exact⟨_,rfl,e3,⟨by dsimp only;omega,by dsimp only;omega⟩,⟨by dsimp only;omega,by dsimp only;omega⟩,⟨by dsimp only;omega,by dsimp only;omega⟩⟩
  ·simp only[h50,decide_false,cond_false]
   exact⟨_,rfl,rfl,⟨by dsimp only;omega,by dsimp only;omega⟩,⟨by dsimp only;omega,by dsimp only;omega⟩,⟨by dsimp only;omega,by dsimp only;omega⟩⟩
 ·rintro⟨q,i,j,k,sw⟩ ⟨rfl,g1,g2,g3⟩
  dsimp only at g1 g2 g3 hb hlen ⊢
  obtain⟨y,h1,e1,c1⟩:=Ei q hG i j k sw (by omega) (by omega) (by omega) (by omega) (by omega) (by omega)
  rw[h1,bs,e1]
  have hy:a≤y.1∧y.1<b:=by omega
  cases (y.2.2==0)
  ·cases (y.2.2==12)
   ·exact⟨_,rfl,rfl,hy⟩
   ·exact⟨_,rfl,rfl,hy⟩
  ·exact⟨_,rfl,rfl,hy⟩
end Go.Sx.Gs

namespace Go.Sx
def at' (l:LI)(i:Int):Int:=l.getD i.toNat 0
theorem AW {l:LI}{i:Int}(h0:0≤i)(h1:i<l.length):idx l i=some (at' l i):=by
 unfold idx at'
 rw[if_pos h0]
 have:i.toNat<l.length:=by omega
 simp[this]
theorem at_set {l:LI}{i k x:Int}(h0:0≤i)(h1:i<l.length)(hk:0≤k):at' (l.set i.toNat x) k=if k=i then x else at' l k:=by
 unfold at'
 by_cases h:k=i
 ·subst h
  have:k.toNat<l.length:=by omega
  simp[this]
 ·rw[if_neg h]
  have:i.toNat≠k.toNat:=by omega
  simp[List.getD_eq_getElem?_getD,List.getElem?_set_ne this]
def sw (l:LI)(i j:Int):LI:=(l.set i.toNat (at' l j)).set j.toNat (at' l i)
theorem sw_len (l:LI)(i j:Int):(sw l i j).length=l.length:=by simp[sw]
theorem Bk {l:LI}{i j k:Int}(hi:0≤i)(hi':i<l.length)(hj:0≤j)(hj':j<l.length)(hk:0≤k):
  at' (sw l i j) k=if k=j then at' l i else if k=i then at' l j else at' l k:=by
 unfold sw
 rw[at_set hj (by simpa using hj') hk]
 split
 ·rfl
 ·rw[at_set hi hi' hk]
theorem Ca (z:Int):∀(l:LI) (j:Nat),j<l.length→List.Perm (l.set j z) (z::l.eraseIdx j)
 |[],j,h=>by simp at h
 |x::l,0,_=>by simp
 |x::l,j+1,h=>by
  simp only[List.set_cons_succ,List.eraseIdx_cons_succ]
  exact((Ca z l j (by simpa using h)).cons x).trans (List.Perm.swap _ _ _)
theorem Ea (l:LI)(j:Nat)(h:j<l.length):List.Perm l (l[j]::l.eraseIdx j):=by
 have:=Ca l[j] l j h
 rwa [List.set_getElem_self] at this
theorem EH :∀(l:LI) (i j:Nat) (x y:Int),l[i]? =some x→l[j]? =some y→List.Perm ((l.set i y).set j x) l
 |[],i,j,x,y,h,_=>by simp at h
 |z::l,0,0,x,y,h,h'=>by simp at h h';subst h;simp
 |z::l,0,j+1,x,y,h,h'=>by
  simp at h h'
  subst h
  simp only[List.set_cons_zero,List.set_cons_succ]
  obtain⟨hj,rfl⟩:=List.getElem?_eq_some_iff.1 h'
  have h1:=Ca z l j hj
  have h2:=Ea l j hj
  exact((h1.cons _).trans (List.Perm.swap _ _ _)).trans (h2.symm.cons z)
 |z::l,i+1,0,x,y,h,h'=>by
  simp at h h'
  subst h'
  simp only[List.set_cons_zero,List.set_cons_succ]
  obtain⟨hj,rfl⟩:=List.getElem?_eq_some_iff.1 h
  have h1:=Ca z l i hj
  have h2:=Ea l i hj
  exact((h1.cons _).trans (List.Perm.swap _ _ _)).trans (h2.symm.cons z)
 |z::l,i+1,j+1,x,y,h,h'=>by
  simp at h h'
  simp only[List.set_cons_succ]
  exact(EH l i j x y h h').cons z
theorem sw_perm {l:LI}{i j:Int}(hi:0≤i)(hi':i<l.length)(hj:0≤j)(hj':j<l.length):List.Perm (sw l i j) l:=by
 have h1:i.toNat<l.length:=by omega
 have h2:j.toNat<l.length:=by omega
 exact EH l i.toNat j.toNat _ _ (by simp[at',h1]) (by simp[at',h2])
structure Rg (a b:Int)(l l':LI):Prop where
 len:l'.length=l.length
 perm:List.Perm l' l
 out:∀k,0≤k→(k<a∨b≤k)→at' l' k=at' l k
 all:∀Q:Int→Prop,(∀k,a≤k→k<b→Q (at' l k))→∀k,a≤k→k<b→Q (at' l' k)
theorem Rg.refl (a b:Int)(l:LI):Rg a b l l:=⟨rfl,List.Perm.refl _,λ_ _ _=>rfl,λ_ h=>h⟩
theorem Rg.trans {a b:Int}{l l' l'':LI}(h:Rg a b l l')(h':Rg a b l' l''):Rg a b l l'':=
 ⟨h'.len.trans h.len,h'.perm.trans h.perm,λk h0 hk=>(h'.out k h0 hk).trans (h.out k h0 hk),λQ hQ=>h'.all Q (h.all Q hQ)⟩
theorem Rg.swap {a b i j:Int}{l:LI}(ha:0≤a)(hb:b≤l.length)(hi:a≤i)(hi':i<b)(hj:a≤j)(hj':j<b):Rg a b l (sw l i j):=by
 refine⟨sw_len _ _ _,sw_perm (by omega) (by omega) (by omega) (by omega),λk h0 hk=> ?_,λQ hQ k h1 h2=> ?_⟩
 ·rw[Bk (by omega) (by omega) (by omega) (by omega) h0,if_neg (by omega),if_neg (by omega)]
 ·rw[Bk (by omega) (by omega) (by omega) (by omega) (by omega)]
  split
  ·exact hQ i hi hi'
  ·split
   ·exact hQ j hj hj'
   ·exact hQ k h1 h2
theorem Rg.widen {a b a' b':Int}{l l':LI}(h:Rg a b l l')(ha:a'≤a)(hb:b≤b')(h0:0≤a'):Rg a' b' l l':=by
 refine⟨h.len,h.perm,λk h0 hk=>h.out k h0 (by omega),λQ hQ k h1 h2=> ?_⟩
 by_cases hk:a≤k∧k<b
 ·exact h.all Q (λk h3 h4=>hQ k (by omega) (by omega)) k hk.1 hk.2
 ·rw[h.out k (by omega) (by omega)];exact hQ k h1 h2
def Srt (l:LI)(a b:Int):Prop:=∀i j,a≤i→i<j→j<b→at' l i≤at' l j
theorem CF (x y:Int):D.p x y=some (decide (x<y)):=by
 simp[D.p,D.O]
theorem Br {l:LI}{i j x:Int}(h0:0≤i)(h1:i<l.length):idx (l.set j.toNat x) i=some (at' (l.set j.toNat x) i):=AW h0 (by simpa using h1)
theorem DC (l0:LI)(a b:Int)(ha:0≤a)(hab:a≤b)(hb:b≤l0.length)(hlen:l0.length≤1000000):
  ∃l',D.A2 l0 a b=some l'∧Rg a b l0 l'∧Srt l' a b:=by
 unfold D.A2
 rw[w64 (show-9223372036854775808≤a+1 by omega) (by omega)]
 refine AP (λs=>Rg a b l0 s.1∧Srt s.1 a s.2∧a+1≤s.2∧s.2≤b+1) (λs=>(b-s.2).toNat) (λr=>Rg a b l0 r∧Srt r a b) ?_ ?_ ?_
 ·rintro⟨l,i⟩ ⟨hR,hS,h1,h2⟩
  dsimp only at hR hS h1 h2 ⊢
  have hll:=hR.len
  by_cases hi:i<b
  ·simp only[hi,decide_true,cond_true]
   rw[w64 (show-9223372036854775808≤i+1 by omega) (by omega)]
   refine AP (λs=>Rg a b l0 s.1∧a≤s.2∧s.2≤i∧∀p q,a≤p→p<q→q≤i→q≠s.2→at' s.1 p≤at' s.1 q) (λs=>(s.2-a).toNat) (λr=>Rg a b l0 r∧Srt r a (i+1)) ?_ ?_ ?_
   ·rintro⟨m,j⟩ ⟨hR',g1,g2,hS'⟩
    dsimp only at hR' g1 g2 hS' ⊢
    have hml:=hR'.len
    rw[w64 (show-9223372036854775808≤j-1 by omega) (by omega)]
    by_cases hj:a<j
    ·have r1:idx m j=some (at' m j):=AW (by omega) (by omega)
     have r2:idx m (j-1)=some (at' m (j-1)):=AW (by omega) (by omega)
     have r3:∀x,idx (m.set j.toNat x) (j-1)=some (at' (m.set j.toNat x) (j-1)):=λx=>Br (by omega) (by omega)
     by_cases hlt:at' m j<at' m (j-1)
     ·refine⟨.inl (sw m j (j-1),j-1),?_,⟨hR'.trans (Rg.swap ha (by omega) (by omega) (by omega) (by omega) (by omega)),by dsimp only;omega,by dsimp only;omega,?_⟩,by dsimp only;omega⟩
      ·simp only[r1,r2,r3,hj,CF,hlt,decide_true,cond_true,bs]
       rfl
      ·intro p q k1 k2 k3 k4
       dsimp only at k4 ⊢
       rw[Bk (by omega) (by omega) (by omega) (by omega) (by omega),Bk (by omega) (by omega) (by omega) (by omega) (by omega)]
       by_cases c1:q=j
       ·subst c1
        rw[if_neg (show¬q=q-1 by omega),if_pos rfl]
        by_cases c2:p=q-1
        ·rw[if_pos c2];omega
        ·rw[if_neg c2,if_neg (by omega)]
         exact hS' p (q-1) k1 (by omega) (by omega) (by omega)
       ·rw[if_neg (show¬q=j-1 by omega),if_neg c1]
        by_cases c2:p=j-1
        ·rw[if_pos c2]
         exact hS' j q (by omega) (by omega) k3 c1
        ·rw[if_neg c2]
         by_cases c3:p=j
         ·rw[if_pos c3]
          exact hS' (j-1) q (by omega) (by omega) k3 c1
         ·rw[if_neg c3]
          exact hS' p q k1 k2 k3 c1
     ·refine⟨.inr m,?_,hR',?_⟩
      ·simp only[r1,r2,hj,CF,hlt,decide_true,decide_false,cond_true,cond_false,bs]
      ·intro p q k1 k2 k3
       by_cases c1:q=j
       ·subst c1
        by_cases c2:p=q-1
        ·subst c2;omega
        ·have:=hS' p (q-1) k1 (by omega) (by omega) (by omega)
         omega
       ·exact hS' p q k1 k2 (by omega) c1
    ·refine⟨.inr m,?_,hR',?_⟩
     ·simp only[hj,decide_false,cond_false,bs]
     ·intro p q k1 k2 k3
      exact hS' p q k1 k2 (by omega) (by omega)
   ·exact⟨hR,by dsimp only;omega,Int.le_refl _,λp q k1 k2 k3 k4=>hS p q k1 k2 (by dsimp only at k4 ⊢;omega)⟩
   ·rintro r ⟨hR',hS'⟩
    exact⟨.inl (r,i+1),rfl,⟨hR',hS',by dsimp only;omega,by dsimp only;omega⟩,by dsimp only;omega⟩
  ·refine⟨.inr l,by simp only[hi,decide_false,cond_false],hR,?_⟩
   intro p q k1 k2 k3
   exact hS p q k1 k2 (by omega)
 ·exact⟨Rg.refl _ _ _,λp q k1 k2 k3=>by dsimp only at k3;omega,by dsimp only;omega,by dsimp only;omega⟩
 ·rintro r hr
  exact⟨r,rfl,hr⟩
theorem DL (l0:LI)(a b:Int)(ha:0≤a)(hab:a≤b)(hb:b≤l0.length)(hlen:l0.length≤1000000):
  ∃l',D.B2 l0 a b=some l'∧Rg a b l0 l':=by
 unfold D.B2
 rw[w64 (show-9223372036854775808≤b-1 by omega) (by omega)]
 refine AP (λs=>Rg a b l0 s.1∧a≤s.2.1∧s.2.1≤b∧s.2.2<b∧a-1≤s.2.2) (λs=>(s.2.2-s.2.1).toNat) (λr=>Rg a b l0 r) ?_ ?_ ?_
 ·rintro⟨l,i,j⟩ ⟨hR,h1,h2,h3,h4⟩
  dsimp only at hR h1 h2 h3 h4 ⊢
  have hll:=hR.len
  by_cases hi:i<j
  ·have r1:idx l i=some (at' l i):=AW (by omega) (by omega)
   have r2:idx l j=some (at' l j):=AW (by omega) (by omega)
   have r3:∀x,idx (l.set i.toNat x) j=some (at' (l.set i.toNat x) j):=λx=>Br (by omega) (by omega)
   rw[w64 (show-9223372036854775808≤i+1 by omega) (by omega),w64 (show-9223372036854775808≤j-1 by omega) (by omega)]
   refine⟨.inl (sw l i j,i+1,j-1),?_,⟨hR.trans (Rg.swap ha (by omega) (by omega) (by omega) (by omega) (by omega)),by dsimp only;omega,by dsimp only;omega,by dsimp only;omega,by dsimp only;omega⟩,by dsimp only;omega⟩
   simp only[r1,r2,r3,hi,decide_true,cond_true,bs]
   rfl
  ·exact⟨.inr l,by simp only[hi,decide_false,cond_false],hR⟩
 ·exact⟨Rg.refl _ _ _,by dsimp only;omega,by dsimp only;omega,by dsimp only;omega,by dsimp only;omega⟩
 ·rintro r hr
  exact⟨r,rfl,hr⟩
theorem scanUp {β:Type}{k:Int→Option β}{Q:β→Prop}(l:LI)(a hi i0:Int)(ha:0≤a)(ha':a<l.length)(h0:0≤i0)(h1:i0≤hi+1)(h2:hi<l.length)(hlen:l.length≤1000000)
  (hk:∀i,i0≤i→i≤hi+1→(∀q,i0≤q→q<i→at' l q<at' l a)→(i≤hi→¬at' l i<at' l a)→∃y,k i=some y∧Q y):
  ∃y,(Aq (σ:=Int) (ρ:=(Int)) (fun(x:Int)=>(cond (decide (x≤hi)) ((idx l x).bind λe=>(idx l a).bind λe'=>(D.p e e').bind λy=>some y) (some false)).bind λb=>cond b (some (.inl (IntKind.i64.wrap (x+1)))) (some (.inr x))) i0).bind k=some y∧Q y:=by
 refine AP (λi=>i0≤i∧i≤hi+1∧∀q,i0≤q→q<i→at' l q<at' l a) (λi=>(hi+1-i).toNat) (λi=>i0≤i∧i≤hi+1∧(∀q,i0≤q→q<i→at' l q<at' l a)∧(i≤hi→¬at' l i<at' l a)) ?_ ?_ ?_
 ·rintro i ⟨g1,g2,g3⟩
  by_cases hi':i≤hi
  ·have r1:idx l i=some (at' l i):=AW (by omega) (by omega)
   have r2:idx l a=some (at' l a):=AW (by omega) (by omega)
   by_cases hlt:at' l i<at' l a
   ·refine⟨.inl (i+1),?_,⟨by omega,by omega,λq q1 q2=> ?_⟩,by dsimp only;omega⟩
    ·simp only[r1,r2,hi',CF,hlt,decide_true,cond_true,bs]
     rw[w64 (by omega) (by omega)]
    ·by_cases e:q=i
     ·rw[e];exact hlt
     ·exact g3 q q1 (by omega)
   ·exact⟨.inr i,by simp only[r1,r2,hi',CF,hlt,decide_true,decide_false,cond_true,cond_false,bs],g1,g2,g3,λ_=>hlt⟩
  ·exact⟨.inr i,by simp only[hi',decide_false,cond_false,bs],g1,g2,g3,λh=>absurd h hi'⟩
 ·exact⟨Int.le_refl _,h1,λq q1 q2=>by omega⟩
 ·rintro i ⟨g1,g2,g3,g4⟩
  exact hk i g1 g2 g3 g4
theorem EF {β:Type}{k:Int→Option β}{Q:β→Prop}(l:LI)(a lo j0:Int)(ha:0≤a)(ha':a<l.length)(h0:0≤lo)(h1:lo≤j0+1)(h2:j0<l.length)(hlen:l.length≤1000000)
  (hk:∀j,lo≤j+1→j≤j0→(∀q,j<q→q≤j0→¬at' l q<at' l a)→(lo≤j→at' l j<at' l a)→∃y,k j=some y∧Q y):
  ∃y,(Aq (σ:=Int) (ρ:=(Int)) (fun(x:Int)=>(cond (decide (lo≤x)) ((idx l x).bind λe=>(idx l a).bind λe'=>(D.p e e').bind λy=>some (!y)) (some false)).bind λb=>cond b (some (.inl (IntKind.i64.wrap (x-1)))) (some (.inr x))) j0).bind k=some y∧Q y:=by
 refine AP (λj=>lo≤j+1∧j≤j0∧∀q,j<q→q≤j0→¬at' l q<at' l a) (λj=>(j+1-lo).toNat) (λj=>lo≤j+1∧j≤j0∧(∀q,j<q→q≤j0→¬at' l q<at' l a)∧(lo≤j→at' l j<at' l a)) ?_ ?_ ?_
 ·rintro j ⟨g1,g2,g3⟩
  by_cases hi':lo≤j
  ·have r1:idx l j=some (at' l j):=AW (by omega) (by omega)
   have r2:idx l a=some (at' l a):=AW (by omega) (by omega)
   by_cases hlt:at' l j<at' l a
   ·exact⟨.inr j,by simp only[r1,r2,hi',CF,hlt,decide_true,Bool.not_true,cond_true,cond_false,bs],g1,g2,g3,λ_=>hlt⟩
   ·refine⟨.inl (j-1),?_,⟨by omega,by omega,λq q1 q2=> ?_⟩,by dsimp only;omega⟩
    ·simp only[r1,r2,hi',CF,hlt,decide_true,decide_false,Bool.not_false,cond_true,bs]
     rw[w64 (by omega) (by omega)]
    ·by_cases e:q=j
     ·rw[e];exact hlt
     ·exact g3 q (by omega) q2
  ·exact⟨.inr j,by simp only[hi',decide_false,cond_false,bs],g1,g2,g3,λh=>absurd h hi'⟩
 ·exact⟨h1,Int.le_refl _,λq q1 q2=>by omega⟩
 ·rintro j ⟨g1,g2,g3,g4⟩
  exact hk j g1 g2 g3 g4
structure Parted (l0 l':LI)(a b mid:Int):Prop where
 rg:Rg a b l0 l'
 lo:a≤mid
 hi:mid<b
 left:∀k,a≤k→k<mid→at' l' k≤at' l' mid
 right:∀k,mid<k→k<b→at' l' mid≤at' l' k
theorem Ed (l0:LI)(a b p:Int)(ha:0≤a)(hb:b≤l0.length)(hlen:l0.length≤1000000)(hp:a≤p)(hp':p<b):
  ∃y,D.s2 l0 a b p=some y∧Parted l0 y.2.2 a b y.1:=by
 unfold D.s2
 have r1:idx l0 p=some (at' l0 p):=AW (by omega) (by omega)
 have r2:idx l0 a=some (at' l0 a):=AW (by omega) (by omega)
 have r3:∀x,idx (l0.set a.toNat x) p=some (at' (l0.set a.toNat x) p):=λx=>Br (by omega) (by omega)
 simp only[r1,r2,r3,bs]
 rw[show (l0.set a.toNat (at' l0 p)).set p.toNat (at' l0 a)=sw l0 a p from rfl]
 have hR0:Rg a b l0 (sw l0 a p):=Rg.swap ha hb (by omega) (by omega) hp hp'
 generalize sw l0 a p=m0 at hR0 ⊢
 have hm0:=hR0.len
 rw[w64 (show-9223372036854775808≤b-1 by omega) (by omega),w64 (show-9223372036854775808≤a+1 by omega) (by omega)]
 refine scanUp m0 a (b-1) (a+1) ha (by omega) (by omega) (by omega) (by omega) (by omega) (λi i1 i2 i3 i4=> ?_)
 refine EF m0 a i (b-1) ha (by omega) (by omega) (by omega) (by omega) (by omega) (λj j1 j2 j3 j4=> ?_)
 have q1:idx m0 a=some (at' m0 a):=AW (by omega) (by omega)
 have q2:idx m0 j=some (at' m0 j):=AW (by omega) (by omega)
 by_cases hij:j<i
 ·have q3:∀x,idx (m0.set j.toNat x) a=some (at' (m0.set j.toNat x) a):=λx=>Br (by omega) (by omega)
  refine⟨(j,true,sw m0 j a),?_,⟨hR0.trans (Rg.swap ha (by omega) (by omega) (by omega) (by omega) (by omega)),by dsimp only;omega,by dsimp only;omega,λk k1 k2=> ?_,λk k1 k2=> ?_⟩⟩
  ·simp only[q1,q2,q3,hij,decide_true,cond_true,bs]
   rfl
  ·dsimp only at k1 k2 ⊢
   rw[Bk (by omega) (by omega) (by omega) (by omega) (by omega),Bk (by omega) (by omega) (by omega) (by omega) (by omega)]
   rw[if_neg (show¬j=a by omega),if_pos rfl]
   by_cases e:k=a
   ·rw[if_pos e]
    have:=i3 j (by omega) (by omega);omega
   ·rw[if_neg e,if_neg (by omega)]
    have:=i3 k (by omega) (by omega);omega
  ·dsimp only at k1 k2 ⊢
   rw[Bk (by omega) (by omega) (by omega) (by omega) (by omega),Bk (by omega) (by omega) (by omega) (by omega) (by omega)]
   rw[if_neg (show¬k=a by omega),if_neg (show¬k=j by omega)]
   have hk:=j3 k (by omega) (by omega)
   by_cases e:j=a
   ·rw[if_pos e];subst e;omega
   ·rw[if_neg e,if_pos rfl];omega
 ·have q4:idx m0 i=some (at' m0 i):=AW (by omega) (by omega)
  have q5:∀x,idx (m0.set i.toNat x) j=some (at' (m0.set i.toNat x) j):=λx=>Br (by omega) (by omega)
  simp only[q1,q2,q4,q5,hij,decide_false,cond_false,bs]
  rw[show (m0.set i.toNat (at' m0 j)).set j.toNat (at' m0 i)=sw m0 i j from rfl]
  have hia:=i4 (by omega)
  have hja:=j4 (by omega)
  have hne:i<j:=by
   rcases Int.lt_or_eq_of_le (show i≤j by omega) with h|h
   ·exact h
   ·subst h;exact absurd hja hia
  have hR1:Rg a b l0 (sw m0 i j):=hR0.trans (Rg.swap ha (by omega) (by omega) (by omega) (by omega) (by omega))
  have ea:at' (sw m0 i j) a=at' m0 a:=by rw[Bk (by omega) (by omega) (by omega) (by omega) (by omega),if_neg (by omega),if_neg (by omega)]
  have hlo:∀q,a+1≤q→q<i+1→at' (sw m0 i j) q<at' (sw m0 i j) a:=λq h1 h2=>by
   rw[ea,Bk (by omega) (by omega) (by omega) (by omega) (by omega),if_neg (by omega)]
   by_cases e:q=i
   ·rw[if_pos e];exact hja
   ·rw[if_neg e];exact i3 q h1 (by omega)
  have hhi:∀q,j-1<q→q<b→¬at' (sw m0 i j) q<at' (sw m0 i j) a:=λq h1 h2=>by
   rw[ea,Bk (by omega) (by omega) (by omega) (by omega) (by omega)]
   by_cases e:q=j
   ·rw[if_pos e];exact hia
   ·rw[if_neg e,if_neg (by omega)];exact j3 q (by omega) (by omega)
  rw[w64 (show-9223372036854775808≤i+1 by omega) (by omega),w64 (show-9223372036854775808≤j-1 by omega) (by omega)]
  generalize sw m0 i j=m1 at hR1 hlo hhi ⊢
  refine AP (λs=>Rg a b l0 s.1∧a+1≤s.2.1∧s.2.1≤s.2.2+1∧s.2.2<b∧(∀q,a+1≤q→q<s.2.1→at' s.1 q<at' s.1 a)∧(∀q,s.2.2<q→q<b→¬at' s.1 q<at' s.1 a)) (λs=>(s.2.2+1-s.2.1).toNat)
   (λs=>Rg a b l0 s.1∧a≤s.2∧s.2<b∧(∀q,a+1≤q→q≤s.2→at' s.1 q<at' s.1 a)∧(∀q,s.2<q→q<b→¬at' s.1 q<at' s.1 a)) ?_ ?_ ?_
  ·rintro⟨m,u,v⟩ ⟨hR,g1,g2,g3,g4,g5⟩
   dsimp only at hR g1 g2 g3 g4 g5 ⊢
   have hml:=hR.len
   refine scanUp m a v u ha (by omega) (by omega) (by omega) (by omega) (by omega) (λi i1 i2 i3 i4=> ?_)
   refine EF m a i v ha (by omega) (by omega) (by omega) (by omega) (by omega) (λj j1 j2 j3 j4=> ?_)
   have f1:∀q,a+1≤q→q<i→at' m q<at' m a:=λq h1 h2=>by
    by_cases h:q<u
    ·exact g4 q h1 h
    ·exact i3 q (by omega) h2
   have f2:∀q,j<q→q<b→¬at' m q<at' m a:=λq h1 h2=>by
    by_cases h:q≤v
    ·exact j3 q h1 h
    ·exact g5 q (by omega) h2
   by_cases hij:j<i
   ·exact⟨.inr (m,j),by simp only[hij,decide_true,cond_true],hR,by dsimp only;omega,by dsimp only;omega,λq h1 h2=>f1 q h1 (by dsimp only at h2;omega),f2⟩
   ·have t1:idx m i=some (at' m i):=AW (by omega) (by omega)
    have t2:idx m j=some (at' m j):=AW (by omega) (by omega)
    have t3:∀x,idx (m.set i.toNat x) j=some (at' (m.set i.toNat x) j):=λx=>Br (by omega) (by omega)
    have hia:=i4 (by omega)
    have hja:=j4 (by omega)
    have hne:i<j:=by
     rcases Int.lt_or_eq_of_le (show i≤j by omega) with h|h
     ·exact h
     ·subst h;exact absurd hja hia
    have ea:at' (sw m i j) a=at' m a:=by rw[Bk (by omega) (by omega) (by omega) (by omega) (by omega),if_neg (by omega),if_neg (by omega)]
    rw[w64 (show-9223372036854775808≤i+1 by omega) (by omega),w64 (show-9223372036854775808≤j-1 by omega) (by omega)]
    refine⟨.inl (sw m i j,i+1,j-1),?_,⟨hR.trans (Rg.swap ha (by omega) (by omega) (by omega) (by omega) (by omega)),by dsimp only;omega,by dsimp only;omega,by dsimp only;omega,λq h1 h2=> ?_,λq h1 h2=> ?_⟩,by dsimp only;omega⟩
    ·simp only[t1,t2,t3,hij,decide_false,cond_false,bs]
     rfl
    ·dsimp only at h2 ⊢
     rw[ea,Bk (by omega) (by omega) (by omega) (by omega) (by omega),if_neg (by omega)]
     by_cases e:q=i
     ·rw[if_pos e];exact hja
     ·rw[if_neg e];exact f1 q h1 (by omega)
    ·dsimp only at h1 ⊢
     rw[ea,Bk (by omega) (by omega) (by omega) (by omega) (by omega)]
     by_cases e:q=j
     ·rw[if_pos e];exact hia
     ·rw[if_neg e,if_neg (by omega)];exact f2 q (by omega) h2
  ·exact⟨hR1,by dsimp only;omega,by dsimp only;omega,by dsimp only;omega,hlo,hhi⟩
  ·rintro⟨m,v⟩ ⟨hR,g1,g2,g3,g4⟩
   dsimp only at hR g1 g2 g3 g4 ⊢
   have hml:=hR.len
   have t1:idx m a=some (at' m a):=AW (by omega) (by omega)
   have t2:idx m v=some (at' m v):=AW (by omega) (by omega)
   have t3:∀x,idx (m.set v.toNat x) a=some (at' (m.set v.toNat x) a):=λx=>Br (by omega) (by omega)
   refine⟨(v,false,sw m v a),?_,⟨hR.trans (Rg.swap ha (by omega) (by omega) (by omega) (by omega) (by omega)),g1,g2,λk k1 k2=> ?_,λk k1 k2=> ?_⟩⟩
   ·simp only[t1,t2,t3,bs]
    rfl
   ·dsimp only at k1 k2 ⊢
    rw[Bk (by omega) (by omega) (by omega) (by omega) (by omega),Bk (by omega) (by omega) (by omega) (by omega) (by omega)]
    rw[if_neg (show¬v=a by omega),if_pos rfl]
    by_cases e:k=a
    ·rw[if_pos e]
     have:=g3 v (by omega) (by omega);omega
    ·rw[if_neg e,if_neg (by omega)]
     have:=g3 k (by omega) (by omega);omega
   ·dsimp only at k1 k2 ⊢
    rw[Bk (by omega) (by omega) (by omega) (by omega) (by omega),Bk (by omega) (by omega) (by omega) (by omega) (by omega)]
    rw[if_neg (show¬k=a by omega),if_neg (show¬k=v by omega)]
    have hk:=g4 k (by omega) (by omega)
    by_cases e:v=a
    ·rw[if_pos e];subst e;omega
    ·rw[if_neg e,if_pos rfl];omega
theorem scanUp2 {β:Type}{k:Int→Option β}{Q:β→Prop}(l:LI)(a hi i0:Int)(ha:0≤a)(ha':a<l.length)(h0:0≤i0)(h1:i0≤hi+1)(h2:hi<l.length)(hlen:l.length≤1000000)
  (hk:∀i,i0≤i→i≤hi+1→(∀q,i0≤q→q<i→¬at' l a<at' l q)→(i≤hi→at' l a<at' l i)→∃y,k i=some y∧Q y):
  ∃y,(Aq (σ:=Int) (ρ:=(Int)) (fun(x:Int)=>(cond (decide (x≤hi)) ((idx l a).bind λe=>(idx l x).bind λe'=>(D.p e e').bind λy=>some (!y)) (some false)).bind λb=>cond b (some (.inl (IntKind.i64.wrap (x+1)))) (some (.inr x))) i0).bind k=some y∧Q y:=by
 refine AP (λi=>i0≤i∧i≤hi+1∧∀q,i0≤q→q<i→¬at' l a<at' l q) (λi=>(hi+1-i).toNat) (λi=>i0≤i∧i≤hi+1∧(∀q,i0≤q→q<i→¬at' l a<at' l q)∧(i≤hi→at' l a<at' l i)) ?_ ?_ ?_
 ·rintro i ⟨g1,g2,g3⟩
  by_cases hi':i≤hi
  ·have r1:idx l i=some (at' l i):=AW (by omega) (by omega)
   have r2:idx l a=some (at' l a):=AW (by omega) (by omega)
   by_cases hlt:at' l a<at' l i
   ·exact⟨.inr i,by simp only[r1,r2,hi',CF,hlt,decide_true,Bool.not_true,cond_true,cond_false,bs],g1,g2,g3,λ_=>hlt⟩
   ·refine⟨.inl (i+1),?_,⟨by omega,by omega,λq q1 q2=> ?_⟩,by dsimp only;omega⟩
    ·simp only[r1,r2,hi',CF,hlt,decide_true,decide_false,Bool.not_false,cond_true,bs]
     rw[w64 (by omega) (by omega)]
    ·by_cases e:q=i
     ·rw[e];exact hlt
     ·exact g3 q q1 (by omega)
  ·exact⟨.inr i,by simp only[hi',decide_false,cond_false,bs],g1,g2,g3,λh=>absurd h hi'⟩
 ·exact⟨Int.le_refl _,h1,λq q1 q2=>by omega⟩
 ·rintro i ⟨g1,g2,g3,g4⟩
  exact hk i g1 g2 g3 g4
theorem FS {β:Type}{k:Int→Option β}{Q:β→Prop}(l:LI)(a lo j0:Int)(ha:0≤a)(ha':a<l.length)(h0:0≤lo)(h1:lo≤j0+1)(h2:j0<l.length)(hlen:l.length≤1000000)
  (hk:∀j,lo≤j+1→j≤j0→(∀q,j<q→q≤j0→at' l a<at' l q)→(lo≤j→¬at' l a<at' l j)→∃y,k j=some y∧Q y):
  ∃y,(Aq (σ:=Int) (ρ:=(Int)) (fun(x:Int)=>(cond (decide (lo≤x)) ((idx l a).bind λe=>(idx l x).bind λe'=>(D.p e e').bind λy=>some y) (some false)).bind λb=>cond b (some (.inl (IntKind.i64.wrap (x-1)))) (some (.inr x))) j0).bind k=some y∧Q y:=by
 refine AP (λj=>lo≤j+1∧j≤j0∧∀q,j<q→q≤j0→at' l a<at' l q) (λj=>(j+1-lo).toNat) (λj=>lo≤j+1∧j≤j0∧(∀q,j<q→q≤j0→at' l a<at' l q)∧(lo≤j→¬at' l a<at' l j)) ?_ ?_ ?_
 ·rintro j ⟨g1,g2,g3⟩
  by_cases hi':lo≤j
  ·have r1:idx l j=some (at' l j):=AW (by omega) (by omega)
   have r2:idx l a=some (at' l a):=AW (by omega) (by omega)
   by_cases hlt:at' l a<at' l j
   ·refine⟨.inl (j-1),?_,⟨by omega,by omega,λq q1 q2=> ?_⟩,by dsimp only;omega⟩
    ·simp only[r1,r2,hi',CF,hlt,decide_true,cond_true,bs]
     rw[w64 (by omega) (by omega)]
    ·by_cases e:q=j
     ·rw[e];exact hlt
     ·exact g3 q (by omega) q2
   ·exact⟨.inr j,by simp only[r1,r2,hi',CF,hlt,decide_true,decide_false,cond_true,cond_false,bs],g1,g2,g3,λ_=>hlt⟩
  ·exact⟨.inr j,by simp only[hi',decide_false,cond_false,bs],g1,g2,g3,λh=>absurd h hi'⟩
 ·exact⟨h1,Int.le_refl _,λq q1 q2=>by omega⟩
 ·rintro j ⟨g1,g2,g3,g4⟩
  exact hk j g1 g2 g3 g4
theorem Ds (l0:LI)(a b p:Int)(ha:0≤a)(hb:b≤l0.length)(hlen:l0.length≤1000000)(hp:a≤p)(hp':p<b):
  ∃y,D.t2 l0 a b p=some y∧Rg a b l0 y.2∧a<y.1∧y.1≤b∧(∀k,a≤k→k<y.1→at' y.2 k≤at' l0 p)∧(∀k,y.1≤k→k<b→at' l0 p<at' y.2 k):=by
 unfold D.t2
 have r1:idx l0 p=some (at' l0 p):=AW (by omega) (by omega)
 have r2:idx l0 a=some (at' l0 a):=AW (by omega) (by omega)
 have r3:∀x,idx (l0.set a.toNat x) p=some (at' (l0.set a.toNat x) p):=λx=>Br (by omega) (by omega)
 simp only[r1,r2,r3,bs]
 rw[show (l0.set a.toNat (at' l0 p)).set p.toNat (at' l0 a)=sw l0 a p from rfl]
 have hR0:Rg a b l0 (sw l0 a p):=Rg.swap ha hb (by omega) (by omega) hp hp'
 have ep:at' (sw l0 a p) a=at' l0 p:=by
  rw[Bk (by omega) (by omega) (by omega) (by omega) (by omega)]
  by_cases e:a=p
  ·rw[if_pos e,e]
  ·rw[if_neg e,if_pos rfl]
 generalize sw l0 a p=m0 at hR0 ep ⊢
 rw[w64 (show-9223372036854775808≤b-1 by omega) (by omega),w64 (show-9223372036854775808≤a+1 by omega) (by omega)]
 refine AP (λs=>Rg a b l0 s.1∧a+1≤s.2.1∧s.2.1≤s.2.2+1∧s.2.2<b∧at' s.1 a=at' l0 p∧(∀q,a+1≤q→q<s.2.1→¬at' s.1 a<at' s.1 q)∧(∀q,s.2.2<q→q<b→at' s.1 a<at' s.1 q)) (λs=>(s.2.2+1-s.2.1).toNat)
  (λs=>Rg a b l0 s.1∧a+1≤s.2∧s.2≤b∧at' s.1 a=at' l0 p∧(∀q,a+1≤q→q<s.2→¬at' s.1 a<at' s.1 q)∧(∀q,s.2≤q→q<b→at' s.1 a<at' s.1 q)) ?_ ?_ ?_
 ·rintro⟨m,u,v⟩ ⟨hR,g1,g2,g3,g6,g4,g5⟩
  dsimp only at hR g1 g2 g3 g4 g5 g6 ⊢
  have hml:=hR.len
  refine scanUp2 m a v u ha (by omega) (by omega) (by omega) (by omega) (by omega) (λi i1 i2 i3 i4=> ?_)
  refine FS m a i v ha (by omega) (by omega) (by omega) (by omega) (by omega) (λj j1 j2 j3 j4=> ?_)
  have f1:∀q,a+1≤q→q<i→¬at' m a<at' m q:=λq h1 h2=>by
   by_cases h:q<u
   ·exact g4 q h1 h
   ·exact i3 q (by omega) h2
  have f2:∀q,j<q→q<b→at' m a<at' m q:=λq h1 h2=>by
   by_cases h:q≤v
   ·exact j3 q h1 h
   ·exact g5 q (by omega) h2
  by_cases hij:j<i
  ·exact⟨.inr (m,i),by simp only[hij,decide_true,cond_true],hR,by dsimp only;omega,by dsimp only;omega,g6,f1,λq h1 h2=>f2 q (by dsimp only at h1;omega) h2⟩
  ·have t1:idx m i=some (at' m i):=AW (by omega) (by omega)
   have t2:idx m j=some (at' m j):=AW (by omega) (by omega)
   have t3:∀x,idx (m.set i.toNat x) j=some (at' (m.set i.toNat x) j):=λx=>Br (by omega) (by omega)
   have hia:=i4 (by omega)
   have hja:=j4 (by omega)
   have hne:i<j:=by
    rcases Int.lt_or_eq_of_le (show i≤j by omega) with h|h
    ·exact h
    ·subst h;exact absurd hia hja
   have ea:at' (sw m i j) a=at' m a:=by rw[Bk (by omega) (by omega) (by omega) (by omega) (by omega),if_neg (by omega),if_neg (by omega)]
   rw[w64 (show-9223372036854775808≤i+1 by omega) (by omega),w64 (show-9223372036854775808≤j-1 by omega) (by omega)]
   refine⟨.inl (sw m i j,i+1,j-1),?_,⟨hR.trans (Rg.swap ha (by omega) (by omega) (by omega) (by omega) (by omega)),by dsimp only;omega,by dsimp only;omega,by dsimp only;omega,by dsimp only;rw[ea];exact g6,λq h1 h2=> ?_,λq h1 h2=> ?_⟩,by dsimp only;omega⟩
   ·simp only[t1,t2,t3,hij,decide_false,cond_false,bs]
    rfl
   ·dsimp only at h2 ⊢
    rw[ea,Bk (by omega) (by omega) (by omega) (by omega) (by omega),if_neg (by omega)]
    by_cases e:q=i
    ·rw[if_pos e];exact hja
    ·rw[if_neg e];exact f1 q h1 (by omega)
   ·dsimp only at h1 ⊢
    rw[ea,Bk (by omega) (by omega) (by omega) (by omega) (by omega)]
    by_cases e:q=j
    ·rw[if_pos e];exact hia
    ·rw[if_neg e,if_neg (by omega)];exact f2 q (by omega) h2
 ·exact⟨hR0,by dsimp only;omega,by dsimp only;omega,by dsimp only;omega,ep,λq h1 h2=>by dsimp only at h2;omega,λq h1 h2=>by dsimp only at h1;omega⟩
 ·rintro⟨m,v⟩ ⟨hR,g1,g2,g3,g4,g5⟩
  refine⟨(v,m),rfl,hR,by dsimp only at*;omega,g2,λk k1 k2=> ?_,λk k1 k2=> ?_⟩
  ·dsimp only at*
   by_cases e:k=a
   ·rw[e,g3];exact Int.le_refl _
   ·have:=g4 k (by omega) k2;omega
  ·dsimp only at*
   have:=g5 k k1 k2;omega
theorem C6 (l:LI)(a b s:Int)(ha:0≤a)(ha':a<l.length)(hb:0≤b)(hb':b<l.length):
  ∃y,D.i2 l a b s=some y∧y.2.2.1=l∧((y.1=a∧y.2.1=b)∨(y.1=b∧y.2.1=a)):=by
 have r1:idx l a=some (at' l a):=AW ha ha'
 have r2:idx l b=some (at' l b):=AW hb hb'
 unfold D.i2
 simp only[r1,r2,CF,bs]
 by_cases h:at' l b<at' l a
 ·simp only[h,decide_true,cond_true];exact⟨_,rfl,rfl,.inr ⟨rfl,rfl⟩⟩
 ·simp only[h,decide_false,cond_false];exact⟨_,rfl,rfl,.inl ⟨rfl,rfl⟩⟩
theorem Ei (l:LI)(a b c s:Int)(ha:0≤a)(ha':a<l.length)(hb:0≤b)(hb':b<l.length)(hc:0≤c)(hc':c<l.length):
  ∃y,D.o2 l a b c s=some y∧y.2.1=l∧(y.1=a∨y.1=b∨y.1=c):=by
 unfold D.o2
 obtain⟨y1,h1,e1,c1⟩:=C6 l a b s ha ha' hb hb'
 rw[h1,bs,e1]
 have b1:0≤y1.2.1∧y1.2.1<l.length∧0≤y1.1∧y1.1<l.length:=by rcases c1 with⟨c,d⟩|⟨c,d⟩<;>rw[c,d]<;>exact⟨by assumption,by assumption,by assumption,by assumption⟩
 obtain⟨y2,h2,e2,c2⟩:=C6 l y1.2.1 c y1.2.2.2 b1.1 b1.2.1 hc hc'
 rw[h2,bs,e2]
 have b2:0≤y2.1∧y2.1<l.length:=by rcases c2 with⟨c,d⟩|⟨c,d⟩<;>rw[c]<;>exact⟨by omega,by omega⟩
 obtain⟨y3,h3,e3,c3⟩:=C6 l y1.1 y2.1 y2.2.2.2 b1.2.2.1 b1.2.2.2 b2.1 b2.2
 rw[h3,bs]
 refine⟨_,rfl,e3,?_⟩
 dsimp only
 omega
theorem DT (l:LI)(a b:Int)(ha:0≤a)(hb:b≤l.length)(h8:8≤b-a)(h50:b-a<50)(hlen:l.length≤1000000):
  ∃y,D.D2 l a b=some y∧y.2.2=l∧a≤y.1∧y.1<b:=by
 unfold D.D2
 rw[w64 (show-9223372036854775808≤b-a by omega) (by omega)]
 have e4:(b-a).tdiv 4=(b-a)/4:=Int.tdiv_eq_ediv_of_nonneg (by omega)
 rw[e4,w64 (show-9223372036854775808≤(b-a)/4 by omega) (by omega)]
 rw[w64 (show-9223372036854775808≤(b-a)/4*1 by omega) (by omega),w64 (show-9223372036854775808≤(b-a)/4*2 by omega) (by omega),w64 (show-9223372036854775808≤(b-a)/4*3 by omega) (by omega)]
 rw[w64 (show-9223372036854775808≤a+(b-a)/4*1 by omega) (by omega),w64 (show-9223372036854775808≤a+(b-a)/4*2 by omega) (by omega),w64 (show-9223372036854775808≤a+(b-a)/4*3 by omega) (by omega)]
 simp only[h8,show¬(50≤b-a) by omega,decide_true,decide_false,cond_true,cond_false,bs]
 obtain⟨y,h1,e1,c1⟩:=Ei l (a+(b-a)/4*1) (a+(b-a)/4*2) (a+(b-a)/4*3) 0 (by omega) (by omega) (by omega) (by omega) (by omega) (by omega)
 rw[h1,bs,e1]
 have hy:a≤y.1∧y.1<b:=by omega
 cases (y.2.2==0)
 ·cases (y.2.2==12)
  ·exact⟨_,rfl,rfl,hy⟩
  ·exact⟨_,rfl,rfl,hy⟩
 ·exact⟨_,rfl,rfl,hy⟩
theorem Dg (l:LI)(a b:Int)(ha:0≤a)(hab:a<b)(hb:b≤l.length)(h50:b-a<50)(hlen:l.length≤1000000):
  ∃y,D.C2 l a b=some y∧y.2=l∧(y.1=true→Srt l a b):=by
 unfold D.C2
 rw[w64 (show-9223372036854775808≤a+1 by omega) (by omega)]
 refine AP (λs=>s=(l,a+1,0)) (λ_=>0) (λr=>∃y:Bool×LI,r= .inr y∧y.2=l∧(y.1=true→Srt l a b)) ?_ rfl ?_
 ·rintro s rfl
  dsimp only
  simp only[show ((0:Int)<5) from by decide,decide_true,cond_true]
  refine AP (λi=>a+1≤i∧i≤b∧Srt l a i) (λi=>(b-i).toNat) (λi=>a+1≤i∧i≤b∧Srt l a i) ?_ ?_ ?_
  ·rintro i ⟨g1,g2,g3⟩
   by_cases hi:i<b
   ·have r1:idx l i=some (at' l i):=AW (by omega) (by omega)
    have r2:idx l (i-1)=some (at' l (i-1)):=AW (by omega) (by omega)
    have e1:IntKind.i64.wrap (i-1)=i-1:=w64 (by omega) (by omega)
    by_cases hlt:at' l i<at' l (i-1)
    ·exact⟨.inr i,by simp only[r1,r2,e1,hi,CF,hlt,decide_true,Bool.not_true,cond_true,cond_false,bs],g1,g2,g3⟩
    ·refine⟨.inl (i+1),?_,⟨by omega,by omega,λp q k1 k2 k3=> ?_⟩,by dsimp only;omega⟩
     ·simp only[r1,r2,e1,hi,CF,hlt,decide_true,decide_false,Bool.not_false,cond_true,bs]
      rw[w64 (by omega) (by omega)]
     ·by_cases e:q=i
      ·subst e
       by_cases e2:p=q-1
       ·subst e2;omega
       ·have:=g3 p (q-1) k1 (by omega) (by omega);omega
      ·exact g3 p q k1 k2 (by omega)
   ·exact⟨.inr i,by simp only[hi,decide_false,cond_false,bs],g1,g2,g3⟩
  ·exact⟨Int.le_refl _,by omega,λp q k1 k2 k3=>by omega⟩
  ·rintro i ⟨g1,g2,g3⟩
   rw[w64 (show-9223372036854775808≤b-a by omega) (by omega)]
   by_cases he:i=b
   ·refine⟨.inr (.inr (true,l)),?_,_,rfl,rfl,λ_=>by rw[←he];exact g3⟩
    have:(i==b)=true:=by simp[he]
    simp only[this,cond_true]
   ·refine⟨.inr (.inr (false,l)),?_,_,rfl,rfl,λh=>by cases h⟩
    have:(i==b)=false:=by simp[he]
    simp only[this,h50,decide_true,cond_true,cond_false]
 ·rintro r ⟨y,rfl,h1,h2⟩
  exact⟨y,rfl,h1,h2⟩
theorem iand_small (y m:Int)(h0:0≤m)(h1:m<4294967296):0≤iand .u64 y m∧iand .u64 y m≤m:=by
 unfold iand
 have e:(BitVec.ofInt IntKind.u64.bits y&&&BitVec.ofInt IntKind.u64.bits m).toNat≤(BitVec.ofInt IntKind.u64.bits m).toNat:=by
  rw[BitVec.toNat_and];exact Nat.and_le_right
 have e2:(BitVec.ofInt IntKind.u64.bits m).toNat=m.toNat:=by
  rw[BitVec.toNat_ofInt]
  show (m%(2^64:Nat)).toNat=m.toNat
  congr 1
  omega
 rw[e2] at e
 generalize (BitVec.ofInt IntKind.u64.bits y&&&BitVec.ofInt IntKind.u64.bits m).toNat=t at e
 have:IntKind.u64.wrap (t:Int)=t:=by
  simp only[IntKind.wrap,IntKind.bits,IntKind.signed]
  simp
  omega
 rw[this]
 omega
theorem wu64 {x:Int}(h1:0≤x)(h2:x<18446744073709551616):IntKind.u64.wrap x=x:=by
 simp only[IntKind.wrap,IntKind.bits,IntKind.signed]
 simp
 omega
theorem FQ (n:Int)(h1:8≤n)(h2:n≤16):∃y,D.I n=some y∧n<y∧y≤2*n:=by
 unfold D.I
 rw[wu64 (by omega) (by omega)]
 have key:∀k:Int,k=8∨k=9∨k=10∨k=11∨k=12∨k=13∨k=14∨k=15∨k=16→k<ishl .u64 1 (Lib.bitLen k.toNat:Nat)∧ishl .u64 1 (Lib.bitLen k.toNat:Nat)≤2*k:=by
  rintro k (rfl|rfl|rfl|rfl|rfl|rfl|rfl|rfl|rfl)<;>decide
 obtain⟨k1,k2⟩:=key n (by omega)
 refine⟨_,?_,k1,k2⟩
 unfold D.E
 rw[if_pos (by omega),bs]
 have:decide (((Lib.bitLen n.toNat:Nat):Int)<0)=false:=by simp
 rw[this]
 rfl
theorem Dx (l0:LI)(a b:Int)(ha:0≤a)(hb:b≤l0.length)(h8:8≤b-a)(h16:b-a≤16)(hlen:l0.length≤1000000):
  ∃l',D.F2 l0 a b=some l'∧Rg a b l0 l':=by
 unfold D.F2
 rw[w64 (show-9223372036854775808≤b-a by omega) (by omega)]
 have e4:(b-a).tdiv 4=(b-a)/4:=Int.tdiv_eq_ediv_of_nonneg (by omega)
 rw[e4,w64 (show-9223372036854775808≤(b-a)/4 by omega) (by omega)]
 rw[w64 (show-9223372036854775808≤(b-a)/4*2 by omega) (by omega)]
 rw[w64 (show-9223372036854775808≤a+(b-a)/4*2 by omega) (by omega)]
 rw[w64 (show-9223372036854775808≤a+(b-a)/4*2+1 by omega) (by omega),w64 (show-9223372036854775808≤a+(b-a)/4*2-1 by omega) (by omega)]
 simp only[h8,decide_true,cond_true]
 obtain⟨y,hy,g1,g2⟩:=FQ (b-a) h8 h16
 rw[hy,bs,wu64 (show 0≤y-1 by omega) (by omega)]
 refine AP (λs=>Rg a b l0 s.1∧a+(b-a)/4*2-1≤s.2.1∧s.2.1≤a+(b-a)/4*2+2) (λs=>(a+(b-a)/4*2+2-s.2.1).toNat) (λr=>Rg a b l0 r) ?_ ?_ ?_
 ·rintro⟨l,i,z⟩ ⟨hR,k1,k2⟩
  dsimp only at hR k1 k2 ⊢
  have hll:=hR.len
  by_cases hi:i≤a+(b-a)/4*2+1
  ·simp only[hi,decide_true,cond_true,D.b0,bs]
   obtain⟨t1,t2⟩:=iand_small (Bb .u64 (Bb .u64 (Bb .u64 z (ishl .u64 z 13)) (BN .u64 (Bb .u64 z (ishl .u64 z 13)) 7)) (ishl .u64 (Bb .u64 (Bb .u64 z (ishl .u64 z 13)) (BN .u64 (Bb .u64 z (ishl .u64 z 13)) 7)) 17)) (y-1) (by omega) (by omega)
   revert t1 t2
   generalize iand .u64 (Bb .u64 (Bb .u64 (Bb .u64 z (ishl .u64 z 13)) (BN .u64 (Bb .u64 z (ishl .u64 z 13)) 7)) (ishl .u64 (Bb .u64 (Bb .u64 z (ishl .u64 z 13)) (BN .u64 (Bb .u64 z (ishl .u64 z 13)) 7)) 17)) (y-1)=t
   generalize (Bb .u64 (Bb .u64 (Bb .u64 z (ishl .u64 z 13)) (BN .u64 (Bb .u64 z (ishl .u64 z 13)) 7)) (ishl .u64 (Bb .u64 (Bb .u64 z (ishl .u64 z 13)) (BN .u64 (Bb .u64 z (ishl .u64 z 13)) 7)) 17))=z'
   intro t1 t2
   rw[w64 (show-9223372036854775808≤t by omega) (by omega),w64 (show-9223372036854775808≤t-(b-a) by omega) (by omega)]
   have hc:∃o,(bif decide (b-a≤t) then some (t-(b-a)) else some t)=some o∧0≤o∧o<b-a:=by
    by_cases h:b-a≤t
    ·exact⟨t-(b-a),by simp[h],by omega,by omega⟩
    ·exact⟨t,by simp[h],by omega,by omega⟩
   obtain⟨o,ho,o1,o2⟩:=hc
   rw[ho,bs,w64 (show-9223372036854775808≤a+o by omega) (by omega),w64 (show-9223372036854775808≤i+1 by omega) (by omega)]
   have r1:idx l i=some (at' l i):=AW (by omega) (by omega)
   have r2:idx l (a+o)=some (at' l (a+o)):=AW (by omega) (by omega)
   have r3:∀x,idx (l.set i.toNat x) (a+o)=some (at' (l.set i.toNat x) (a+o)):=λx=>Br (by omega) (by omega)
   refine⟨.inl (sw l i (a+o),i+1,z'),?_,⟨hR.trans (Rg.swap ha (by omega) (by omega) (by omega) (by omega) (by omega)),by dsimp only;omega,by dsimp only;omega⟩,by dsimp only;omega⟩
   simp only[r1,r2,r3,bs]
   rfl
  ·exact⟨.inr l,by simp only[hi,decide_false,cond_false],hR⟩
 ·exact⟨Rg.refl _ _ _,by dsimp only;omega,by dsimp only;omega⟩
 ·rintro r hr
  exact⟨r,rfl,hr⟩
end Go.Sx

namespace Go.Sx.Gs
variable {α : Type} [Srtd α]
theorem Dg (l0:List α)(hG:Good l0)(a b:Int)(ha:0≤a)(hab:a<b)(hb:b≤l0.length)(hlen:l0.length≤1000000)
  (hpre:0<a→∀k,a≤k→k<b→at' l0 (a-1)≤at' l0 k):
  ∃y,DG.partialInsertionSort Srtd.cmp l0 a b=some y∧Rg a b l0 y.2∧(y.1=true→Srt y.2 a b):=by
 unfold DG.partialInsertionSort
 rw[w64 (show-9223372036854775808≤a+1 by omega) (by omega),w64 (show-9223372036854775808≤b-a by omega) (by omega)]
 refine AP (λs=>Rg a b l0 s.1∧a+1≤s.2.1∧s.2.1≤b∧Srt s.1 a s.2.1∧0≤s.2.2∧s.2.2≤5) (λs=>(5-s.2.2).toNat)
  (λr=>match r with| .inl l=>Rg a b l0 l| .inr y=>Rg a b l0 y.2∧(y.1=true→Srt y.2 a b)) ?_ ⟨Rg.refl _ _ _,by dsimp only;omega,by dsimp only;omega,λp q k1 k2 k3=>by dsimp only at k3;omega,by dsimp only;omega,by dsimp only;omega⟩ ?_
 ·rintro⟨l,i,j⟩ ⟨hR,g1,g2,g3,g4,g5⟩
  dsimp only at hR g1 g2 g3 g4 g5 ⊢
  have hll:=hR.len
  by_cases hj:j<5
  ·simp only[hj,decide_true,cond_true]
   refine AP (λi=>a+1≤i∧i≤b∧Srt l a i) (λi=>(b-i).toNat) (λi=>a+1≤i∧i≤b∧Srt l a i∧(i<b→at' l i<at' l (i-1))) ?_ ⟨g1,g2,g3⟩ ?_
   ·rintro i ⟨g1,g2,g3⟩
    by_cases hi:i<b
    ·have r1:idx l i=some (el l i):=AW (by omega) (by omega)
     have r2:idx l (i-1)=some (el l (i-1)):=AW (by omega) (by omega)
     have e1:IntKind.i64.wrap (i-1)=i-1:=w64 (by omega) (by omega)
     obtain⟨v,cv,hv⟩:=Dp (hR.good hG) (i:=i) (j:=i-1) (by omega) (by omega) (by omega) (by omega)
     by_cases hlt:at' l i<at' l (i-1)
     ·exact⟨.inr i,by simp only[r1,r2,e1,hi,cv,hv,hlt,decide_true,Bool.not_true,cond_true,cond_false,bs],g1,g2,g3,λ_=>hlt⟩
     ·refine⟨.inl (i+1),?_,⟨by omega,by omega,λp q k1 k2 k3=> ?_⟩,by dsimp only;omega⟩
      ·simp only[r1,r2,e1,hi,cv,hv,hlt,decide_true,decide_false,Bool.not_false,cond_true,bs]
       rw[w64 (by omega) (by omega)]
      ·by_cases e:q=i
       ·subst e
        by_cases e2:p=q-1
        ·subst e2;omega
        ·have:=g3 p (q-1) k1 (by omega) (by omega);omega
       ·exact g3 p q k1 k2 (by omega)
    ·exact⟨.inr i,by simp only[hi,decide_false,cond_false,bs],g1,g2,g3,λh=>absurd h hi⟩
   ·rintro i ⟨g1,g2,g3,g6⟩
    by_cases he:i=b
    ·have:(i==b)=true:=by simp[he]
     simp only[this,cond_true]
     exact⟨_,rfl,hR,λ_=>by rw[←he];exact g3⟩
    ·have:(i==b)=false:=by simp[he]
     simp only[this,cond_false]
     by_cases h50:b-a<50
     ·simp only[h50,decide_true,cond_true]
      exact⟨_,rfl,hR,λh=>by cases h⟩
     ·simp only[h50,decide_false,cond_false]
      have hib:i<b:=by omega
      have hlt:=g6 hib
      have e1:IntKind.i64.wrap (i-1)=i-1:=w64 (by omega) (by omega)
      have r1:idx l i=some (el l i):=AW (by omega) (by omega)
      have r2:idx l (i-1)=some (el l (i-1)):=AW (by omega) (by omega)
      have r3:∀x,idx (l.set i.toNat x) (i-1)=some (el (l.set i.toNat x) (i-1)):=λx=>Br (by omega) (by omega)
      simp only[e1,r1,r2,r3,bs]
      rw[show (l.set i.toNat (el l (i-1))).set (i-1).toNat (el l i)=sw l i (i-1) from rfl]
      have hR1:Rg a b l0 (sw l i (i-1)):=hR.trans (Rg.swap ha (by omega) (by omega) (by omega) (by omega) (by omega))
      have hS1:∀p q,a≤p→p<q→q≤i-1→q≠i-1→at' (sw l i (i-1)) p≤at' (sw l i (i-1)) q:=λp q k1 k2 k3 k4=>by
       rw[Bk (by omega) (by omega) (by omega) (by omega) (by omega),Bk (by omega) (by omega) (by omega) (by omega) (by omega)]
       rw[if_neg (by omega),if_neg (by omega),if_neg (by omega),if_neg (by omega)]
       exact g3 p q k1 k2 (by omega)
      generalize sw l i (i-1)=m at hR1 hS1 ⊢
      have hml:=hR1.len
      have hpre':∀m',Rg a b l0 m'→0<a→∀k,a≤k→k<b→at' m' (a-1)≤at' m' k:=λm' hr h0 k k1 k2=>by
       rw[hr.out (a-1) (by omega) (.inl (by omega))]
       exact hr.all (λx=>at' l0 (a-1)≤x) (hpre h0) k k1 k2
      rw[w64 (show-9223372036854775808≤i-a by omega) (by omega),w64 (show-9223372036854775808≤b-i by omega) (by omega),w64 (show-9223372036854775808≤i+1 by omega) (by omega),w64 (show-9223372036854775808≤j+1 by omega) (by omega)]
      refine BO (λm=>Rg a b l0 m∧Srt m a i) ?_ ?_
      ·by_cases h2:2≤i-a
       ·simp only[h2,decide_true,cond_true]
        refine AP (λs=>Rg a b l0 s.1∧a≤s.2∧s.2≤i-1∧∀p q,a≤p→p<q→q≤i-1→q≠s.2→at' s.1 p≤at' s.1 q) (λs=>s.2.toNat) (λr=>Rg a b l0 r∧Srt r a i) ?_ ⟨hR1,by dsimp only;omega,Int.le_refl _,hS1⟩ (λr hr=>⟨r,rfl,hr⟩)
        rintro⟨m,j⟩ ⟨hR',q1,q2,hS'⟩
        dsimp only at hR' q1 q2 hS' ⊢
        have hml:=hR'.len
        by_cases hj1:1≤j
        ·have f1:idx m j=some (el m j):=AW (by omega) (by omega)
         have f2:idx m (j-1)=some (el m (j-1)):=AW (by omega) (by omega)
         have f3:∀x,idx (m.set j.toNat x) (j-1)=some (el (m.set j.toNat x) (j-1)):=λx=>Br (by omega) (by omega)
         have e2:IntKind.i64.wrap (j-1)=j-1:=w64 (by omega) (by omega)
         obtain⟨v,cv,hv⟩:=Dp (hR'.good hG) (i:=j) (j:=j-1) (by omega) (by omega) (by omega) (by omega)
         by_cases hlt:at' m j<at' m (j-1)
         ·have hja:a<j:=by
           rcases Int.lt_or_eq_of_le q1 with h|h
           ·exact h
           ·subst h
            have:=hpre' m hR' (by omega) a (Int.le_refl _) hab
            omega
          refine⟨.inl (sw m j (j-1),j-1),?_,⟨hR'.trans (Rg.swap ha (by omega) (by omega) (by omega) (by omega) (by omega)),by dsimp only;omega,by dsimp only;omega,?_⟩,by dsimp only;omega⟩
          ·simp only[hj1,decide_true,cond_true,e2,f1,f2,f3,cv,hv,hlt,Bool.not_true,cond_false,bs]
           rfl
          ·intro p q k1 k2 k3 k4
           dsimp only at k4 ⊢
           rw[Bk (by omega) (by omega) (by omega) (by omega) (by omega),Bk (by omega) (by omega) (by omega) (by omega) (by omega)]
           by_cases c1:q=j
           ·subst c1
            rw[if_neg (show¬q=q-1 by omega),if_pos rfl]
            by_cases c2:p=q-1
            ·rw[if_pos c2];omega
            ·rw[if_neg c2,if_neg (by omega)]
             exact hS' p (q-1) k1 (by omega) (by omega) (by omega)
           ·rw[if_neg (show¬q=j-1 by omega),if_neg c1]
            by_cases c2:p=j-1
            ·rw[if_pos c2]
             exact hS' j q (by omega) (by omega) k3 c1
            ·rw[if_neg c2]
             by_cases c3:p=j
             ·rw[if_pos c3]
              exact hS' (j-1) q (by omega) (by omega) k3 c1
             ·rw[if_neg c3]
              exact hS' p q k1 k2 k3 c1
         ·refine⟨.inr m,?_,hR',?_⟩
          ·simp only[hj1,decide_true,cond_true,e2,f1,f2,cv,hv,hlt,decide_false,Bool.not_false,bs]
          ·intro p q k1 k2 k3
           by_cases c1:q=j
           ·subst c1
            by_cases c2:p=q-1
            ·subst c2;omega
            ·have:=hS' p (q-1) k1 (by omega) (by omega) (by omega)
             omega
           ·exact hS' p q k1 k2 (by omega) c1
        ·refine⟨.inr m,?_,hR',?_⟩
         ·simp only[hj1,decide_false,cond_false]
         ·intro p q k1 k2 k3
          exact hS' p q k1 k2 (by omega) (by omega)
       ·simp only[h2,decide_false,cond_false]
        exact⟨_,rfl,hR1,λp q k1 k2 k3=>by omega⟩
      ·rintro m1 ⟨hR2,hS2⟩
       have hm1:=hR2.len
       by_cases h2:2≤b-i
       ·simp only[h2,decide_true,cond_true]
        refine AP (λs=>Rg a b l0 s.1∧Srt s.1 a i∧i+1≤s.2∧s.2≤b) (λs=>(b-s.2).toNat) (λr=>Rg a b l0 r∧Srt r a i) ?_ ⟨hR2,hS2,by dsimp only;omega,by dsimp only;omega⟩ ?_
        ·rintro⟨m,q⟩ ⟨hR',hS',q1,q2⟩
         dsimp only at hR' hS' q1 q2 ⊢
         have hml:=hR'.len
         by_cases hq:q<b
         ·have f1:idx m q=some (el m q):=AW (by omega) (by omega)
          have f2:idx m (q-1)=some (el m (q-1)):=AW (by omega) (by omega)
          have f3:∀x,idx (m.set q.toNat x) (q-1)=some (el (m.set q.toNat x) (q-1)):=λx=>Br (by omega) (by omega)
          have e2:IntKind.i64.wrap (q-1)=q-1:=w64 (by omega) (by omega)
          have e3:IntKind.i64.wrap (q+1)=q+1:=w64 (by omega) (by omega)
          obtain⟨v,cv,hv⟩:=Dp (hR'.good hG) (i:=q) (j:=q-1) (by omega) (by omega) (by omega) (by omega)
          by_cases hlt:at' m q<at' m (q-1)
          ·refine⟨.inl (sw m q (q-1),q+1),?_,⟨hR'.trans (Rg.swap ha (by omega) (by omega) (by omega) (by omega) (by omega)),λp r k1 k2 k3=> ?_,by dsimp only;omega,by dsimp only;omega⟩,by dsimp only;omega⟩
           ·simp only[hq,decide_true,cond_true,e2,e3,f1,f2,f3,cv,hv,hlt,Bool.not_true,cond_false,bs]
            rfl
           ·dsimp only
            rw[Bk (by omega) (by omega) (by omega) (by omega) (by omega),Bk (by omega) (by omega) (by omega) (by omega) (by omega)]
            rw[if_neg (by omega),if_neg (by omega),if_neg (by omega),if_neg (by omega)]
            exact hS' p r k1 k2 k3
          ·refine⟨.inr m,?_,hR',hS'⟩
           simp only[hq,decide_true,cond_true,e2,f1,f2,cv,hv,hlt,decide_false,Bool.not_false,bs]
         ·exact⟨.inr m,by simp only[hq,decide_false,cond_false],hR',hS'⟩
        ·rintro m2 ⟨hR3,hS3⟩
         exact⟨_,rfl,⟨hR3,g1,g2,hS3,by dsimp only;omega,by dsimp only;omega⟩,by dsimp only;omega⟩
       ·simp only[h2,decide_false,cond_false]
        exact⟨_,rfl,⟨hR2,g1,g2,hS2,by dsimp only;omega,by dsimp only;omega⟩,by dsimp only;omega⟩
  ·simp only[hj,decide_false,cond_false]
   exact⟨_,rfl,hR⟩
 ·rintro(l|y) h
  ·exact⟨_,rfl,h,λh=>by cases h⟩
  ·exact⟨_,rfl,h⟩
theorem Gl :∀x:Nat,1≤x→x<2^64→x<2^(Lib.bitLen x)∧2^(Lib.bitLen x)≤2*x:=by
 intro x
 induction x using Nat.strongRecOn with
 |ind x ih=>
  intro h1 h2
  rw[Lib.bitLen_half x (by omega) h2]
  by_cases h:x=1
  ·subst h;decide
  ·obtain⟨a,b⟩:=ih (x/2) (by omega) (by omega) (by omega)
   rw[Nat.add_comm,Nat.pow_succ]
   generalize 2^Lib.bitLen (x/2)=p at a b
   omega
theorem FQ (n:Int)(h1:8≤n)(h2:n≤1000000):∃y,D.I n=some y∧n<y∧y≤2*n:=by
 obtain⟨m,rfl⟩:∃m:Nat,n=(m:Int):=⟨n.toNat,by omega⟩
 obtain⟨k1,k2⟩:=Gl m (by omega) (by omega)
 have hb:Lib.bitLen m<22:=by
  apply Classical.byContradiction
  intro hc
  have:2^22≤2^Lib.bitLen m:=Nat.pow_le_pow_right (by omega) (by omega)
  omega
 unfold D.I
 rw[wu64 (by omega) (by omega)]
 unfold D.E
 rw[if_pos (by omega),bs]
 have:decide (((Lib.bitLen m:Nat):Int)<0)=false:=by simp
 rw[Int.toNat_natCast,this,cond_false]
 have e:ishl .u64 1 ((Lib.bitLen m:Nat):Int)=((2^Lib.bitLen m:Nat):Int):=by
  show IntKind.u64.wrap (1*2^(min (((Lib.bitLen m:Nat):Int)).toNat 64))=_
  rw[Int.toNat_natCast,show min (Lib.bitLen m) 64=Lib.bitLen m by omega,Int.one_mul]
  have e':((2^Lib.bitLen m:Nat):Int)=(2:Int)^Lib.bitLen m:=by simp
  rw[←e',wu64 (by omega) (by omega)]
 rw[e]
 exact⟨_,rfl,by omega,by omega⟩
theorem Dx (l0:List α)(a b:Int)(ha:0≤a)(hb:b≤l0.length)(h8:8≤b-a)(hlen:l0.length≤1000000):
  ∃l',DG.breakPatterns Srtd.cmp l0 a b=some l'∧Rg a b l0 l':=by
 unfold DG.breakPatterns
 rw[w64 (show-9223372036854775808≤b-a by omega) (by omega)]
 have e4:(b-a).tdiv 4=(b-a)/4:=Int.tdiv_eq_ediv_of_nonneg (by omega)
 rw[e4,w64 (show-9223372036854775808≤(b-a)/4 by omega) (by omega)]
 rw[w64 (show-9223372036854775808≤(b-a)/4*2 by omega) (by omega)]
 rw[w64 (show-9223372036854775808≤a+(b-a)/4*2 by omega) (by omega)]
 rw[w64 (show-9223372036854775808≤a+(b-a)/4*2+1 by omega) (by omega),w64 (show-9223372036854775808≤a+(b-a)/4*2-1 by omega) (by omega)]
 simp only[h8,decide_true,cond_true]
 obtain⟨y,hy,g1,g2⟩:=FQ (b-a) h8 (by omega)
 rw[hy,bs,wu64 (show 0≤y-1 by omega) (by omega)]
 refine AP (λs=>Rg a b l0 s.1∧a+(b-a)/4*2-1≤s.2.1∧s.2.1≤a+(b-a)/4*2+2) (λs=>(a+(b-a)/4*2+2-s.2.1).toNat) (λr=>Rg a b l0 r) ?_ ?_ ?_
 ·rintro⟨l,i,z⟩ ⟨hR,k1,k2⟩
  dsimp only at hR k1 k2 ⊢
  have hll:=hR.len
  by_cases hi:i≤a+(b-a)/4*2+1
  ·simp only[hi,decide_true,cond_true,D.b0,bs]
   obtain⟨t1,t2⟩:=iand_small (Bb .u64 (Bb .u64 (Bb .u64 z (ishl .u64 z 13)) (BN .u64 (Bb .u64 z (ishl .u64 z 13)) 7)) (ishl .u64 (Bb .u64 (Bb .u64 z (ishl .u64 z 13)) (BN .u64 (Bb .u64 z (ishl .u64 z 13)) 7)) 17)) (y-1) (by omega) (by omega)
   revert t1 t2
   generalize iand .u64 (Bb .u64 (Bb .u64 (Bb .u64 z (ishl .u64 z 13)) (BN .u64 (Bb .u64 z (ishl .u64 z 13)) 7)) (ishl .u64 (Bb .u64 (Bb .u64 z (ishl .u64 z 13)) (BN .u64 (Bb .u64 z (ishl .u64 z 13)) 7)) 17)) (y-1)=t
   generalize (Bb .u64 (Bb .u64 (Bb .u64 z (ishl .u64 z 13)) (BN .u64 (Bb .u64 z (ishl .u64 z 13)) 7)) (ishl .u64 (Bb .u64 (Bb .u64 z (ishl .u64 z 13)) (BN .u64 (Bb .u64 z (ishl .u64 z 13)) 7)) 17))=z'
   intro t1 t2
   rw[w64 (show-9223372036854775808≤t by omega) (by omega),w64 (show-9223372036854775808≤t-(b-a) by omega) (by omega)]
   have hc:∃o,(bif decide (b-a≤t) then some (t-(b-a)) else some t)=some o∧0≤o∧o<b-a:=by
    by_cases h:b-a≤t
    ·exact⟨t-(b-a),by simp[h],by omega,by omega⟩
    ·exact⟨t,by simp[h],by omega,by omega⟩
   obtain⟨o,ho,o1,o2⟩:=hc
   rw[ho,bs,w64 (show-9223372036854775808≤a+o by omega) (by omega),w64 (show-9223372036854775808≤i+1 by omega) (by omega)]
   have r1:idx l i=some (el l i):=AW (by omega) (by omega)
   have r2:idx l (a+o)=some (el l (a+o)):=AW (by omega) (by omega)
   have r3:∀x,idx (l.set i.toNat x) (a+o)=some (el (l.set i.toNat x) (a+o)):=λx=>Br (by omega) (by omega)
   refine⟨.inl (sw l i (a+o),i+1,z'),?_,⟨hR.trans (Rg.swap ha (by omega) (by omega) (by omega) (by omega) (by omega)),by dsimp only;omega,by dsimp only;omega⟩,by dsimp only;omega⟩
   simp only[r1,r2,r3,bs]
   rfl
  ·exact⟨.inr l,by simp only[hi,decide_false,cond_false],hR⟩
 ·exact⟨Rg.refl _ _ _,by dsimp only;omega,by dsimp only;omega⟩
 ·rintro r hr
  exact⟨r,rfl,hr⟩
end Go.Sx.Gs

namespace Go.Sx.Gs
variable {α : Type} [Srtd α]
def kid (i c:Int):Prop:=c=2*i+1∨c=2*i+2
theorem FE (l0:List α)(hG:Good l0)(lo hi f:Int)(h0:0≤lo)(hf:0≤f)(hlh:lo≤hi)(hb:f+hi≤l0.length)(hlen:l0.length≤1000000)
  (hH:∀i c,lo<i→kid i c→c<hi→at' l0 (f+c)≤at' l0 (f+i)):
  ∃l',DG.siftDown Srtd.cmp l0 lo hi f=some l'∧Rg (f+lo) (f+hi) l0 l'∧∀i c,lo≤i→kid i c→c<hi→at' l' (f+c)≤at' l' (f+i):=by
 unfold DG.siftDown
 refine AP (λs=>Rg (f+lo) (f+hi) l0 s.1∧lo≤s.2∧s.2≤hi∧(∀i c,lo≤i→i≠s.2→kid i c→c<hi→at' s.1 (f+c)≤at' s.1 (f+i))∧(∀p c,lo≤p→kid p s.2→kid s.2 c→c<hi→at' s.1 (f+c)≤at' s.1 (f+p)))
  (λs=>(hi-s.2).toNat)
  (λr=>match r with| .inl l'=>Rg (f+lo) (f+hi) l0 l'∧∀i c,lo≤i→kid i c→c<hi→at' l' (f+c)≤at' l' (f+i)| .inr l'=>Rg (f+lo) (f+hi) l0 l'∧∀i c,lo≤i→kid i c→c<hi→at' l' (f+c)≤at' l' (f+i)) ?_
  ⟨Rg.refl _ _ _,Int.le_refl _,hlh,λi c h1 h2 h3 h4=>hH i c (by dsimp only at h2;omega) h3 h4,λp c h1 h2 h3 h4=>by unfold kid at h2;dsimp only at h2;omega⟩ ?_
 ·rintro⟨l,r⟩ ⟨hR,g1,g2,g3,g4⟩
  dsimp only at hR g1 g2 g3 g4 ⊢
  have hll:=hR.len
  rw[w64 (show-9223372036854775808≤2*r by omega) (by omega),w64 (show-9223372036854775808≤2*r+1 by omega) (by omega)]
  rw[w64 (show-9223372036854775808≤2*r+1+1 by omega) (by omega),w64 (show-9223372036854775808≤f+(2*r+1) by omega) (by omega),w64 (show-9223372036854775808≤f+(2*r+1)+1 by omega) (by omega),w64 (show-9223372036854775808≤f+r by omega) (by omega)]
  by_cases hc:hi≤2*r+1
  ·simp only[hc,decide_true,cond_true]
   refine⟨_,rfl,hR,λi c h1 h2 h3=> ?_⟩
   by_cases e:i=r
   ·subst e;unfold kid at h2;omega
   ·exact g3 i c h1 e h2 h3
  ·simp only[hc,decide_false,cond_false]
   refine BO (λb:Bool=>(b=true→2*r+2<hi∧at' l (f+(2*r+1))<at' l (f+(2*r+2)))∧(b=false→2*r+2<hi→at' l (f+(2*r+2))≤at' l (f+(2*r+1)))) ?_ ?_
   ·by_cases h2:2*r+1+1<hi
    ·have r1:idx l (f+(2*r+1))=some (el l (f+(2*r+1))):=AW (by omega) (by omega)
     have r2:idx l (f+(2*r+1)+1)=some (el l (f+(2*r+1)+1)):=AW (by omega) (by omega)
     obtain⟨v,cv,hv⟩:=Dp (hR.good hG) (i:=f+(2*r+1)) (j:=f+(2*r+1)+1) (by omega) (by omega) (by omega) (by omega)
     simp only[h2,decide_true,cond_true,r1,r2,cv,hv,bs]
     rw[show f+(2*r+1)+1=f+(2*r+2) by omega]
     refine⟨_,rfl,λh=>⟨by omega,of_decide_eq_true h⟩,λh _=> ?_⟩
     have:=of_decide_eq_false h
     omega
    ·simp only[h2,decide_false,cond_false]
     exact⟨_,rfl,(λh=>by cases h),(λ_ h=>by omega)⟩
   ·rintro b ⟨hbb,hbf⟩
    have hch:∃c,(bif b then some (2*r+1+1) else some (2*r+1))=some c∧(b=true→c=2*r+2)∧(b=false→c=2*r+1):=by
     cases b
     ·exact⟨2*r+1,rfl,by simp,by simp⟩
     ·exact⟨2*r+2,by simp;omega,by simp,by simp⟩
    obtain⟨c,ec,c1,c2⟩:=hch
    have hkc:kid r c:=by unfold kid;cases b<;>simp at c1 c2<;>omega
    have hchi:c<hi:=by
     cases b
     ·have:=c2 rfl;omega
     ·have:=c1 rfl;have:=hbb rfl;omega
    rw[ec,bs,w64 (show-9223372036854775808≤f+c by unfold kid at hkc;omega) (by omega)]
    have hcr:r<c:=by unfold kid at hkc;omega
    have t1:idx l (f+r)=some (el l (f+r)):=AW (by omega) (by omega)
    have t2:idx l (f+c)=some (el l (f+c)):=AW (by omega) (by omega)
    have t3:∀x,idx (l.set (f+r).toNat x) (f+c)=some (el (l.set (f+r).toNat x) (f+c)):=λx=>Br (by omega) (by omega)
    obtain⟨v,cv,hv⟩:=Dp (hR.good hG) (i:=f+r) (j:=f+c) (by omega) (by omega) (by omega) (by omega)
    have hbest:∀d,kid r d→d<hi→at' l (f+d)≤at' l (f+c):=λd hd hdh=>by
     cases b
     ·have e:=c2 rfl
      subst e
      rcases hd with rfl|rfl
      ·exact Int.le_refl _
      ·exact hbf rfl hdh
     ·have e:=c1 rfl
      subst e
      rcases hd with rfl|rfl
      ·have:=(hbb rfl).2;omega
      ·exact Int.le_refl _
    by_cases hlt:at' l (f+r)<at' l (f+c)
    ·refine⟨.inl (sw l (f+r) (f+c),c),?_,⟨hR.trans (Rg.swap (by omega) (by omega) (by omega) (by omega) (by omega) (by omega)),by dsimp only;omega,by dsimp only;omega,λi d h1 h2 h3 h4=> ?_,λp d h1 h2 h3 h4=> ?_⟩,by dsimp only;omega⟩
     ·simp only[t1,t2,t3,cv,hv,hlt,decide_true,Bool.not_true,cond_false,bs]
      rfl
     ·dsimp only at h2 ⊢
      have hd0:i<d:=by unfold kid at h3;omega
      rw[Bk (by omega) (by omega) (by omega) (by omega) (by omega),Bk (by omega) (by omega) (by omega) (by omega) (by omega)]
      rw[if_neg (show¬f+i=f+c by omega)]
      by_cases e:i=r
      ·subst e
       rw[if_pos rfl]
       by_cases e2:d=c
       ·subst e2;rw[if_pos rfl];omega
       ·rw[if_neg (show¬f+d=f+c by omega),if_neg (show¬f+d=f+i by omega)]
        exact hbest d h3 h4
      ·rw[if_neg (show¬f+i=f+r by omega)]
       have e2:d≠c:=λe2=>by subst e2;unfold kid at h3 hkc;omega
       rw[if_neg (show¬f+d=f+c by omega)]
       by_cases e3:d=r
       ·subst e3
        rw[if_pos rfl]
        exact g4 i c h1 h3 hkc hchi
       ·rw[if_neg (show¬f+d=f+r by omega)]
        exact g3 i d h1 e h3 h4
     ·dsimp only at h2 h3 ⊢
      have e:p=r:=by unfold kid at h2 hkc;omega
      subst e
      have hd0:c<d:=by unfold kid at h3;omega
      rw[Bk (by omega) (by omega) (by omega) (by omega) (by omega),Bk (by omega) (by omega) (by omega) (by omega) (by omega)]
      rw[if_neg (show¬f+d=f+c by omega),if_neg (show¬f+d=f+p by omega),if_neg (show¬f+p=f+c by omega),if_pos rfl]
      exact g3 c d (by omega) (by omega) h3 h4
    ·refine⟨.inr (.inr l),?_,hR,λi d h1 h2 h3=> ?_⟩
     ·simp only[t1,t2,cv,hv,hlt,decide_false,Bool.not_false,cond_true,bs]
     ·by_cases e:i=r
      ·subst e
       have:=hbest d h2 h3
       omega
      ·exact g3 i d h1 e h2 h3
 ·rintro(l|l) h
  ·exact⟨_,rfl,h⟩
  ·exact⟨_,rfl,h⟩
theorem heap_root {l:List α}{f hi:Int}(hH:∀i c,0≤i→kid i c→c<hi→at' l (f+c)≤at' l (f+i)):∀(n:Nat) (k:Int),k.toNat≤n→0≤k→k<hi→at' l (f+k)≤at' l (f+0):=by
 intro n
 induction n with
 |zero=>intro k h1 h2 h3;rw[show k=0 by omega];exact Int.le_refl _
 |succ n ih=>
  intro k h1 h2 h3
  by_cases h:k=0
  ·subst h;exact Int.le_refl _
  ·have hk:kid ((k-1)/2) k:=by unfold kid;omega
   have a:=hH ((k-1)/2) k (by omega) hk h3
   have b:=ih ((k-1)/2) (by omega) (by omega) (by omega)
   omega
theorem heapSort_spec (l0:List α)(hG:Good l0)(a b:Int)(ha:0≤a)(hab:a≤b)(hb:b≤l0.length)(hlen:l0.length≤1000000):
  ∃l',DG.heapSort Srtd.cmp l0 a b=some l'∧Rg a b l0 l'∧Srt l' a b:=by
 unfold DG.heapSort
 rw[w64 (show-9223372036854775808≤b-a by omega) (by omega),w64 (show-9223372036854775808≤b-a-1 by omega) (by omega)]
 have e2: -1≤(b-a-1).tdiv 2∧(b-a-1).tdiv 2≤b-a∧b-a≤2*(b-a-1).tdiv 2+2:=by
  by_cases h:1≤b-a
  ·rw[Int.tdiv_eq_ediv_of_nonneg (by omega)];omega
  ·have:b-a-1= -1:=by omega
   have e:(-1:Int).tdiv 2=0:=by decide
   rw[this,e];omega
 rw[w64 (show-9223372036854775808≤(b-a-1).tdiv 2 by omega) (by omega)]
 generalize (b-a-1).tdiv 2=st at e2
 refine AP (λs=>Rg a b l0 s.1∧-1≤s.2∧s.2≤b-a∧∀i c,s.2<i→kid i c→c<b-a→at' s.1 (a+c)≤at' s.1 (a+i)) (λs=>(s.2+1).toNat)
  (λr=>Rg a b l0 r∧∀i c,0≤i→kid i c→c<b-a→at' r (a+c)≤at' r (a+i)) ?_ ⟨Rg.refl _ _ _,by dsimp only;omega,by dsimp only;omega,λi c h1 h2 h3=>by unfold kid at h2;dsimp only at h1;omega⟩ ?_
 ·rintro⟨l,i⟩ ⟨hR,g1,g2,g3⟩
  dsimp only at hR g1 g2 g3 ⊢
  have hll:=hR.len
  by_cases hi:0≤i
  ·simp only[hi,decide_true,cond_true]
   obtain⟨l',e,r1,r2⟩:=FE l (hR.good hG) i (b-a) a hi ha (by omega) (by omega) (by omega) g3
   rw[e,bs,w64 (show-9223372036854775808≤i-1 by omega) (by omega)]
   exact⟨_,rfl,⟨hR.trans (r1.widen (by omega) (by omega) ha),by dsimp only;omega,by dsimp only;omega,λp c h1 h2 h3=>r2 p c (by dsimp only at h1;omega) h2 h3⟩,by dsimp only;omega⟩
  ·simp only[hi,decide_false,cond_false]
   exact⟨_,rfl,hR,λp c h1 h2 h3=>g3 p c (by omega) h2 h3⟩
 ·rintro l1 ⟨hR1,hH1⟩
  refine AP (λs=>Rg a b l0 s.1∧-1≤s.2∧s.2<b-a∧(∀i c,0≤i→kid i c→c≤s.2→at' s.1 (a+c)≤at' s.1 (a+i))∧(∀p q,s.2<p→p<q→q<b-a→at' s.1 (a+p)≤at' s.1 (a+q))∧(∀p q,0≤p→p≤s.2→s.2<q→q<b-a→at' s.1 (a+p)≤at' s.1 (a+q))) (λs=>(s.2+1).toNat)
   (λr=>Rg a b l0 r∧Srt r a b) ?_ ⟨hR1,by dsimp only;omega,by dsimp only;omega,λi c h1 h2 h3=>hH1 i c h1 h2 (by dsimp only at h3;omega),λp q h1 h2 h3=>by dsimp only at h1;omega,λp q h1 h2 h3 h4=>by dsimp only at h3;omega⟩ (λr hr=>⟨r,rfl,hr⟩)
  rintro⟨l,i⟩ ⟨hR,g1,g2,g3,g4,g5⟩
  dsimp only at hR g1 g2 g3 g4 g5 ⊢
  have hll:=hR.len
  by_cases hi:0≤i
  ·rw[w64 (show-9223372036854775808≤a+i by omega) (by omega)]
   have t1:idx l a=some (el l a):=AW (by omega) (by omega)
   have t2:idx l (a+i)=some (el l (a+i)):=AW (by omega) (by omega)
   have t3:∀x,idx (l.set a.toNat x) (a+i)=some (el (l.set a.toNat x) (a+i)):=λx=>Br (by omega) (by omega)
   simp only[hi,decide_true,cond_true,t1,t2,t3,bs]
   rw[show (l.set a.toNat (el l (a+i))).set (a+i).toNat (el l a)=sw l a (a+i) from rfl]
   have hRs:Rg a (a+(i+1)) l (sw l a (a+i)):=Rg.swap ha (by omega) (by omega) (by omega) (by omega) (by omega)
   have sat:∀k,0≤k→at' (sw l a (a+i)) (a+k)=if k=i then at' l a else if k=0 then at' l (a+i) else at' l (a+k):=λk hk=>by
    rw[Bk (by omega) (by omega) (by omega) (by omega) (by omega)]
    by_cases c1:k=i
    ·subst c1;simp
    ·rw[if_neg (show¬a+k=a+i by omega),if_neg c1]
     by_cases c2:k=0
     ·subst c2;simp
     ·rw[if_neg (show¬a+k=a by omega),if_neg c2]
   have hroot:∀k,0≤k→k≤i→at' l (a+k)≤at' l a:=λk k1 k2=>by
    have:=heap_root (hi:=i+1) (λp c h1 h2 h3=>g3 p c h1 h2 (by omega)) k.toNat k (Nat.le_refl _) k1 (by omega)
    rwa [Int.add_zero] at this
   have hsl:(sw l a (a+i)).length=l.length:=sw_len _ _ _
   obtain⟨l',e,r1,r2⟩:=FE (sw l a (a+i)) (hRs.good (hR.good hG)) 0 i a (Int.le_refl _) ha hi (by omega) (by omega) (λp c h1 h2 h3=>by
    have hc:p<c:=by unfold kid at h2;omega
    rw[sat c (by omega),sat p (by omega),if_neg (by omega),if_neg (by omega),if_neg (by omega),if_neg (by omega)]
    exact g3 p c (by omega) h2 (by omega))
   rw[e,bs,w64 (show-9223372036854775808≤i-1 by omega) (by omega)]
   rw[Int.add_zero] at r1
   have same:∀k,i≤k→at' l' (a+k)=at' (sw l a (a+i)) (a+k):=λk hk=>r1.out (a+k) (by omega) (.inr (by omega))
   have big:∀k,i<k→k<b-a→at' l' (a+k)=at' l (a+k):=λk hk hk2=>by
    rw[same k (by omega),sat k (by omega),if_neg (by omega),if_neg (by omega)]
   have ati:at' l' (a+i)=at' l a:=by rw[same i (Int.le_refl _),sat i hi,if_pos rfl]
   have low:∀Q:Int→Prop,(∀k,0≤k→k≤i→Q (at' l (a+k)))→∀k,0≤k→k<i→Q (at' l' (a+k)):=λQ hQ k k1 k2=>
    r1.all Q (λm m1 m2=>by
     have h1:=sat (m-a) (by omega)
     rw[show a+(m-a)=m by omega] at h1
     rw[h1]
     split
     ·have:=hQ 0 (by omega) hi;rwa [Int.add_zero] at this
     ·split
      ·exact hQ i hi (Int.le_refl _)
      ·have:=hQ (m-a) (by omega) (by omega);rwa [show a+(m-a)=m by omega] at this) (a+k) (by omega) (by omega)
   refine⟨_,rfl,⟨hR.trans ((hRs.widen (Int.le_refl a) (by omega) ha).trans (r1.widen (Int.le_refl a) (by omega) ha)),by dsimp only;omega,by dsimp only;omega,λp c h1 h2 h3=> ?_,λp q h1 h2 h3=> ?_,λp q h1 h2 h3 h4=> ?_⟩,by dsimp only;omega⟩
   ·dsimp only at h3 ⊢;exact r2 p c h1 h2 (by omega)
   ·dsimp only at h1 ⊢
    by_cases c1:p=i
    ·subst c1
     rw[ati,big q h2 h3]
     have:=g5 0 q (Int.le_refl _) hi h2 h3
     rwa [Int.add_zero] at this
    ·rw[big p (by omega) (by omega),big q (by omega) h3]
     exact g4 p q (by omega) h2 h3
   ·dsimp only at h2 h3 ⊢
    by_cases c1:q=i
    ·subst c1
     rw[ati]
     exact low (λx=>x≤at' l a) hroot p h1 (by omega)
    ·rw[big q (by omega) h4]
     exact low (λx=>x≤at' l (a+q)) (λk k1 k2=>g5 k q k1 k2 (by omega) h4) p h1 (by omega)
  ·simp only[hi,decide_false,cond_false]
   refine⟨_,rfl,hR,λp q h1 h2 h3=> ?_⟩
   have:=g4 (p-a) (q-a) (by omega) (by omega) (by omega)
   rwa [show a+(p-a)=p by omega,show a+(q-a)=q by omega] at this
end Go.Sx.Gs

namespace Go.Sx.Gs
variable {α : Type} [Srtd α]
def Out (l:List α)(a0 b0 a b:Int):Prop:=∀i j,a0≤i→i<j→j<b0→¬(a≤i∧j<b)→at' l i≤at' l j
theorem Out.keep {a0 a b b0:Int}{l l':List α}(h:Rg a b l l')(h0:0≤a0)(ha:a0≤a)(hb:b≤b0)(c:Out l a0 b0 a b):Out l' a0 b0 a b:=by
 intro i j h1 h2 h3 h4
 by_cases hi:a≤i∧i<b
 ·rw[h.out j (by omega) (by omega)]
  exact h.all (λx=>x≤at' l j) (λk k1 k2=>c k j (by omega) (by omega) h3 (by omega)) i hi.1 hi.2
 ·rw[h.out i (by omega) (by omega)]
  by_cases hj:a≤j∧j<b
  ·exact h.all (λx=>at' l i≤x) (λk k1 k2=>c i k (by omega) (by omega) (by omega) (by omega)) j hj.1 hj.2
  ·rw[h.out j (by omega) (by omega)];exact c i j h1 h2 h3 h4
theorem EM :∀(n:Nat) (l0:List α) (a0 b0 lim:Int),0≤a0→a0≤b0→b0≤l0.length→l0.length≤1000000→Good l0→0≤lim→lim≤64→
  (0<a0→∀k,a0≤k→k<b0→at' l0 (a0-1)≤at' l0 k)→b0-a0<n→∃l',DG.pdqsortR Srtd.cmp n l0 a0 b0 lim=some l'∧Rg a0 b0 l0 l'∧Srt l' a0 b0:=by
 intro n
 induction n with
 |zero=>intro l0 a0 b0 lim h1 h2 h3 h4 hG h7 h8 h9 h10;omega
 |succ n ih=>
  intro l0 a0 b0 lim h1 h2 h3 h4 hG h7 h8 h9 h10
  unfold DG.pdqsortR
  refine AP (λs=>Rg a0 b0 l0 s.1∧Out s.1 a0 b0 s.2.1 s.2.2.1∧a0≤s.2.1∧s.2.1≤s.2.2.1∧s.2.2.1≤b0∧0≤s.2.2.2.1∧s.2.2.2.1≤64∧(0<s.2.1→∀k,s.2.1≤k→k<s.2.2.1→at' s.1 (s.2.1-1)≤at' s.1 k))
   (λs=>(s.2.2.1-s.2.1).toNat) (λr=>Rg a0 b0 l0 r∧Srt r a0 b0) ?_ ?_ ?_
  ·rintro⟨l,a,b,lm,bal,par⟩ ⟨hR,hO,g1,g2,g3,g5,g6,g7⟩
   dsimp only at hR hO g1 g2 g3 g5 g6 g7 ⊢
   have hll:=hR.len
   have fin:∀l',Rg a b l l'→Srt l' a b→Rg a0 b0 l0 l'∧Srt l' a0 b0:=λl' hr hs=>
    ⟨hR.trans (hr.widen g1 g3 h1),λi j k1 k2 k3=>by
     by_cases hc:a≤i∧j<b
     ·exact hs i j hc.1 k2 hc.2
     ·exact(hO.keep hr h1 g1 g3) i j k1 k2 k3 hc⟩
   rw[w64 (show-9223372036854775808≤b-a by omega) (by omega)]
   by_cases hs:b-a≤12
   ·obtain⟨l',e,r1,r2⟩:=DC l a b (by omega) g2 (by omega) (by omega) (hR.good hG)
    refine⟨.inr l',?_,fin l' r1 r2⟩
    simp only[hs,decide_true,cond_true,e,bs]
   ·simp only[hs,decide_false,cond_false]
    by_cases hlm:lm=0
    ·have hl0:(lm==0)=true:=by simp[hlm]
     obtain⟨l',e,r1,r2⟩:=heapSort_spec l (hR.good hG) a b (by omega) g2 (by omega) (by omega)
     refine⟨.inr l',?_,fin l' r1 r2⟩
     simp only[hl0,cond_true,e,bs]
    have hl0:(lm==0)=false:=by simp[hlm]
    simp only[hl0,cond_false]
    refine BO (λq:List α×Int=>Rg a b l q.1∧0≤q.2∧q.2≤64) ?_ ?_
    ·cases bal
     ·obtain⟨l1,e,r1⟩:=Dx l a b (by omega) (by omega) (by omega) (by omega)
      refine⟨(l1,lm-1),?_,r1,by dsimp only;omega,by dsimp only;omega⟩
      simp only[Bool.not_false,cond_true,e,bs]
      rw[w64 (by omega) (by omega)]
     ·exact⟨(l,lm),rfl,Rg.refl _ _ _,by dsimp only;omega,by dsimp only;omega⟩
    rintro⟨l1,lm1⟩ ⟨hr1,k2,k3⟩
    dsimp only at hr1 k2 k3 ⊢
    have hl1:=hr1.len
    obtain⟨y,ey,c1,c2,c3⟩:=DT l1 ((hR.trans (hr1.widen g1 g3 h1)).good hG) a b (by omega) (by omega) (by omega) (by omega)
    rw[ey,bs]
    refine BO (λq:List α×Int×Int=>Rg a b l q.1∧a≤q.2.1∧q.2.1<b) ?_ ?_
    ·cases (y.2.1==2)
     ·exact⟨_,rfl,by dsimp only;rw[c1];exact hr1,c2,c3⟩
     ·obtain⟨l2,e2,r2⟩:=DL l1 a b (by omega) (by omega) (by omega) (by omega)
      rw[c1]
      simp only[cond_true,e2,bs]
      rw[w64 (show-9223372036854775808≤b-1 by omega) (by omega),w64 (show-9223372036854775808≤y.1-a by omega) (by omega),w64 (show-9223372036854775808≤b-1-(y.1-a) by omega) (by omega)]
      exact⟨_,rfl,hr1.trans r2,by dsimp only;omega,by dsimp only;omega⟩
    rintro⟨l2,p,hint⟩ ⟨hr2,p1,p2⟩
    dsimp only at hr2 p1 p2 ⊢
    have hl2:=hr2.len
    refine BO (λq:List α ⊕ List α=>match q with| .inl q=>Rg a b l q| .inr q=>Rg a b l q∧Srt q a b) ?_ ?_
    ·cases ((bal&&par)&&(hint==1))
     ·exact⟨.inl l2,rfl,hr2⟩
     ·obtain⟨y2,e2,d1,d2⟩:=Dg l2 ((hR.trans (hr2.widen g1 g3 h1)).good hG) a b (by omega) (by omega) (by omega) (by omega) (λha k m1 m2=>by
       rw[hr2.out (a-1) (by omega) (.inl (by omega))]
       exact hr2.all (λx=>at' l (a-1)≤x) (g7 ha) k m1 m2)
      simp only[cond_true,e2,bs]
      cases hy:y2.1
      ·exact⟨.inl y2.2,rfl,hr2.trans d1⟩
      ·exact⟨.inr y2.2,rfl,hr2.trans d1,d2 hy⟩
    rintro(q|q) hq
    case inr=>
     exact⟨.inr q,rfl,fin q hq.1 hq.2⟩
    dsimp only at hq ⊢
    clear hr2 hl2
    have hr2:Rg a b l q:=hq
    have hl2:=hr2.len
    have hGq:Good q:=(hR.trans (hr2.widen g1 g3 h1)).good hG
    have hO2:=hO.keep hr2 h1 g1 g3
    have g7':0<a→∀k,a≤k→k<b→at' q (a-1)≤at' q k:=λha k m1 m2=>by
     rw[hr2.out (a-1) (by omega) (.inl (by omega))]
     exact hr2.all (λx=>at' l (a-1)≤x) (g7 ha) k m1 m2
    refine BO (λc:Bool=>c=true→0<a∧at' q p≤at' q (a-1)) ?_ ?_
    ·by_cases ha:0<a
     ·have r1:idx q (a-1)=some (el q (a-1)):=AW (by omega) (by omega)
      have r2:idx q p=some (el q p):=AW (by omega) (by omega)
      rw[w64 (show-9223372036854775808≤a-1 by omega) (by omega)]
      obtain⟨v,cv,hv⟩:=Dp hGq (i:=a-1) (j:=p) (by omega) (by omega) (by omega) (by omega)
      simp only[ha,decide_true,cond_true,r1,r2,cv,hv,bs]
      exact⟨_,rfl,λh=>⟨by trivial,by simpa using h⟩⟩
     ·simp only[ha,decide_false,cond_false]
      exact⟨_,rfl,λh=>by cases h⟩
    intro c hc
    cases c
    ·
     simp only[cond_false]
     obtain⟨⟨mid,par',l3⟩,e3,P⟩:=Ed q a b p (by omega) (by omega) (by omega) hGq p1 p2
     rw[e3,bs]
     obtain⟨hr3,m1,m2,m3,m4⟩:=P
     dsimp only at hr3 m1 m2 m3 m4 ⊢
     have hl3:=hr3.len
     have hO3:=hO2.keep hr3 h1 g1 g3
     have g7'':0<a→∀k,a≤k→k<b→at' l3 (a-1)≤at' l3 k:=λha k n1 n2=>by
      rw[hr3.out (a-1) (by omega) (.inl (by omega))]
      exact hr3.all (λx=>at' q (a-1)≤x) (g7' ha) k n1 n2
     have hR3:Rg a0 b0 l0 l3:=hR.trans ((hr2.trans hr3).widen g1 g3 h1)
     rw[w64 (show-9223372036854775808≤mid-a by omega) (by omega),w64 (show-9223372036854775808≤b-mid by omega) (by omega),w64 (show-9223372036854775808≤mid+1 by omega) (by omega)]
     by_cases hside:mid-a<b-mid
     ·simp only[hside,decide_true,cond_true]
      obtain⟨l4,e4,r4,s4⟩:=ih l3 a mid lm1 (by omega) m1 (by omega) (by omega) (hR3.good hG) k2 k3 (λha k n1 n2=>g7'' ha k n1 (by omega)) (by omega)
      rw[e4,bs]
      have hl4:=r4.len
      have em:∀k,mid≤k→at' l4 k=at' l3 k:=λk hk=>r4.out k (by omega) (.inr hk)
      have lf:∀k,a≤k→k<mid→at' l4 k≤at' l4 mid:=λk n1 n2=>by
       rw[em mid (Int.le_refl _)];exact r4.all (λx=>x≤at' l3 mid) m3 k n1 n2
      refine⟨.inl _,rfl,⟨hR3.trans (r4.widen g1 (by omega) h1),?_,by dsimp only;omega,by dsimp only;omega,g3,k2,k3,?_⟩,by dsimp only;omega⟩
      ·have hO4:=hO3.keep (r4.widen (Int.le_refl a) (by omega) (by omega)) h1 g1 g3
       intro i j n1 n2 n3 n4
       dsimp only at n4 ⊢
       by_cases hin:a≤i∧j<b
       ·by_cases hj:j<mid
        ·exact s4 i j hin.1 n2 hj
        ·have hi:i≤mid:=by omega
         have e1:at' l4 i≤at' l4 mid:=by
          by_cases e:i=mid
          ·rw[e];exact Int.le_refl _
          ·exact lf i hin.1 (by omega)
         have e2:at' l4 mid≤at' l4 j:=by
          by_cases e:j=mid
          ·rw[e];exact Int.le_refl _
          ·rw[em mid (Int.le_refl _),em j (by omega)];exact m4 j (by omega) hin.2
         omega
       ·exact hO4 i j n1 n2 n3 hin
      ·intro _ k n1 n2
       dsimp only at n1 n2 ⊢
       rw[show mid+1-1=mid by omega,em mid (Int.le_refl _),em k (by omega)]
       exact m4 k (by omega) n2
     ·simp only[hside,decide_false,cond_false]
      obtain⟨l4,e4,r4,s4⟩:=ih l3 (mid+1) b lm1 (by omega) (by omega) (by omega) (by omega) (hR3.good hG) k2 k3 (λ_ k n1 n2=>by rw[show mid+1-1=mid by omega];exact m4 k (by omega) n2) (by omega)
      rw[e4,bs]
      have hl4:=r4.len
      have em:∀k,0≤k→k≤mid→at' l4 k=at' l3 k:=λk h0 hk=>r4.out k h0 (.inl (by omega))
      have rt:∀k,mid<k→k<b→at' l4 mid≤at' l4 k:=λk n1 n2=>by
       rw[em mid (by omega) (Int.le_refl _)];exact r4.all (λx=>at' l3 mid≤x) (λk q1 q2=>m4 k (by omega) q2) k (by omega) n2
      refine⟨.inl _,rfl,⟨hR3.trans (r4.widen (by omega) g3 h1),?_,g1,m1,by dsimp only;omega,k2,k3,?_⟩,by dsimp only;omega⟩
      ·have hO4:=hO3.keep (r4.widen (by omega) (Int.le_refl b) (by omega)) h1 g1 g3
       intro i j n1 n2 n3 n4
       dsimp only at n4 ⊢
       by_cases hin:a≤i∧j<b
       ·by_cases hi:mid<i
        ·exact s4 i j (by omega) n2 hin.2
        ·have hj:mid≤j:=by omega
         have e1:at' l4 i≤at' l4 mid:=by
          by_cases e:i=mid
          ·rw[e];exact Int.le_refl _
          ·rw[em i (by omega) (by omega),em mid (by omega) (Int.le_refl _)];exact m3 i hin.1 (by omega)
         have e2:at' l4 mid≤at' l4 j:=by
          by_cases e:j=mid
          ·rw[e];exact Int.le_refl _
          ·exact rt j (by omega) hin.2
         omega
       ·exact hO4 i j n1 n2 n3 hin
      ·intro ha k n1 n2
       dsimp only at ha n1 n2 ⊢
       rw[em (a-1) (by omega) (by omega),em k (by omega) (by omega)]
       exact g7'' ha k n1 (by omega)
    ·
     simp only[cond_true]
     obtain⟨hc1,hc2⟩:=hc rfl
     obtain⟨⟨mid,l3⟩,e3,hr3,m1,m2,m3,m4⟩:=Ds q a b p (by omega) (by omega) (by omega) hGq p1 p2
     rw[e3,bs]
     dsimp only at hr3 m1 m2 m3 m4 ⊢
     have hl3:=hr3.len
     have hO3:=hO2.keep hr3 h1 g1 g3
     have lw:∀k,a≤k→k<b→at' q p≤at' l3 k:=λk n1 n2=>
      hr3.all (λx=>at' q p≤x) (λk q1 q2=>Int.le_trans hc2 (g7' hc1 k q1 q2)) k n1 n2
     refine⟨.inl _,rfl,⟨hR.trans ((hr2.trans hr3).widen g1 g3 h1),?_,by dsimp only;omega,m2,g3,k2,k3,?_⟩,by dsimp only;omega⟩
     ·intro i j n1 n2 n3 n4
      dsimp only at n4 ⊢
      by_cases hin:a≤i∧j<b
      ·have:=m3 i hin.1 (by omega)
       have:=lw j (by omega) hin.2
       omega
      ·exact hO3 i j n1 n2 n3 hin
     ·intro _ k n1 n2
      dsimp only at n1 n2 ⊢
      have:=m3 (mid-1) (by omega) (by omega)
      have:=m4 k n1 n2
      omega
  ·exact⟨Rg.refl _ _ _,λi j n1 n2 n3 n4=>by dsimp only at n4;omega,Int.le_refl _,h2,Int.le_refl _,h7,h8,h9⟩
  ·rintro r hr
   exact⟨r,rfl,hr⟩
theorem sort_spec (l:List α)(hG:Good l)(hlen:l.length≤1000000):∃l',DG.Sort Srtd.cmp l=some l'∧List.Perm l' l∧Srt l' 0 l'.length:=by
 unfold DG.Sort
 rw[wu64 (by omega) (by omega)]
 unfold D.E
 rw[if_pos (by omega),bs]
 have hb:Lib.bitLen l.length≤64:=by
  by_cases h:1≤l.length
  ·obtain⟨_,k2⟩:=Gl l.length h (by omega)
   apply Classical.byContradiction
   intro hc
   have:2^22≤2^Lib.bitLen l.length:=Nat.pow_le_pow_right (by omega) (by omega)
   omega
  ·have:l.length=0:=by omega
   rw[this];decide
 have hf:=E6
 obtain⟨l',e,r,s⟩:=EM Cf l 0 (l.length:Int) ((Lib.bitLen l.length:Nat):Int) (Int.le_refl _) (by omega) (Int.le_refl _) (by omega) hG (by omega) (by omega) (λh=>by omega) (by omega)
 unfold DG.pdqsort
 rw[Int.toNat_natCast,e]
 refine⟨l',rfl,r.perm,?_⟩
 rw[r.len];exact s
end Go.Sx.Gs

namespace Go.Sx
theorem Gt :D.F1=DG.insertionSort (λa b:Value×LI=>D.c a.2 b.2):=by kernel_rfl
theorem st_heapSort :D.b2=DG.heapSort (λa b:Value×LI=>D.c a.2 b.2):=by kernel_rfl
theorem Gy :D.Q1=DG.breakPatterns (λa b:Value×LI=>D.c a.2 b.2):=by kernel_rfl
theorem st_choosePivot :D.Y1=DG.choosePivot (λa b:Value×LI=>D.c a.2 b.2):=by kernel_rfl
theorem GD :D.V1=DG.reverseRange (λa b:Value×LI=>D.c a.2 b.2):=by kernel_rfl
theorem EO :D.g2=DG.partialInsertionSort (λa b:Value×LI=>D.c a.2 b.2):=by kernel_rfl
theorem Ge :D.H1=DG.partitionEqual (λa b:Value×LI=>D.c a.2 b.2):=by kernel_rfl
theorem st_partition :D.E1=DG.partition (λa b:Value×LI=>D.c a.2 b.2):=by kernel_rfl
theorem st_pdqsort :∀(n:Nat) x a b c,D.h0 n x a b c=DG.pdqsortR (λa b:Value×LI=>D.c a.2 b.2) n x a b c
 |0,_,_,_,_=>rfl
 |n+1,x,a,b,c=>by
  unfold D.h0 DG.pdqsortR
  rw[Gt,st_heapSort,Gy,st_choosePivot,GD,EO,Ge,st_partition,funext (λx=>funext λa=>funext λb=>funext λc=>st_pdqsort n x a b c)]
  kernel_rfl
theorem st_Sort (x):D.B0 x=DG.Sort (λa b:Value×LI=>D.c a.2 b.2) x:=by
 unfold D.B0 DG.Sort D.x DG.pdqsort
 simp only[st_pdqsort]
theorem isNaN_no (x:Int):D.O x=some false:=by unfold D.O;simp
theorem cmp64 (x y:Int):D.y1 x y=some (if x<y then-1 else if y<x then 1 else 0):=by
 unfold D.y1
 simp only[isNaN_no,bs,cond_false]
 by_cases h:x<y
 ·simp[h]
 ·by_cases h':y<x
  ·simp[h,h']
  ·simp[h,h']
theorem list2 {l:LI}(h:l.length=2):∃a b,l=[a,b]:=by
 match l,h with
 |[a,b],_=>exact⟨a,b,rfl⟩
theorem compare2 (a b c d:Int):D.c [a,b] [c,d]=some (if a<c then-1 else if c<a then 1 else if b<d then-1 else if d<b then 1 else 0):=by
 unfold D.c
 have i0:∀x y:Int,idx [x,y] 0=some x:=λx y=>by unfold idx;simp
 have i1:∀x y:Int,idx [x,y] 1=some y:=λx y=>by unfold idx;simp
 have w1:IntKind.i64.wrap 1=1:=by decide
 have w2:IntKind.i64.wrap 2=2:=by decide
 by_cases h1:a<c
 ·rw[Be (r:= .inr (-1)) (by simp[i0,cmp64,h1])];simp[h1]
 ·by_cases h2:c<a
  ·rw[Be (r:= .inr 1) (by simp[i0,cmp64,h1,h2])];simp[h1,h2]
  ·rw[BB (s':=1) (by simp[i0,cmp64,h1,h2,w1])]
   by_cases h3:b<d
   ·rw[Be (r:= .inr (-1)) (by simp[i1,cmp64,h3])];simp[h1,h2,h3]
   ·by_cases h4:d<b
    ·rw[Be (r:= .inr 1) (by simp[i1,cmp64,h3,h4])];simp[h1,h2,h3,h4]
    ·rw[BB (s':=2) (by simp[i1,cmp64,h3,h4,w2]),Be (r:= .inl ()) (by simp)];simp[h1,h2,h3,h4]
noncomputable abbrev byRow :Gs.Srtd (Value×LI) where
 dflt:=(.bool false,[])
 key:=λz=>Bn z.2
 good:=λz=>Cv z.2
 cmp:=λa b=>D.c a.2 b.2
 law:=by
  rintro⟨v,x⟩ ⟨u,y⟩ ⟨h1,h2,h3,h4,h5⟩ ⟨k1,k2,k3,k4,k5⟩
  obtain⟨a,b,rfl⟩:=list2 h1
  obtain⟨c,d,rfl⟩:=list2 k1
  refine⟨_,compare2 a b c d,?_⟩
  simp only[List.getD_cons_zero,List.getD_cons_succ] at*
  rw[decide_eq_decide]
  unfold Bn
  simp only[List.getD_cons_zero,List.getD_cons_succ]
  repeat' split
  all_goals constructor<;>intro _<;>omega
theorem row_inj {x y:LI}(hx:Cv x)(hy:Cv y)(h:Bn x=Bn y):x=y:=by
 obtain⟨h1,h2,h3,h4,h5⟩:=hx
 obtain⟨k1,k2,k3,k4,k5⟩:=hy
 obtain⟨a,b,rfl⟩:=list2 h1
 obtain⟨c,d,rfl⟩:=list2 k1
 unfold Bn at h
 simp only[List.getD_cons_zero,List.getD_cons_succ] at*
 have:a=c:=by omega
 subst this
 have:b=d:=by omega
 subst this
 rfl
theorem E3 {xs ys:LL}(hp:xs.Perm ys)(hg:∀x∈ys,Cv x)(h1:xs.Pairwise (λa b=>Bn a≤Bn b))(h2:ys.Pairwise (λa b=>Bn a≤Bn b)):xs=ys:=by
 refine hp.eq_of_pairwise (λa b ha hb k1 k2=> ?_) h1 h2
 exact row_inj (hg a (hp.mem_iff.1 ha)) (hg b hb) (by omega)
theorem BR (xs:LL):(xs.mergeSort B4).Perm xs:=List.mergeSort_perm _ _
theorem D7 (xs:LL):(xs.mergeSort B4).Pairwise (λa b=>Bn a≤Bn b):=by
 have:=List.pairwise_mergeSort (le:=B4) (λa b c=>by unfold B4;simp only[decide_eq_true_eq];omega) (λa b=>by unfold B4;rw[Bool.or_eq_true,decide_eq_true_eq,decide_eq_true_eq];omega) xs
 exact this.imp (λh=>by unfold B4 at h;exact of_decide_eq_true h)
theorem sortRows_ok {xs ys:LL}(hl:xs.length≤1000000)(hg:∀x∈xs,Cv x)(hp:ys.Perm xs)(hs:ys.Pairwise (λa b=>Bn a≤Bn b)):CH xs=some ys:=by
 unfold CH
 rw[if_pos ⟨hl,hg⟩]
 congr 1
 exact E3 ((BR xs).trans hp.symm) (λx hx=>hg x (hp.mem_iff.1 hx)) (D7 xs) hs
theorem Bs {xs ys:LL}(h:CH xs=some ys){Z:List (Value×LI)}(hZ:Z.map (·.2)=xs):
  ∃zs,D.B0 Z=some zs∧zs.Perm Z∧zs.map (·.2)=ys:=by
 unfold CH at h
 split at h
 ·rename_i hc
  obtain rfl:=Option.some.inj h
  obtain⟨hl,hg⟩:=hc
  have hgZ:∀z∈Z,Cv z.2:=λz hz=>hg _ (by rw[←hZ];exact List.mem_map.2 ⟨z,hz,rfl⟩)
  obtain⟨zs,e,hp,hs⟩:= @Gs.sort_spec (Value×LI) byRow Z hgZ (by rw[←hZ] at hl;simpa using hl)
  refine⟨zs,by rw[st_Sort];exact e,hp,?_⟩
  refine E3 (((hp.map (·.2)).trans (by rw[hZ])).trans (BR xs).symm) (λx hx=>hg x ((BR xs).mem_iff.1 hx)) ?_ (D7 xs)
  rw[List.pairwise_iff_getElem]
  intro i j hi hj hij
  have:=hs i j (by omega) (by omega) (by simp at hj;omega)
  simp only[List.length_map] at hi hj
  unfold Gs.at' Gs.el at this
  simp only[Int.toNat_natCast,List.getD_eq_getElem?_getD,List.getElem?_eq_getElem hi,List.getElem?_eq_getElem hj,Option.getD_some] at this
  have e:Bn zs[i].2≤Bn zs[j].2:=this
  simpa using e
 ·cases h
end Go.Sx
